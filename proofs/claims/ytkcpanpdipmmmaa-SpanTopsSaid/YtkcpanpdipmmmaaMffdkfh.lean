/- What the law's row needs of these texts, taken out of them by wip/tool/mini.py: P10 P43 QNet P17 P12 P11 QFlowA QFlowB QPushLaw QCutLaw QFlowLaw QMaxLaw QCheapLaw QSpanLaw P18 QSetFm QSetWalk QSortNil QSortRow. -/
import Derived.Test.YtkcpanpdipmmmaaMdfflgh
import Derived.Test.YtkcpanpdipmmmaaMcddhhl
import Derived.Test.YtkcpanpdipmmmaaProg
import Derived.RegionTactic
import Derived.ChangeAlike
import Derived.BigRegion
import Derived.LoopTactic
import Derived.WalkKit
import Derived.WalkMore
set_option linter.unusedVariables false
set_option linter.unusedSimpArgs false
namespace Go.Proofs.Ytkcpanpdipmmmaa.P
open Go.RowKit Go.Proofs.YtkcpanpdipmmmaaW.PrintWords Go.Proofs.YtkcpanpdipmmmaaW.PrintLast Go.Proofs.YtkcpanpdipmmmaaW.PrintMore
attribute [local go_sem] max2_int min2_int max_two min_two max_three min_three max_four min_four
def ebbtideref07_Within.l0:Nat→List Int→Int→Int→Bool→List (S74)→Option (Bool)
 |0,_,_,_,_,_=>none
 |k+1,x1,x5,x160000,x160001,x160002=>if x5<(x1.length:Int) then(if 0≤x5 then(if (rd x1 x5)<0 then(some false) else(if x5<(x160002.length:Int) then(if (rd x1 x5)>((rd_T74 x160002 x5).f2) then(some false) else(ebbtideref07_Within.l0 k x1 (wrap64 (x5+1)) x160000 x160001 x160002)) else(none))) else(none)) else(some true)
def ebbtideref07_Within.f (k:Nat) (a0_0:Int) (a0_1:Bool) (l0_2:List (S74)) (l1:List Int):Option (Bool):=if (l1.length:Int)=(l0_2.length:Int) then(ebbtideref07_Within.l0 k l1 0 a0_0 a0_1 l0_2) else(some false)
set_option maxHeartbeats 8000000 in
set_option maxRecDepth 100000 in
theorem ebbtideref07_Within.calls (k:Nat) (a0_0:Int) (a0_1:Bool) (A0_2:Option Addr) (c0_2:Nat) (l0_2:List (S74)) (A1:Option Addr) (c1:Nat) (l1:List Int) (r:Bool) (w:World) (hr0_2:Kd.C k74 w A0_2 l0_2.length l0_2) (hc0_2:l0_2.length≤c0_2) (hr1:Kd.C (Kd.int .i64) w A1 l1.length l1) (hc1:l1.length≤c1) (h:ebbtideref07_Within.f k a0_0 a0_1 l0_2 l1=some r):
  Calls Try.prog 102 #[.agg #[.int .i64 a0_0, .bool a0_1, .slice A0_2 l0_2.length c0_2], .slice A1 l1.length c1] w fun e w'=>e= .returned (.bool r)∧Below w.heap.size w w':=by
 have hu24:=Try.underlying24
 have HR0_2:=Aside0.mk hr0_2
 have HC0_2:=Aside0.mk hc0_2
 clear hr0_2 hc0_2
 have HR1:=Aside0.mk hr1
 have HC1:=Aside0.mk hc1
 clear hr1 hc1
 have HB:=Aside0.mk (Below.refl w.heap.size w)
 have H:(if (l1.length:Int)=(l0_2.length:Int) then(ebbtideref07_Within.l0 k l1 0 a0_0 a0_1 l0_2) else(some false))=some r:=h
 clear h
 by_cases c3:(l1.length:Int)=(l0_2.length:Int)
 rotate_left
 ·rw[if_neg c3] at H
  have c3b0:((l1.length:Int) == (l0_2.length:Int))=false:=beq_eq_false_iff_ne.mpr c3
  have c3b1:((l1.length:Int) != (l0_2.length:Int))=true:=bne_iff_ne.mpr c3
  have c3b2:(l1.length == l0_2.length)=false:=by first|simpa using c3|(simp at c3 ⊢;omega)
  obtain rfl:=Option.some.inj H
  go_enter Try.func102,Try.ntmps102
  go_wp2_with (first|((with_reducible refine gate_dst (N:=2) rfl ?_);refine box_event ?hg (N:=2) ?hd (cs:= #[.int .i64 a0_0, .bool a0_1, .slice A0_2 l0_2.length c0_2]) (t:=24) ?hr ?_;(case hd=>rfl);(case hg=>rfl);(case hr=>first|(go_simp;done)|(go_simp;rfl));intro gb159 hg w13 hbox hb;have n0_:=Aside0.mk (below_step (by repeat(first|(with_reducible first|exact HB.out|apply below_alloc|apply pw_below_drewN|apply below_drew1)|exact HB.out)) hb);have n1_:=Aside0.mk (hbox);have n2_:=Aside0.mk ((by rw[hg];exact(below_size (by repeat(first|(with_reducible first|exact HB.out|apply below_alloc|apply pw_below_drewN|apply below_drew1)|exact HB.out))):w.heap.size≤gb159));have n3_:=Aside0.mk ((by rw[hg];exact(below_size (by repeat(first|(with_reducible first|exact HB.out|apply below_alloc|apply pw_below_drewN|apply below_drew1)|exact HB.out))):w.heap.size≤gb159));clear HB;have HB:=n0_;have BK159:=n1_;have GW159:=n2_;have GE159:=n3_;clear n0_ n1_ n2_ n3_;clear hb hbox hg;have hcz14_0:w13.cell? ⟨gb159,0,none⟩=some (.int .i64 a0_0):=(blk_cell BK159.out 0).trans rfl;have hcz14_1:w13.cell? ⟨gb159,1,none⟩=some (.bool a0_1):=(blk_cell BK159.out 1).trans rfl;have hcz14_2:w13.cell? ⟨gb159,2,none⟩=some (.slice A0_2 l0_2.length c0_2):=(blk_cell BK159.out 2).trans rfl;have hfz14_0:=blk_frozen BK159.out 0;have hfz14_1:=blk_frozen BK159.out 1;have hfz14_2:=blk_frozen BK159.out 2))
  repeat(go_quiet (first|((with_reducible refine gate_dst (N:=2) rfl ?_);refine box_event ?hg (N:=2) ?hd (cs:= #[.int .i64 a0_0, .bool a0_1, .slice A0_2 l0_2.length c0_2]) (t:=24) ?hr ?_;(case hd=>rfl);(case hg=>rfl);(case hr=>first|(go_simp;done)|(go_simp;rfl));intro gb159 hg w13 hbox hb;have n0_:=Aside0.mk (below_step (by repeat(first|(with_reducible first|exact HB.out|apply below_alloc|apply pw_below_drewN|apply below_drew1)|exact HB.out)) hb);have n1_:=Aside0.mk (hbox);have n2_:=Aside0.mk ((by rw[hg];exact(below_size (by repeat(first|(with_reducible first|exact HB.out|apply below_alloc|apply pw_below_drewN|apply below_drew1)|exact HB.out))):w.heap.size≤gb159));have n3_:=Aside0.mk ((by rw[hg];exact(below_size (by repeat(first|(with_reducible first|exact HB.out|apply below_alloc|apply pw_below_drewN|apply below_drew1)|exact HB.out))):w.heap.size≤gb159));clear HB;have HB:=n0_;have BK159:=n1_;have GW159:=n2_;have GE159:=n3_;clear n0_ n1_ n2_ n3_;clear hb hbox hg;have hcz14_0:w13.cell? ⟨gb159,0,none⟩=some (.int .i64 a0_0):=(blk_cell BK159.out 0).trans rfl;have hcz14_1:w13.cell? ⟨gb159,1,none⟩=some (.bool a0_1):=(blk_cell BK159.out 1).trans rfl;have hcz14_2:w13.cell? ⟨gb159,2,none⟩=some (.slice A0_2 l0_2.length c0_2):=(blk_cell BK159.out 2).trans rfl;have hfz14_0:=blk_frozen BK159.out 0;have hfz14_1:=blk_frozen BK159.out 1;have hfz14_2:=blk_frozen BK159.out 2));try go_wp2_with (first|((with_reducible refine gate_dst (N:=2) rfl ?_);refine box_event ?hg (N:=2) ?hd (cs:= #[.int .i64 a0_0, .bool a0_1, .slice A0_2 l0_2.length c0_2]) (t:=24) ?hr ?_;(case hd=>rfl);(case hg=>rfl);(case hr=>first|(go_simp;done)|(go_simp;rfl));intro gb159 hg w13 hbox hb;have n0_:=Aside0.mk (below_step (by repeat(first|(with_reducible first|exact HB.out|apply below_alloc|apply pw_below_drewN|apply below_drew1)|exact HB.out)) hb);have n1_:=Aside0.mk (hbox);have n2_:=Aside0.mk ((by rw[hg];exact(below_size (by repeat(first|(with_reducible first|exact HB.out|apply below_alloc|apply pw_below_drewN|apply below_drew1)|exact HB.out))):w.heap.size≤gb159));have n3_:=Aside0.mk ((by rw[hg];exact(below_size (by repeat(first|(with_reducible first|exact HB.out|apply below_alloc|apply pw_below_drewN|apply below_drew1)|exact HB.out))):w.heap.size≤gb159));clear HB;have HB:=n0_;have BK159:=n1_;have GW159:=n2_;have GE159:=n3_;clear n0_ n1_ n2_ n3_;clear hb hbox hg;have hcz14_0:w13.cell? ⟨gb159,0,none⟩=some (.int .i64 a0_0):=(blk_cell BK159.out 0).trans rfl;have hcz14_1:w13.cell? ⟨gb159,1,none⟩=some (.bool a0_1):=(blk_cell BK159.out 1).trans rfl;have hcz14_2:w13.cell? ⟨gb159,2,none⟩=some (.slice A0_2 l0_2.length c0_2):=(blk_cell BK159.out 2).trans rfl;have hfz14_0:=blk_frozen BK159.out 0;have hfz14_1:=blk_frozen BK159.out 1;have hfz14_2:=blk_frozen BK159.out 2)))
  go_ret
  exact⟨by first|rfl|(simp[errW_none,errW_some]<;>rfl)|(simp[*,errW_none,errW_some]<;>rfl),by repeat(first|(with_reducible first|exact HB.out|apply below_alloc|apply pw_below_drewN|apply below_drew1|refine below_set ?_ GE159.out)|exact HB.out)⟩
 rw[if_pos c3] at H
 have c3b0:((l1.length:Int) == (l0_2.length:Int))=true:=beq_iff_eq.mpr c3
 have c3b1:((l1.length:Int) != (l0_2.length:Int))=false:=bne_eq_false_iff_eq.mpr c3
 have c3b2:(l1.length == l0_2.length)=true:=by first|simpa using c3|(simp at c3 ⊢;omega)
 clear c3
 have H':=Aside0.mk H
 clear H
 go_enter Try.func102,Try.ntmps102
 go_wp2_with (first|((with_reducible refine gate_dst (N:=2) rfl ?_);refine box_event ?hg (N:=2) ?hd (cs:= #[.int .i64 a0_0, .bool a0_1, .slice A0_2 l0_2.length c0_2]) (t:=24) ?hr ?_;(case hd=>rfl);(case hg=>rfl);(case hr=>first|(go_simp;done)|(go_simp;rfl));intro gb159 hg w4 hbox hb;have n0_:=Aside0.mk (below_step (by repeat(first|(with_reducible first|exact HB.out|apply below_alloc|apply pw_below_drewN|apply below_drew1)|exact HB.out)) hb);have n1_:=Aside0.mk (hbox);have n2_:=Aside0.mk ((by rw[hg];exact(below_size (by repeat(first|(with_reducible first|exact HB.out|apply below_alloc|apply pw_below_drewN|apply below_drew1)|exact HB.out))):w.heap.size≤gb159));have n3_:=Aside0.mk ((by rw[hg];exact(below_size (by repeat(first|(with_reducible first|exact HB.out|apply below_alloc|apply pw_below_drewN|apply below_drew1)|exact HB.out))):w.heap.size≤gb159));clear HB;have HB:=n0_;have BK159:=n1_;have GW159:=n2_;have GE159:=n3_;clear n0_ n1_ n2_ n3_;clear hb hbox hg;have hcz5_0:w4.cell? ⟨gb159,0,none⟩=some (.int .i64 a0_0):=(blk_cell BK159.out 0).trans rfl;have hcz5_1:w4.cell? ⟨gb159,1,none⟩=some (.bool a0_1):=(blk_cell BK159.out 1).trans rfl;have hcz5_2:w4.cell? ⟨gb159,2,none⟩=some (.slice A0_2 l0_2.length c0_2):=(blk_cell BK159.out 2).trans rfl;have hfz5_0:=blk_frozen BK159.out 0;have hfz5_1:=blk_frozen BK159.out 1;have hfz5_2:=blk_frozen BK159.out 2))
 repeat(go_quiet (first|((with_reducible refine gate_dst (N:=2) rfl ?_);refine box_event ?hg (N:=2) ?hd (cs:= #[.int .i64 a0_0, .bool a0_1, .slice A0_2 l0_2.length c0_2]) (t:=24) ?hr ?_;(case hd=>rfl);(case hg=>rfl);(case hr=>first|(go_simp;done)|(go_simp;rfl));intro gb159 hg w4 hbox hb;have n0_:=Aside0.mk (below_step (by repeat(first|(with_reducible first|exact HB.out|apply below_alloc|apply pw_below_drewN|apply below_drew1)|exact HB.out)) hb);have n1_:=Aside0.mk (hbox);have n2_:=Aside0.mk ((by rw[hg];exact(below_size (by repeat(first|(with_reducible first|exact HB.out|apply below_alloc|apply pw_below_drewN|apply below_drew1)|exact HB.out))):w.heap.size≤gb159));have n3_:=Aside0.mk ((by rw[hg];exact(below_size (by repeat(first|(with_reducible first|exact HB.out|apply below_alloc|apply pw_below_drewN|apply below_drew1)|exact HB.out))):w.heap.size≤gb159));clear HB;have HB:=n0_;have BK159:=n1_;have GW159:=n2_;have GE159:=n3_;clear n0_ n1_ n2_ n3_;clear hb hbox hg;have hcz5_0:w4.cell? ⟨gb159,0,none⟩=some (.int .i64 a0_0):=(blk_cell BK159.out 0).trans rfl;have hcz5_1:w4.cell? ⟨gb159,1,none⟩=some (.bool a0_1):=(blk_cell BK159.out 1).trans rfl;have hcz5_2:w4.cell? ⟨gb159,2,none⟩=some (.slice A0_2 l0_2.length c0_2):=(blk_cell BK159.out 2).trans rfl;have hfz5_0:=blk_frozen BK159.out 0;have hfz5_1:=blk_frozen BK159.out 1;have hfz5_2:=blk_frozen BK159.out 2));try go_wp2_with (first|((with_reducible refine gate_dst (N:=2) rfl ?_);refine box_event ?hg (N:=2) ?hd (cs:= #[.int .i64 a0_0, .bool a0_1, .slice A0_2 l0_2.length c0_2]) (t:=24) ?hr ?_;(case hd=>rfl);(case hg=>rfl);(case hr=>first|(go_simp;done)|(go_simp;rfl));intro gb159 hg w4 hbox hb;have n0_:=Aside0.mk (below_step (by repeat(first|(with_reducible first|exact HB.out|apply below_alloc|apply pw_below_drewN|apply below_drew1)|exact HB.out)) hb);have n1_:=Aside0.mk (hbox);have n2_:=Aside0.mk ((by rw[hg];exact(below_size (by repeat(first|(with_reducible first|exact HB.out|apply below_alloc|apply pw_below_drewN|apply below_drew1)|exact HB.out))):w.heap.size≤gb159));have n3_:=Aside0.mk ((by rw[hg];exact(below_size (by repeat(first|(with_reducible first|exact HB.out|apply below_alloc|apply pw_below_drewN|apply below_drew1)|exact HB.out))):w.heap.size≤gb159));clear HB;have HB:=n0_;have BK159:=n1_;have GW159:=n2_;have GE159:=n3_;clear n0_ n1_ n2_ n3_;clear hb hbox hg;have hcz5_0:w4.cell? ⟨gb159,0,none⟩=some (.int .i64 a0_0):=(blk_cell BK159.out 0).trans rfl;have hcz5_1:w4.cell? ⟨gb159,1,none⟩=some (.bool a0_1):=(blk_cell BK159.out 1).trans rfl;have hcz5_2:w4.cell? ⟨gb159,2,none⟩=some (.slice A0_2 l0_2.length c0_2):=(blk_cell BK159.out 2).trans rfl;have hfz5_0:=blk_frozen BK159.out 0;have hfz5_1:=blk_frozen BK159.out 1;have hfz5_2:=blk_frozen BK159.out 2)))
 go_loopg [5] k (fun kq v5 w'=> ∃ (x5_1:Int),v5= .int .i64 x5_1∧Aside0 (ebbtideref07_Within.l0 kq l1 x5_1 a0_0 a0_1 l0_2=some r)∧Aside0 (kq≤k)∧Aside0 (w'.heap[gb159]? =some (.cells #[.int .i64 a0_0, .bool a0_1,(.slice A0_2 l0_2.length c0_2)] 24 (0,0)))∧Aside0 (Below w.heap.size w w'))
 case atStart=>exact⟨(0),(by first|rfl|(simp;done)|(simp[*];done)),H',⟨Nat.le_refl _⟩,⟨by(with_reducible repeat(first|refine blk_drewN ?_ _|refine blk_drew ?_|refine blk_alloc ?_ _));exact BK159.out⟩,⟨by repeat(first|(with_reducible first|exact HB.out|apply below_alloc|apply pw_below_drewN|apply below_drew1|refine below_set ?_ GE159.out)|exact HB.out)⟩⟩
 case round=>
  clear H'
  try clear c1
  try clear p2
  try clear c3
  try clear c3b0
  try clear c3b1
  try clear c3b2
  try clear hcz5_0
  try clear hcz5_1
  try clear hcz5_2
  try clear hfz5_0
  try clear hfz5_1
  try clear hfz5_2
  obtain⟨x5_1,rfl,HA,HK1,BK159,HB⟩:=hrel
  cases gk with
  |zero=>exact absurd HA.out (by simp[ebbtideref07_Within.l0])
  |succ k1=>
   have H:=HA.out
   clear HA
   simp only[ebbtideref07_Within.l0] at H
   by_cases c6:x5_1<(l1.length:Int)
   rotate_left
   ·rw[if_neg c6] at H
    have c6b0:decide (x5_1<(l1.length:Int))=false:=decide_eq_false c6
    clear c6
    obtain rfl:=Option.some.inj H
    go_wp2
    repeat(go_quiet (fail);try go_wp2)
    go_ret
    exact⟨by first|rfl|(simp[errW_none,errW_some]<;>rfl)|(simp[*,errW_none,errW_some]<;>rfl),by repeat(first|(with_reducible first|exact HB.out|apply below_alloc|apply pw_below_drewN|apply below_drew1|refine below_set ?_ GE159.out)|exact HB.out)⟩
   rw[if_pos c6] at H
   have c6b0:decide (x5_1<(l1.length:Int))=true:=decide_eq_true c6
   clear c6
   by_cases c7:0≤x5_1
   rotate_left
   ·rw[if_neg c7] at H
    exact absurd H (by simp)
   rw[if_pos c7] at H
   have c7b0:decide (0≤x5_1)=true:=decide_eq_true c7
   clear c7
   by_cases c8:(rd l1 x5_1)<0
   ·rw[if_pos c8] at H
    have c8b0:decide ((rd l1 x5_1)<0)=true:=decide_eq_true c8
    clear c8
    obtain rfl:=Option.some.inj H
    have p160:0≤(x5_1:Int):=of_decide_eq_true (by first|(with_reducible assumption)|assumption)
    have q160:x5_1<(l1.length:Int):=of_decide_eq_true (by first|(with_reducible assumption)|assumption)
    obtain⟨ad160,e160,hx160_0⟩:=Kd.at_int HR1.out x5_1 p160 q160
    cases e160
    replace hx160_0:=(HB.out.cell (World.block_lt_of_cell? w _ hx160_0)).trans hx160_0
    replace p160:=eq_true p160
    replace q160:=eq_true q160
    go_wp2
    repeat(go_quiet (fail);try go_wp2)
    go_ret
    exact⟨by first|rfl|(simp[errW_none,errW_some]<;>rfl)|(simp[*,errW_none,errW_some]<;>rfl),by repeat(first|(with_reducible first|exact HB.out|apply below_alloc|apply pw_below_drewN|apply below_drew1|refine below_set ?_ GE159.out)|exact HB.out)⟩
   rw[if_neg c8] at H
   have c8b0:decide ((rd l1 x5_1)<0)=false:=decide_eq_false c8
   clear c8
   by_cases c9:x5_1<(l0_2.length:Int)
   rotate_left
   ·rw[if_neg c9] at H
    exact absurd H (by simp)
   rw[if_pos c9] at H
   have c9b0:decide (x5_1<(l0_2.length:Int))=true:=decide_eq_true c9
   clear c9
   by_cases c10:(rd l1 x5_1)>((rd_T74 l0_2 x5_1).f2)
   ·rw[if_pos c10] at H
    have c10b0:decide (((rd_T74 l0_2 x5_1).f2)<(rd l1 x5_1))=true:=decide_eq_true c10
    clear c10
    obtain rfl:=Option.some.inj H
    have p160:0≤(x5_1:Int):=of_decide_eq_true (by first|(with_reducible assumption)|assumption)
    have q160:x5_1<(l1.length:Int):=of_decide_eq_true (by first|(with_reducible assumption)|assumption)
    obtain⟨ad160,e160,hx160_0⟩:=Kd.at_int HR1.out x5_1 p160 q160
    cases e160
    replace hx160_0:=(HB.out.cell (World.block_lt_of_cell? w _ hx160_0)).trans hx160_0
    replace p160:=eq_true p160
    replace q160:=eq_true q160
    have p161:0≤(x5_1:Int):=of_decide_eq_true (by first|(with_reducible assumption)|assumption)
    have q161:x5_1<(l1.length:Int):=of_decide_eq_true (by first|(with_reducible assumption)|assumption)
    obtain⟨ad161,e161,hx161_0⟩:=Kd.at_int HR1.out x5_1 p161 q161
    obtain rfl:ad160=ad161:=(by injection e161)
    replace hx161_0:=(HB.out.cell (World.block_lt_of_cell? w _ hx161_0)).trans hx161_0
    replace p161:=eq_true p161
    replace q161:=eq_true q161
    have hcz11_0:wr.cell? ⟨gb159,0,none⟩=some (.int .i64 a0_0):=(blk_cell BK159.out 0).trans rfl
    have hcz11_1:wr.cell? ⟨gb159,1,none⟩=some (.bool a0_1):=(blk_cell BK159.out 1).trans rfl
    have hcz11_2:wr.cell? ⟨gb159,2,none⟩=some (.slice A0_2 l0_2.length c0_2):=(blk_cell BK159.out 2).trans rfl
    have hfz11_0:=blk_frozen BK159.out 0
    have hfz11_1:=blk_frozen BK159.out 1
    have hfz11_2:=blk_frozen BK159.out 2
    have p162:0≤(x5_1:Int):=of_decide_eq_true (by first|(with_reducible assumption)|assumption)
    have q162:x5_1<(l0_2.length:Int):=of_decide_eq_true (by first|(with_reducible assumption)|assumption)
    obtain⟨ad162,e162,hx162_0,hx162_1,hx162_2,hx162_3⟩:=at_T74 HR0_2.out x5_1 p162 q162
    cases e162
    replace hx162_0:=(HB.out.cell (World.block_lt_of_cell? w _ hx162_0)).trans hx162_0
    replace hx162_1:=(HB.out.cell (World.block_lt_of_cell? w _ hx162_1)).trans hx162_1
    replace hx162_2:=(HB.out.cell (World.block_lt_of_cell? w _ hx162_2)).trans hx162_2
    replace hx162_3:=(HB.out.cell (World.block_lt_of_cell? w _ hx162_3)).trans hx162_3
    replace p162:=eq_true p162
    replace q162:=eq_true q162
    go_wp2
    repeat(go_quiet (fail);try go_wp2)
    go_ret
    exact⟨by first|rfl|(simp[errW_none,errW_some]<;>rfl)|(simp[*,errW_none,errW_some]<;>rfl),by repeat(first|(with_reducible first|exact HB.out|apply below_alloc|apply pw_below_drewN|apply below_drew1|refine below_set ?_ GE159.out)|exact HB.out)⟩
   rw[if_neg c10] at H
   have c10b0:decide (((rd_T74 l0_2 x5_1).f2)<(rd l1 x5_1))=false:=decide_eq_false c10
   clear c10
   have H':=Aside0.mk H
   clear H
   have p160:0≤(x5_1:Int):=of_decide_eq_true (by first|(with_reducible assumption)|assumption)
   have q160:x5_1<(l1.length:Int):=of_decide_eq_true (by first|(with_reducible assumption)|assumption)
   obtain⟨ad160,e160,hx160_0⟩:=Kd.at_int HR1.out x5_1 p160 q160
   cases e160
   replace hx160_0:=(HB.out.cell (World.block_lt_of_cell? w _ hx160_0)).trans hx160_0
   replace p160:=eq_true p160
   replace q160:=eq_true q160
   have p161:0≤(x5_1:Int):=of_decide_eq_true (by first|(with_reducible assumption)|assumption)
   have q161:x5_1<(l1.length:Int):=of_decide_eq_true (by first|(with_reducible assumption)|assumption)
   obtain⟨ad161,e161,hx161_0⟩:=Kd.at_int HR1.out x5_1 p161 q161
   obtain rfl:ad160=ad161:=(by injection e161)
   replace hx161_0:=(HB.out.cell (World.block_lt_of_cell? w _ hx161_0)).trans hx161_0
   replace p161:=eq_true p161
   replace q161:=eq_true q161
   have hcz12_0:wr.cell? ⟨gb159,0,none⟩=some (.int .i64 a0_0):=(blk_cell BK159.out 0).trans rfl
   have hcz12_1:wr.cell? ⟨gb159,1,none⟩=some (.bool a0_1):=(blk_cell BK159.out 1).trans rfl
   have hcz12_2:wr.cell? ⟨gb159,2,none⟩=some (.slice A0_2 l0_2.length c0_2):=(blk_cell BK159.out 2).trans rfl
   have hfz12_0:=blk_frozen BK159.out 0
   have hfz12_1:=blk_frozen BK159.out 1
   have hfz12_2:=blk_frozen BK159.out 2
   have p162:0≤(x5_1:Int):=of_decide_eq_true (by first|(with_reducible assumption)|assumption)
   have q162:x5_1<(l0_2.length:Int):=of_decide_eq_true (by first|(with_reducible assumption)|assumption)
   obtain⟨ad162,e162,hx162_0,hx162_1,hx162_2,hx162_3⟩:=at_T74 HR0_2.out x5_1 p162 q162
   cases e162
   replace hx162_0:=(HB.out.cell (World.block_lt_of_cell? w _ hx162_0)).trans hx162_0
   replace hx162_1:=(HB.out.cell (World.block_lt_of_cell? w _ hx162_1)).trans hx162_1
   replace hx162_2:=(HB.out.cell (World.block_lt_of_cell? w _ hx162_2)).trans hx162_2
   replace hx162_3:=(HB.out.cell (World.block_lt_of_cell? w _ hx162_3)).trans hx162_3
   replace p162:=eq_true p162
   replace q162:=eq_true q162
   go_wp2
   repeat(go_quiet (fail);try go_wp2)
   go_roundg k1
   case measure=>have:=HK1.out;omega
   case rel=>exact⟨(wrap64 (x5_1+1)),(by first|rfl|(simp;done)|(simp[*];done)),H',⟨by have:=HK1.out;omega⟩,⟨by(with_reducible repeat(first|refine blk_drewN ?_ _|refine blk_drew ?_|refine blk_alloc ?_ _));exact BK159.out⟩,⟨by repeat(first|(with_reducible first|exact HB.out|apply below_alloc|apply pw_below_drewN|apply below_drew1|refine below_set ?_ GE159.out)|exact HB.out)⟩⟩
end Go.Proofs.Ytkcpanpdipmmmaa.P
namespace Go.Proofs.Ytkcpanpdipmmmaa.P
open Go.RowKit Go.Proofs.YtkcpanpdipmmmaaW.PrintWords Go.Proofs.YtkcpanpdipmmmaaW.PrintLast Go.Proofs.YtkcpanpdipmmmaaW.PrintMore
attribute [local go_sem] max2_int min2_int max_two min_two max_three min_three max_four min_four
def ebbtideref07_Balance.l0:Nat→List Int→List Int→Int→Int→Bool→List (S74)→Option (List Int × Int)
 |0,_,_,_,_,_,_=>none
 |k+1,x1,x7,x8,x348000,x348001,x348002=>if x8<x348000 then((ebbtideref07_Leaves.f k x348000 x348001 x348002 x1 x8).bind fun t350=>(if x7.length<17592186044416 then(ebbtideref07_Balance.l0 k x1 (x7 ++ [t350]) (wrap64 (x8+1)) x348000 x348001 x348002) else(none))) else(some (x7,0))
def ebbtideref07_Balance.f (k:Nat) (a0_0:Int) (a0_1:Bool) (l0_2:List (S74)) (l1:List Int):Option (List Int × Int):=(ebbtideref05_Check.f k a0_0 a0_1 l0_2).bind fun t348=>(if t348=0 then((ebbtideref07_Within.f k a0_0 a0_1 l0_2 l1).bind fun t349=>(if t349=true then(ebbtideref07_Balance.l0 k l1 ([]:List Int) 0 a0_0 a0_1 l0_2) else(some (([]:List Int),71)))) else(some (([]:List Int),t348)))
set_option maxHeartbeats 8000000 in
set_option maxRecDepth 100000 in
theorem ebbtideref07_Balance.calls (k:Nat) (a0_0:Int) (a0_1:Bool) (A0_2:Option Addr) (c0_2:Nat) (l0_2:List (S74)) (A1:Option Addr) (c1:Nat) (l1:List Int) (r1:List Int) (r2:Int) (w:World) (hr0_2:Kd.C k74 w A0_2 l0_2.length l0_2) (hc0_2:l0_2.length≤c0_2) (hr1:Kd.C (Kd.int .i64) w A1 l1.length l1) (hc1:l1.length≤c1) (h:ebbtideref07_Balance.f k a0_0 a0_1 l0_2 l1=some (r1,r2)):
  Calls Try.prog 48 #[.agg #[.int .i64 a0_0, .bool a0_1, .slice A0_2 l0_2.length c0_2], .slice A1 l1.length c1] w fun e w'=> ∃ v0_:Value,e= .returned (.tuple #[v0_, .int .i64 r2])∧Kd.R (Kd.int .i64) 3 w' w.heap.size (fun _=>True) v0_ r1∧Below w.heap.size w w':=by
 have hu24:=Try.underlying24
 have HR0_2:=Aside0.mk hr0_2
 have HC0_2:=Aside0.mk hc0_2
 clear hr0_2 hc0_2
 have HR1:=Aside0.mk hr1
 have HC1:=Aside0.mk hc1
 clear hr1 hc1
 have HB:=Aside0.mk (Below.refl w.heap.size w)
 have H:((ebbtideref05_Check.f k a0_0 a0_1 l0_2).bind fun t348=>(if t348=0 then((ebbtideref07_Within.f k a0_0 a0_1 l0_2 l1).bind fun t349=>(if t349=true then(ebbtideref07_Balance.l0 k l1 ([]:List Int) 0 a0_0 a0_1 l0_2) else(some (([]:List Int),71)))) else(some (([]:List Int),t348))))=some (r1,r2):=h
 clear h
 replace H:=Option.bind_eq_some_iff.mp H
 obtain⟨t348,A30,H⟩:=H
 replace H:(if t348=0 then((ebbtideref07_Within.f k a0_0 a0_1 l0_2 l1).bind fun t349=>(if t349=true then(ebbtideref07_Balance.l0 k l1 ([]:List Int) 0 a0_0 a0_1 l0_2) else(some (([]:List Int),71)))) else(some (([]:List Int),t348)))=some (r1,r2):=H
 have A3:=Aside0.mk A30
 clear A30
 by_cases c4:t348=0
 rotate_left
 ·rw[if_neg c4] at H
  have c4b0:(t348 == 0)=false:=beq_eq_false_iff_ne.mpr c4
  have c4b1:(t348 != 0)=true:=bne_iff_ne.mpr c4
  simp only[Option.some.injEq,Prod.mk.injEq] at H
  obtain⟨rfl,rfl⟩:=H
  go_enter Try.func48,Try.ntmps48
  go_wp2_with (first|((with_reducible refine gate_dst (N:=2) rfl ?_);refine box_event ?hg (N:=2) ?hd (cs:= #[.int .i64 a0_0, .bool a0_1, .slice A0_2 l0_2.length c0_2]) (t:=24) ?hr ?_;(case hd=>rfl);(case hg=>rfl);(case hr=>first|(go_simp;done)|(go_simp;rfl));intro gb347 hg w24 hbox hb;have n0_:=Aside0.mk (below_step HB.out hb);have n1_:=Aside0.mk (hbox);have n2_:=Aside0.mk ((by rw[hg];exact(below_size HB.out):w.heap.size≤gb347));have n3_:=Aside0.mk ((by rw[hg];exact(below_size HB.out):w.heap.size≤gb347));clear HB;have HB:=n0_;have BK347:=n1_;have GW347:=n2_;have GE347:=n3_;clear n0_ n1_ n2_ n3_;clear hb hbox hg;have hcz25_0:w24.cell? ⟨gb347,0,none⟩=some (.int .i64 a0_0):=(blk_cell BK347.out 0).trans rfl;have hcz25_1:w24.cell? ⟨gb347,1,none⟩=some (.bool a0_1):=(blk_cell BK347.out 1).trans rfl;have hcz25_2:w24.cell? ⟨gb347,2,none⟩=some (.slice A0_2 l0_2.length c0_2):=(blk_cell BK347.out 2).trans rfl;have hfz25_0:=blk_frozen BK347.out 0;have hfz25_1:=blk_frozen BK347.out 1;have hfz25_2:=blk_frozen BK347.out 2)|((with_reducible refine gate_callee (f:=78) rfl ?_);refine goesL_ (some 10) rfl rfl Try.func78 (by kernel_rfl) rfl #[.agg #[.int .i64 a0_0, .bool a0_1, .slice A0_2 l0_2.length c0_2]] rfl (by(try simp only[List.map_toArray,List.map_cons,List.map_nil]);first|done|rfl|(simp only[List.length_drop,List.length_take];rfl)) ?_;(with_reducible refine(ebbtideref05_Check.calls k a0_0 a0_1 _ _ l0_2 t348 _ ?side1 ?side2 A3.out).mono ?_);(case side1=>repeat(first|exact(Kd.C_below HR0_2.out HB.out)|(with_reducible refine Kd.C_alloc ?_ _)|(with_reducible refine Kd.C_drewN ?_ _)|(with_reducible refine Kd.C_drew ?_)));(case side2=>exact HC0_2.out);rintro e w26 ⟨rfl,hb⟩;refine⟨_,rfl,?_⟩;have n0_:=Aside0.mk (blk_below BK347.out hb);have n1_:=Aside0.mk (below_step HB.out hb);clear BK347;clear HB;have BK347:=n0_;have HB:=n1_;clear n0_ n1_;(try clear hb);(try clear hb2);(try clear hk);(try clear hi)))
  go_ret2
  exact⟨_,by first|rfl|(simp[errW_none,errW_some]<;>rfl)|(simp[*,errW_none,errW_some]<;>rfl),by first|exact Kd.R_nil _ _ _ _ _|exact Kd.N_nil _ _ _ _ _|exact Kd.V_nil _ _ _ _ _|exact Kd.Q_nil _ _ _ _ _|exact Kd.S_nil _ _ _ _ _,HB.out⟩
 rw[if_pos c4] at H
 have c4b0:(t348 == 0)=true:=beq_iff_eq.mpr c4
 have c4b1:(t348 != 0)=false:=bne_eq_false_iff_eq.mpr c4
 clear c4
 replace H:=Option.bind_eq_some_iff.mp H
 obtain⟨t349,A50,H⟩:=H
 replace H:(if t349=true then(ebbtideref07_Balance.l0 k l1 ([]:List Int) 0 a0_0 a0_1 l0_2) else(some (([]:List Int),71)))=some (r1,r2):=H
 have A5:=Aside0.mk A50
 clear A50
 by_cases c6:t349=true
 rotate_left
 ·replace c6:=Bool.eq_false_iff.mpr c6
  subst c6
  have H1:(some (([]:List Int),71))=some (r1,r2):=by rw[if_neg (show ¬ (false=true) by decide)] at H;exact H
  clear H
  have H:=H1
  clear H1
  simp only[Option.some.injEq,Prod.mk.injEq] at H
  obtain⟨rfl,rfl⟩:=H
  go_enter Try.func48,Try.ntmps48
  go_wp2_with (first|((with_reducible refine gate_dst (N:=2) rfl ?_);refine box_event ?hg (N:=2) ?hd (cs:= #[.int .i64 a0_0, .bool a0_1, .slice A0_2 l0_2.length c0_2]) (t:=24) ?hr ?_;(case hd=>rfl);(case hg=>rfl);(case hr=>first|(go_simp;done)|(go_simp;rfl));intro gb347 hg w19 hbox hb;have n0_:=Aside0.mk (below_step HB.out hb);have n1_:=Aside0.mk (hbox);have n2_:=Aside0.mk ((by rw[hg];exact(below_size HB.out):w.heap.size≤gb347));have n3_:=Aside0.mk ((by rw[hg];exact(below_size HB.out):w.heap.size≤gb347));clear HB;have HB:=n0_;have BK347:=n1_;have GW347:=n2_;have GE347:=n3_;clear n0_ n1_ n2_ n3_;clear hb hbox hg;have hcz20_0:w19.cell? ⟨gb347,0,none⟩=some (.int .i64 a0_0):=(blk_cell BK347.out 0).trans rfl;have hcz20_1:w19.cell? ⟨gb347,1,none⟩=some (.bool a0_1):=(blk_cell BK347.out 1).trans rfl;have hcz20_2:w19.cell? ⟨gb347,2,none⟩=some (.slice A0_2 l0_2.length c0_2):=(blk_cell BK347.out 2).trans rfl;have hfz20_0:=blk_frozen BK347.out 0;have hfz20_1:=blk_frozen BK347.out 1;have hfz20_2:=blk_frozen BK347.out 2)|((with_reducible refine gate_callee (f:=78) rfl ?_);refine goesL_ (some 10) rfl rfl Try.func78 (by kernel_rfl) rfl #[.agg #[.int .i64 a0_0, .bool a0_1, .slice A0_2 l0_2.length c0_2]] rfl (by(try simp only[List.map_toArray,List.map_cons,List.map_nil]);first|done|rfl|(simp only[List.length_drop,List.length_take];rfl)) ?_;(with_reducible refine(ebbtideref05_Check.calls k a0_0 a0_1 _ _ l0_2 t348 _ ?side1 ?side2 A3.out).mono ?_);(case side1=>repeat(first|exact(Kd.C_below HR0_2.out HB.out)|(with_reducible refine Kd.C_alloc ?_ _)|(with_reducible refine Kd.C_drewN ?_ _)|(with_reducible refine Kd.C_drew ?_)));(case side2=>exact HC0_2.out);rintro e w21 ⟨rfl,hb⟩;refine⟨_,rfl,?_⟩;have n0_:=Aside0.mk (blk_below BK347.out hb);have n1_:=Aside0.mk (below_step HB.out hb);clear BK347;clear HB;have BK347:=n0_;have HB:=n1_;clear n0_ n1_;(try clear hb);(try clear hb2);(try clear hk);(try clear hi);have hcz22_0:w21.cell? ⟨gb347,0,none⟩=some (.int .i64 a0_0):=(blk_cell BK347.out 0).trans rfl;have hcz22_1:w21.cell? ⟨gb347,1,none⟩=some (.bool a0_1):=(blk_cell BK347.out 1).trans rfl;have hcz22_2:w21.cell? ⟨gb347,2,none⟩=some (.slice A0_2 l0_2.length c0_2):=(blk_cell BK347.out 2).trans rfl;have hfz22_0:=blk_frozen BK347.out 0;have hfz22_1:=blk_frozen BK347.out 1;have hfz22_2:=blk_frozen BK347.out 2)|((with_reducible refine gate_callee (f:=102) rfl ?_);refine goesL_ (some 16) rfl rfl Try.func102 (by kernel_rfl) rfl #[.agg #[.int .i64 a0_0, .bool a0_1, .slice A0_2 l0_2.length c0_2], .slice A1 l1.length c1] rfl (by(try simp only[List.map_toArray,List.map_cons,List.map_nil]);first|done|rfl|(simp only[List.length_drop,List.length_take];rfl)) ?_;(with_reducible refine(ebbtideref07_Within.calls k a0_0 a0_1 _ _ l0_2 _ _ l1 false _ ?side1 ?side2 ?side3 ?side4 A5.out).mono ?_);(case side1=>repeat(first|exact(Kd.C_below HR0_2.out HB.out)|(with_reducible refine Kd.C_alloc ?_ _)|(with_reducible refine Kd.C_drewN ?_ _)|(with_reducible refine Kd.C_drew ?_)));(case side2=>exact HC0_2.out);(case side3=>repeat(first|exact(Kd.C_below HR1.out HB.out)|(with_reducible refine Kd.C_alloc ?_ _)|(with_reducible refine Kd.C_drewN ?_ _)|(with_reducible refine Kd.C_drew ?_)));(case side4=>exact HC1.out);rintro e w23 ⟨rfl,hb⟩;refine⟨_,rfl,?_⟩;have n0_:=Aside0.mk (blk_below BK347.out hb);have n1_:=Aside0.mk (below_step HB.out hb);clear BK347;clear HB;have BK347:=n0_;have HB:=n1_;clear n0_ n1_;(try clear hb);(try clear hb2);(try clear hk);(try clear hi)))
  go_ret2
  exact⟨_,by first|rfl|(simp[errW_none,errW_some]<;>rfl)|(simp[*,errW_none,errW_some]<;>rfl),by first|exact Kd.R_nil _ _ _ _ _|exact Kd.N_nil _ _ _ _ _|exact Kd.V_nil _ _ _ _ _|exact Kd.Q_nil _ _ _ _ _|exact Kd.S_nil _ _ _ _ _,HB.out⟩
 subst c6
 have H1:(ebbtideref07_Balance.l0 k l1 ([]:List Int) 0 a0_0 a0_1 l0_2)=some (r1,r2):=by first|(rw[if_pos rfl] at H;exact H)|(rw[if_pos trivial] at H;exact H)
 clear H
 have H:=H1
 clear H1
 have H':=Aside0.mk H
 clear H
 go_enter Try.func48,Try.ntmps48
 go_wp2_with (first|((with_reducible refine gate_dst (N:=2) rfl ?_);refine box_event ?hg (N:=2) ?hd (cs:= #[.int .i64 a0_0, .bool a0_1, .slice A0_2 l0_2.length c0_2]) (t:=24) ?hr ?_;(case hd=>rfl);(case hg=>rfl);(case hr=>first|(go_simp;done)|(go_simp;rfl));intro gb347 hg w7 hbox hb;have n0_:=Aside0.mk (below_step HB.out hb);have n1_:=Aside0.mk (hbox);have n2_:=Aside0.mk ((by rw[hg];exact(below_size HB.out):w.heap.size≤gb347));have n3_:=Aside0.mk ((by rw[hg];exact(below_size HB.out):w.heap.size≤gb347));clear HB;have HB:=n0_;have BK347:=n1_;have GW347:=n2_;have GE347:=n3_;clear n0_ n1_ n2_ n3_;clear hb hbox hg;have hcz8_0:w7.cell? ⟨gb347,0,none⟩=some (.int .i64 a0_0):=(blk_cell BK347.out 0).trans rfl;have hcz8_1:w7.cell? ⟨gb347,1,none⟩=some (.bool a0_1):=(blk_cell BK347.out 1).trans rfl;have hcz8_2:w7.cell? ⟨gb347,2,none⟩=some (.slice A0_2 l0_2.length c0_2):=(blk_cell BK347.out 2).trans rfl;have hfz8_0:=blk_frozen BK347.out 0;have hfz8_1:=blk_frozen BK347.out 1;have hfz8_2:=blk_frozen BK347.out 2)|((with_reducible refine gate_callee (f:=78) rfl ?_);refine goesL_ (some 10) rfl rfl Try.func78 (by kernel_rfl) rfl #[.agg #[.int .i64 a0_0, .bool a0_1, .slice A0_2 l0_2.length c0_2]] rfl (by(try simp only[List.map_toArray,List.map_cons,List.map_nil]);first|done|rfl|(simp only[List.length_drop,List.length_take];rfl)) ?_;(with_reducible refine(ebbtideref05_Check.calls k a0_0 a0_1 _ _ l0_2 t348 _ ?side1 ?side2 A3.out).mono ?_);(case side1=>repeat(first|exact(Kd.C_below HR0_2.out HB.out)|(with_reducible refine Kd.C_alloc ?_ _)|(with_reducible refine Kd.C_drewN ?_ _)|(with_reducible refine Kd.C_drew ?_)));(case side2=>exact HC0_2.out);rintro e w9 ⟨rfl,hb⟩;refine⟨_,rfl,?_⟩;have n0_:=Aside0.mk (blk_below BK347.out hb);have n1_:=Aside0.mk (below_step HB.out hb);clear BK347;clear HB;have BK347:=n0_;have HB:=n1_;clear n0_ n1_;(try clear hb);(try clear hb2);(try clear hk);(try clear hi);have hcz10_0:w9.cell? ⟨gb347,0,none⟩=some (.int .i64 a0_0):=(blk_cell BK347.out 0).trans rfl;have hcz10_1:w9.cell? ⟨gb347,1,none⟩=some (.bool a0_1):=(blk_cell BK347.out 1).trans rfl;have hcz10_2:w9.cell? ⟨gb347,2,none⟩=some (.slice A0_2 l0_2.length c0_2):=(blk_cell BK347.out 2).trans rfl;have hfz10_0:=blk_frozen BK347.out 0;have hfz10_1:=blk_frozen BK347.out 1;have hfz10_2:=blk_frozen BK347.out 2)|((with_reducible refine gate_callee (f:=102) rfl ?_);refine goesL_ (some 16) rfl rfl Try.func102 (by kernel_rfl) rfl #[.agg #[.int .i64 a0_0, .bool a0_1, .slice A0_2 l0_2.length c0_2], .slice A1 l1.length c1] rfl (by(try simp only[List.map_toArray,List.map_cons,List.map_nil]);first|done|rfl|(simp only[List.length_drop,List.length_take];rfl)) ?_;(with_reducible refine(ebbtideref07_Within.calls k a0_0 a0_1 _ _ l0_2 _ _ l1 true _ ?side1 ?side2 ?side3 ?side4 A5.out).mono ?_);(case side1=>repeat(first|exact(Kd.C_below HR0_2.out HB.out)|(with_reducible refine Kd.C_alloc ?_ _)|(with_reducible refine Kd.C_drewN ?_ _)|(with_reducible refine Kd.C_drew ?_)));(case side2=>exact HC0_2.out);(case side3=>repeat(first|exact(Kd.C_below HR1.out HB.out)|(with_reducible refine Kd.C_alloc ?_ _)|(with_reducible refine Kd.C_drewN ?_ _)|(with_reducible refine Kd.C_drew ?_)));(case side4=>exact HC1.out);rintro e w11 ⟨rfl,hb⟩;refine⟨_,rfl,?_⟩;have n0_:=Aside0.mk (blk_below BK347.out hb);have n1_:=Aside0.mk (below_step HB.out hb);clear BK347;clear HB;have BK347:=n0_;have HB:=n1_;clear n0_ n1_;(try clear hb);(try clear hb2);(try clear hk);(try clear hi)))
 go_loopg [7,8] k (fun kq v7 v8 w'=> ∃ (x7_1:List Int) (x8_1:Int),v8= .int .i64 x8_1∧Aside0 (ebbtideref07_Balance.l0 kq l1 x7_1 x8_1 a0_0 a0_1 l0_2=some (r1,r2))∧Aside0 (kq≤k)∧Aside0 (Kd.R (Kd.int .i64) 3 w' w.heap.size (fun _=>True) v7 x7_1)∧Aside0 (w'.heap[gb347]? =some (.cells #[.int .i64 a0_0, .bool a0_1,(.slice A0_2 l0_2.length c0_2)] 24 (0,0)))∧Aside0 (Below w.heap.size w w'))
 case atStart=>exact⟨(([]:List Int)),(0),(by first|rfl|(simp;done)|(simp[*];done)),H',⟨Nat.le_refl _⟩,⟨by first|exact Kd.R_nil _ _ _ _ _|exact Kd.N_nil _ _ _ _ _|exact Kd.V_nil _ _ _ _ _|exact Kd.Q_nil _ _ _ _ _|exact Kd.S_nil _ _ _ _ _⟩,⟨BK347.out⟩,⟨HB.out⟩⟩
 case round=>
  clear H'
  try clear c1
  try clear p2
  try clear c4
  try clear c4b0
  try clear c4b1
  try clear c6
  try clear c7
  try clear c10
  try clear hcz10_0
  try clear hcz10_1
  try clear hcz10_2
  try clear hcz8_0
  try clear hcz8_1
  try clear hcz8_2
  try clear hfz10_0
  try clear hfz10_1
  try clear hfz10_2
  try clear hfz8_0
  try clear hfz8_1
  try clear hfz8_2
  obtain⟨x7_1,x8_1,rfl,HA,HK1,HO_7,BK347,HB⟩:=hrel
  cases gk with
  |zero=>exact absurd HA.out (by simp[ebbtideref07_Balance.l0])
  |succ k1=>
   have H:=HA.out
   clear HA
   simp only[ebbtideref07_Balance.l0] at H
   by_cases c12:x8_1<a0_0
   rotate_left
   ·rw[if_neg c12] at H
    have c12b0:decide (x8_1<a0_0)=false:=decide_eq_false c12
    clear c12
    simp only[Option.some.injEq,Prod.mk.injEq] at H
    obtain⟨rfl,rfl⟩:=H
    have hcz18_0:wr.cell? ⟨gb347,0,none⟩=some (.int .i64 a0_0):=(blk_cell BK347.out 0).trans rfl
    have hcz18_1:wr.cell? ⟨gb347,1,none⟩=some (.bool a0_1):=(blk_cell BK347.out 1).trans rfl
    have hcz18_2:wr.cell? ⟨gb347,2,none⟩=some (.slice A0_2 l0_2.length c0_2):=(blk_cell BK347.out 2).trans rfl
    have hfz18_0:=blk_frozen BK347.out 0
    have hfz18_1:=blk_frozen BK347.out 1
    have hfz18_2:=blk_frozen BK347.out 2
    go_wp2
    go_ret2
    exact⟨_,by first|rfl|(simp[errW_none,errW_some]<;>rfl)|(simp[*,errW_none,errW_some]<;>rfl),by(with_reducible repeat(first|apply Kd.R_alloc|apply Kd.R_drewN|apply Kd.R_drew));exact HO_7.out,HB.out⟩
   rw[if_pos c12] at H
   have c12b0:decide (x8_1<a0_0)=true:=decide_eq_true c12
   clear c12
   replace H:=Option.bind_eq_some_iff.mp H
   obtain⟨t350,A130,H⟩:=H
   replace H:(if x7_1.length<17592186044416 then(ebbtideref07_Balance.l0 k1 l1 (x7_1 ++ [t350]) (wrap64 (x8_1+1)) a0_0 a0_1 l0_2) else(none))=some (r1,r2):=H
   have A13:=Aside0.mk A130
   clear A130
   by_cases c14:x7_1.length<17592186044416
   rotate_left
   ·rw[if_neg c14] at H
    exact absurd H (by simp)
   rw[if_pos c14] at H
   have LMc14:=Aside0.mk c14
   clear c14
   obtain⟨y351,hy351⟩: ∃ y_:List Int,y_=(x7_1 ++ [t350]):=⟨_,rfl⟩
   replace H:(ebbtideref07_Balance.l0 k1 l1 y351 (wrap64 (x8_1+1)) a0_0 a0_1 l0_2)=some (r1,r2):=by first|(rw[hy351];with_reducible exact H)|(have H2_:=(Option.bind_some _ _).symm.trans H;rw[hy351];with_reducible exact H2_)|(have H2_:=(Option.bind_some _ _).symm.trans H;with_reducible exact H2_)|with_reducible exact H|(rw[hy351];exact H)|exact H
   have Ny351:=Aside0.mk hy351
   clear hy351
   have H':=Aside0.mk H
   clear H
   have hcz15_0:wr.cell? ⟨gb347,0,none⟩=some (.int .i64 a0_0):=(blk_cell BK347.out 0).trans rfl
   have hcz15_1:wr.cell? ⟨gb347,1,none⟩=some (.bool a0_1):=(blk_cell BK347.out 1).trans rfl
   have hcz15_2:wr.cell? ⟨gb347,2,none⟩=some (.slice A0_2 l0_2.length c0_2):=(blk_cell BK347.out 2).trans rfl
   have hfz15_0:=blk_frozen BK347.out 0
   have hfz15_1:=blk_frozen BK347.out 1
   have hfz15_2:=blk_frozen BK347.out 2
   go_wp2_with (first|((with_reducible refine gate_callee (f:=103) rfl ?_);refine goesL_ (some 28) rfl rfl Try.func103 (by kernel_rfl) rfl #[.agg #[.int .i64 a0_0, .bool a0_1, .slice A0_2 l0_2.length c0_2], .slice A1 l1.length c1, .int .i64 x8_1] rfl (by(try simp only[List.map_toArray,List.map_cons,List.map_nil]);first|done|rfl|(simp only[List.length_drop,List.length_take];rfl)) ?_;(with_reducible refine(ebbtideref07_Leaves.calls k1 a0_0 a0_1 _ _ l0_2 _ _ l1 x8_1 t350 _ ?side1 ?side2 ?side3 ?side4 A13.out).mono ?_);(case side1=>repeat(first|exact(Kd.C_below HR0_2.out HB.out)|(with_reducible refine Kd.C_alloc ?_ _)|(with_reducible refine Kd.C_drewN ?_ _)|(with_reducible refine Kd.C_drew ?_)));(case side2=>exact HC0_2.out);(case side3=>repeat(first|exact(Kd.C_below HR1.out HB.out)|(with_reducible refine Kd.C_alloc ?_ _)|(with_reducible refine Kd.C_drewN ?_ _)|(with_reducible refine Kd.C_drew ?_)));(case side4=>exact HC1.out);rintro e w16 ⟨rfl,hb⟩;refine⟨_,rfl,?_⟩;have n0_:=Aside0.mk (Kd.R_below HO_7.out hb);have n1_:=Aside0.mk (blk_below BK347.out hb);have n2_:=Aside0.mk (below_step HB.out hb);clear HO_7;clear BK347;clear HB;have HO_7:=n0_;have BK347:=n1_;have HB:=n2_;clear n0_ n1_ n2_;(try clear hb);(try clear hb2);(try clear hk);(try clear hi))|((with_reducible refine gate_builtin (b:= .append) (xs:= #[.tmp 24, .tmp 29]) rfl ?_);at_builtin;refine Kd.R_append (Kd.int .i64) (w0:=w) w.heap.size rfl (.tmp 24) (.tmp 29) 25 3 (.int .i64 0) 8 rfl Try.underlying25 info3 rfl (by decide) (by omega) u7 x7_1 t350 [.int .i64 t350] (fun _=>True) (fun _=>False) rfl rfl ?aP (fun _ hk=>hk.elim) ?aF ?aO ?aB ?aS ?aL ?_;(case aP=>exact rfl);(case aB=>exact HB.out);(case aF=>exact(fun _ _=>trivial));(case aO=>exact HO_7.out);(case aS=>exact(below_size HB.out));(case aL=>have:=LMc14.out;omega);intro v352 w17 ho hb hg hat;rw[← Ny351.out] at ho;have n0_:=Aside0.mk (blk_grown BK347.out hg (Kd.R_ne HO_7.out BK347.out (by decide)));have n1_:=Aside0.mk (hb);have n2_:=Aside0.mk (ho);clear BK347;clear HB;clear HO_7;have BK347:=n0_;have HB:=n1_;have HO353:=n2_;clear n0_ n1_ n2_;clear ho hb hg hat))
   go_roundg k1
   case measure=>have:=HK1.out;omega
   case rel=>exact⟨(y351),(wrap64 (x8_1+1)),(by first|rfl|(simp;done)|(simp[*];done)),H',⟨by have:=HK1.out;omega⟩,⟨HO353.out⟩,⟨BK347.out⟩,⟨HB.out⟩⟩
end Go.Proofs.Ytkcpanpdipmmmaa.P
namespace Go.Proofs.Ytkcpanpdipmmmaa.Q
open Go.RowKit Go.Proofs.YtkcpanpdipmmmaaW.PrintWords Go.Proofs.YtkcpanpdipmmmaaW.PrintLast Go.Proofs.YtkcpanpdipmmmaaW.PrintMore Go.Proofs.Ytkcpanpdipmmmaa.P
def arcErr (n:Int) (a:S74):Int:=
 if a.f0<0∨a.f1<0∨a.f2<0∨a.f3<0∨n≤a.f0∨n≤a.f1 then 51 else if 1048576<a.f2∨1048576<a.f3 then 2 else 0
def arcsErr (n:Int):List S74→Int
 |[]=>0
 |a::l=>if arcErr n a=0 then arcsErr n l else arcErr n a
def netErr (n:Int) (l:List S74):Int:=if n<1 then 51 else if n>50 then 2 else if (l.length:Int)>200 then 2 else arcsErr n l
structure ArcOk (n:Int) (a:S74):Prop where
 f0:0≤a.f0
 f1:0≤a.f1
 f2:0≤a.f2
 f3:0≤a.f3
 h0:a.f0<n
 h1:a.f1<n
 h2:a.f2≤1048576
 h3:a.f3≤1048576
structure NetOk (n:Int) (l:List S74):Prop where
 lo:1≤n
 hi:n≤50
 len:l.length≤200
 arcs: ∀ a∈l,ArcOk n a
theorem arcErr_ok {n:Int} {a:S74} (h:arcErr n a=0):ArcOk n a:=by
 unfold arcErr at h
 split at h
 ·omega
 ·split at h
  ·omega
  ·constructor<;>omega
theorem arcsErr_ok {n:Int} : ∀ {l:List S74},arcsErr n l=0→ ∀ a∈l,ArcOk n a
 |[],_,a,ha=>by cases ha
 |b::l,h,a,ha=>by
  unfold arcsErr at h
  split at h
  ·rename_i hb
   rcases List.mem_cons.1 ha with rfl|ha
   ·exact arcErr_ok hb
   ·exact arcsErr_ok h a ha
  ·exact absurd h (by assumption)
theorem netErr_ok {n:Int} {l:List S74} (h:netErr n l=0):NetOk n l:=by
 unfold netErr at h
 split at h
 ·omega
 ·split at h
  ·omega
  ·split at h
   ·omega
   ·exact⟨by omega,by omega,by omega,arcsErr_ok h⟩
theorem arcOk_err {n:Int} {a:S74} (h:ArcOk n a):arcErr n a=0:=by
 have:=h.f0;have:=h.f1;have:=h.f2;have:=h.f3;have:=h.h0;have:=h.h1;have:=h.h2;have:=h.h3
 unfold arcErr
 rw[if_neg (by omega),if_neg (by omega)]
theorem arcsOk_err {n:Int} : ∀ {l:List S74},(∀ a∈l,ArcOk n a)→arcsErr n l=0
 |[],_=>rfl
 |b::l,h=>by
  unfold arcsErr
  rw[if_pos (arcOk_err (h b (List.mem_cons_self ..)))]
  exact arcsOk_err fun a ha=>h a (List.mem_cons_of_mem _ ha)
theorem netOk_err {n:Int} {l:List S74} (h:NetOk n l):netErr n l=0:=by
 have:=h.lo;have:=h.hi;have:=h.len
 unfold netErr
 rw[if_neg (by omega),if_neg (by omega),if_neg (by omega),arcsOk_err h.arcs]
theorem NetOk.at_ {n:Int} {l:List S74} (h:NetOk n l) {i:Int} (h0:0≤i) (h1:i<l.length):ArcOk n (rd_T74 l i):=h.arcs _ (getD_mem (by omega))
theorem nodes_eq (n:Int):netfmt_nodes.f n=some (if n<1 then 51 else if n>50 then 2 else 0):=by
 unfold netfmt_nodes.f
 split
 ·rfl
 ·split<;>rfl
theorem arc_ev (n:Int) (a:S74):Ev (fun k=>netfmt_arc.f k n a.f0 a.f1 a.f2 a.f3) (arcErr n a):=by
 unfold netfmt_arc.f arcErr
 refine Ev.ite (fun h=> ?_) (fun h=> ?_)
 ·refine Ev.succ ?_;simp only[netfmt_arc.j0]
  repeat(first|exact Ev.now _|with_reducible refine Ev.pos (by first|assumption|omega) ?_|with_reducible refine Ev.neg (by first|assumption|omega) ?_|with_reducible refine Ev.let_ ?_)
  exact Ev.done (by unfold mn at h;rw[if_pos (by omega)])
 ·refine Ev.succ ?_;simp only[netfmt_arc.j0]
  unfold mn at h
  unfold mx
  refine Ev.ite (fun g=> ?_) (fun g=> ?_)
  ·have g:=of_decide_eq_true g
   exact Ev.done (by rw[if_pos (by omega)])
  ·have g:=of_decide_eq_false (Bool.eq_false_iff.2 g)
   refine Ev.ite (fun g1=> ?_) (fun g1=> ?_)
   ·exact Ev.done (by rw[if_neg (by omega),if_pos (by omega)])
   ·refine Ev.ite (fun g2=> ?_) (fun g2=> ?_)
    ·exact Ev.done (by rw[if_neg (by omega),if_pos (by omega)])
    ·exact Ev.done (by rw[if_neg (by omega),if_neg (by omega)])
theorem check_l0 (l:List S74) (n:Int) (b:Bool) (hl:l.length≤9223372036854775807) (d:Nat): ∀ i:Nat,i+d=l.length→
  Ev (fun k=>netfmt_Check.l0 k l (l.length:Int) (i:Int) n b l) (arcsErr n (l.drop i)):=by
 induction d with
 |zero=>
  intro i hi
  refine Ev.succ ?_;simp only[netfmt_Check.l0]
  repeat(first|exact Ev.now _|with_reducible refine Ev.pos (by first|assumption|omega) ?_|with_reducible refine Ev.neg (by first|assumption|omega) ?_|with_reducible refine Ev.let_ ?_)
  rw[List.drop_of_length_le (by omega)]
  exact Ev.now _
 |succ d ih=>
  intro i hi
  refine Ev.succ ?_;simp only[netfmt_Check.l0]
  repeat(first|exact Ev.now _|with_reducible refine Ev.pos (by first|assumption|omega) ?_|with_reducible refine Ev.neg (by first|assumption|omega) ?_|with_reducible refine Ev.let_ ?_)
  refine Ev.bind (arc_ev n (rd_T74 l i)) ?_
  rw[drop_getD l i z74 (by omega)]
  have hr:rd_T74 l (i:Int)=l.getD i z74:=by unfold rd_T74;rw[Int.toNat_natCast]
  rw[hr]
  unfold arcsErr
  refine Ev.ite (fun h=> ?_) (fun h=> ?_)
  ·rw[if_pos h,wrap_succ (n:=l.length) (by omega) hl]
   exact ih (i+1) (by omega)
  ·rw[if_neg h]
   exact Ev.now _
theorem check_ev (n:Int) (b:Bool) (l:List S74):Ev (fun k=>netfmt_Check.f k n b l) (netErr n l):=by
 unfold netfmt_Check.f netErr
 refine Ev.call (nodes_eq n) ?_
 by_cases h:n<1
 ·rw[if_pos h,if_pos h]
  repeat(first|exact Ev.now _|with_reducible refine Ev.pos (by first|assumption|omega) ?_|with_reducible refine Ev.neg (by first|assumption|omega) ?_|with_reducible refine Ev.let_ ?_)
 ·rw[if_neg h,if_neg h]
  by_cases h2:n>50
  ·rw[if_pos h2,if_pos h2]
   repeat(first|exact Ev.now _|with_reducible refine Ev.pos (by first|assumption|omega) ?_|with_reducible refine Ev.neg (by first|assumption|omega) ?_|with_reducible refine Ev.let_ ?_)
  ·rw[if_neg h2,if_neg h2]
   repeat(first|exact Ev.now _|with_reducible refine Ev.pos (by first|assumption|omega) ?_|with_reducible refine Ev.neg (by first|assumption|omega) ?_|with_reducible refine Ev.let_ ?_)
   refine Ev.ite (fun g=> ?_) (fun g=> ?_)
   ·rw[if_pos g]
    exact Ev.now _
   ·rw[if_neg g]
    exact check_l0 l n b (by omega) l.length 0 (by omega)
theorem ref_nodes_eq (n:Int):ebbtideref05_nodes.f n=some (if n<1 then 51 else if n>50 then 2 else 0):=by
 unfold ebbtideref05_nodes.f
 split
 ·rfl
 ·split<;>rfl
theorem ref_arc_j0 (x:Bool) (n:Int) (a:S74) (hx:x=true↔a.f0<0∨a.f1<0∨a.f2<0∨a.f3<0∨n≤a.f0∨n≤a.f1):Ev (fun k=>ebbtideref05_Arc.j0 k x a.f0 a.f1 a.f2 a.f3) (arcErr n a):=by
 unfold arcErr
 refine Ev.succ ?_;simp only[ebbtideref05_Arc.j0]
 refine Ev.ite (fun g=> ?_) (fun g=> ?_)
 ·exact Ev.done (by rw[if_pos (hx.1 g)])
 ·have g':=fun h=>g (hx.2 h)
  refine Ev.ite (fun g1=> ?_) (fun g1=> ?_)
  ·exact Ev.done (by rw[if_neg g',if_pos (by omega)])
  ·refine Ev.ite (fun g2=> ?_) (fun g2=> ?_)
   ·exact Ev.done (by rw[if_neg g',if_pos (by omega)])
   ·exact Ev.done (by rw[if_neg g',if_neg (by omega)])
theorem ref_arc_ev (n:Int) (a:S74):Ev (fun k=>ebbtideref05_Arc.f k n a.f0 a.f1 a.f2 a.f3) (arcErr n a):=by
 unfold ebbtideref05_Arc.f
 refine Ev.ite (fun h=> ?_) (fun h=> ?_)
 ·exact ref_arc_j0 _ _ _ ⟨fun _=>by omega,fun _=>rfl⟩
 refine Ev.ite (fun h=> ?_) (fun h=> ?_)
 ·exact ref_arc_j0 _ _ _ ⟨fun _=>by omega,fun _=>rfl⟩
 refine Ev.ite (fun h=> ?_) (fun h=> ?_)
 ·exact ref_arc_j0 _ _ _ ⟨fun _=>by omega,fun _=>rfl⟩
 refine Ev.ite (fun h=> ?_) (fun h=> ?_)
 ·exact ref_arc_j0 _ _ _ ⟨fun _=>by omega,fun _=>rfl⟩
 refine Ev.ite (fun h=> ?_) (fun h=> ?_)
 ·exact ref_arc_j0 _ _ _ ⟨fun _=>by omega,fun _=>rfl⟩
 ·exact ref_arc_j0 _ _ _ ⟨fun g=>by have:=of_decide_eq_true g;omega,fun g=>decide_eq_true (by omega)⟩
theorem ref_check_l0 (l:List S74) (n:Int) (b:Bool) (hl:l.length≤9223372036854775807) (d:Nat): ∀ i:Nat,i+d=l.length→
  Ev (fun k=>ebbtideref05_Check.l0 k (i:Int) n b l) (arcsErr n (l.drop i)):=by
 induction d with
 |zero=>
  intro i hi
  refine Ev.succ ?_;simp only[ebbtideref05_Check.l0]
  repeat(first|exact Ev.now _|with_reducible refine Ev.pos (by first|assumption|omega) ?_|with_reducible refine Ev.neg (by first|assumption|omega) ?_|with_reducible refine Ev.let_ ?_)
  rw[List.drop_of_length_le (by omega)]
  exact Ev.now _
 |succ d ih=>
  intro i hi
  refine Ev.succ ?_;simp only[ebbtideref05_Check.l0]
  repeat(first|exact Ev.now _|with_reducible refine Ev.pos (by first|assumption|omega) ?_|with_reducible refine Ev.neg (by first|assumption|omega) ?_|with_reducible refine Ev.let_ ?_)
  refine Ev.bind (ref_arc_ev n (rd_T74 l i)) ?_
  rw[drop_getD l i z74 (by omega)]
  have hr:rd_T74 l (i:Int)=l.getD i z74:=by unfold rd_T74;rw[Int.toNat_natCast]
  rw[hr]
  unfold arcsErr
  refine Ev.ite (fun h=> ?_) (fun h=> ?_)
  ·rw[if_pos h,wrap_succ (n:=l.length) (by omega) hl]
   exact ih (i+1) (by omega)
  ·rw[if_neg h]
   exact Ev.now _
theorem ref_check_ev (n:Int) (b:Bool) (l:List S74):Ev (fun k=>ebbtideref05_Check.f k n b l) (netErr n l):=by
 unfold ebbtideref05_Check.f netErr
 refine Ev.call (ref_nodes_eq n) ?_
 by_cases h:n<1
 ·rw[if_pos h,if_pos h]
  repeat(first|exact Ev.now _|with_reducible refine Ev.pos (by first|assumption|omega) ?_|with_reducible refine Ev.neg (by first|assumption|omega) ?_|with_reducible refine Ev.let_ ?_)
 ·rw[if_neg h,if_neg h]
  by_cases h2:n>50
  ·rw[if_pos h2,if_pos h2]
   repeat(first|exact Ev.now _|with_reducible refine Ev.pos (by first|assumption|omega) ?_|with_reducible refine Ev.neg (by first|assumption|omega) ?_|with_reducible refine Ev.let_ ?_)
  ·rw[if_neg h2,if_neg h2]
   repeat(first|exact Ev.now _|with_reducible refine Ev.pos (by first|assumption|omega) ?_|with_reducible refine Ev.neg (by first|assumption|omega) ?_|with_reducible refine Ev.let_ ?_)
   refine Ev.ite (fun g=> ?_) (fun g=> ?_)
   ·rw[if_pos g]
    exact Ev.now _
   ·rw[if_neg g]
    exact ref_check_l0 l n b (by omega) l.length 0 (by omega)
end Go.Proofs.Ytkcpanpdipmmmaa.Q
namespace Go.Proofs.Ytkcpanpdipmmmaa.P
open Go.RowKit Go.Proofs.YtkcpanpdipmmmaaW.PrintWords Go.Proofs.YtkcpanpdipmmmaaW.PrintLast Go.Proofs.YtkcpanpdipmmmaaW.PrintMore
attribute [local go_sem] max2_int min2_int max_two min_two max_three min_three max_four min_four
def static_Asked.l0:Nat→List Int→Int→Int→Int→Bool→List (S74)→Option (Int)
 |0,_,_,_,_,_,_=>none
 |k+1,x19,x20,x21,x185000,x185001,x185002=>if x21<x20 then(if 0≤x21 then(if x21<(x19.length:Int) then(if (rd x19 x21)<0 then(some 71) else(if x21<(x185002.length:Int) then(if (rd x19 x21)>((rd_T74 x185002 x21).f2) then(some 71) else(static_Asked.l0 k x19 x20 (wrap64 (x21+1)) x185000 x185001 x185002)) else(none))) else(none)) else(none)) else(some 0)
def static_Asked.f (k:Nat) (a0_0:Int) (a0_1:Bool) (l0_2:List (S74)) (l1:List Int):Option (Int):=(netfmt_Check.f k a0_0 a0_1 l0_2).bind fun t185=>(if t185=0 then(if (l1.length:Int)=(l0_2.length:Int) then(static_Asked.l0 k l1 (l1.length:Int) 0 a0_0 a0_1 l0_2) else(some 71)) else(some t185))
set_option maxHeartbeats 8000000 in
set_option maxRecDepth 100000 in
theorem static_Asked.calls (k:Nat) (a0_0:Int) (a0_1:Bool) (A0_2:Option Addr) (c0_2:Nat) (l0_2:List (S74)) (A1:Option Addr) (c1:Nat) (l1:List Int) (r:Int) (w:World) (hr0_2:Kd.C k74 w A0_2 l0_2.length l0_2) (hc0_2:l0_2.length≤c0_2) (hr1:Kd.C (Kd.int .i64) w A1 l1.length l1) (hc1:l1.length≤c1) (h:static_Asked.f k a0_0 a0_1 l0_2 l1=some r):
  Calls Try.prog 96 #[.agg #[.int .i64 a0_0, .bool a0_1, .slice A0_2 l0_2.length c0_2], .slice A1 l1.length c1] w fun e w'=>e= .returned (.int .i64 r)∧Below w.heap.size w w':=by
 have hu24:=Try.underlying24
 have HR0_2:=Aside0.mk hr0_2
 have HC0_2:=Aside0.mk hc0_2
 clear hr0_2 hc0_2
 have HR1:=Aside0.mk hr1
 have HC1:=Aside0.mk hc1
 clear hr1 hc1
 have HB:=Aside0.mk (Below.refl w.heap.size w)
 have H:((netfmt_Check.f k a0_0 a0_1 l0_2).bind fun t185=>(if t185=0 then(if (l1.length:Int)=(l0_2.length:Int) then(static_Asked.l0 k l1 (l1.length:Int) 0 a0_0 a0_1 l0_2) else(some 71)) else(some t185)))=some r:=h
 clear h
 replace H:=Option.bind_eq_some_iff.mp H
 obtain⟨t185,A30,H⟩:=H
 replace H:(if t185=0 then(if (l1.length:Int)=(l0_2.length:Int) then(static_Asked.l0 k l1 (l1.length:Int) 0 a0_0 a0_1 l0_2) else(some 71)) else(some t185))=some r:=H
 have A3:=Aside0.mk A30
 clear A30
 by_cases c4:t185=0
 rotate_left
 ·rw[if_neg c4] at H
  have c4b0:(t185 == 0)=false:=beq_eq_false_iff_ne.mpr c4
  have c4b1:(t185 != 0)=true:=bne_iff_ne.mpr c4
  obtain rfl:=Option.some.inj H
  go_enter Try.func96,Try.ntmps96
  go_wp2_with (first|((with_reducible refine gate_dst (N:=2) rfl ?_);refine box_event ?hg (N:=2) ?hd (cs:= #[.int .i64 a0_0, .bool a0_1, .slice A0_2 l0_2.length c0_2]) (t:=24) ?hr ?_;(case hd=>rfl);(case hg=>rfl);(case hr=>first|(go_simp;done)|(go_simp;rfl));intro gb184 hg w22 hbox hb;have n0_:=Aside0.mk (below_step (by repeat(first|(with_reducible first|exact HB.out|apply below_alloc|apply pw_below_drewN|apply below_drew1)|exact HB.out)) hb);have n1_:=Aside0.mk (hbox);have n2_:=Aside0.mk ((by rw[hg];exact(below_size (by repeat(first|(with_reducible first|exact HB.out|apply below_alloc|apply pw_below_drewN|apply below_drew1)|exact HB.out))):w.heap.size≤gb184));have n3_:=Aside0.mk ((by rw[hg];exact(below_size (by repeat(first|(with_reducible first|exact HB.out|apply below_alloc|apply pw_below_drewN|apply below_drew1)|exact HB.out))):w.heap.size≤gb184));clear HB;have HB:=n0_;have BK184:=n1_;have GW184:=n2_;have GE184:=n3_;clear n0_ n1_ n2_ n3_;clear hb hbox hg;have hcz23_0:w22.cell? ⟨gb184,0,none⟩=some (.int .i64 a0_0):=(blk_cell BK184.out 0).trans rfl;have hcz23_1:w22.cell? ⟨gb184,1,none⟩=some (.bool a0_1):=(blk_cell BK184.out 1).trans rfl;have hcz23_2:w22.cell? ⟨gb184,2,none⟩=some (.slice A0_2 l0_2.length c0_2):=(blk_cell BK184.out 2).trans rfl;have hfz23_0:=blk_frozen BK184.out 0;have hfz23_1:=blk_frozen BK184.out 1;have hfz23_2:=blk_frozen BK184.out 2)|((with_reducible refine gate_callee (f:=127) rfl ?_);refine goesL_ (some 9) rfl rfl Try.func127 (by kernel_rfl) rfl #[.agg #[.int .i64 a0_0, .bool a0_1, .slice A0_2 l0_2.length c0_2]] rfl (by(try simp only[List.map_toArray,List.map_cons,List.map_nil]);first|done|rfl|(simp only[List.length_drop,List.length_take];rfl)) ?_;(with_reducible refine(netfmt_Check.calls k a0_0 a0_1 _ _ l0_2 t185 _ ?side1 ?side2 A3.out).mono ?_);(case side1=>repeat(first|exact(Kd.C_below HR0_2.out HB.out)|(with_reducible refine Kd.C_alloc ?_ _)|(with_reducible refine Kd.C_drewN ?_ _)|(with_reducible refine Kd.C_drew ?_)));(case side2=>exact HC0_2.out);rintro e w24 ⟨rfl,hb⟩;refine⟨_,rfl,?_⟩;have n0_:=Aside0.mk (blk_below (g:=gb184) (o:= .cells #[.int .i64 a0_0, .bool a0_1, .slice A0_2 l0_2.length c0_2] 24 (0,0)) (by(with_reducible repeat(first|refine blk_drewN ?_ _|refine blk_drew ?_|refine blk_alloc ?_ _));exact BK184.out) hb);have n1_:=Aside0.mk (below_step (by repeat(first|(with_reducible first|exact HB.out|apply below_alloc|apply pw_below_drewN|apply below_drew1|refine below_set ?_ GE184.out)|exact HB.out)) hb);clear BK184;clear HB;have BK184:=n0_;have HB:=n1_;clear n0_ n1_;(try clear hb);(try clear hb2);(try clear hk);(try clear hi)))
  go_ret
  exact⟨by first|rfl|(simp[errW_none,errW_some]<;>rfl)|(simp[*,errW_none,errW_some]<;>rfl),by repeat(first|(with_reducible first|exact HB.out|apply below_alloc|apply pw_below_drewN|apply below_drew1|refine below_set ?_ GE184.out)|exact HB.out)⟩
 rw[if_pos c4] at H
 have c4b0:(t185 == 0)=true:=beq_iff_eq.mpr c4
 have c4b1:(t185 != 0)=false:=bne_eq_false_iff_eq.mpr c4
 clear c4
 by_cases c5:(l1.length:Int)=(l0_2.length:Int)
 rotate_left
 ·rw[if_neg c5] at H
  have c5b0:((l1.length:Int) == (l0_2.length:Int))=false:=beq_eq_false_iff_ne.mpr c5
  have c5b1:((l1.length:Int) != (l0_2.length:Int))=true:=bne_iff_ne.mpr c5
  have c5b2:(l1.length == l0_2.length)=false:=by first|simpa using c5|(simp at c5 ⊢;omega)
  obtain rfl:=Option.some.inj H
  go_enter Try.func96,Try.ntmps96
  go_wp2_with (first|((with_reducible refine gate_dst (N:=2) rfl ?_);refine box_event ?hg (N:=2) ?hd (cs:= #[.int .i64 a0_0, .bool a0_1, .slice A0_2 l0_2.length c0_2]) (t:=24) ?hr ?_;(case hd=>rfl);(case hg=>rfl);(case hr=>first|(go_simp;done)|(go_simp;rfl));intro gb184 hg w18 hbox hb;have n0_:=Aside0.mk (below_step (by repeat(first|(with_reducible first|exact HB.out|apply below_alloc|apply pw_below_drewN|apply below_drew1)|exact HB.out)) hb);have n1_:=Aside0.mk (hbox);have n2_:=Aside0.mk ((by rw[hg];exact(below_size (by repeat(first|(with_reducible first|exact HB.out|apply below_alloc|apply pw_below_drewN|apply below_drew1)|exact HB.out))):w.heap.size≤gb184));have n3_:=Aside0.mk ((by rw[hg];exact(below_size (by repeat(first|(with_reducible first|exact HB.out|apply below_alloc|apply pw_below_drewN|apply below_drew1)|exact HB.out))):w.heap.size≤gb184));clear HB;have HB:=n0_;have BK184:=n1_;have GW184:=n2_;have GE184:=n3_;clear n0_ n1_ n2_ n3_;clear hb hbox hg;have hcz19_0:w18.cell? ⟨gb184,0,none⟩=some (.int .i64 a0_0):=(blk_cell BK184.out 0).trans rfl;have hcz19_1:w18.cell? ⟨gb184,1,none⟩=some (.bool a0_1):=(blk_cell BK184.out 1).trans rfl;have hcz19_2:w18.cell? ⟨gb184,2,none⟩=some (.slice A0_2 l0_2.length c0_2):=(blk_cell BK184.out 2).trans rfl;have hfz19_0:=blk_frozen BK184.out 0;have hfz19_1:=blk_frozen BK184.out 1;have hfz19_2:=blk_frozen BK184.out 2)|((with_reducible refine gate_callee (f:=127) rfl ?_);refine goesL_ (some 9) rfl rfl Try.func127 (by kernel_rfl) rfl #[.agg #[.int .i64 a0_0, .bool a0_1, .slice A0_2 l0_2.length c0_2]] rfl (by(try simp only[List.map_toArray,List.map_cons,List.map_nil]);first|done|rfl|(simp only[List.length_drop,List.length_take];rfl)) ?_;(with_reducible refine(netfmt_Check.calls k a0_0 a0_1 _ _ l0_2 t185 _ ?side1 ?side2 A3.out).mono ?_);(case side1=>repeat(first|exact(Kd.C_below HR0_2.out HB.out)|(with_reducible refine Kd.C_alloc ?_ _)|(with_reducible refine Kd.C_drewN ?_ _)|(with_reducible refine Kd.C_drew ?_)));(case side2=>exact HC0_2.out);rintro e w20 ⟨rfl,hb⟩;refine⟨_,rfl,?_⟩;have n0_:=Aside0.mk (blk_below (g:=gb184) (o:= .cells #[.int .i64 a0_0, .bool a0_1, .slice A0_2 l0_2.length c0_2] 24 (0,0)) (by(with_reducible repeat(first|refine blk_drewN ?_ _|refine blk_drew ?_|refine blk_alloc ?_ _));exact BK184.out) hb);have n1_:=Aside0.mk (below_step (by repeat(first|(with_reducible first|exact HB.out|apply below_alloc|apply pw_below_drewN|apply below_drew1|refine below_set ?_ GE184.out)|exact HB.out)) hb);clear BK184;clear HB;have BK184:=n0_;have HB:=n1_;clear n0_ n1_;(try clear hb);(try clear hb2);(try clear hk);(try clear hi);have hcz21_0:w20.cell? ⟨gb184,0,none⟩=some (.int .i64 a0_0):=(blk_cell BK184.out 0).trans rfl;have hcz21_1:w20.cell? ⟨gb184,1,none⟩=some (.bool a0_1):=(blk_cell BK184.out 1).trans rfl;have hcz21_2:w20.cell? ⟨gb184,2,none⟩=some (.slice A0_2 l0_2.length c0_2):=(blk_cell BK184.out 2).trans rfl;have hfz21_0:=blk_frozen BK184.out 0;have hfz21_1:=blk_frozen BK184.out 1;have hfz21_2:=blk_frozen BK184.out 2))
  go_ret
  exact⟨by first|rfl|(simp[errW_none,errW_some]<;>rfl)|(simp[*,errW_none,errW_some]<;>rfl),by repeat(first|(with_reducible first|exact HB.out|apply below_alloc|apply pw_below_drewN|apply below_drew1|refine below_set ?_ GE184.out)|exact HB.out)⟩
 rw[if_pos c5] at H
 have c5b0:((l1.length:Int) == (l0_2.length:Int))=true:=beq_iff_eq.mpr c5
 have c5b1:((l1.length:Int) != (l0_2.length:Int))=false:=bne_eq_false_iff_eq.mpr c5
 have c5b2:(l1.length == l0_2.length)=true:=by first|simpa using c5|(simp at c5 ⊢;omega)
 clear c5
 have H':=Aside0.mk H
 clear H
 go_enter Try.func96,Try.ntmps96
 go_wp2_with (first|((with_reducible refine gate_dst (N:=2) rfl ?_);refine box_event ?hg (N:=2) ?hd (cs:= #[.int .i64 a0_0, .bool a0_1, .slice A0_2 l0_2.length c0_2]) (t:=24) ?hr ?_;(case hd=>rfl);(case hg=>rfl);(case hr=>first|(go_simp;done)|(go_simp;rfl));intro gb184 hg w6 hbox hb;have n0_:=Aside0.mk (below_step (by repeat(first|(with_reducible first|exact HB.out|apply below_alloc|apply pw_below_drewN|apply below_drew1)|exact HB.out)) hb);have n1_:=Aside0.mk (hbox);have n2_:=Aside0.mk ((by rw[hg];exact(below_size (by repeat(first|(with_reducible first|exact HB.out|apply below_alloc|apply pw_below_drewN|apply below_drew1)|exact HB.out))):w.heap.size≤gb184));have n3_:=Aside0.mk ((by rw[hg];exact(below_size (by repeat(first|(with_reducible first|exact HB.out|apply below_alloc|apply pw_below_drewN|apply below_drew1)|exact HB.out))):w.heap.size≤gb184));clear HB;have HB:=n0_;have BK184:=n1_;have GW184:=n2_;have GE184:=n3_;clear n0_ n1_ n2_ n3_;clear hb hbox hg;have hcz7_0:w6.cell? ⟨gb184,0,none⟩=some (.int .i64 a0_0):=(blk_cell BK184.out 0).trans rfl;have hcz7_1:w6.cell? ⟨gb184,1,none⟩=some (.bool a0_1):=(blk_cell BK184.out 1).trans rfl;have hcz7_2:w6.cell? ⟨gb184,2,none⟩=some (.slice A0_2 l0_2.length c0_2):=(blk_cell BK184.out 2).trans rfl;have hfz7_0:=blk_frozen BK184.out 0;have hfz7_1:=blk_frozen BK184.out 1;have hfz7_2:=blk_frozen BK184.out 2)|((with_reducible refine gate_callee (f:=127) rfl ?_);refine goesL_ (some 9) rfl rfl Try.func127 (by kernel_rfl) rfl #[.agg #[.int .i64 a0_0, .bool a0_1, .slice A0_2 l0_2.length c0_2]] rfl (by(try simp only[List.map_toArray,List.map_cons,List.map_nil]);first|done|rfl|(simp only[List.length_drop,List.length_take];rfl)) ?_;(with_reducible refine(netfmt_Check.calls k a0_0 a0_1 _ _ l0_2 t185 _ ?side1 ?side2 A3.out).mono ?_);(case side1=>repeat(first|exact(Kd.C_below HR0_2.out HB.out)|(with_reducible refine Kd.C_alloc ?_ _)|(with_reducible refine Kd.C_drewN ?_ _)|(with_reducible refine Kd.C_drew ?_)));(case side2=>exact HC0_2.out);rintro e w8 ⟨rfl,hb⟩;refine⟨_,rfl,?_⟩;have n0_:=Aside0.mk (blk_below (g:=gb184) (o:= .cells #[.int .i64 a0_0, .bool a0_1, .slice A0_2 l0_2.length c0_2] 24 (0,0)) (by(with_reducible repeat(first|refine blk_drewN ?_ _|refine blk_drew ?_|refine blk_alloc ?_ _));exact BK184.out) hb);have n1_:=Aside0.mk (below_step (by repeat(first|(with_reducible first|exact HB.out|apply below_alloc|apply pw_below_drewN|apply below_drew1|refine below_set ?_ GE184.out)|exact HB.out)) hb);clear BK184;clear HB;have BK184:=n0_;have HB:=n1_;clear n0_ n1_;(try clear hb);(try clear hb2);(try clear hk);(try clear hi);have hcz9_0:w8.cell? ⟨gb184,0,none⟩=some (.int .i64 a0_0):=(blk_cell BK184.out 0).trans rfl;have hcz9_1:w8.cell? ⟨gb184,1,none⟩=some (.bool a0_1):=(blk_cell BK184.out 1).trans rfl;have hcz9_2:w8.cell? ⟨gb184,2,none⟩=some (.slice A0_2 l0_2.length c0_2):=(blk_cell BK184.out 2).trans rfl;have hfz9_0:=blk_frozen BK184.out 0;have hfz9_1:=blk_frozen BK184.out 1;have hfz9_2:=blk_frozen BK184.out 2))
 go_loopg [21] k (fun kq v21 w'=> ∃ (x21_1:Int),v21= .int .i64 x21_1∧Aside0 (static_Asked.l0 kq l1 (l1.length:Int) x21_1 a0_0 a0_1 l0_2=some r)∧Aside0 (kq≤k)∧Aside0 (w'.heap[gb184]? =some (.cells #[.int .i64 a0_0, .bool a0_1,(.slice A0_2 l0_2.length c0_2)] 24 (0,0)))∧Aside0 (Below w.heap.size w w'))
 case atStart=>exact⟨(0),(by first|rfl|(simp;done)|(simp[*];done)),H',⟨Nat.le_refl _⟩,⟨by(with_reducible repeat(first|refine blk_drewN ?_ _|refine blk_drew ?_|refine blk_alloc ?_ _));exact BK184.out⟩,⟨by repeat(first|(with_reducible first|exact HB.out|apply below_alloc|apply pw_below_drewN|apply below_drew1|refine below_set ?_ GE184.out)|exact HB.out)⟩⟩
 case round=>
  clear H'
  try clear c1
  try clear p2
  try clear c4
  try clear c4b0
  try clear c4b1
  try clear c5
  try clear c5b0
  try clear c5b1
  try clear c5b2
  try clear c9
  try clear hcz7_0
  try clear hcz7_1
  try clear hcz7_2
  try clear hcz9_0
  try clear hcz9_1
  try clear hcz9_2
  try clear hfz7_0
  try clear hfz7_1
  try clear hfz7_2
  try clear hfz9_0
  try clear hfz9_1
  try clear hfz9_2
  obtain⟨x21_1,rfl,HA,HK1,BK184,HB⟩:=hrel
  cases gk with
  |zero=>exact absurd HA.out (by simp[static_Asked.l0])
  |succ k1=>
   have H:=HA.out
   clear HA
   simp only[static_Asked.l0] at H
   by_cases c10:x21_1<(l1.length:Int)
   rotate_left
   ·rw[if_neg c10] at H
    have c10b0:decide (x21_1<(l1.length:Int))=false:=decide_eq_false c10
    clear c10
    obtain rfl:=Option.some.inj H
    go_wp2
    go_ret
    exact⟨by first|rfl|(simp[errW_none,errW_some]<;>rfl)|(simp[*,errW_none,errW_some]<;>rfl),by repeat(first|(with_reducible first|exact HB.out|apply below_alloc|apply pw_below_drewN|apply below_drew1|refine below_set ?_ GE184.out)|exact HB.out)⟩
   rw[if_pos c10] at H
   have c10b0:decide (x21_1<(l1.length:Int))=true:=decide_eq_true c10
   clear c10
   by_cases c11:0≤x21_1
   rotate_left
   ·rw[if_neg c11] at H
    exact absurd H (by simp)
   rw[if_pos c11] at H
   have c11b0:decide (0≤x21_1)=true:=decide_eq_true c11
   clear c11
   by_cases c12:x21_1<(l1.length:Int)
   rotate_left
   ·rw[if_neg c12] at H
    exact absurd H (by simp)
   rw[if_pos c12] at H
   have c12b0:decide (x21_1<(l1.length:Int))=true:=decide_eq_true c12
   clear c12
   by_cases c13:(rd l1 x21_1)<0
   ·rw[if_pos c13] at H
    have c13b0:decide ((rd l1 x21_1)<0)=true:=decide_eq_true c13
    clear c13
    obtain rfl:=Option.some.inj H
    have p186:0≤(x21_1:Int):=of_decide_eq_true (by first|(with_reducible assumption)|assumption)
    have q186:x21_1<(l1.length:Int):=of_decide_eq_true (by first|(with_reducible assumption)|assumption)
    obtain⟨ad186,e186,hx186_0⟩:=Kd.at_int HR1.out x21_1 p186 q186
    cases e186
    replace hx186_0:=(HB.out.cell (World.block_lt_of_cell? w _ hx186_0)).trans hx186_0
    replace p186:=eq_true p186
    replace q186:=eq_true q186
    go_wp2
    go_ret
    exact⟨by first|rfl|(simp[errW_none,errW_some]<;>rfl)|(simp[*,errW_none,errW_some]<;>rfl),by repeat(first|(with_reducible first|exact HB.out|apply below_alloc|apply pw_below_drewN|apply below_drew1|refine below_set ?_ GE184.out)|exact HB.out)⟩
   rw[if_neg c13] at H
   have c13b0:decide ((rd l1 x21_1)<0)=false:=decide_eq_false c13
   clear c13
   by_cases c14:x21_1<(l0_2.length:Int)
   rotate_left
   ·rw[if_neg c14] at H
    exact absurd H (by simp)
   rw[if_pos c14] at H
   have c14b0:decide (x21_1<(l0_2.length:Int))=true:=decide_eq_true c14
   clear c14
   by_cases c15:(rd l1 x21_1)>((rd_T74 l0_2 x21_1).f2)
   ·rw[if_pos c15] at H
    have c15b0:decide (((rd_T74 l0_2 x21_1).f2)<(rd l1 x21_1))=true:=decide_eq_true c15
    clear c15
    obtain rfl:=Option.some.inj H
    have p186:0≤(x21_1:Int):=of_decide_eq_true (by first|(with_reducible assumption)|assumption)
    have q186:x21_1<(l1.length:Int):=of_decide_eq_true (by first|(with_reducible assumption)|assumption)
    obtain⟨ad186,e186,hx186_0⟩:=Kd.at_int HR1.out x21_1 p186 q186
    cases e186
    replace hx186_0:=(HB.out.cell (World.block_lt_of_cell? w _ hx186_0)).trans hx186_0
    replace p186:=eq_true p186
    replace q186:=eq_true q186
    have hcz16_0:wr.cell? ⟨gb184,0,none⟩=some (.int .i64 a0_0):=(blk_cell BK184.out 0).trans rfl
    have hcz16_1:wr.cell? ⟨gb184,1,none⟩=some (.bool a0_1):=(blk_cell BK184.out 1).trans rfl
    have hcz16_2:wr.cell? ⟨gb184,2,none⟩=some (.slice A0_2 l0_2.length c0_2):=(blk_cell BK184.out 2).trans rfl
    have hfz16_0:=blk_frozen BK184.out 0
    have hfz16_1:=blk_frozen BK184.out 1
    have hfz16_2:=blk_frozen BK184.out 2
    have p187:0≤(x21_1:Int):=of_decide_eq_true (by first|(with_reducible assumption)|assumption)
    have q187:x21_1<(l0_2.length:Int):=of_decide_eq_true (by first|(with_reducible assumption)|assumption)
    obtain⟨ad187,e187,hx187_0,hx187_1,hx187_2,hx187_3⟩:=at_T74 HR0_2.out x21_1 p187 q187
    cases e187
    replace hx187_0:=(HB.out.cell (World.block_lt_of_cell? w _ hx187_0)).trans hx187_0
    replace hx187_1:=(HB.out.cell (World.block_lt_of_cell? w _ hx187_1)).trans hx187_1
    replace hx187_2:=(HB.out.cell (World.block_lt_of_cell? w _ hx187_2)).trans hx187_2
    replace hx187_3:=(HB.out.cell (World.block_lt_of_cell? w _ hx187_3)).trans hx187_3
    replace p187:=eq_true p187
    replace q187:=eq_true q187
    go_wp2
    go_ret
    exact⟨by first|rfl|(simp[errW_none,errW_some]<;>rfl)|(simp[*,errW_none,errW_some]<;>rfl),by repeat(first|(with_reducible first|exact HB.out|apply below_alloc|apply pw_below_drewN|apply below_drew1|refine below_set ?_ GE184.out)|exact HB.out)⟩
   rw[if_neg c15] at H
   have c15b0:decide (((rd_T74 l0_2 x21_1).f2)<(rd l1 x21_1))=false:=decide_eq_false c15
   clear c15
   have H':=Aside0.mk H
   clear H
   have p186:0≤(x21_1:Int):=of_decide_eq_true (by first|(with_reducible assumption)|assumption)
   have q186:x21_1<(l1.length:Int):=of_decide_eq_true (by first|(with_reducible assumption)|assumption)
   obtain⟨ad186,e186,hx186_0⟩:=Kd.at_int HR1.out x21_1 p186 q186
   cases e186
   replace hx186_0:=(HB.out.cell (World.block_lt_of_cell? w _ hx186_0)).trans hx186_0
   replace p186:=eq_true p186
   replace q186:=eq_true q186
   have hcz17_0:wr.cell? ⟨gb184,0,none⟩=some (.int .i64 a0_0):=(blk_cell BK184.out 0).trans rfl
   have hcz17_1:wr.cell? ⟨gb184,1,none⟩=some (.bool a0_1):=(blk_cell BK184.out 1).trans rfl
   have hcz17_2:wr.cell? ⟨gb184,2,none⟩=some (.slice A0_2 l0_2.length c0_2):=(blk_cell BK184.out 2).trans rfl
   have hfz17_0:=blk_frozen BK184.out 0
   have hfz17_1:=blk_frozen BK184.out 1
   have hfz17_2:=blk_frozen BK184.out 2
   have p187:0≤(x21_1:Int):=of_decide_eq_true (by first|(with_reducible assumption)|assumption)
   have q187:x21_1<(l0_2.length:Int):=of_decide_eq_true (by first|(with_reducible assumption)|assumption)
   obtain⟨ad187,e187,hx187_0,hx187_1,hx187_2,hx187_3⟩:=at_T74 HR0_2.out x21_1 p187 q187
   cases e187
   replace hx187_0:=(HB.out.cell (World.block_lt_of_cell? w _ hx187_0)).trans hx187_0
   replace hx187_1:=(HB.out.cell (World.block_lt_of_cell? w _ hx187_1)).trans hx187_1
   replace hx187_2:=(HB.out.cell (World.block_lt_of_cell? w _ hx187_2)).trans hx187_2
   replace hx187_3:=(HB.out.cell (World.block_lt_of_cell? w _ hx187_3)).trans hx187_3
   replace p187:=eq_true p187
   replace q187:=eq_true q187
   go_wp2
   go_roundg k1
   case measure=>have:=HK1.out;omega
   case rel=>exact⟨(wrap64 (x21_1+1)),(by first|rfl|(simp;done)|(simp[*];done)),H',⟨by have:=HK1.out;omega⟩,⟨by(with_reducible repeat(first|refine blk_drewN ?_ _|refine blk_drew ?_|refine blk_alloc ?_ _));exact BK184.out⟩,⟨by repeat(first|(with_reducible first|exact HB.out|apply below_alloc|apply pw_below_drewN|apply below_drew1|refine below_set ?_ GE184.out)|exact HB.out)⟩⟩
end Go.Proofs.Ytkcpanpdipmmmaa.P
namespace Go.Proofs.Ytkcpanpdipmmmaa.P
open Go.RowKit Go.Proofs.YtkcpanpdipmmmaaW.PrintWords Go.Proofs.YtkcpanpdipmmmaaW.PrintLast Go.Proofs.YtkcpanpdipmmmaaW.PrintMore
attribute [local go_sem] max2_int min2_int max_two min_two max_three min_three max_four min_four
def ebbtideref06_Node.f (a0_0:Int) (a0_1:Bool) (l0_2:List (S74)) (a1:Int):Option (Bool):=if a1≥0 then(some (decide (a1<a0_0))) else(some false)
set_option maxHeartbeats 8000000 in
set_option maxRecDepth 100000 in
theorem ebbtideref06_Node.calls (a0_0:Int) (a0_1:Bool) (A0_2:Option Addr) (c0_2:Nat) (l0_2:List (S74)) (a1:Int) (r:Bool) (w:World) (hr0_2:Kd.C k74 w A0_2 l0_2.length l0_2) (hc0_2:l0_2.length≤c0_2) (h:ebbtideref06_Node.f a0_0 a0_1 l0_2 a1=some r):
  Calls Try.prog 99 #[.agg #[.int .i64 a0_0, .bool a0_1, .slice A0_2 l0_2.length c0_2], .int .i64 a1] w fun e w'=>e= .returned (.bool r)∧Below w.heap.size w w':=by
 have hu24:=Try.underlying24
 have HR0_2:=Aside0.mk hr0_2
 have HC0_2:=Aside0.mk hc0_2
 clear hr0_2 hc0_2
 have HB:=Aside0.mk (Below.refl w.heap.size w)
 have H:(if a1≥0 then(some (decide (a1<a0_0))) else(some false))=some r:=h
 clear h
 by_cases c3:a1≥0
 rotate_left
 ·rw[if_neg c3] at H
  have c3b0:decide (0≤a1)=false:=decide_eq_false c3
  clear c3
  obtain rfl:=Option.some.inj H
  go_enter Try.func99,Try.ntmps99
  go_wp2_with (first|((with_reducible refine gate_dst (N:=2) rfl ?_);refine box_event ?hg (N:=2) ?hd (cs:= #[.int .i64 a0_0, .bool a0_1, .slice A0_2 l0_2.length c0_2]) (t:=24) ?hr ?_;(case hd=>rfl);(case hg=>rfl);(case hr=>first|(go_simp;done)|(go_simp;rfl));intro gb166 hg w6 hbox hb;have n0_:=Aside0.mk (below_step (by repeat(first|(with_reducible first|exact HB.out|apply below_alloc|apply pw_below_drewN|apply below_drew1)|exact HB.out)) hb);have n1_:=Aside0.mk (hbox);have n2_:=Aside0.mk ((by rw[hg];exact(below_size (by repeat(first|(with_reducible first|exact HB.out|apply below_alloc|apply pw_below_drewN|apply below_drew1)|exact HB.out))):w.heap.size≤gb166));have n3_:=Aside0.mk ((by rw[hg];exact(below_size (by repeat(first|(with_reducible first|exact HB.out|apply below_alloc|apply pw_below_drewN|apply below_drew1)|exact HB.out))):w.heap.size≤gb166));clear HB;have HB:=n0_;have BK166:=n1_;have GW166:=n2_;have GE166:=n3_;clear n0_ n1_ n2_ n3_;clear hb hbox hg))
  go_ret
  exact⟨by first|rfl|(simp[errW_none,errW_some]<;>rfl)|(simp[*,errW_none,errW_some]<;>rfl),by repeat(first|(with_reducible first|exact HB.out|apply below_alloc|apply pw_below_drewN|apply below_drew1|refine below_set ?_ GE166.out)|exact HB.out)⟩
 rw[if_pos c3] at H
 have c3b0:decide (0≤a1)=true:=decide_eq_true c3
 clear c3
 obtain rfl:=Option.some.inj H
 go_enter Try.func99,Try.ntmps99
 go_wp2_with (first|((with_reducible refine gate_dst (N:=2) rfl ?_);refine box_event ?hg (N:=2) ?hd (cs:= #[.int .i64 a0_0, .bool a0_1, .slice A0_2 l0_2.length c0_2]) (t:=24) ?hr ?_;(case hd=>rfl);(case hg=>rfl);(case hr=>first|(go_simp;done)|(go_simp;rfl));intro gb166 hg w4 hbox hb;have n0_:=Aside0.mk (below_step (by repeat(first|(with_reducible first|exact HB.out|apply below_alloc|apply pw_below_drewN|apply below_drew1)|exact HB.out)) hb);have n1_:=Aside0.mk (hbox);have n2_:=Aside0.mk ((by rw[hg];exact(below_size (by repeat(first|(with_reducible first|exact HB.out|apply below_alloc|apply pw_below_drewN|apply below_drew1)|exact HB.out))):w.heap.size≤gb166));have n3_:=Aside0.mk ((by rw[hg];exact(below_size (by repeat(first|(with_reducible first|exact HB.out|apply below_alloc|apply pw_below_drewN|apply below_drew1)|exact HB.out))):w.heap.size≤gb166));clear HB;have HB:=n0_;have BK166:=n1_;have GW166:=n2_;have GE166:=n3_;clear n0_ n1_ n2_ n3_;clear hb hbox hg;have hcz5_0:w4.cell? ⟨gb166,0,none⟩=some (.int .i64 a0_0):=(blk_cell BK166.out 0).trans rfl;have hcz5_1:w4.cell? ⟨gb166,1,none⟩=some (.bool a0_1):=(blk_cell BK166.out 1).trans rfl;have hcz5_2:w4.cell? ⟨gb166,2,none⟩=some (.slice A0_2 l0_2.length c0_2):=(blk_cell BK166.out 2).trans rfl;have hfz5_0:=blk_frozen BK166.out 0;have hfz5_1:=blk_frozen BK166.out 1;have hfz5_2:=blk_frozen BK166.out 2))
 go_ret
 exact⟨by first|rfl|(simp[errW_none,errW_some]<;>rfl)|(simp[*,errW_none,errW_some]<;>rfl),by repeat(first|(with_reducible first|exact HB.out|apply below_alloc|apply pw_below_drewN|apply below_drew1|refine below_set ?_ GE166.out)|exact HB.out)⟩
end Go.Proofs.Ytkcpanpdipmmmaa.P
namespace Go.Proofs.Ytkcpanpdipmmmaa.P
open Go.RowKit Go.Proofs.YtkcpanpdipmmmaaW.PrintWords Go.Proofs.YtkcpanpdipmmmaaW.PrintLast Go.Proofs.YtkcpanpdipmmmaaW.PrintMore
attribute [local go_sem] max2_int min2_int max_two min_two max_three min_three max_four min_four
def ebbtideref07_Asked.f (k:Nat) (a0_0:Int) (a0_1:Bool) (l0_2:List (S74)) (l1:List Int):Option (Int):=(ebbtideref05_Check.f k a0_0 a0_1 l0_2).bind fun t164=>(if t164=0 then((ebbtideref07_Within.f k a0_0 a0_1 l0_2 l1).bind fun t165=>(if t165=true then(some 0) else(some 71))) else(some t164))
set_option maxHeartbeats 8000000 in
set_option maxRecDepth 100000 in
theorem ebbtideref07_Asked.calls (k:Nat) (a0_0:Int) (a0_1:Bool) (A0_2:Option Addr) (c0_2:Nat) (l0_2:List (S74)) (A1:Option Addr) (c1:Nat) (l1:List Int) (r:Int) (w:World) (hr0_2:Kd.C k74 w A0_2 l0_2.length l0_2) (hc0_2:l0_2.length≤c0_2) (hr1:Kd.C (Kd.int .i64) w A1 l1.length l1) (hc1:l1.length≤c1) (h:ebbtideref07_Asked.f k a0_0 a0_1 l0_2 l1=some r):
  Calls Try.prog 98 #[.agg #[.int .i64 a0_0, .bool a0_1, .slice A0_2 l0_2.length c0_2], .slice A1 l1.length c1] w fun e w'=>e= .returned (.int .i64 r)∧Below w.heap.size w w':=by
 have hu24:=Try.underlying24
 have HR0_2:=Aside0.mk hr0_2
 have HC0_2:=Aside0.mk hc0_2
 clear hr0_2 hc0_2
 have HR1:=Aside0.mk hr1
 have HC1:=Aside0.mk hc1
 clear hr1 hc1
 have HB:=Aside0.mk (Below.refl w.heap.size w)
 have H:((ebbtideref05_Check.f k a0_0 a0_1 l0_2).bind fun t164=>(if t164=0 then((ebbtideref07_Within.f k a0_0 a0_1 l0_2 l1).bind fun t165=>(if t165=true then(some 0) else(some 71))) else(some t164)))=some r:=h
 clear h
 replace H:=Option.bind_eq_some_iff.mp H
 obtain⟨t164,A30,H⟩:=H
 replace H:(if t164=0 then((ebbtideref07_Within.f k a0_0 a0_1 l0_2 l1).bind fun t165=>(if t165=true then(some 0) else(some 71))) else(some t164))=some r:=H
 have A3:=Aside0.mk A30
 clear A30
 by_cases c4:t164=0
 rotate_left
 ·rw[if_neg c4] at H
  have c4b0:(t164 == 0)=false:=beq_eq_false_iff_ne.mpr c4
  have c4b1:(t164 != 0)=true:=bne_iff_ne.mpr c4
  obtain rfl:=Option.some.inj H
  go_enter Try.func98,Try.ntmps98
  go_wp2_with (first|((with_reducible refine gate_dst (N:=2) rfl ?_);refine box_event ?hg (N:=2) ?hd (cs:= #[.int .i64 a0_0, .bool a0_1, .slice A0_2 l0_2.length c0_2]) (t:=24) ?hr ?_;(case hd=>rfl);(case hg=>rfl);(case hr=>first|(go_simp;done)|(go_simp;rfl));intro gb163 hg w17 hbox hb;have n0_:=Aside0.mk (below_step (by repeat(first|(with_reducible first|exact HB.out|apply below_alloc|apply pw_below_drewN|apply below_drew1)|exact HB.out)) hb);have n1_:=Aside0.mk (hbox);have n2_:=Aside0.mk ((by rw[hg];exact(below_size (by repeat(first|(with_reducible first|exact HB.out|apply below_alloc|apply pw_below_drewN|apply below_drew1)|exact HB.out))):w.heap.size≤gb163));have n3_:=Aside0.mk ((by rw[hg];exact(below_size (by repeat(first|(with_reducible first|exact HB.out|apply below_alloc|apply pw_below_drewN|apply below_drew1)|exact HB.out))):w.heap.size≤gb163));clear HB;have HB:=n0_;have BK163:=n1_;have GW163:=n2_;have GE163:=n3_;clear n0_ n1_ n2_ n3_;clear hb hbox hg;have hcz18_0:w17.cell? ⟨gb163,0,none⟩=some (.int .i64 a0_0):=(blk_cell BK163.out 0).trans rfl;have hcz18_1:w17.cell? ⟨gb163,1,none⟩=some (.bool a0_1):=(blk_cell BK163.out 1).trans rfl;have hcz18_2:w17.cell? ⟨gb163,2,none⟩=some (.slice A0_2 l0_2.length c0_2):=(blk_cell BK163.out 2).trans rfl;have hfz18_0:=blk_frozen BK163.out 0;have hfz18_1:=blk_frozen BK163.out 1;have hfz18_2:=blk_frozen BK163.out 2)|((with_reducible refine gate_callee (f:=78) rfl ?_);refine goesL_ (some 7) rfl rfl Try.func78 (by kernel_rfl) rfl #[.agg #[.int .i64 a0_0, .bool a0_1, .slice A0_2 l0_2.length c0_2]] rfl (by(try simp only[List.map_toArray,List.map_cons,List.map_nil]);first|done|rfl|(simp only[List.length_drop,List.length_take];rfl)) ?_;(with_reducible refine(ebbtideref05_Check.calls k a0_0 a0_1 _ _ l0_2 t164 _ ?side1 ?side2 A3.out).mono ?_);(case side1=>repeat(first|exact(Kd.C_below HR0_2.out HB.out)|(with_reducible refine Kd.C_alloc ?_ _)|(with_reducible refine Kd.C_drewN ?_ _)|(with_reducible refine Kd.C_drew ?_)));(case side2=>exact HC0_2.out);rintro e w19 ⟨rfl,hb⟩;refine⟨_,rfl,?_⟩;have n0_:=Aside0.mk (blk_below (g:=gb163) (o:= .cells #[.int .i64 a0_0, .bool a0_1, .slice A0_2 l0_2.length c0_2] 24 (0,0)) (by(with_reducible repeat(first|refine blk_drewN ?_ _|refine blk_drew ?_|refine blk_alloc ?_ _));exact BK163.out) hb);have n1_:=Aside0.mk (below_step (by repeat(first|(with_reducible first|exact HB.out|apply below_alloc|apply pw_below_drewN|apply below_drew1|refine below_set ?_ GE163.out)|exact HB.out)) hb);clear BK163;clear HB;have BK163:=n0_;have HB:=n1_;clear n0_ n1_;(try clear hb);(try clear hb2);(try clear hk);(try clear hi)))
  go_ret
  exact⟨by first|rfl|(simp[errW_none,errW_some]<;>rfl)|(simp[*,errW_none,errW_some]<;>rfl),by repeat(first|(with_reducible first|exact HB.out|apply below_alloc|apply pw_below_drewN|apply below_drew1|refine below_set ?_ GE163.out)|exact HB.out)⟩
 rw[if_pos c4] at H
 have c4b0:(t164 == 0)=true:=beq_iff_eq.mpr c4
 have c4b1:(t164 != 0)=false:=bne_eq_false_iff_eq.mpr c4
 clear c4
 replace H:=Option.bind_eq_some_iff.mp H
 obtain⟨t165,A50,H⟩:=H
 replace H:(if t165=true then(some 0) else(some 71))=some r:=H
 have A5:=Aside0.mk A50
 clear A50
 by_cases c6:t165=true
 ·subst c6
  have H1:(some 0)=some r:=by first|(rw[if_pos rfl] at H;exact H)|(rw[if_pos trivial] at H;exact H)
  clear H
  have H:=H1
  clear H1
  obtain rfl:=Option.some.inj H
  go_enter Try.func98,Try.ntmps98
  go_wp2_with (first|((with_reducible refine gate_dst (N:=2) rfl ?_);refine box_event ?hg (N:=2) ?hd (cs:= #[.int .i64 a0_0, .bool a0_1, .slice A0_2 l0_2.length c0_2]) (t:=24) ?hr ?_;(case hd=>rfl);(case hg=>rfl);(case hr=>first|(go_simp;done)|(go_simp;rfl));intro gb163 hg w7 hbox hb;have n0_:=Aside0.mk (below_step (by repeat(first|(with_reducible first|exact HB.out|apply below_alloc|apply pw_below_drewN|apply below_drew1)|exact HB.out)) hb);have n1_:=Aside0.mk (hbox);have n2_:=Aside0.mk ((by rw[hg];exact(below_size (by repeat(first|(with_reducible first|exact HB.out|apply below_alloc|apply pw_below_drewN|apply below_drew1)|exact HB.out))):w.heap.size≤gb163));have n3_:=Aside0.mk ((by rw[hg];exact(below_size (by repeat(first|(with_reducible first|exact HB.out|apply below_alloc|apply pw_below_drewN|apply below_drew1)|exact HB.out))):w.heap.size≤gb163));clear HB;have HB:=n0_;have BK163:=n1_;have GW163:=n2_;have GE163:=n3_;clear n0_ n1_ n2_ n3_;clear hb hbox hg;have hcz8_0:w7.cell? ⟨gb163,0,none⟩=some (.int .i64 a0_0):=(blk_cell BK163.out 0).trans rfl;have hcz8_1:w7.cell? ⟨gb163,1,none⟩=some (.bool a0_1):=(blk_cell BK163.out 1).trans rfl;have hcz8_2:w7.cell? ⟨gb163,2,none⟩=some (.slice A0_2 l0_2.length c0_2):=(blk_cell BK163.out 2).trans rfl;have hfz8_0:=blk_frozen BK163.out 0;have hfz8_1:=blk_frozen BK163.out 1;have hfz8_2:=blk_frozen BK163.out 2)|((with_reducible refine gate_callee (f:=78) rfl ?_);refine goesL_ (some 7) rfl rfl Try.func78 (by kernel_rfl) rfl #[.agg #[.int .i64 a0_0, .bool a0_1, .slice A0_2 l0_2.length c0_2]] rfl (by(try simp only[List.map_toArray,List.map_cons,List.map_nil]);first|done|rfl|(simp only[List.length_drop,List.length_take];rfl)) ?_;(with_reducible refine(ebbtideref05_Check.calls k a0_0 a0_1 _ _ l0_2 t164 _ ?side1 ?side2 A3.out).mono ?_);(case side1=>repeat(first|exact(Kd.C_below HR0_2.out HB.out)|(with_reducible refine Kd.C_alloc ?_ _)|(with_reducible refine Kd.C_drewN ?_ _)|(with_reducible refine Kd.C_drew ?_)));(case side2=>exact HC0_2.out);rintro e w9 ⟨rfl,hb⟩;refine⟨_,rfl,?_⟩;have n0_:=Aside0.mk (blk_below (g:=gb163) (o:= .cells #[.int .i64 a0_0, .bool a0_1, .slice A0_2 l0_2.length c0_2] 24 (0,0)) (by(with_reducible repeat(first|refine blk_drewN ?_ _|refine blk_drew ?_|refine blk_alloc ?_ _));exact BK163.out) hb);have n1_:=Aside0.mk (below_step (by repeat(first|(with_reducible first|exact HB.out|apply below_alloc|apply pw_below_drewN|apply below_drew1|refine below_set ?_ GE163.out)|exact HB.out)) hb);clear BK163;clear HB;have BK163:=n0_;have HB:=n1_;clear n0_ n1_;(try clear hb);(try clear hb2);(try clear hk);(try clear hi);have hcz10_0:w9.cell? ⟨gb163,0,none⟩=some (.int .i64 a0_0):=(blk_cell BK163.out 0).trans rfl;have hcz10_1:w9.cell? ⟨gb163,1,none⟩=some (.bool a0_1):=(blk_cell BK163.out 1).trans rfl;have hcz10_2:w9.cell? ⟨gb163,2,none⟩=some (.slice A0_2 l0_2.length c0_2):=(blk_cell BK163.out 2).trans rfl;have hfz10_0:=blk_frozen BK163.out 0;have hfz10_1:=blk_frozen BK163.out 1;have hfz10_2:=blk_frozen BK163.out 2)|((with_reducible refine gate_callee (f:=102) rfl ?_);refine goesL_ (some 13) rfl rfl Try.func102 (by kernel_rfl) rfl #[.agg #[.int .i64 a0_0, .bool a0_1, .slice A0_2 l0_2.length c0_2], .slice A1 l1.length c1] rfl (by(try simp only[List.map_toArray,List.map_cons,List.map_nil]);first|done|rfl|(simp only[List.length_drop,List.length_take];rfl)) ?_;(with_reducible refine(ebbtideref07_Within.calls k a0_0 a0_1 _ _ l0_2 _ _ l1 true _ ?side1 ?side2 ?side3 ?side4 A5.out).mono ?_);(case side1=>repeat(first|exact(Kd.C_below HR0_2.out HB.out)|(with_reducible refine Kd.C_alloc ?_ _)|(with_reducible refine Kd.C_drewN ?_ _)|(with_reducible refine Kd.C_drew ?_)));(case side2=>exact HC0_2.out);(case side3=>repeat(first|exact(Kd.C_below HR1.out HB.out)|(with_reducible refine Kd.C_alloc ?_ _)|(with_reducible refine Kd.C_drewN ?_ _)|(with_reducible refine Kd.C_drew ?_)));(case side4=>exact HC1.out);rintro e w11 ⟨rfl,hb⟩;refine⟨_,rfl,?_⟩;have n0_:=Aside0.mk (blk_below (g:=gb163) (o:= .cells #[.int .i64 a0_0, .bool a0_1, .slice A0_2 l0_2.length c0_2] 24 (0,0)) (by(with_reducible repeat(first|refine blk_drewN ?_ _|refine blk_drew ?_|refine blk_alloc ?_ _));exact BK163.out) hb);have n1_:=Aside0.mk (below_step (by repeat(first|(with_reducible first|exact HB.out|apply below_alloc|apply pw_below_drewN|apply below_drew1|refine below_set ?_ GE163.out)|exact HB.out)) hb);clear BK163;clear HB;have BK163:=n0_;have HB:=n1_;clear n0_ n1_;(try clear hb);(try clear hb2);(try clear hk);(try clear hi)))
  go_ret
  exact⟨by first|rfl|(simp[errW_none,errW_some]<;>rfl)|(simp[*,errW_none,errW_some]<;>rfl),by repeat(first|(with_reducible first|exact HB.out|apply below_alloc|apply pw_below_drewN|apply below_drew1|refine below_set ?_ GE163.out)|exact HB.out)⟩
 replace c6:=Bool.eq_false_iff.mpr c6
 subst c6
 have H1:(some 71)=some r:=by rw[if_neg (show ¬ (false=true) by decide)] at H;exact H
 clear H
 have H:=H1
 clear H1
 obtain rfl:=Option.some.inj H
 go_enter Try.func98,Try.ntmps98
 go_wp2_with (first|((with_reducible refine gate_dst (N:=2) rfl ?_);refine box_event ?hg (N:=2) ?hd (cs:= #[.int .i64 a0_0, .bool a0_1, .slice A0_2 l0_2.length c0_2]) (t:=24) ?hr ?_;(case hd=>rfl);(case hg=>rfl);(case hr=>first|(go_simp;done)|(go_simp;rfl));intro gb163 hg w12 hbox hb;have n0_:=Aside0.mk (below_step (by repeat(first|(with_reducible first|exact HB.out|apply below_alloc|apply pw_below_drewN|apply below_drew1)|exact HB.out)) hb);have n1_:=Aside0.mk (hbox);have n2_:=Aside0.mk ((by rw[hg];exact(below_size (by repeat(first|(with_reducible first|exact HB.out|apply below_alloc|apply pw_below_drewN|apply below_drew1)|exact HB.out))):w.heap.size≤gb163));have n3_:=Aside0.mk ((by rw[hg];exact(below_size (by repeat(first|(with_reducible first|exact HB.out|apply below_alloc|apply pw_below_drewN|apply below_drew1)|exact HB.out))):w.heap.size≤gb163));clear HB;have HB:=n0_;have BK163:=n1_;have GW163:=n2_;have GE163:=n3_;clear n0_ n1_ n2_ n3_;clear hb hbox hg;have hcz13_0:w12.cell? ⟨gb163,0,none⟩=some (.int .i64 a0_0):=(blk_cell BK163.out 0).trans rfl;have hcz13_1:w12.cell? ⟨gb163,1,none⟩=some (.bool a0_1):=(blk_cell BK163.out 1).trans rfl;have hcz13_2:w12.cell? ⟨gb163,2,none⟩=some (.slice A0_2 l0_2.length c0_2):=(blk_cell BK163.out 2).trans rfl;have hfz13_0:=blk_frozen BK163.out 0;have hfz13_1:=blk_frozen BK163.out 1;have hfz13_2:=blk_frozen BK163.out 2)|((with_reducible refine gate_callee (f:=78) rfl ?_);refine goesL_ (some 7) rfl rfl Try.func78 (by kernel_rfl) rfl #[.agg #[.int .i64 a0_0, .bool a0_1, .slice A0_2 l0_2.length c0_2]] rfl (by(try simp only[List.map_toArray,List.map_cons,List.map_nil]);first|done|rfl|(simp only[List.length_drop,List.length_take];rfl)) ?_;(with_reducible refine(ebbtideref05_Check.calls k a0_0 a0_1 _ _ l0_2 t164 _ ?side1 ?side2 A3.out).mono ?_);(case side1=>repeat(first|exact(Kd.C_below HR0_2.out HB.out)|(with_reducible refine Kd.C_alloc ?_ _)|(with_reducible refine Kd.C_drewN ?_ _)|(with_reducible refine Kd.C_drew ?_)));(case side2=>exact HC0_2.out);rintro e w14 ⟨rfl,hb⟩;refine⟨_,rfl,?_⟩;have n0_:=Aside0.mk (blk_below (g:=gb163) (o:= .cells #[.int .i64 a0_0, .bool a0_1, .slice A0_2 l0_2.length c0_2] 24 (0,0)) (by(with_reducible repeat(first|refine blk_drewN ?_ _|refine blk_drew ?_|refine blk_alloc ?_ _));exact BK163.out) hb);have n1_:=Aside0.mk (below_step (by repeat(first|(with_reducible first|exact HB.out|apply below_alloc|apply pw_below_drewN|apply below_drew1|refine below_set ?_ GE163.out)|exact HB.out)) hb);clear BK163;clear HB;have BK163:=n0_;have HB:=n1_;clear n0_ n1_;(try clear hb);(try clear hb2);(try clear hk);(try clear hi);have hcz15_0:w14.cell? ⟨gb163,0,none⟩=some (.int .i64 a0_0):=(blk_cell BK163.out 0).trans rfl;have hcz15_1:w14.cell? ⟨gb163,1,none⟩=some (.bool a0_1):=(blk_cell BK163.out 1).trans rfl;have hcz15_2:w14.cell? ⟨gb163,2,none⟩=some (.slice A0_2 l0_2.length c0_2):=(blk_cell BK163.out 2).trans rfl;have hfz15_0:=blk_frozen BK163.out 0;have hfz15_1:=blk_frozen BK163.out 1;have hfz15_2:=blk_frozen BK163.out 2)|((with_reducible refine gate_callee (f:=102) rfl ?_);refine goesL_ (some 13) rfl rfl Try.func102 (by kernel_rfl) rfl #[.agg #[.int .i64 a0_0, .bool a0_1, .slice A0_2 l0_2.length c0_2], .slice A1 l1.length c1] rfl (by(try simp only[List.map_toArray,List.map_cons,List.map_nil]);first|done|rfl|(simp only[List.length_drop,List.length_take];rfl)) ?_;(with_reducible refine(ebbtideref07_Within.calls k a0_0 a0_1 _ _ l0_2 _ _ l1 false _ ?side1 ?side2 ?side3 ?side4 A5.out).mono ?_);(case side1=>repeat(first|exact(Kd.C_below HR0_2.out HB.out)|(with_reducible refine Kd.C_alloc ?_ _)|(with_reducible refine Kd.C_drewN ?_ _)|(with_reducible refine Kd.C_drew ?_)));(case side2=>exact HC0_2.out);(case side3=>repeat(first|exact(Kd.C_below HR1.out HB.out)|(with_reducible refine Kd.C_alloc ?_ _)|(with_reducible refine Kd.C_drewN ?_ _)|(with_reducible refine Kd.C_drew ?_)));(case side4=>exact HC1.out);rintro e w16 ⟨rfl,hb⟩;refine⟨_,rfl,?_⟩;have n0_:=Aside0.mk (blk_below (g:=gb163) (o:= .cells #[.int .i64 a0_0, .bool a0_1, .slice A0_2 l0_2.length c0_2] 24 (0,0)) (by(with_reducible repeat(first|refine blk_drewN ?_ _|refine blk_drew ?_|refine blk_alloc ?_ _));exact BK163.out) hb);have n1_:=Aside0.mk (below_step (by repeat(first|(with_reducible first|exact HB.out|apply below_alloc|apply pw_below_drewN|apply below_drew1|refine below_set ?_ GE163.out)|exact HB.out)) hb);clear BK163;clear HB;have BK163:=n0_;have HB:=n1_;clear n0_ n1_;(try clear hb);(try clear hb2);(try clear hk);(try clear hi)))
 go_ret
 exact⟨by first|rfl|(simp[errW_none,errW_some]<;>rfl)|(simp[*,errW_none,errW_some]<;>rfl),by repeat(first|(with_reducible first|exact HB.out|apply below_alloc|apply pw_below_drewN|apply below_drew1|refine below_set ?_ GE163.out)|exact HB.out)⟩
end Go.Proofs.Ytkcpanpdipmmmaa.P
namespace Go.Proofs.Ytkcpanpdipmmmaa.Q
open Go.RowKit Go.Proofs.YtkcpanpdipmmmaaW.PrintWords Go.Proofs.YtkcpanpdipmmmaaW.PrintLast Go.Proofs.YtkcpanpdipmmmaaW.PrintMore Go.Proofs.Ytkcpanpdipmmmaa.P
def flowB:List S74→List Int→Bool
 |[],[]=>true
 |a::l,x::f=>if x<0 then false else if x>a.f2 then false else flowB l f
 |_,_=>false
def askErr (n:Int) (l:List S74) (f:List Int):Int:=if netErr n l=0 then(if flowB l f=true then 0 else 71) else netErr n l
structure FlowOk (l:List S74) (f:List Int):Prop where
 len:f.length=l.length
 at_: ∀ i:Nat,i<f.length→0≤rd f i∧rd f i≤(rd_T74 l i).f2
theorem rdArc_nat (l:List S74) (i:Nat):rd_T74 l (i:Int)=l.getD i z74:=by unfold rd_T74;rw[Int.toNat_natCast]
theorem flowB_len: ∀ {l:List S74} {f:List Int},flowB l f=true→f.length=l.length
 |[],[],_=>rfl
 |[],_::_,h=>by simp[flowB] at h
 |_::_,[],h=>by simp[flowB] at h
 |a::l,x::f,h=>by
  unfold flowB at h
  split at h
  ·cases h
  ·split at h
   ·cases h
   ·simp[flowB_len h]
theorem flowB_ok: ∀ {l:List S74} {f:List Int},flowB l f=true→ ∀ i:Nat,i<f.length→0≤f.getD i 0∧f.getD i 0≤(l.getD i z74).f2
 |[],[],_,i,hi=>by simp at hi
 |[],_::_,h,_,_=>by simp[flowB] at h
 |_::_,[],h,_,_=>by simp[flowB] at h
 |a::l,x::f,h,i,hi=>by
  unfold flowB at h
  split at h
  ·cases h
  ·split at h
   ·cases h
   ·cases i with
    |zero=>simp;omega
    |succ i=>simpa using flowB_ok h i (by simpa using hi)
theorem flow_ok {l:List S74} {f:List Int} (h:flowB l f=true):FlowOk l f:=
 ⟨flowB_len h,fun i hi=>by rw[rd_nat,rdArc_nat];exact flowB_ok h i hi⟩
theorem flow_mk: ∀ {l:List S74} {f:List Int},f.length=l.length→(∀ i:Nat,i<f.length→0≤f.getD i 0∧f.getD i 0≤(l.getD i z74).f2)→flowB l f=true
 |[],[],_,_=>rfl
 |[],_::_,h,_=>by simp at h
 |_::_,[],h,_=>by simp at h
 |a::l,x::f,h,hf=>by
  have h0:=hf 0 (by simp)
  simp at h0
  unfold flowB
  rw[if_neg (by omega),if_neg (by omega)]
  exact flow_mk (by simpa using h) (fun i hi=>by simpa using hf (i+1) (by simpa using hi))
theorem FlowOk.b {l:List S74} {f:List Int} (h:FlowOk l f):flowB l f=true:=
 flow_mk h.len fun i hi=>by have:=h.at_ i hi;rwa [rd_nat,rdArc_nat] at this
theorem FlowOk.int {l:List S74} {f:List Int} (h:FlowOk l f) {i:Int} (h0:0≤i) (h1:i<f.length):0≤rd f i∧rd f i≤(rd_T74 l i).f2:=by
 obtain⟨j,rfl⟩:=Int.eq_ofNat_of_zero_le h0
 exact h.at_ j (by omega)
theorem FlowOk.small {n:Int} {l:List S74} {f:List Int} (h:FlowOk l f) (hn:NetOk n l) {i:Int} (h0:0≤i) (h1:i<f.length):0≤rd f i∧rd f i≤1048576:=by
 have h2:=h.int h0 h1
 have h3:=(hn.at_ h0 (by rw[← h.len];exact h1)).h2
 omega
theorem askErr_ok {n:Int} {l:List S74} {f:List Int} (h:askErr n l f=0):NetOk n l∧FlowOk l f:=by
 unfold askErr at h
 split at h
 ·split at h
  ·exact⟨netErr_ok (by assumption),flow_ok (by assumption)⟩
  ·omega
 ·exact absurd h (by assumption)
theorem ask_of {n:Int} {l:List S74} {f:List Int} (h:NetOk n l) (hf:FlowOk l f):askErr n l f=0:=by
 unfold askErr
 rw[if_pos (netOk_err h),if_pos hf.b]
theorem asked_l0 (l:List S74) (f:List Int) (n:Int) (b:Bool) (hl:l.length≤200) (hf:f.length=l.length) (d:Nat): ∀ i:Nat,i+d=l.length→
  Ev (fun k=>static_Asked.l0 k f (f.length:Int) (i:Int) n b l) (if flowB (l.drop i) (f.drop i)=true then 0 else 71):=by
 induction d with
 |zero=>
  intro i hi
  refine Ev.succ ?_;simp only[static_Asked.l0]
  repeat(first|exact Ev.now _|with_reducible refine Ev.pos (by first|assumption|omega) ?_|with_reducible refine Ev.neg (by first|assumption|omega) ?_|with_reducible refine Ev.let_ ?_)
  rw[List.drop_of_length_le (by omega),List.drop_of_length_le (by omega)]
  exact Ev.now _
 |succ d ih=>
  intro i hi
  refine Ev.succ ?_;simp only[static_Asked.l0]
  repeat(first|exact Ev.now _|with_reducible refine Ev.pos (by first|assumption|omega) ?_|with_reducible refine Ev.neg (by first|assumption|omega) ?_|with_reducible refine Ev.let_ ?_)
  rw[drop_getD l i z74 (by omega),drop_getD f i 0 (by omega),rdArc_nat,rd_nat]
  unfold flowB
  refine Ev.ite (fun h=> ?_) (fun h=> ?_)
  ·rw[if_pos h]
   exact Ev.now _
  ·rw[if_neg h]
   repeat(first|exact Ev.now _|with_reducible refine Ev.pos (by first|assumption|omega) ?_|with_reducible refine Ev.neg (by first|assumption|omega) ?_|with_reducible refine Ev.let_ ?_)
   refine Ev.ite (fun g=> ?_) (fun g=> ?_)
   ·rw[if_pos g]
    exact Ev.now _
   ·rw[if_neg g,wrap_succ (n:=l.length) (by omega) (by omega)]
    exact ih (i+1) (by omega)
theorem flowB_ne {l:List S74} {f:List Int} (h: ¬ ((f.length:Int)=(l.length:Int))): ¬ flowB l f=true:=fun g=>h (by rw[flowB_len g])
theorem asked_ev (n:Int) (b:Bool) (l:List S74) (f:List Int):Ev (fun k=>static_Asked.f k n b l f) (askErr n l f):=by
 unfold static_Asked.f askErr
 refine Ev.bind (check_ev n b l) ?_
 refine Ev.ite (fun h=> ?_) (fun h=> ?_)
 ·rw[if_pos h]
  have hn:=netErr_ok h
  refine Ev.ite (fun g=> ?_) (fun g=> ?_)
  ·exact asked_l0 l f n b hn.len (by omega) l.length 0 (by omega)
  ·rw[if_neg (flowB_ne g)]
   exact Ev.now _
 ·rw[if_neg h]
  exact Ev.now _
theorem within_l0 (l:List S74) (f:List Int) (n:Int) (b:Bool) (hl:l.length≤200) (hf:f.length=l.length) (d:Nat): ∀ i:Nat,i+d=l.length→
  Ev (fun k=>ebbtideref07_Within.l0 k f (i:Int) n b l) (flowB (l.drop i) (f.drop i)):=by
 induction d with
 |zero=>
  intro i hi
  refine Ev.succ ?_;simp only[ebbtideref07_Within.l0]
  repeat(first|exact Ev.now _|with_reducible refine Ev.pos (by first|assumption|omega) ?_|with_reducible refine Ev.neg (by first|assumption|omega) ?_|with_reducible refine Ev.let_ ?_)
  rw[List.drop_of_length_le (by omega),List.drop_of_length_le (by omega)]
  exact Ev.now _
 |succ d ih=>
  intro i hi
  refine Ev.succ ?_;simp only[ebbtideref07_Within.l0]
  repeat(first|exact Ev.now _|with_reducible refine Ev.pos (by first|assumption|omega) ?_|with_reducible refine Ev.neg (by first|assumption|omega) ?_|with_reducible refine Ev.let_ ?_)
  rw[drop_getD l i z74 (by omega),drop_getD f i 0 (by omega),rdArc_nat,rd_nat]
  unfold flowB
  refine Ev.ite (fun h=> ?_) (fun h=> ?_)
  ·rw[if_pos h]
   exact Ev.now _
  ·rw[if_neg h]
   repeat(first|exact Ev.now _|with_reducible refine Ev.pos (by first|assumption|omega) ?_|with_reducible refine Ev.neg (by first|assumption|omega) ?_|with_reducible refine Ev.let_ ?_)
   refine Ev.ite (fun g=> ?_) (fun g=> ?_)
   ·rw[if_pos g]
    exact Ev.now _
   ·rw[if_neg g,wrap_succ (n:=l.length) (by omega) (by omega)]
    exact ih (i+1) (by omega)
theorem within_ev (n:Int) (b:Bool) (l:List S74) (f:List Int) (hl:l.length≤200):Ev (fun k=>ebbtideref07_Within.f k n b l f) (flowB l f):=by
 unfold ebbtideref07_Within.f
 refine Ev.ite (fun g=> ?_) (fun g=> ?_)
 ·exact within_l0 l f n b hl (by omega) l.length 0 (by omega)
 ·rw[Bool.eq_false_iff.2 (flowB_ne g)]
  exact Ev.now _
theorem ref_asked_ev (n:Int) (b:Bool) (l:List S74) (f:List Int):Ev (fun k=>ebbtideref07_Asked.f k n b l f) (askErr n l f):=by
 unfold ebbtideref07_Asked.f askErr
 refine Ev.bind (ref_check_ev n b l) ?_
 refine Ev.ite (fun h=> ?_) (fun h=> ?_)
 ·rw[if_pos h]
  refine Ev.bind (within_ev n b l f (netErr_ok h).len) ?_
  refine Ev.ite (fun g=> ?_) (fun g=> ?_)
  ·rw[if_pos g];exact Ev.now _
  ·rw[if_neg g];exact Ev.now _
 ·rw[if_neg h]
  exact Ev.now _
theorem node_eq (n:Int) (b:Bool) (l:List S74) (v:Int):ebbtideref06_Node.f n b l v=some (decide (0≤v∧v<n)):=by
 unfold ebbtideref06_Node.f
 split
 ·rename_i h
  congr 1
  by_cases g:v<n<;>simp[g]<;>omega
 ·rename_i h
  congr 1
  symm
  exact decide_eq_false (by omega)
end Go.Proofs.Ytkcpanpdipmmmaa.Q
namespace Go.Proofs.Ytkcpanpdipmmmaa.Q
open Go.RowKit Go.Proofs.YtkcpanpdipmmmaaW.PrintWords Go.Proofs.YtkcpanpdipmmmaaW.PrintLast Go.Proofs.YtkcpanpdipmmmaaW.PrintMore Go.Proofs.Ytkcpanpdipmmmaa.P
def bal:List S74→List Int→Int→Int
 |a::l,x::f,v=>(if a.f0=v then x else 0) - (if a.f1=v then x else 0)+bal l f v
 |_,_,_=>0
theorem bal_cons (a:S74) (l:List S74) (x:Int) (f:List Int) (v:Int):bal (a::l) (x::f) v=(if a.f0=v then x else 0) - (if a.f1=v then x else 0)+bal l f v:=rfl
def balOf (n:Int) (l:List S74) (f:List Int):List Int:=(List.range n.toNat).map fun v:Nat=>bal l f v
theorem balOf_len (n:Int) (l:List S74) (f:List Int):(balOf n l f).length=n.toNat:=by simp[balOf]
theorem rd_balOf {n:Int} {l:List S74} {f:List Int} {v:Int} (h0:0≤v) (h1:v<n):rd (balOf n l f) v=bal l f v:=by
 obtain⟨j,rfl⟩:=Int.eq_ofNat_of_zero_le h0
 have hj:j<n.toNat:=by omega
 rw[rd_nat,balOf,List.getD_eq_getElem?_getD]
 simp[hj]
def balRes (n:Int) (l:List S74) (f:List Int):List Int × Int:=if askErr n l f=0 then(balOf n l f,0) else([],askErr n l f)
theorem leaves_l0 (n m:Int) (b:Bool) (l:List S74) (f:List Int) (hn:NetOk m l) (hf:FlowOk l f) (v:Int) (d:Nat): ∀ (i:Nat) (acc:Int),i+d=l.length→ -(i * 2097152)≤acc→acc≤i * 2097152→
  Ev (fun k=>ebbtideref07_Leaves.l0 k f v acc (i:Int) n b l) (acc+bal (l.drop i) (f.drop i) v):=by
 have hlen:=hf.len
 have hl:=hn.len
 induction d with
 |zero=>
  intro i acc hi h0 h1
  refine Ev.succ ?_;simp only[ebbtideref07_Leaves.l0]
  repeat(first|exact Ev.now _|with_reducible refine Ev.pos (by first|assumption|omega) ?_|with_reducible refine Ev.neg (by first|assumption|omega) ?_|with_reducible refine Ev.let_ ?_)
  rw[List.drop_of_length_le (by omega)]
  exact Ev.done (by simp[bal])
 |succ d ih=>
  intro i acc hi h0 h1
  have hs:=hf.small hn (i:=(i:Int)) (by omega) (by omega)
  refine Ev.succ ?_;simp only[ebbtideref07_Leaves.l0]
  repeat(first|exact Ev.now _|with_reducible refine Ev.pos (by first|assumption|omega) ?_|with_reducible refine Ev.neg (by first|assumption|omega) ?_|with_reducible refine Ev.let_ ?_)
  rw[wrap_succ (n:=l.length) (by omega) (by omega),drop_getD l i z74 (by omega),drop_getD f i 0 (by omega), ← rdArc_nat, ← rd_nat,bal_cons]
  refine Ev.ite (fun g=> ?_) (fun g=> ?_)
  ·rw[if_pos g]
   refine Ev.ite (fun g2=> ?_) (fun g2=> ?_)
   ·rw[if_pos g2,wrap_id (x:=acc+rd f (i:Int)) (by omega) (by omega),wrap_id (by omega) (by omega)]
    exact Ev.eq (ih (i+1) _ (by omega) (by omega) (by omega)) (by omega)
   ·rw[if_neg g2,wrap_id (x:=acc+rd f (i:Int)) (by omega) (by omega)]
    exact Ev.eq (ih (i+1) _ (by omega) (by omega) (by omega)) (by omega)
  ·rw[if_neg g]
   refine Ev.ite (fun g2=> ?_) (fun g2=> ?_)
   ·rw[if_pos g2,wrap_id (x:=acc - rd f (i:Int)) (by omega) (by omega)]
    exact Ev.eq (ih (i+1) _ (by omega) (by omega) (by omega)) (by omega)
   ·rw[if_neg g2]
    exact Ev.eq (ih (i+1) _ (by omega) (by omega) (by omega)) (by omega)
theorem leaves_ev (n m:Int) (b:Bool) (l:List S74) (f:List Int) (hn:NetOk m l) (hf:FlowOk l f) (v:Int):Ev (fun k=>ebbtideref07_Leaves.f k n b l f v) (bal l f v):=by
 unfold ebbtideref07_Leaves.f
 exact Ev.eq (leaves_l0 n m b l f hn hf v l.length 0 0 (by omega) (by omega) (by omega)) (by rw[List.drop_zero,List.drop_zero];omega)
theorem ref_balance_l0 (n:Int) (b:Bool) (l:List S74) (f:List Int) (hn:NetOk n l) (hf:FlowOk l f) (d:Nat): ∀ (i:Nat),i+d=n.toNat→
  Ev (fun k=>ebbtideref07_Balance.l0 k f ((List.range i).map fun v:Nat=>bal l f v) (i:Int) n b l) (balOf n l f,0):=by
 have:=hn.lo
 have:=hn.hi
 induction d with
 |zero=>
  intro i hi
  refine Ev.succ ?_;simp only[ebbtideref07_Balance.l0]
  repeat(first|exact Ev.now _|with_reducible refine Ev.pos (by first|assumption|omega) ?_|with_reducible refine Ev.neg (by first|assumption|omega) ?_|with_reducible refine Ev.let_ ?_)
  exact Ev.done (by unfold balOf;rw[show i=n.toNat by omega])
 |succ d ih=>
  intro i hi
  refine Ev.succ ?_;simp only[ebbtideref07_Balance.l0]
  repeat(first|exact Ev.now _|with_reducible refine Ev.pos (by first|assumption|omega) ?_|with_reducible refine Ev.neg (by first|assumption|omega) ?_|with_reducible refine Ev.let_ ?_)
  refine Ev.bind (leaves_ev n n b l f hn hf i) ?_
  refine Ev.pos (by simp;omega) ?_
  rw[wrap_succ (n:=n.toNat) (by omega) (by omega)]
  have e:((List.range i).map fun v:Nat=>bal l f v) ++ [bal l f (i:Int)]=(List.range (i+1)).map fun v:Nat=>bal l f v:=by simp[List.range_succ]
  rw[e]
  exact ih (i+1) (by omega)
theorem ref_balance_ev (n:Int) (b:Bool) (l:List S74) (f:List Int):Ev (fun k=>ebbtideref07_Balance.f k n b l f) (balRes n l f):=by
 unfold ebbtideref07_Balance.f balRes askErr
 refine Ev.bind (ref_check_ev n b l) ?_
 refine Ev.ite (fun h=> ?_) (fun h=> ?_)
 ·rw[if_pos h]
  have hn:=netErr_ok h
  refine Ev.bind (within_ev n b l f hn.len) ?_
  refine Ev.ite (fun g=> ?_) (fun g=> ?_)
  ·rw[if_pos g,if_pos rfl]
   exact ref_balance_l0 n b l f hn (flow_ok g) n.toNat 0 (by omega)
  ·rw[if_neg g,if_neg (by decide)]
   exact Ev.now _
 ·rw[if_neg h,if_neg h]
  exact Ev.now _
theorem balRes_ok {n:Int} {l:List S74} {f:List Int} (h:askErr n l f=0):balRes n l f=(balOf n l f,0):=by unfold balRes;rw[if_pos h]
theorem balRes_no {n:Int} {l:List S74} {f:List Int} (h: ¬ askErr n l f=0):balRes n l f=([],askErr n l f):=by unfold balRes;rw[if_neg h]
end Go.Proofs.Ytkcpanpdipmmmaa.Q
namespace Go.Proofs.Ytkcpanpdipmmmaa.H
open Go.RowKit Go.Proofs.YtkcpanpdipmmmaaW.PrintWords Go.Proofs.YtkcpanpdipmmmaaW.PrintLast Go.Proofs.YtkcpanpdipmmmaaW.PrintMore Go.Proofs.Ytkcpanpdipmmmaa.P Go.Proofs.Ytkcpanpdipmmmaa.Q
def goS (F:List Int) (s:S38) (k:Int):List Int:=F.set s.f0.toNat (if s.f1 then F.getD s.f0.toNat 0 - k else F.getD s.f0.toNat 0+k)
def pushW (F:List Int) (k:Int) (L:List S38):List Int:=L.foldl (fun F s=>goS F s k) F
theorem goS_len (F:List Int) (s:S38) (k:Int):(goS F s k).length=F.length:=by simp[goS]
theorem stRoom_in {l:List S74} {F:List Int} {n:Nat} (hr:Right l F n) {s:S38} (hs:StepOf l s):0≤stRoom l F s∧stRoom l F s≤1048576:=by
 obtain⟨i,h1,h2⟩:=hs
 have:=hr.nums i h1
 unfold stRoom
 rw[h2,Int.toNat_natCast]
 split<;>omega
theorem Right.go {l:List S74} {F:List Int} {n:Nat} (hr:Right l F n) {s:S38} (hs:StepOf l s) {k:Int} (h0:0≤k) (hk:k≤stRoom l F s):Right l (goS F s k) n:=by
 obtain⟨i,h1,h2⟩:=hs
 have hi:=hr.nums i h1
 have hl:=hr.len
 refine⟨hr.pos,hr.fifty,hr.arcs,by rw[goS_len];exact hl,hr.ends,fun j hj=> ?_⟩
 have h3:=hr.nums j hj
 unfold stRoom at hk
 rw[h2,Int.toNat_natCast] at hk
 unfold goS
 rw[h2,Int.toNat_natCast]
 by_cases e:i=j
 ·subst e
  rw[getD_set_eq _ _ _ _ (by omega)]
  cases hb:s.f1<;>rw[hb] at hk<;>simp only[Bool.false_eq_true,if_false,if_true] at hk ⊢ <;>omega
 ·rw[getD_set_ne _ _ _ _ _ e]
  exact h3
theorem room_other {l:List S74} {F:List Int} {s s':S38} (hs:StepOf l s) (hs':StepOf l s') (k:Int) (h:s.f0≠s'.f0):stRoom l (goS F s k) s'=stRoom l F s':=by
 obtain⟨i,h1,h2⟩:=hs
 obtain⟨j,h3,h4⟩:=hs'
 unfold stRoom goS
 rw[h2,h4,Int.toNat_natCast,Int.toNat_natCast,getD_set_ne _ _ _ _ _ (fun e=>h (by rw[h2,h4,e]))]
theorem Right.pushW {l:List S74} {n:Nat} {k:Int} (h0:0≤k) (L:List S38): ∀ {F:List Int},Right l F n→(∀ s,s∈L→StepOf l s∧k≤stRoom l F s)→L.Pairwise (fun a b=>a.f0≠b.f0)→Right l (H.pushW F k L) n:=by
 induction L with
 |nil=>intro F hr _ _;exact hr
 |cons s L ih=>
  intro F hr h hp
  rw[List.pairwise_cons] at hp
  have hs:=h s List.mem_cons_self
  refine ih (hr.go hs.1 h0 hs.2) (fun x hx=> ?_) hp.2
  have hx2:=h x (List.mem_cons_of_mem _ hx)
  exact⟨hx2.1,by rw[room_other hs.1 hx2.1 k (hp.1 x hx)];exact hx2.2⟩
theorem bal_set (l:List S74) (v:Int): ∀ (f:List Int) (i:Nat) (y:Int),f.length=l.length→i<l.length→
  bal l (f.set i y) v=bal l f v+(if (rd_T74 l i).f0=v then y - f.getD i 0 else 0) - (if (rd_T74 l i).f1=v then y - f.getD i 0 else 0):=by
 induction l with
 |nil=>intro f i y h hi;simp at hi
 |cons a l ih=>
  intro f i y h hi
  cases f with
  |nil=>simp at h
  |cons x f=>
   cases i with
   |zero=>
    have e:rd_T74 (a::l) ((0:Nat):Int)=a:=rfl
    rw[e]
    simp only[List.set_cons_zero,List.getD_cons_zero,bal_cons]
    split<;>split<;>omega
   |succ i=>
    have e:rd_T74 (a::l) ((i+1:Nat):Int)=rd_T74 l (i:Int):=by rw[rdArc_nat,rdArc_nat];rfl
    rw[e]
    simp only[List.set_cons_succ,List.getD_cons_succ,bal_cons]
    rw[ih f i y (by simpa using h) (by simpa using hi)]
    omega
theorem bal_go {l:List S74} {f:List Int} (hl:f.length=l.length) {s:S38} (hs:StepOf l s) (k v:Int):
  bal l (goS f s k) v=bal l f v+(if stFrom l s=v then k else 0) - (if stTo l s=v then k else 0):=by
 obtain⟨i,h1,h2⟩:=hs
 unfold goS stFrom stTo eFrom eTo
 rw[h2,Int.toNat_natCast,bal_set l v f _ _ hl h1]
 cases s.f1
 ·simp only[Bool.false_eq_true,if_false]
  split<;>split<;>omega
 ·simp only[if_true]
  split<;>split<;>omega
def Trail (l:List S74):Int→List S38→Int→Prop
 |a,[],b=>a=b
 |a,s::L,b=>StepOf l s∧stFrom l s=a∧Trail l (stTo l s) L b
theorem Trail.of {l:List S74} : ∀ {L:List S38} {a b:Int},Trail l a L b→ ∀ s,s∈L→StepOf l s
 |[],_,_,_,s,hs=>by cases hs
 |x::L,_,_,h,s,hs=>(List.mem_cons.1 hs).elim (fun e=>e▸h.1) (h.2.2.of s)
theorem bal_pushW {l:List S74} (k v:Int): ∀ {L:List S38} {f:List Int} {a b:Int},f.length=l.length→Trail l a L b→
  bal l (pushW f k L) v=bal l f v+(if v=a then k else 0) - (if v=b then k else 0)
 |[],f,a,b,_,h=>by
  have h:a=b:=h
  subst h
  show bal l f v=_
  omega
 |s::L,f,a,b,hl,h=>by
  obtain⟨hs,rfl,ht⟩:=h
  show bal l (pushW (goS f s k) k L) v=_
  rw[bal_pushW k v (by rw[goS_len,hl]) ht,bal_go hl hs]
  have e1:(if v=stTo l s then k else 0)=(if stTo l s=v then k else 0):=by
   by_cases e:stTo l s=v
   ·rw[if_pos e,if_pos e.symm]
   ·rw[if_neg e,if_neg (Ne.symm e)]
  have e2:(if v=stFrom l s then k else 0)=(if stFrom l s=v then k else 0):=by
   by_cases e:stFrom l s=v
   ·rw[if_pos e,if_pos e.symm]
   ·rw[if_neg e,if_neg (Ne.symm e)]
  rw[e1,e2]
  omega
def leastR (l:List S74) (F:List Int):List S38→Int
 |[]=>0
 |[s]=>stRoom l F s
 |s::t::L=>min (stRoom l F s) (leastR l F (t::L))
theorem leastR_le {l:List S74} {F:List Int} : ∀ {L:List S38} {s:S38},s∈L→leastR l F L≤stRoom l F s
 |[],s,h=>by cases h
 |[x],s,h=>by rw[List.mem_singleton.1 h];exact Int.le_refl _
 |x::y::L,s,h=>by
  unfold leastR
  rcases List.mem_cons.1 h with rfl|h
  ·omega
  ·have:=leastR_le (l:=l) (F:=F) h
   omega
theorem leastR_in {l:List S74} {F:List Int} : ∀ {L:List S38},L≠[]→ ∃ s,s∈L∧leastR l F L=stRoom l F s
 |[],h=>absurd rfl h
 |[x],_=>⟨x,List.mem_cons_self,rfl⟩
 |x::y::L,_=>by
  obtain⟨s,h1,h2⟩:=leastR_in (l:=l) (F:=F) (L:=y::L) (by simp)
  unfold leastR
  by_cases h:stRoom l F x≤leastR l F (y::L)
  ·exact⟨x,List.mem_cons_self,by omega⟩
  ·exact⟨s,List.mem_cons_of_mem _ h1,by omega⟩
end Go.Proofs.Ytkcpanpdipmmmaa.H
namespace Go.Proofs.Ytkcpanpdipmmmaa.H
open Go.RowKit Go.Proofs.YtkcpanpdipmmmaaW.PrintWords Go.Proofs.YtkcpanpdipmmmaaW.PrintLast Go.Proofs.YtkcpanpdipmmmaaW.PrintMore Go.Proofs.Ytkcpanpdipmmmaa.P Go.Proofs.Ytkcpanpdipmmmaa.Q
def outR (R:Int→Bool):List S74→List Int→Int
 |a::l,x::f=>(if R a.f0 then x else 0) - (if R a.f1 then x else 0)+outR R l f
 |_,_=>0
theorem outR_cons (R:Int→Bool) (a:S74) (l:List S74) (x:Int) (f:List Int):outR R (a::l) (x::f)=(if R a.f0 then x else 0) - (if R a.f1 then x else 0)+outR R l f:=rfl
def capR (R:Int→Bool):List S74→Int
 |[]=>0
 |a::l=>(if R a.f0 && !R a.f1 then a.f2 else 0)+capR R l
theorem capR_cons (R:Int→Bool) (a:S74) (l:List S74):capR R (a::l)=(if R a.f0 && !R a.f1 then a.f2 else 0)+capR R l:=rfl
def sumR (R:Int→Bool) (g:Int→Int):Nat→Int
 |0=>0
 |n+1=>sumR R g n+(if R n then g n else 0)
theorem sumR_add (R:Int→Bool) (g h:Int→Int) (n:Nat):sumR R (fun v=>g v+h v) n=sumR R g n+sumR R h n:=by
 induction n with
 |zero=>rfl
 |succ n ih=>unfold sumR;rw[ih];split<;>omega
theorem sumR_one (R:Int→Bool) (a x:Int) (n:Nat) (h0:0≤a) (h1:a<n):sumR R (fun v=>if a=v then x else 0) n=if R a then x else 0:=by
 have aux: ∀ m:Nat,sumR R (fun v=>if a=v then x else 0) m=if a<m then(if R a then x else 0) else 0:=by
  intro m
  induction m with
  |zero=>rw[if_neg (by omega)];rfl
  |succ m ih=>
   unfold sumR
   rw[ih]
   show _+(if R m then(if a=(m:Int) then x else 0) else 0)=_
   by_cases e:a=(m:Int)
   ·subst e
    rw[if_neg (Int.lt_irrefl _),if_pos (show (m:Int)<((m+1:Nat):Int) by omega),if_pos rfl]
    omega
   ·have e2:(if R m then(if a=(m:Int) then x else 0) else 0)=0:=by rw[if_neg e];split<;>rfl
    rw[e2]
    by_cases hm:a<(m:Int)
    ·rw[if_pos hm,if_pos (show a<((m+1:Nat):Int) by omega)]
     omega
    ·rw[if_neg hm,if_neg (show ¬ a<((m+1:Nat):Int) by omega)]
     omega
 rw[aux,if_pos h1]
theorem sumR_zero (R:Int→Bool) (n:Nat):sumR R (fun _=>0) n=0:=by
 induction n with
 |zero=>rfl
 |succ n ih=>unfold sumR;rw[ih];simp
theorem sumR_neg (R:Int→Bool) (g:Int→Int) (n:Nat):sumR R (fun v=> -g v) n= -sumR R g n:=by
 induction n with
 |zero=>rfl
 |succ n ih=>unfold sumR;rw[ih];split<;>omega
theorem sum_bal (R:Int→Bool) (n:Nat): ∀ (l:List S74) (f:List Int),(∀ a,a∈l→(0≤a.f0∧a.f0<n)∧0≤a.f1∧a.f1<n)→f.length=l.length→sumR R (bal l f) n=outR R l f
 |[],[],_,_=>by
  have e:bal ([]:List S74) []=fun _=>0:=rfl
  rw[e,sumR_zero]
  rfl
 |[],_::_,_,h=>by simp at h
 |_::_,[],_,h=>by simp at h
 |a::l,x::f,h,hl=>by
  obtain⟨⟨h1,h2⟩,h3,h4⟩:=h a List.mem_cons_self
  have e:bal (a::l) (x::f)=fun v=>((if a.f0=v then x else 0)+ -(if a.f1=v then x else 0))+bal l f v:=by
   funext v
   rw[bal_cons]
   omega
  rw[e,sumR_add,sumR_add,sumR_one R _ x n h1 h2,sumR_neg,sumR_one R _ x n h3 h4,sum_bal R n l f (fun b hb=>h b (List.mem_cons_of_mem _ hb)) (by simpa using hl),outR_cons]
  omega
theorem sumR_ends {R:Int→Bool} {g:Int→Int} {s t:Int} (n:Nat) (hs:R s=true) (ht:R t=false) (h0:0≤s) (h1:s<n) (hg: ∀ v:Int,0≤v→v<n→v≠s→v≠t→g v=0):sumR R g n=g s:=by
 have aux: ∀ m:Nat,m≤n→sumR R g m=if s<m then g s else 0:=by
  intro m
  induction m with
  |zero=>intro _;rw[if_neg (by omega)];rfl
  |succ m ih=>
   intro hm
   unfold sumR
   rw[ih (by omega)]
   show _+(if R m then g m else 0)=_
   by_cases e:s=(m:Int)
   ·subst e
    rw[if_neg (Int.lt_irrefl _),if_pos hs,if_pos (show (m:Int)<((m+1:Nat):Int) by omega)]
    omega
   ·have e2:(if R m then g m else 0)=0:=by
     by_cases e3:t=(m:Int)
     ·rw[← e3,ht];rfl
     ·rw[hg m (by omega) (by omega) (Ne.symm e) (Ne.symm e3)];split<;>rfl
    rw[e2]
    by_cases h:s<(m:Int)
    ·rw[if_pos h,if_pos (show s<((m+1:Nat):Int) by omega)];omega
    ·rw[if_neg h,if_neg (show ¬ s<((m+1:Nat):Int) by omega)];omega
 rw[aux n (Nat.le_refl _),if_pos h1]
theorem outR_le (R:Int→Bool): ∀ (l:List S74) (f:List Int),flowB l f=true→outR R l f≤capR R l
 |[],[],_=>by simp[outR,capR]
 |[],_::_,h=>by simp[flowB] at h
 |_::_,[],h=>by simp[flowB] at h
 |a::l,x::f,h=>by
  unfold flowB at h
  split at h
  ·cases h
  ·split at h
   ·cases h
   ·have:=outR_le R l f h
    rw[outR_cons,capR_cons]
    cases R a.f0<;>cases R a.f1<;>simp<;>omega
structure IsFlow (l:List S74) (F:List Int) (n:Nat) (s t:Int):Prop where
 right:Right l F n
 keeps: ∀ v:Int,0≤v→v<n→v≠s→v≠t→bal l F v=0
theorem ends_arcs {l:List S74} {n:Nat} (h:ends l n): ∀ a,a∈l→(0≤a.f0∧a.f0<n)∧0≤a.f1∧a.f1<n:=by
 intro a ha
 obtain⟨i,hi,e⟩:=List.getElem_of_mem ha
 have h1:=h i hi
 unfold eFrom eTo at h1
 rw[rdArc_nat,List.getD_eq_getElem?_getD,List.getElem?_eq_getElem hi] at h1
 have e2:(some l[i]).getD z74=a:=e
 rw[e2] at h1
 exact h1
theorem Right.flowB {l:List S74} {F:List Int} {n:Nat} (h:Right l F n):flowB l F=true:=by
 have hl:=h.len
 refine flow_mk hl fun i hi=> ?_
 have:=h.nums i (by omega)
 rw[rdArc_nat] at this
 exact⟨this.2.2.1,this.2.2.2.1⟩
theorem value_le {l:List S74} {F:List Int} {n:Nat} {s t:Int} (h:IsFlow l F n s t) (R:Int→Bool) (hs:R s=true) (ht:R t=false) (h0:0≤s) (h1:s<n):bal l F s≤capR R l:=by
 rw[← sumR_ends n hs ht h0 h1 h.keeps,sum_bal R n l F (ends_arcs h.right.ends) h.right.len]
 exact outR_le R l F h.right.flowB
theorem capR_top (R:Int→Bool): ∀ (l:List S74),(∀ a,a∈l→0≤a.f2∧a.f2≤1048576)→0≤capR R l∧capR R l≤1048576 * l.length
 |[],_=>by simp[capR]
 |a::l,h=>by
  have h1:=h a List.mem_cons_self
  have h2:=capR_top R l fun b hb=>h b (List.mem_cons_of_mem _ hb)
  rw[List.length_cons,capR_cons]
  split<;>omega
theorem Right.caps {l:List S74} {F:List Int} {n:Nat} (h:Right l F n): ∀ a,a∈l→0≤a.f2∧a.f2≤1048576:=by
 intro a ha
 obtain⟨i,hi,e⟩:=List.getElem_of_mem ha
 have h1:=h.nums i hi
 rw[rdArc_nat,List.getD_eq_getElem?_getD,List.getElem?_eq_getElem hi] at h1
 have e2:(some l[i]).getD z74=a:=e
 rw[e2] at h1
 omega
end Go.Proofs.Ytkcpanpdipmmmaa.H
namespace Go.Proofs.Ytkcpanpdipmmmaa.H
open Go.RowKit Go.Proofs.YtkcpanpdipmmmaaW.PrintWords Go.Proofs.YtkcpanpdipmmmaaW.PrintLast Go.Proofs.YtkcpanpdipmmmaaW.PrintMore Go.Proofs.Ytkcpanpdipmmmaa.P Go.Proofs.Ytkcpanpdipmmmaa.Q
def esP (l:List S74) (F:List Int) (u:Nat):List S38:=(stL l u l.length).filter fun e=>decide (0<stRoom l F e)
def toP (l:List S74) (e:S38):Nat:=(stTo l e).toNat
def frP (l:List S74) (e:S38):Nat:=(stFrom l e).toNat
theorem mem_esP {l:List S74} {F:List Int} {u:Nat} {e:S38} :e∈esP l F u↔e∈stL l u l.length∧0<stRoom l F e:=by
 unfold esP;rw[List.mem_filter,decide_eq_true_eq]
theorem frP_of {l:List S74} {u:Nat} {e:S38} (h:e∈stL l u l.length):frP l e=u:=by
 unfold frP;rw[stL_from h,Int.toNat_natCast]
theorem toP_lt {l:List S74} {F:List Int} {n:Nat} (hr:Right l F n) {s:S38} (hs:StepOf l s):toP l s<n:=by
 have:=stTo_in hr hs;unfold toP;omega
theorem frP_lt {l:List S74} {F:List Int} {n:Nat} (hr:Right l F n) {s:S38} (hs:StepOf l s):frP l s<n:=by
 have:=stFrom_in hr hs;unfold frP;omega
theorem esP_of {l:List S74} {F:List Int} {n:Nat} (hr:Right l F n) {e:S38} (hs:StepOf l e) (h:0<stRoom l F e):e∈esP l F (frP l e):=by
 refine mem_esP.2 ⟨?_,h⟩
 have hf:=stFrom_in hr hs
 rw[mem_stL]
 unfold frP
 rw[Int.toNat_of_nonneg hf.1]
 obtain⟨i,h1,h2⟩:=hs
 refine⟨i,h1,h2,?_⟩
 unfold stFrom
 rw[h2]
 cases e.f1
 ·exact .inl ⟨rfl,rfl⟩
 ·exact .inr ⟨rfl,rfl⟩
theorem leads_trail {l:List S74} {F:List Int} {n:Nat} (hr:Right l F n) {rows:Nat→List S38} (hrows: ∀ u e,e∈rows u→e∈stL l u l.length): ∀ {L:List S38} {s t:Nat},Leads (toP l) rows s L t→Trail l s L t
 |[],s,t,h=>by cases h;rfl
 |x::L,s,t,h=>by
  have hx:=hrows _ _ h.1
  refine⟨stL_of hx,stL_from hx,?_⟩
  have h1:=stTo_in hr (stL_of hx)
  have h2:=leads_trail hr hrows h.2
  unfold toP at h2
  rw[Int.toNat_of_nonneg h1.1] at h2
  exact h2
theorem flow_top {l:List S74} {F:List Int} {n s t:Nat} (hf:IsFlow l F n s t) (hs:s<n) (hst:s≠t):bal l F s≤209715200:=by
 have h1:=value_le hf (fun v=>decide (v=(s:Int))) (by simp) (by simp;omega) (by omega) (by omega)
 have h2:=capR_top (fun v=>decide (v=(s:Int))) l hf.right.caps
 have h3:=hf.right.arcs
 have h4:1048576 * (l.length:Int)≤1048576 * 200:=by omega
 omega
theorem zeros_flow {l:List S74} {n s t:Nat} (h0:0<n) (h50:n≤50) (hl:l.length≤200) (he:ends l n) (hn: ∀ i:Nat,i<l.length→0≤(rd_T74 l i).f3∧(rd_T74 l i).f3≤1048576∧0≤(rd_T74 l i).f2∧(rd_T74 l i).f2≤1048576):
  IsFlow l (List.replicate l.length 0) n s t∧bal l (List.replicate l.length 0) s=0:=by
 have hz: ∀ (l:List S74) (v:Int),bal l (List.replicate l.length 0) v=0:=by
  intro l v
  induction l with
  |nil=>rfl
  |cons a l ih=>rw[List.length_cons,List.replicate_succ,bal_cons,ih];split<;>split<;>rfl
 refine⟨⟨⟨h0,h50,hl,by simp,he,fun i hi=> ?_⟩,fun v _ _ _ _=>hz l v⟩,hz l _⟩
 have:=hn i hi
 have e:(List.replicate l.length (0:Int)).getD i 0=0:=by rw[List.getD_eq_getElem?_getD,List.getElem?_replicate,if_pos hi];rfl
 rw[e]
 omega
end Go.Proofs.Ytkcpanpdipmmmaa.H
namespace Go.Proofs.Ytkcpanpdipmmmaa.H
open Go.RowKit Go.Proofs.YtkcpanpdipmmmaaW.PrintWords Go.Proofs.YtkcpanpdipmmmaaW.PrintLast Go.Proofs.YtkcpanpdipmmmaaW.PrintMore Go.Proofs.Ytkcpanpdipmmmaa.P Go.Proofs.Ytkcpanpdipmmmaa.Q
theorem zeros_of {l:List S74} {F:List Int} {n s t:Nat} (h:Right l F n):IsFlow l (List.replicate l.length 0) n s t∧bal l (List.replicate l.length 0) s=0:=
 zeros_flow h.pos h.fifty h.arcs h.ends (fun i hi=>by have:=h.nums i hi;exact⟨this.1,this.2.1,by omega,by omega⟩)
end Go.Proofs.Ytkcpanpdipmmmaa.H
namespace Go.Proofs.Ytkcpanpdipmmmaa.H
def sumN (f:Nat→Int):Nat→Int
 |0=>0
 |n+1=>sumN f n+f n
theorem sumN_add (f g:Nat→Int) (n:Nat):sumN (fun v=>f v+g v) n=sumN f n+sumN g n:=by
 induction n with
 |zero=>rfl
 |succ n ih=>simp only[sumN,ih];omega
theorem sumN_congr {f g:Nat→Int} {n:Nat} (h: ∀ v,v<n→f v=g v):sumN f n=sumN g n:=by
 induction n with
 |zero=>rfl
 |succ n ih=>simp only[sumN];rw[ih (fun v hv=>h v (by omega)),h n (by omega)]
theorem sumN_zero (n:Nat):sumN (fun _=>0) n=0:=by
 induction n with
 |zero=>rfl
 |succ n ih=>simp only[sumN,ih];rfl
theorem sumN_single (p:Nat→Int) (x:Int) (u n:Nat) (hu:u<n):sumN (fun v=>p v * (if u=v then x else 0)) n=p u * x:=by
 induction n with
 |zero=>omega
 |succ n ih=>
  simp only[sumN]
  by_cases h:u=n
  ·subst h
   rw[if_pos rfl,sumN_congr (g:=fun _=>0) (fun v hv=>by rw[if_neg (by omega)];exact Int.mul_zero _),sumN_zero]
   omega
  ·rw[ih (by omega),if_neg h,Int.mul_zero,Int.add_zero]
structure Two where
 a:Nat
 b:Nat
 t:Int
 f:Int
 g:Int
def balT (L:List Two) (x:Two→Int) (v:Nat):Int:=
 match L with
 |[]=>0
 |e::L=>((if e.a=v then x e else 0) - (if e.b=v then x e else 0))+balT L x v
def costT (L:List Two) (x:Two→Int):Int:=
 match L with
 |[]=>0
 |e::L=>x e * e.t+costT L x
def potT (L:List Two) (x:Two→Int) (p:Nat→Int):Int:=
 match L with
 |[]=>0
 |e::L=>(p e.a * x e - p e.b * x e)+potT L x p
theorem potT_bal (L:List Two) (x:Two→Int) (p:Nat→Int) (n:Nat) (h: ∀ e,e∈L→e.a<n∧e.b<n):potT L x p=sumN (fun v=>p v * balT L x v) n:=by
 induction L with
 |nil=>
  simp only[potT,balT]
  rw[sumN_congr (g:=fun _=>0) (fun v _=>Int.mul_zero _),sumN_zero]
 |cons e L ih=>
  have h1:=h e List.mem_cons_self
  simp only[potT,balT]
  rw[ih (fun e he=>h e (List.mem_cons_of_mem _ he))]
  rw[sumN_congr (f:=fun v=>p v * (((if e.a=v then x e else 0) - (if e.b=v then x e else 0))+balT L x v)) (g:=fun v=>(p v * (if e.a=v then x e else 0)+p v * -(if e.b=v then x e else 0))+p v * balT L x v) (fun v _=>by rw[Int.mul_add,Int.mul_sub,Int.mul_neg];omega)]
  rw[sumN_add (fun v=>p v * (if e.a=v then x e else 0)+p v * -(if e.b=v then x e else 0)),sumN_add,sumN_single p (x e) e.a n h1.1]
  rw[sumN_congr (f:=fun v=>p v * -(if e.b=v then x e else 0)) (g:=fun v=>p v * (if e.b=v then -(x e) else 0)) (fun v _=>by split<;>simp),sumN_single p (-(x e)) e.b n h1.2,Int.mul_neg]
  omega
theorem term_nonneg {t pa pb f g:Int} (h1:f<g→pb≤pa+t) (h2:g<f→pa≤pb - t):f * t+(pa * f - pb * f)≤g * t+(pa * g - pb * g):=by
 have key:0≤(g - f) * (t+pa - pb):=by
  rcases Int.lt_trichotomy f g with h|h|h
  ·exact Int.mul_nonneg (by omega) (by have:=h1 h;omega)
  ·rw[h,Int.sub_self,Int.zero_mul];exact Int.le_refl _
  ·have:=h2 h
   have h3:0≤(f - g) * (pb - pa - t):=Int.mul_nonneg (by omega) (by omega)
   have h4:(f - g) * (pb - pa - t)=(g - f) * (t+pa - pb):=by
    rw[show f - g= -(g - f) by omega,show pb - pa - t= -(t+pa - pb) by omega,Int.neg_mul_neg]
   rw[h4] at h3
   exact h3
 have h5:(g - f) * (t+pa - pb)=(g * t+g * pa - g * pb) - (f * t+f * pa - f * pb):=by
  rw[Int.sub_mul,Int.mul_sub,Int.mul_add,Int.mul_sub,Int.mul_add]
 rw[h5] at key
 rw[Int.mul_comm pa f,Int.mul_comm pb f,Int.mul_comm pa g,Int.mul_comm pb g]
 omega
theorem cheapest (L:List Two) (n:Nat) (p:Nat→Int) (h: ∀ e,e∈L→e.a<n∧e.b<n) (hp: ∀ e,e∈L→(e.f<e.g→p e.b≤p e.a+e.t)∧(e.g<e.f→p e.a≤p e.b - e.t))
  (hb: ∀ v,v<n→balT L Two.f v=balT L Two.g v):costT L Two.f≤costT L Two.g:=by
 have h1: ∀ L:List Two,(∀ e,e∈L→(e.f<e.g→p e.b≤p e.a+e.t)∧(e.g<e.f→p e.a≤p e.b - e.t))→costT L Two.f+potT L Two.f p≤costT L Two.g+potT L Two.g p:=by
  intro L
  induction L with
  |nil=>intro _;exact Int.le_refl _
  |cons e L ih=>
   intro hp
   have h2:=ih (fun e he=>hp e (List.mem_cons_of_mem _ he))
   have h3:=hp e List.mem_cons_self
   have h4:=term_nonneg h3.1 h3.2
   simp only[costT,potT]
   omega
 have h2:=h1 L hp
 rw[potT_bal L Two.f p n h,potT_bal L Two.g p n h,sumN_congr (g:=fun v=>p v * balT L Two.g v) (fun v hv=>by rw[hb v hv])] at h2
 omega
end Go.Proofs.Ytkcpanpdipmmmaa.H
namespace Go.Proofs.Ytkcpanpdipmmmaa.H
open Go.RowKit Go.Proofs.YtkcpanpdipmmmaaW.PrintWords Go.Proofs.YtkcpanpdipmmmaaW.PrintLast Go.Proofs.YtkcpanpdipmmmaaW.PrintMore Go.Proofs.Ytkcpanpdipmmmaa.P Go.Proofs.Ytkcpanpdipmmmaa.Q
def payS:List S74→List Int→Int
 |a::l,x::f=>x * a.f3+payS l f
 |_,_=>0
theorem payS_cons (a:S74) (l:List S74) (x:Int) (f:List Int):payS (a::l) (x::f)=x * a.f3+payS l f:=rfl
def TightP (l:List S74) (F:List Int) (p:Nat→Int):Prop:= ∀ e:S38,StepOf l e→0<stRoom l F e→p (toP l e)≤p (frP l e)+stTime l e
def TightO (l:List S74) (F:List Int) (d:Nat→Option Int):Prop:= ∀ e:S38,StepOf l e→0<stRoom l F e→ ∀ x,d (frP l e)=some x→ ∃ y,d (toP l e)=some y∧y≤x+stTime l e
def minO (d:Nat→Option Int) (q:Nat→Int) (v:Nat):Int:=match d v with|some x=>min x (q v)|none=>q v
theorem minO_some {d:Nat→Option Int} {q:Nat→Int} {v:Nat} {x:Int} (h:d v=some x):minO d q v=min x (q v):=by unfold minO;rw[h]
theorem minO_le (d:Nat→Option Int) (q:Nat→Int) (v:Nat):minO d q v≤q v:=by
 unfold minO
 split
 ·omega
 ·exact Int.le_refl _
theorem TightP.min_ {l:List S74} {F:List Int} {d:Nat→Option Int} {q:Nat→Int} (hd:TightO l F d) (hq:TightP l F q):TightP l F (minO d q):=by
 intro e he hr
 have h2:=hq e he hr
 have h3:=minO_le d q (toP l e)
 cases hx:d (frP l e) with
 |none=>
  have:minO d q (frP l e)=q (frP l e):=by unfold minO;rw[hx]
  omega
 |some x=>
  obtain⟨y,hy,hle⟩:=hd e he hr x hx
  rw[minO_some hx]
  rw[minO_some hy] at h3 ⊢
  omega
theorem TightP.plus {l:List S74} {F:List Int} {q:Nat→Int} (hq:TightP l F q) (c:Int):TightP l F (fun v=>q v+c):=by
 intro e he hr
 have:=hq e he hr
 show q _+c≤q _+c+_
 omega
theorem tight_zero {l:List S74} {n:Nat} (hr:Right l (List.replicate l.length 0) n):TightP l (List.replicate l.length 0) (fun _=>0):=by
 intro e he hrm
 obtain⟨i,h1,h2⟩:=he
 have hn:=hr.nums i h1
 have e0:(List.replicate l.length (0:Int)).getD i 0=0:=by rw[List.getD_eq_getElem?_getD,List.getElem?_replicate,if_pos h1];rfl
 unfold stRoom at hrm
 rw[h2,Int.toNat_natCast] at hrm
 unfold stTime
 rw[h2]
 cases hb:e.f1<;>rw[hb] at hrm<;>simp only[Bool.false_eq_true,if_false,if_true] at hrm ⊢
 ·omega
 ·omega
theorem outR_compl (R:Int→Bool): ∀ (l:List S74) (f:List Int),outR R l f+outR (fun v=> !R v) l f=0
 |[],_=>by simp[outR]
 |_::_,[]=>by simp[outR]
 |a::l,x::f=>by
  have:=outR_compl R l f
  rw[outR_cons,outR_cons]
  cases R a.f0<;>cases R a.f1<;>simp<;>omega
theorem flow_ends {l:List S74} {F:List Int} {n s t:Nat} (h:IsFlow l F n s t) (hs:s<n) (ht:t<n) (hst:s≠t):bal l F t= - bal l F s:=by
 have h1:=sumR_ends (R:=fun v=> !decide (v=(t:Int))) (g:=bal l F) (s:=s) (t:=t) n (by simp;omega) (by simp) (by omega) (by omega) h.keeps
 have h2:=sumR_ends (R:=fun v=> !!decide (v=(t:Int))) (g:=bal l F) (s:=t) (t:=s) n (by simp) (by simp;omega) (by omega) (by omega) (fun v a b c d=>h.keeps v a b d c)
 rw[sum_bal _ n l F (ends_arcs h.right.ends) h.right.len] at h1 h2
 have h3:=outR_compl (fun v=> !decide (v=(t:Int))) l F
 omega
def twoL:List S74→List Int→List Int→List Two
 |a::l,x::f,y::g=>⟨a.f0.toNat,a.f1.toNat,a.f3,x,y⟩::twoL l f g
 |_,_,_=>[]
theorem twoL_mem: ∀ (l:List S74) (f g:List Int) (e:Two),e∈twoL l f g→ ∃ i:Nat,i<l.length∧i<f.length∧i<g.length∧e=⟨(rd_T74 l i).f0.toNat,(rd_T74 l i).f1.toNat,(rd_T74 l i).f3,f.getD i 0,g.getD i 0⟩
 |[],_,_,e,h=>by simp[twoL] at h
 |_::_,[],_,e,h=>by simp[twoL] at h
 |_::_,_::_,[],e,h=>by simp[twoL] at h
 |a::l,x::f,y::g,e,h=>by
  unfold twoL at h
  rcases List.mem_cons.1 h with rfl|h
  ·exact⟨0,by simp,by simp,by simp,by rw[rdArc_nat];rfl⟩
  ·obtain⟨i,h1,h2,h3,h4⟩:=twoL_mem l f g e h
   refine⟨i+1,by simp;omega,by simp;omega,by simp;omega,?_⟩
   rw[h4,rdArc_nat,rdArc_nat]
   rfl
theorem twoL_cost: ∀ (l:List S74) (f g:List Int),f.length=l.length→g.length=l.length→costT (twoL l f g) Two.f=payS l f∧costT (twoL l f g) Two.g=payS l g
 |[],[],[],_,_=>⟨rfl,rfl⟩
 |[],_::_,_,h,_=>by simp at h
 |[],[],_::_,_,h=>by simp at h
 |_::_,[],_,h,_=>by simp at h
 |_::_,_::_,[],_,h=>by simp at h
 |a::l,x::f,y::g,h1,h2=>by
  obtain⟨e1,e2⟩:=twoL_cost l f g (by simpa using h1) (by simpa using h2)
  constructor
  ·show x * a.f3+costT (twoL l f g) Two.f=x * a.f3+payS l f
   rw[e1]
  ·show y * a.f3+costT (twoL l f g) Two.g=y * a.f3+payS l g
   rw[e2]
theorem twoL_bal: ∀ (l:List S74) (f g:List Int) (v:Nat),(∀ a,a∈l→0≤a.f0∧0≤a.f1)→f.length=l.length→g.length=l.length→balT (twoL l f g) Two.f v=bal l f v∧balT (twoL l f g) Two.g v=bal l g v
 |[],[],[],_,_,_,_=>⟨rfl,rfl⟩
 |[],_::_,_,_,_,h,_=>by simp at h
 |[],[],_::_,_,_,_,h=>by simp at h
 |_::_,[],_,_,_,h,_=>by simp at h
 |_::_,_::_,[],_,_,_,h=>by simp at h
 |a::l,x::f,y::g,v,ha,h1,h2=>by
  obtain⟨e1,e2⟩:=twoL_bal l f g v (fun a h=>ha a (List.mem_cons_of_mem _ h)) (by simpa using h1) (by simpa using h2)
  have hp:=ha a List.mem_cons_self
  have c0:(a.f0.toNat=v)↔(a.f0=(v:Int)):=by omega
  have c1:(a.f1.toNat=v)↔(a.f1=(v:Int)):=by omega
  constructor
  ·show ((if a.f0.toNat=v then x else 0) - (if a.f1.toNat=v then x else 0))+balT (twoL l f g) Two.f v=(if a.f0=(v:Int) then x else 0) - (if a.f1=(v:Int) then x else 0)+bal l f v
   rw[e1]
   simp only[c0,c1]
  ·show ((if a.f0.toNat=v then y else 0) - (if a.f1.toNat=v then y else 0))+balT (twoL l f g) Two.g v=(if a.f0=(v:Int) then y else 0) - (if a.f1=(v:Int) then y else 0)+bal l g v
   rw[e2]
   simp only[c0,c1]
def worthS (l:List S74) (F:List Int) (s:Nat) (c:Int):Int:=c * bal l F s - payS l F
theorem worth_top {l:List S74} {F G:List Int} {n s t:Nat} {c:Int} (hf:IsFlow l F n s t) (hg:IsFlow l G n s t) (hs:s<n) (ht:t<n) (hst:s≠t) {p:Nat→Int} (hp:TightP l F p) (h0:p s=0) (h1:p t=c):worthS l G s c≤worthS l F s c:=by
 obtain⟨e1,e2⟩:=twoL_cost l F G hf.right.len hg.right.len
 have hpos: ∀ a,a∈l→0≤a.f0∧0≤a.f1:=fun a ha=>by have:=ends_arcs hf.right.ends a ha;omega
 have hlt: ∀ e,e∈twoL l F G→e.a<n∧e.b<n:=by
  intro e he
  obtain⟨i,hi,_,_,rfl⟩:=twoL_mem l F G e he
  have:=hf.right.ends i hi
  unfold eFrom eTo at this
  show (rd_T74 l i).f0.toNat<n∧(rd_T74 l i).f1.toNat<n
  omega
 have key:=cheapest (⟨t,s, -c,bal l F s,bal l G s⟩::twoL l F G) n p ?_ ?_ ?_
 ·simp only[costT,e1,e2,Int.mul_neg] at key
  unfold worthS
  rw[Int.mul_comm c,Int.mul_comm c]
  omega
 ·intro e he
  rcases List.mem_cons.1 he with rfl|he
  ·exact⟨ht,hs⟩
  ·exact hlt e he
 ·intro e he
  rcases List.mem_cons.1 he with rfl|he
  ·exact⟨fun _=>by show p s≤p t+ -c;omega,fun _=>by show p t≤p s - -c;omega⟩
  ·obtain⟨i,hi,_,_,rfl⟩:=twoL_mem l F G e he
   have hn:=hf.right.nums i hi
   have hm:=hg.right.nums i hi
   have t1:=hp ⟨i,false⟩ ⟨i,hi,rfl⟩
   have t2:=hp ⟨i,true⟩ ⟨i,hi,rfl⟩
   unfold stRoom toP frP stTime stFrom stTo eFrom eTo at t1 t2
   simp only[Bool.false_eq_true,if_false,if_true,Int.toNat_natCast] at t1 t2
   constructor
   ·intro h
    have h:F.getD i 0<G.getD i 0:=h
    show p (rd_T74 l i).f1.toNat≤p (rd_T74 l i).f0.toNat+(rd_T74 l i).f3
    exact t1 (by omega)
   ·intro h
    have h:G.getD i 0<F.getD i 0:=h
    show p (rd_T74 l i).f0.toNat≤p (rd_T74 l i).f1.toNat - (rd_T74 l i).f3
    have:=t2 (by omega)
    omega
 ·intro v hv
  obtain⟨b1,b2⟩:=twoL_bal l F G v hpos hf.right.len hg.right.len
  have f1:=flow_ends hf hs ht hst
  have g1:=flow_ends hg hs ht hst
  show ((if t=v then bal l F s else 0) - (if s=v then bal l F s else 0))+balT (twoL l F G) Two.f v=((if t=v then bal l G s else 0) - (if s=v then bal l G s else 0))+balT (twoL l F G) Two.g v
  rw[b1,b2]
  by_cases hvt:t=v
  ·subst hvt
   rw[if_pos rfl,if_pos rfl,if_neg hst,if_neg hst,f1,g1]
   omega
  ·rw[if_neg hvt,if_neg hvt]
   by_cases hvs:s=v
   ·subst hvs
    rw[if_pos rfl,if_pos rfl]
    omega
   ·rw[if_neg hvs,if_neg hvs,hf.keeps v (by omega) (by omega) (by omega) (by omega),hg.keeps v (by omega) (by omega) (by omega) (by omega)]
structure SpanOk (l:List S74) (F:List Int) (n s t:Nat) (c:Int):Prop where
 flow:IsFlow l F n s t
 nums: ∃ q:Nat→Int,TightP l F q∧q s=0∧q t<c
theorem SpanOk.top {l:List S74} {F G:List Int} {n s t:Nat} {c:Int} (h:SpanOk l F n s t c) (hg:IsFlow l G n s t) (hs:s<n) (ht:t<n) (hst:s≠t) {d:Nat→Option Int} (hd:TightO l F d) (h0:d s=some 0) (h1: ∀ x,d t=some x→c≤x):worthS l G s c≤worthS l F s c:=by
 obtain⟨q,hq,q0,q1⟩:=h.nums
 refine worth_top h.flow hg hs ht hst (p:=minO d (fun v=>q v+(c - q t))) (TightP.min_ hd (hq.plus _)) ?_ ?_
 ·rw[minO_some h0];show min 0 (q s+(c - q t))=0;omega
 ·unfold minO
  cases hx:d t with
  |none=>show q t+(c - q t)=c;omega
  |some x=>have:=h1 x hx;show min x (q t+(c - q t))=c;omega
end Go.Proofs.Ytkcpanpdipmmmaa.H
namespace Go.Proofs.Ytkcpanpdipmmmaa.P
open Go.RowKit Go.Proofs.YtkcpanpdipmmmaaW.PrintWords Go.Proofs.YtkcpanpdipmmmaaW.PrintLast Go.Proofs.YtkcpanpdipmmmaaW.PrintMore
attribute [local go_sem] max2_int min2_int max_two min_two max_three min_three max_four min_four
def level_Seeker_Steps.f (a0_0:Int) (a0_1:Bool) (l0_2:List (S74)) (l0_3:List Int) (l0_4:List (List (S38))) (a1:Int):Option ((List (S38))):=if 0≤a1 then(if a1<(l0_4.length:Int) then(some (rd_L4 l0_4 a1)) else(none)) else(none)
set_option maxHeartbeats 8000000 in
set_option maxRecDepth 100000 in
theorem level_Seeker_Steps.calls (a0_0:Int) (a0_1:Bool) (A0_2:Option Addr) (c0_2:Nat) (l0_2:List (S74)) (A0_3:Option Addr) (c0_3:Nat) (l0_3:List Int) (P0_4_:Nat→Prop) (A0_4:Option Addr) (c0_4:Nat) (l0_4:List (List (S38))) (a1:Int) (r:List (S38)) (w:World) (hr0_2:Kd.C k74 w A0_2 l0_2.length l0_2) (hc0_2:l0_2.length≤c0_2) (hr0_3:Kd.C (Kd.int .i64) w A0_3 l0_3.length l0_3) (hc0_3:l0_3.length≤c0_3) (hs0_4:Kd.V (Kd.slice 38 k38) 34 w w.heap.size (fun k_=>P0_4_ k_) (.slice A0_4 l0_4.length c0_4) l0_4) (h:level_Seeker_Steps.f a0_0 a0_1 l0_2 l0_3 l0_4 a1=some r):
  Calls Try.prog 140 #[.agg #[.int .i64 a0_0, .bool a0_1, .slice A0_2 l0_2.length c0_2, .slice A0_3 l0_3.length c0_3, .slice A0_4 l0_4.length c0_4], .int .i64 a1] w fun e w'=> ∃ v0_:Value,e= .returned (v0_)∧Kd.V k38 38 w' w.heap.size (fun k_=>(P0_4_ k_∨w.heap.size≤k_)) v0_ r∧Below w.heap.size w w':=by
 have hu118:=Try.underlying118
 have HR0_2:=Aside0.mk hr0_2
 have HC0_2:=Aside0.mk hc0_2
 clear hr0_2 hc0_2
 have HR0_3:=Aside0.mk hr0_3
 have HC0_3:=Aside0.mk hc0_3
 clear hr0_3 hc0_3
 have HO0_4:=Aside0.mk (show Kd.V (Kd.slice 38 k38) 34 w w.heap.size (fun k_=>(P0_4_ k_∨w.heap.size≤k_)) (.slice A0_4 l0_4.length c0_4) l0_4 from Kd.V_mono hs0_4 (fun k_ hk=> .inl hk))
 have HB:=Aside0.mk (Below.refl w.heap.size w)
 have H:(if 0≤a1 then(if a1<(l0_4.length:Int) then(some (rd_L4 l0_4 a1)) else(none)) else(none))=some r:=h
 clear h
 by_cases c3:0≤a1
 rotate_left
 ·rw[if_neg c3] at H
  exact absurd H (by simp)
 rw[if_pos c3] at H
 have c3b0:decide (0≤a1)=true:=decide_eq_true c3
 clear c3
 by_cases c4:a1<(l0_4.length:Int)
 rotate_left
 ·rw[if_neg c4] at H
  exact absurd H (by simp)
 rw[if_pos c4] at H
 have c4b0:decide (a1<(l0_4.length:Int))=true:=decide_eq_true c4
 clear c4
 obtain rfl:=Option.some.inj H
 go_enter Try.func140,Try.ntmps140
 go_wp2_with (first|((with_reducible refine gate_dst (N:=2) rfl ?_);refine box_event ?hg (N:=2) ?hd (cs:= #[.int .i64 a0_0, .bool a0_1, .slice A0_2 l0_2.length c0_2, .slice A0_3 l0_3.length c0_3, .slice A0_4 l0_4.length c0_4]) (t:=118) ?hr ?_;(case hd=>rfl);(case hg=>rfl);(case hr=>first|(go_simp;done)|(go_simp;rfl));intro gb188 hg w5 hbox hb;have n0_:=Aside0.mk (Kd.V_below (Kd.V_elderB (by(with_reducible repeat(first|apply Kd.V_alloc|apply Kd.V_drewN|apply Kd.V_drew));exact HO0_4.out) gb188 (Nat.le_of_eq hg.symm)) hb);have n1_:=Aside0.mk (below_step (by repeat(first|(with_reducible first|exact HB.out|apply below_alloc|apply pw_below_drewN|apply below_drew1)|exact HB.out)) hb);have n2_:=Aside0.mk (hbox);have n3_:=Aside0.mk ((by rw[hg];exact(below_size (by repeat(first|(with_reducible first|exact HB.out|apply below_alloc|apply pw_below_drewN|apply below_drew1)|exact HB.out))):w.heap.size≤gb188));have n4_:=Aside0.mk ((by rw[hg];exact(below_size (by repeat(first|(with_reducible first|exact HB.out|apply below_alloc|apply pw_below_drewN|apply below_drew1)|exact HB.out))):w.heap.size≤gb188));clear HO0_4;clear HB;have HO0_4:=n0_;have HB:=n1_;have BK188:=n2_;have GW188:=n3_;have GE188:=n4_;clear n0_ n1_ n2_ n3_ n4_;clear hb hbox hg;have hcz6_0:w5.cell? ⟨gb188,0,none⟩=some (.int .i64 a0_0):=(blk_cell BK188.out 0).trans rfl;have hcz6_1:w5.cell? ⟨gb188,1,none⟩=some (.bool a0_1):=(blk_cell BK188.out 1).trans rfl;have hcz6_2:w5.cell? ⟨gb188,2,none⟩=some (.slice A0_2 l0_2.length c0_2):=(blk_cell BK188.out 2).trans rfl;have hcz6_3:w5.cell? ⟨gb188,3,none⟩=some (.slice A0_3 l0_3.length c0_3):=(blk_cell BK188.out 3).trans rfl;have hcz6_4:w5.cell? ⟨gb188,4,none⟩=some (.slice A0_4 l0_4.length c0_4):=(blk_cell BK188.out 4).trans rfl;have hfz6_0:=blk_frozen BK188.out 0;have hfz6_1:=blk_frozen BK188.out 1;have hfz6_2:=blk_frozen BK188.out 2;have hfz6_3:=blk_frozen BK188.out 3;have hfz6_4:=blk_frozen BK188.out 4;have p189:0≤(a1:Int):=of_decide_eq_true (by first|(with_reducible assumption)|assumption);have q189:a1<(l0_4.length:Int):=of_decide_eq_true (by first|(with_reducible assumption)|assumption);obtain⟨ad189,A189_0,c189_0,e189,hx189_0,hl189_0,hi189_0⟩:=at_L4 (Kd.V_reads' HO0_4.out).2.2 a1 p189 q189;cases e189;obtain⟨ce189,hce189,hMe189,hcc189⟩:=Kd.V_get HO0_4.out [] a1 p189 (by first|exact q189|exact of_decide_eq_true (by first|(with_reducible assumption)|assumption)|(have e_:=(Kd.V_reads' HO0_4.out).1;omega));obtain⟨ua189_0,uc189_0,rfl,ul189_0,ge189_0⟩:=Kd.FK_slice_open hMe189;have hv189_0:=hcc189 0 _ rfl;rw[Nat.add_zero,show ((Kd.slice 38 k38)).sz=1 from rfl,Nat.mul_one] at hv189_0;replace hv189_0:=Option.some.inj (hv189_0.symm.trans hx189_0);injection hv189_0 with hva_ hvn_ hvc_;rw[hva_] at ge189_0;rw[hvc_] at ul189_0;have HL189_0:=Aside0.mk (show Kd.V k38 38 _ w.heap.size _ _ (rd_L4 l0_4 a1) from Kd.V_mk ul189_0 ge189_0);clear hva_ hvn_ hvc_ ge189_0 ul189_0;clear hcc189 hce189;have HR189_0:=Aside0.mk hi189_0;have HC189_0:=Aside0.mk hl189_0;clear hi189_0 hl189_0;replace p189:=eq_true p189;replace q189:=eq_true q189))
 go_ret
 exact⟨_,by first|rfl|(simp[errW_none,errW_some]<;>rfl)|(simp[*,errW_none,errW_some]<;>rfl),by(with_reducible repeat(first|apply Kd.V_alloc|apply Kd.V_drewN|apply Kd.V_drew));exact Kd.V_mono HL189_0.out (fun _ hk=>hk.1),by repeat(first|(with_reducible first|exact HB.out|apply below_alloc|apply pw_below_drewN|apply below_drew1|refine below_set ?_ GE188.out)|exact HB.out)⟩
end Go.Proofs.Ytkcpanpdipmmmaa.P
namespace Go.Proofs.Ytkcpanpdipmmmaa.H
open Go.RowKit Go.Proofs.YtkcpanpdipmmmaaW.PrintWords Go.Proofs.YtkcpanpdipmmmaaW.PrintLast Go.Proofs.YtkcpanpdipmmmaaW.PrintMore Go.Proofs.Ytkcpanpdipmmmaa.P
def okR (gd gi gb:Nat) (k:Nat):Prop:=k≠gd∧k≠gi∧k≠gb
structure Fm (n0:Nat) (a0_1:Bool) (A2:Option Addr) (c2:Nat) (l:List S74) (A3:Option Addr) (c3:Nat) (F:List Int) (A4:Option Addr) (c4:Nat) (gd gi gb cd ci cb b0 g2 g3:Nat) (w:World) (x:Rch) (w':World):Prop where
 D:Kd.R (Kd.int .i64) 3 w' b0 (fun _=>True) (.slice (some ⟨gd,0,none⟩) n0 cd) x.D
 I:Kd.R Kd.bool 4 w' b0 (fun _=>True) (.slice (some ⟨gi,0,none⟩) n0 ci) x.I
 B:Kd.R k38 38 w' b0 (fun _=>True) (.slice (some ⟨gb,0,none⟩) n0 cb) x.B
 b2:w'.heap[g2]? =some (.cells #[.int .i64 n0, .bool a0_1, .slice A2 l.length c2, .slice A3 F.length c3, .slice A4 n0 c4] 118 (0,0))
 b3:w'.heap[g3]? =some (.cells #[.slice (some ⟨gd,0,none⟩) n0 cd, .slice (some ⟨gi,0,none⟩) n0 ci, .slice (some ⟨gb,0,none⟩) n0 cb] 109 (0,0))
 arcs:Kd.F k74 w' (okR gd gi gb) A2 l.length l
 flow:Kd.F (Kd.int .i64) w' (okR gd gi gb) A3 F.length F
 rows:Kd.V (Kd.slice 38 k38) 34 w' w.heap.size (okR gd gi gb) (.slice A4 n0 c4) (rowsAt l n0 n0)
 kp:Kp gd gi gb w w'
section
variable {n0:Nat} {a0_1:Bool} {A2:Option Addr} {c2:Nat} {l:List S74} {A3:Option Addr} {c3:Nat} {F:List Int} {A4:Option Addr} {c4:Nat} {gd gi gb cd ci cb b0 g2 g3:Nat} {w:World} {x:Rch} {w1 w2:World}
theorem Fm.below (h:Fm n0 a0_1 A2 c2 l A3 c3 F A4 c4 gd gi gb cd ci cb b0 g2 g3 w (x) (w1)) (hb:Below w1.heap.size w1 w2):Fm n0 a0_1 A2 c2 l A3 c3 F A4 c4 gd gi gb cd ci cb b0 g2 g3 w (x) (w2):=
 ⟨Kd.R_below h.D hb,Kd.R_below h.I hb,Kd.R_below h.B hb,blk_below h.b2 hb,blk_below h.b3 hb,Kd.F_below h.arcs hb,Kd.F_below h.flow hb,Kd.V_below h.rows hb,h.kp.below hb⟩
theorem Fm.still (h:Fm n0 a0_1 A2 c2 l A3 c3 F A4 c4 gd gi gb cd ci cb b0 g2 g3 w (x) (w1)) (b:Bool):Fm n0 a0_1 A2 c2 l A3 c3 F A4 c4 gd gi gb cd ci cb b0 g2 g3 w ({ x with still:=b }) (w1):=⟨h.D,h.I,h.B,h.b2,h.b3,h.arcs,h.flow,h.rows,h.kp⟩
theorem Fm.blocks (h:Fm n0 a0_1 A2 c2 l A3 c3 F A4 c4 gd gi gb cd ci cb b0 g2 g3 w (x) (w1)) (hx:x.Ok n0) (hn:0<n0):gd≠gi∧gd≠gb∧gi≠gb∧g2≠gd∧g2≠gi∧g2≠gb∧g3≠gd∧g3≠gi∧g3≠gb∧gd<w1.heap.size∧gi<w1.heap.size∧gb<w1.heap.size:=by
 obtain⟨a,ca,ea,_,hla,ca_,ha⟩:=Kd.R_form h.D (by rw[hx.hD];exact hn)
 obtain⟨b,cb_,eb,_,hlb,cb2,hb⟩:=Kd.R_form h.I (by rw[hx.hI];exact hn)
 obtain⟨c,cc,ec,_,hlc,cc_,hc⟩:=Kd.R_form h.B (by rw[hx.hB];exact hn)
 injection ea with ea _ _
 injection ea with ea
 injection ea with ea
 injection eb with eb _ _
 injection eb with eb
 injection eb with eb
 injection ec with ec _ _
 injection ec with ec
 injection ec with ec
 subst ea
 subst eb
 subst ec
 have ne: ∀ {p q:Nat} {c1 c2:Array Value} {t1 t2:Nat},w1.heap[p]? =some (.cells c1 t1 (0,0))→w1.heap[q]? =some (.cells c2 t2 (0,0))→t1≠t2→p≠q:=by
  intro p q c1 c2 t1 t2 h1 h2 ht e
  subst e
  rw[h1] at h2
  injection h2 with h2
  injection h2 with _ h2
  exact ht h2
 exact⟨ne ha hb (by decide),ne ha hc (by decide),ne hb hc (by decide),ne h.b2 ha (by decide),ne h.b2 hb (by decide),ne h.b2 hc (by decide),ne h.b3 ha (by decide),ne h.b3 hb (by decide),ne h.b3 hc (by decide),hla,hlb,hlc⟩
theorem Fm.dv (h:Fm n0 a0_1 A2 c2 l A3 c3 F A4 c4 gd gi gb cd ci cb b0 g2 g3 w (x) (w1)) {v:Nat} (hv:v<n0):w1.cell? ⟨gd,v,none⟩=some (.int .i64 (x.D.getD v 0)):=by
 obtain⟨ad,e,hc⟩:=Kd.at_int (Kd.R_reads' h.D).2.2 (v:Int) (by omega) (by have:=(Kd.R_reads' h.D).1;omega)
 cases e
 simpa [rd,add_plain] using hc
theorem Fm.iv (h:Fm n0 a0_1 A2 c2 l A3 c3 F A4 c4 gd gi gb cd ci cb b0 g2 g3 w (x) (w1)) {v:Nat} (hv:v<n0):w1.cell? ⟨gi,v,none⟩=some (.bool (x.I.getD v false)):=by
 obtain⟨ad,e,hc⟩:=Kd.at_bool (Kd.R_reads' h.I).2.2 (v:Int) (by omega) (by have:=(Kd.R_reads' h.I).1;omega)
 cases e
 simpa [rdOf,add_plain] using hc
theorem Fm.bv (h:Fm n0 a0_1 A2 c2 l A3 c3 F A4 c4 gd gi gb cd ci cb b0 g2 g3 w (x) (w1)) {v:Nat} (hv:v<n0):w1.cell? ⟨gb,v * 2,none⟩=some (.int .i64 (rd_T38 x.B v).f0)∧w1.cell? ⟨gb,v * 2+1,none⟩=some (.bool (rd_T38 x.B v).f1):=by
 obtain⟨ad,e,h1,h2⟩:=at_T38 (Kd.R_reads' h.B).2.2 (v:Int) (by omega) (by have:=(Kd.R_reads' h.B).1;omega)
 cases e
 simp only[Int.toNat_natCast,add_plain] at h1 h2
 exact⟨h1,h2⟩
theorem Fm.free (h:Fm n0 a0_1 A2 c2 l A3 c3 F A4 c4 gd gi gb cd ci cb b0 g2 g3 w (x) (w1)) (hn:0<n0) (j:Nat):w1.frozen? ⟨gd,j,none⟩=false∧w1.frozen? ⟨gi,j,none⟩=false∧w1.frozen? ⟨gb,j,none⟩=false:=by
 have h1:=(Kd.R_reads' h.D).1
 have h2:=(Kd.R_reads' h.I).1
 have h3:=(Kd.R_reads' h.B).1
 obtain⟨a,ca,ea,_,hla,ca_,ha⟩:=Kd.R_form h.D (by omega)
 obtain⟨b,cb_,eb,_,hlb,cb2,hb⟩:=Kd.R_form h.I (by omega)
 obtain⟨c,cc,ec,_,hlc,cc_,hc⟩:=Kd.R_form h.B (by omega)
 injection ea with ea _ _
 injection ea with ea
 injection ea with ea
 injection eb with eb _ _
 injection eb with eb
 injection eb with eb
 injection ec with ec _ _
 injection ec with ec
 injection ec with ec
 subst ea
 subst eb
 subst ec
 exact⟨blk_frozen ha j,blk_frozen hb j,blk_frozen hc j⟩
theorem Fm.put (h:Fm n0 a0_1 A2 c2 l A3 c3 F A4 c4 gd gi gb cd ci cb b0 g2 g3 w (x) (w1)) (hx:x.Ok n0) (hn:0<n0) {u:Nat} (hu:u<n0) (d:Int) (s:S38):
  Fm n0 a0_1 A2 c2 l A3 c3 F A4 c4 gd gi gb cd ci cb b0 g2 g3 w ((⟨x.D.set u d,x.I.set u true,x.B.set u s,false⟩:Rch)) (((((w1.setCell ⟨gd,u,none⟩ (.int .i64 d)).setCell ⟨gi,u,none⟩ (.bool true)).setCell ⟨gb,u * 2,none⟩ (.int .i64 s.f0)).setCell ⟨gb,u * 2+1,none⟩ (.bool s.f1))):=by
 obtain⟨n1,n2,n3,n4,n5,n6,n7,n8,n9,_,_,_⟩:=h.blocks hx hn
 -- the first store
 have d1:=Kd.R_putg h.D (u:Int) d
 simp only[Int.toNat_natCast] at d1
 have i1:=Kd.R_over' h.I (Kd.R_typed h.D) (by decide) d1.2
 have b1:=Kd.R_over' h.B (Kd.R_typed h.D) (by decide) d1.2
 have i2:=Kd.R_putg i1 (u:Int) true
 simp only[Int.toNat_natCast] at i2
 have d2:=Kd.R_over' d1.1 (Kd.R_typed i1) (by decide) i2.2
 have b2:=Kd.R_over' b1 (Kd.R_typed i1) (by decide) i2.2
 have hB:=(Kd.R_reads' b2).1
 obtain⟨c,hcl,_,hcc,_⟩:=Kd.R_elem b2 z38 (u:Int) (by omega) (by omega)
 have b3:=Kd.R_seg b2 (u:Int) (by omega) (by omega) (c:=c) (seg:=[.int .i64 s.f0, .bool s.f1]) (j:=0) hcl hcc (show 2≤2 from Nat.le_refl _) (x':=s) (okp:=fun _=>False)
  (by rw[List.drop_eq_nil_of_le (by rw[hcl];exact Nat.le_refl _)];exact k38_mkM _ _ _ s) (fun _ hk=>hk.elim)
 simp only[Int.toNat_natCast] at b3
 have d3:=Kd.R_over' d2 (Kd.R_typed b2) (by decide) b3.2
 have i3:=Kd.R_over' i2.1 (Kd.R_typed b2) (by decide) b3.2
 have far: ∀ {g t:Nat} {cs:Array Value},w1.heap[g]? =some (.cells cs t (0,0))→g≠gd→g≠gi→g≠gb→((((w1.setCell ⟨gd,u,none⟩ (.int .i64 d)).setCell ⟨gi,u,none⟩ (.bool true)).setCell ⟨gb,u * 2,none⟩ (.int .i64 s.f0)).setCell ⟨gb,u * 2+1,none⟩ (.bool s.f1)).heap[g]? =some (.cells cs t (0,0)):=
  fun hb p1 p2 p3=>blk_far (blk_far (blk_far (blk_far hb p1 _) p2 _) p3 _) p3 _
 refine⟨d3,i3,b3.1,far h.b2 n4 n5 n6,far h.b3 n7 n8 n9,?_,?_,?_,?_⟩
 ·exact Kd.F_far (p:=⟨gb,u * 2+1,none⟩) (Kd.F_far (p:=⟨gb,u * 2,none⟩) (Kd.F_far (p:=⟨gi,u,none⟩) (Kd.F_far (p:=⟨gd,u,none⟩) h.arcs (fun _ hk=>hk.1) _) (fun _ hk=>hk.2.1) _) (fun _ hk=>hk.2.2) _) (fun _ hk=>hk.2.2) _
 ·exact Kd.F_far (p:=⟨gb,u * 2+1,none⟩) (Kd.F_far (p:=⟨gb,u * 2,none⟩) (Kd.F_far (p:=⟨gi,u,none⟩) (Kd.F_far (p:=⟨gd,u,none⟩) h.flow (fun _ hk=>hk.1) _) (fun _ hk=>hk.2.1) _) (fun _ hk=>hk.2.2) _) (fun _ hk=>hk.2.2) _
 ·exact Kd.V_far (p:=⟨gb,u * 2+1,none⟩) (Kd.V_far (p:=⟨gb,u * 2,none⟩) (Kd.V_far (p:=⟨gi,u,none⟩) (Kd.V_far (p:=⟨gd,u,none⟩) h.rows (fun _ hk=>hk.1) _) (fun _ hk=>hk.2.1) _) (fun _ hk=>hk.2.2) _) (fun _ hk=>hk.2.2) _
 ·exact(((h.kp.set (.inl rfl) _ _).set (.inr (.inl rfl)) _ _).set (.inr (.inr rfl)) _ _).set (.inr (.inr rfl)) _ _
end
end Go.Proofs.Ytkcpanpdipmmmaa.H
namespace Go.Proofs.Ytkcpanpdipmmmaa.H
open Go.RowKit Go.Proofs.YtkcpanpdipmmmaaW.PrintWords Go.Proofs.YtkcpanpdipmmmaaW.PrintLast Go.Proofs.YtkcpanpdipmmmaaW.PrintMore Go.Proofs.Ytkcpanpdipmmmaa.P
attribute [local irreducible] wpQuiet
theorem goes_step {l:List S74} {F:List Int} {n k:Nat} {x x':Rch} (hs:roundR l F n x=x') (h:x'.still=false):goesR l F n (k+1) x=goesR l F n k x':=by
 subst hs
 show (if _ then _ else _)=_
 rw[if_neg (by rw[h];simp)]
theorem goes_end {l:List S74} {F:List Int} {n k:Nat} {x x':Rch} (hs:roundR l F n x=x') (h:x'.still=true):goesR l F n (k+1) x=(x',true):=by
 subst hs
 show (if _ then _ else _)=_
 rw[if_pos h]
def upV (l:List S74) (F:List Int) (x:Rch) (v:Nat):Rch:=(List.range v).foldl (rowR l F) { x with still:=true }
def upJ (l:List S74) (F:List Int) (v:Nat) (y:Rch) (j:Nat):Rch:=((stL l v l.length).take j).foldl (visR l F v) y
theorem upV_succ (l:List S74) (F:List Int) (x:Rch) (v:Nat):upV l F x (v+1)=rowR l F (upV l F x v) v:=by
 unfold upV
 rw[List.range_succ,List.foldl_append]
 rfl
theorem upJ_succ (l:List S74) (F:List Int) (v:Nat) (y:Rch) (j:Nat) (hj:j<(stL l v l.length).length):upJ l F v y (j+1)=visR l F v (upJ l F v y j) (rd_T38 (stL l v l.length) (j:Int)):=by
 unfold upJ
 have e:(stL l v l.length).take (j+1)=(stL l v l.length).take j ++ [rd_T38 (stL l v l.length) (j:Int)]:=by
  rw[List.take_add_one,List.getElem?_eq_getElem hj]
  show _ ++ [_]=_ ++ [(stL l v l.length).getD (j:Int).toNat z38]
  rw[Int.toNat_natCast,List.getD_eq_getElem?_getD,List.getElem?_eq_getElem hj]
  rfl
 rw[e,List.foldl_append]
 rfl
theorem upJ_all (l:List S74) (F:List Int) (v:Nat) (y:Rch) (hv:y.I.getD v false=true):upJ l F v y (stL l v l.length).length=rowR l F y v:=by
 unfold upJ rowR
 rw[List.take_length,if_pos hv]
theorem vis_on {l:List S74} {F:List Int} {v:Nat} {x:Rch} {s:S38} (h:visC l F v x s=true):visR l F v x s=⟨x.D.set (stTo l s).toNat (x.D.getD v 0+stTime l s),x.I.set (stTo l s).toNat true,x.B.set (stTo l s).toNat s,false⟩:=by
 unfold visR;rw[if_pos h]
theorem vis_off {l:List S74} {F:List Int} {v:Nat} {x:Rch} {s:S38} (h:visC l F v x s=false):visR l F v x s=x:=by
 unfold visR;rw[if_neg (by rw[h];simp)]
theorem rows_at {l:List S74} {n v:Nat} (hv:v<n):rd_L4 (rowsAt l n n) (v:Int)=stL l v l.length:=by
 unfold rd_L4
 rw[Int.toNat_natCast,List.getD_eq_getElem?_getD,rowsAt_get l n n v hv,if_pos hv]
 rfl
theorem set_true (L:List Bool) (u v:Nat) (h:L.getD v false=true):(L.set u true).getD v false=true:=by
 by_cases e:u=v
 ·subst e
  by_cases hl:u<L.length
  ·exact getD_set_eq _ _ _ _ hl
  ·rw[List.getD_eq_getElem?_getD,List.getElem?_eq_none (by omega)] at h
   cases h
 ·rw[getD_set_ne _ _ _ _ _ e];exact h
set_option maxHeartbeats 2000000 in
set_option maxRecDepth 100000 in
theorem settled_calls (n0:Nat) (a0_1:Bool) (A2:Option Addr) (c2:Nat) (l:List S74) (A3:Option Addr) (c3:Nat) (F:List Int) (A4:Option Addr) (c4:Nat) (gd gi gb cd ci cb b0:Nat) (x:Rch) (w:World)
  (hR:Right l F n0) (hx:x.Ok n0) (hD0:Bd x.D 0) (hc2:l.length≤c2) (hc3:F.length≤c3)
  (h2:Kd.F k74 w (okR gd gi gb) A2 l.length l) (h3:Kd.F (Kd.int .i64) w (okR gd gi gb) A3 F.length F) (h4:Kd.V (Kd.slice 38 k38) 34 w w.heap.size (okR gd gi gb) (.slice A4 n0 c4) (rowsAt l n0 n0))
  (hD:Kd.R (Kd.int .i64) 3 w b0 (fun _=>True) (.slice (some ⟨gd,0,none⟩) n0 cd) x.D) (hI:Kd.R Kd.bool 4 w b0 (fun _=>True) (.slice (some ⟨gi,0,none⟩) n0 ci) x.I) (hB:Kd.R k38 38 w b0 (fun _=>True) (.slice (some ⟨gb,0,none⟩) n0 cb) x.B):
  Calls Try.prog 100 #[.agg #[.int .i64 n0, .bool a0_1, .slice A2 l.length c2, .slice A3 F.length c3, .slice A4 n0 c4], .agg #[.slice (some ⟨gd,0,none⟩) n0 cd, .slice (some ⟨gi,0,none⟩) n0 ci, .slice (some ⟨gb,0,none⟩) n0 cb]] w fun e w'=>e= .returned (.bool (goesR l F n0 (n0+1) x).2)∧Kp gd gi gb w w'∧
   Kd.R (Kd.int .i64) 3 w' b0 (fun _=>True) (.slice (some ⟨gd,0,none⟩) n0 cd) (goesR l F n0 (n0+1) x).1.D∧Kd.R Kd.bool 4 w' b0 (fun _=>True) (.slice (some ⟨gi,0,none⟩) n0 ci) (goesR l F n0 (n0+1) x).1.I∧Kd.R k38 38 w' b0 (fun _=>True) (.slice (some ⟨gb,0,none⟩) n0 cb) (goesR l F n0 (n0+1) x).1.B:=by
 have hu118:=Try.underlying118
 have hu109:=Try.underlying109
 have HR:=Aside0.mk hR
 have HC2:=Aside0.mk hc2
 have HC3:=Aside0.mk hc3
 have H2:=Aside0.mk h2
 have H3:=Aside0.mk h3
 have H4:=Aside0.mk h4
 have HD:=Aside0.mk hD
 have HI:=Aside0.mk hI
 have HBB:=Aside0.mk hB
 have hn50:n0≤50:=hR.fifty
 have hn0:0<n0:=hR.pos
 clear hR h2 h3 h4 hD hI hB hc2 hc3
 obtain⟨XT,hXT⟩: ∃ y_,y_=goesR l F n0 (n0+1) x:=⟨_,rfl⟩
 rw[← hXT]
 have HXT:=Aside0.mk hXT.symm
 clear hXT
 have HB:=Aside0.mk (Below.refl w.heap.size w)
 go_enter Try.func100,Try.ntmps100
 go_wp2_with (first|((with_reducible refine gate_dst (N:=2) rfl ?_);refine box_event ?hg (N:=2) ?hd (cs:= #[.int .i64 n0, .bool a0_1, .slice A2 l.length c2, .slice A3 F.length c3, .slice A4 n0 c4]) (t:=118) ?hr ?_;(case hd=>rfl);(case hg=>rfl);(case hr=>first|(go_simp;done)|(go_simp;rfl));intro g2 hg w4 hbox hb;have n0_:=Aside0.mk (below_step HB.out hb);have B2:=Aside0.mk hbox;clear HB;have HB:=n0_;clear n0_ hb hbox hg)|((with_reducible refine gate_dst (N:=3) rfl ?_);refine box_event ?hg (N:=3) ?hd (cs:= #[.slice (some ⟨gd,0,none⟩) n0 cd, .slice (some ⟨gi,0,none⟩) n0 ci, .slice (some ⟨gb,0,none⟩) n0 cb]) (t:=109) ?hr ?_;(case hd=>rfl);(case hg=>rfl);(case hr=>first|(go_simp;done)|(go_simp;rfl));intro g3 hg w5 hbox hb;have n0_:=Aside0.mk (below_step HB.out hb);have n1_:=Aside0.mk (blk_below B2.out hb);have B3:=Aside0.mk hbox;clear HB B2;have HB:=n0_;have B2:=n1_;clear n0_ n1_ hb hbox hg)|fail)
 go_step3
 go_wp2
 go_step3
 have HF:Aside0 (Fm n0 a0_1 A2 c2 l A3 c3 F A4 c4 gd gi gb cd ci cb b0 g2 g3 w (x) (w5)):=⟨⟨Kd.R_below HD.out HB.out,Kd.R_below HI.out HB.out,Kd.R_below HBB.out HB.out,B2.out,B3.out,Kd.F_below H2.out HB.out,Kd.F_below H3.out HB.out,Kd.V_below H4.out HB.out,(Kp.refl gd gi gb w).below HB.out⟩⟩
 clear HD HI HBB H2 H3 H4 HB
 have hb20:w5.cell? ⟨g2,0,none⟩=some (.int .i64 n0):=(blk_cell B2.out 0).trans rfl
 go_wp2_with fail
 clear hb20 B2 B3
 go_loopw [16] (fun v16 w'=> ∃ r:Nat,r≤n0+1∧v16= .int .i64 r∧ ∃ x':Rch,Aside0 (x'.Ok n0)∧Aside0 (Bd x'.D (20000 * (r:Int)))∧Aside0 (goesR l F n0 (n0+1 - r) x'=XT)∧Aside0 (Fm n0 a0_1 A2 c2 l A3 c3 F A4 c4 gd gi gb cd ci cb b0 g2 g3 w (x') (w'))) (fun v16 _=>n0+1 - (intOf v16).toNat)
 case atStart=>exact⟨0,Nat.zero_le _,rfl,x,⟨hx⟩,⟨by simpa using hD0⟩,HXT,HF⟩
 case round=>
  clear HF HXT
  obtain⟨r,hr,rfl,x1,HO1,HBD1,HG1,HF⟩:=hrel
  by_cases hlt:r<n0+1
  ·have c17:decide ((r:Int)<(n0:Int)+1)=true:=decide_eq_true (by omega)
   have hb20:wr.cell? ⟨g2,0,none⟩=some (.int .i64 n0):=(blk_cell HF.out.b2 0).trans rfl
   go_wp2_with fail
   clear hb20
   have HF2:=Aside0.mk (HF.out.still true)
   have HO2:Aside0 ((upV l F x1 0).Ok n0):=⟨⟨HO1.out.hD,HO1.out.hI,HO1.out.hB⟩⟩
   clear HF
   obtain⟨w1,hw1⟩: ∃ x_:World,x_=wr:=⟨_,rfl⟩
   subst hw1
   go_loopw [22,5] (fun v22 v5 w'=> ∃ v:Nat,v≤n0∧v22= .int .i64 v∧ ∃ y:Rch,v5= .bool y.still∧Aside0 (y=upV l F x1 v)∧Aside0 (y.Ok n0)∧Aside0 (Bd y.D (20000 * (r:Int)+400 * (v:Int)))∧Aside0 (Fm n0 a0_1 A2 c2 l A3 c3 F A4 c4 gd gi gb cd ci cb b0 g2 g3 w (y) (w'))) (fun v22 _ _=>n0 - (intOf v22).toNat)
   case atStart=>exact⟨0,Nat.zero_le _,rfl,upV l F x1 0,rfl,⟨rfl⟩,HO2,⟨by show Bd x1.D _;simpa using HBD1.out⟩,HF2⟩
   case round=>
    clear HF2 HO2 HBD1 HO1
    obtain⟨v,hv,rfl,y,rfl,HY,HO,HBD,HF⟩:=hrel
    by_cases hltv:v<n0
    ·have c23:decide ((v:Int)<(n0:Int))=true:=decide_eq_true (by omega)
     have hb31:wr.cell? ⟨g3,1,none⟩=some (.slice (some ⟨gi,0,none⟩) n0 ci):=(blk_cell HF.out.b3 1).trans rfl
     have hiv:=HF.out.iv hltv
     have pv:0≤((v:Nat):Int):=by omega
     have qv:((v:Nat):Int)<(n0:Int):=by omega
     cases hIv:y.I.getD v false with
     |false=>
      rw[hIv] at hiv
      have HYS:Aside0 (y=upV l F x1 (v+1)):=⟨by rw[upV_succ, ← HY.out];unfold rowR;rw[if_neg (by rw[hIv];simp)]⟩
      clear hIv
      go_wp2_with fail
      clear hb31 hiv
      go_roundw
      case rel=>exact⟨v+1,by omega,by first|rfl|go_num,y,rfl,HYS,HO,⟨HBD.out.mono (by omega)⟩,HF⟩
      case measure=>simp[intOf]<;>omega
     |true=>
      rw[hIv] at hiv
      have HIV:=Aside0.mk hIv
      have HIVy:=Aside0.mk hIv
      clear hIv
      have hc0:wr.cell? ⟨g2,0,none⟩=some (.int .i64 n0):=(blk_cell HF.out.b2 0).trans rfl
      have hc1:wr.cell? ⟨g2,1,none⟩=some (.bool a0_1):=(blk_cell HF.out.b2 1).trans rfl
      have hc2:wr.cell? ⟨g2,2,none⟩=some (.slice A2 l.length c2):=(blk_cell HF.out.b2 2).trans rfl
      have hc3:wr.cell? ⟨g2,3,none⟩=some (.slice A3 F.length c3):=(blk_cell HF.out.b2 3).trans rfl
      have hc4:wr.cell? ⟨g2,4,none⟩=some (.slice A4 n0 c4):=(blk_cell HF.out.b2 4).trans rfl
      have hSt:=level_Seeker_Steps.calls (n0:Int) a0_1 A2 c2 l A3 c3 F (okR gd gi gb) A4 c4 (rowsAt l n0 n0) (v:Int) (stL l v l.length) wr (Kd.F_now HF.out.arcs) HC2.out (Kd.F_now HF.out.flow) HC3.out (by rw[rowsAt_len];exact HF.out.rows) (by unfold level_Seeker_Steps.f;rw[rowsAt_len,if_pos pv,if_pos qv,rows_at hltv])
      rw[rowsAt_len] at hSt
      have HST:=Aside0.mk hSt
      clear hSt
      obtain⟨RW,hRW⟩: ∃ r_,r_=stL l v l.length:=⟨_,rfl⟩
      have HRW:=Aside0.mk hRW
      have HRL:RW.length≤400:=by rw[hRW];have:=stL_len l v l.length;have:=HR.out.arcs;omega
      clear hRW
      go_wp2_with (first|(go_at_call 140;refine HST.out.mono ?_;rintro e_ w20 ⟨v0,rfl,hv,hb⟩;rw[← HRW.out] at hv;obtain⟨Av,cv,ev⟩:=Kd.V_slice hv;subst ev;have VR:Aside0 (Kd.V k38 38 w20 0 (okR gd gi gb) (.slice Av RW.length cv) RW):=⟨Kd.V_mono hv (fun k hk=>hk.elim id (fun h=>by obtain⟨_,_,_,_,_,_,_,_,_,p1,p2,p3⟩:=HF.out.blocks HO.out hn0;exact⟨by omega,by omega,by omega⟩))⟩;have n0_:=Aside0.mk (HF.out.below hb);clear HF;have HF:=n0_;clear n0_ hv hb hc0 hc1 hc2 hc3 hc4 hb31 hiv)|fail)
      obtain⟨w2,hw2⟩: ∃ x_:World,x_=w20:=⟨_,rfl⟩
      subst hw2
      have HZ0:Aside0 (y=upJ l F v y 0):=⟨rfl⟩
      go_loopw [35,5] (fun v35 v5 w'=> ∃ j:Nat,j≤RW.length∧v35= .int .i64 j∧ ∃ z:Rch,v5= .bool z.still∧Aside0 (z=upJ l F v y j)∧Aside0 (z.Ok n0)∧Aside0 (Bd z.D (20000 * (r:Int)+400 * (v:Int)+(j:Int)))∧Aside0 (z.I.getD v false=true)∧Aside0 (Fm n0 a0_1 A2 c2 l A3 c3 F A4 c4 gd gi gb cd ci cb b0 g2 g3 w (z) (w'))∧Aside0 (Kd.V k38 38 w' 0 (okR gd gi gb) (.slice Av RW.length cv) RW)) (fun v35 _ _=>RW.length - (intOf v35).toNat)
      case atStart=>exact⟨0,Nat.zero_le _,rfl,y,rfl,HZ0,HO,⟨by simpa using HBD.out⟩,HIV,HF,VR⟩
      case round=>
       clear HZ0 HBD HIV HF VR
       obtain⟨j,hj,rfl,z,rfl,HZ,HOz,HBD,HIV,HF,VR⟩:=hrel
       by_cases hltj:j<RW.length
       ·have pj:0≤((j:Nat):Int):=by omega
        have qj:((j:Nat):Int)<(RW.length:Int):=by omega
        have c36:decide ((j:Int)<(RW.length:Int))=true:=decide_eq_true qj
        obtain⟨adj,eadj,hs0,hs1⟩:=at_T38 (Kd.V_reads' VR.out).2.2 (j:Int) pj qj
        cases eadj
        simp only[Int.toNat_natCast] at hs0 hs1
        have HZS:=Aside0.mk (upJ_succ l F v y j (by rw[← HRW.out];exact hltj))
        have hso:StepOf l (rd_T38 RW (j:Int)):=stL_of (l:=l) (v:=v) (by
         rw[← HRW.out]
         unfold rd_T38
         rw[Int.toNat_natCast,List.getD_eq_getElem?_getD,List.getElem?_eq_getElem hltj]
         exact List.getElem_mem hltj)
        rw[← HRW.out, ← HZ.out] at HZS
        obtain⟨s,hs⟩: ∃ s_,s_=rd_T38 RW (j:Int):=⟨_,rfl⟩
        rw[← hs] at hs0 hs1 HZS hso
        have HSO:=Aside0.mk hso
        clear hs hso HZ
        go_wp2_with (first|((with_reducible refine gate_dst (N:=8) rfl ?_);refine box_event ?hg (N:=8) ?hd (cs:= #[.int .i64 0, .bool false]) (t:=38) ?hr ?_;(case hd=>rfl);(case hg=>rfl);(case hr=>first|(go_simp;done)|(go_simp;rfl));intro g8 hg w6 hbox hb;have GE8:Aside0 (wr.heap.size≤g8):=⟨Nat.le_of_eq hg.symm⟩;have B8:=Aside0.mk hbox;have HBL:=Aside0.mk hb;clear hbox hg hb;have hcz0:w6.cell? ⟨g8,0,none⟩=some (.int .i64 0):=(blk_cell B8.out 0).trans rfl;have hcz1:w6.cell? ⟨g8,1,none⟩=some (.bool false):=(blk_cell B8.out 1).trans rfl;have hfz0:=blk_frozen B8.out 0;have hfz1:=blk_frozen B8.out 1)|((with_reducible refine gate_store (t:=38) (p:=8) rfl ?_);refine store_event (t:=38) (p:=8) (v:= ?vo) (w1:=((w6.setCell ⟨g8,0,none⟩ (.int .i64 s.f0)).setCell ⟨g8,1,none⟩ (.bool s.f1))) ?hg ?ho ?hn ?hr ?_;(case ho=>rfl);(case hg=>rfl);(case hn=>rfl);(case hr=>first|(go_simp;done)|(go_simp;rfl));intro w8 hw;have m0_:Aside0 (w8.heap[g8]? =some (.cells #[.int .i64 s.f0, .bool s.f1] 38 (0,0))):=⟨by rw[hw];refine blk_put (cs:= #[.int .i64 s.f0, .bool false]) ?_ 1 _ rfl;refine blk_put (cs:= #[.int .i64 0, .bool false]) ?_ 0 _ rfl;exact B8.out⟩;have m1_:Aside0 (Below wr.heap.size wr w8):=⟨by rw[hw];exact below_set (below_set HBL.out GE8.out) GE8.out⟩;clear hw B8 HBL hcz0 hcz1 hfz0 hfz1 hs0 hs1;have B8:=m0_;have HBL:=m1_;clear m0_ m1_)|fail)
        have HG8a:Aside0 (g8≠gd∧g8≠gi∧g8≠gb):=⟨by obtain⟨_,_,_,_,_,_,_,_,_,p1,p2,p3⟩:=HF.out.blocks HOz.out hn0;have:=GE8.out;exact⟨by omega,by omega,by omega⟩⟩
        have m0_:=Aside0.mk (HF.out.below HBL.out)
        have m1_:=Aside0.mk (Kd.V_below VR.out HBL.out)
        clear HF VR HBL
        have HF:=m0_
        have VR:=m1_
        clear m0_ m1_
        obtain⟨dv,hdv⟩: ∃ d_,d_=z.D.getD v 0:=⟨_,rfl⟩
        obtain⟨tm,htm⟩: ∃ d_,d_=stTime l s:=⟨_,rfl⟩
        obtain⟨u,hu⟩: ∃ u_:Nat,stTo l s=(u_:Int):=⟨(stTo l s).toNat,by have:=stTo_in HR.out HSO.out;omega⟩
        obtain⟨rm,hrm⟩: ∃ d_,d_=stRoom l F s:=⟨_,rfl⟩
        have hun:u<n0:=by have:=stTo_in HR.out HSO.out;omega
        have htb:=stTime_in HR.out HSO.out
        rw[← htm] at htb
        have hdb:=HBD.out v
        rw[← hdv] at hdb
        have hwd:IntKind.i64.wrap (dv+tm)=dv+tm:=by rw[IntKind.wrap_i64];omega
        have HTO:=Aside0.mk (to_f HR.out HSO.out (n0:Int) a0_1)
        have HTM:=Aside0.mk (time_f HR.out HSO.out (n0:Int) a0_1)
        have HRM:=Aside0.mk (room_f HR.out HSO.out (n0:Int) a0_1)
        rw[hu] at HTO
        rw[← htm] at HTM
        rw[← hrm] at HRM
        have hcD:=HF.out.dv hltv
        rw[← hdv] at hcD
        have HVC:Aside0 (visC l F v z s=(decide (0<rm) && (!z.I.getD u false || decide (dv+tm<z.D.getD u 0)))):=⟨by unfold visC;rw[← hrm, ← hdv, ← htm,hu,Int.toNat_natCast]⟩
        have HVO:Aside0 (visC l F v z s=true→visR l F v z s=⟨z.D.set u (dv+tm),z.I.set u true,z.B.set u s,false⟩):=⟨fun h=>by rw[vis_on h, ← hdv, ← htm,hu,Int.toNat_natCast]⟩
        have HBS:Aside0 (Bd (z.D.set u (dv+tm)) (20000 * (r:Int)+400 * (v:Int)+((j+1:Nat):Int))):=⟨by
         have h_:=HBD.out.set (by omega) u v tm htb.1 htb.2
         rw[← hdv] at h_
         exact h_.mono (by omega)⟩
        clear hdb htb hu hrm htm hdv
        have q0: ∀ p:BelowW w8,p.at_.cell? ⟨g2,0,none⟩=some (.int .i64 n0):=fun p=>p.cell ((blk_cell HF.out.b2 0).trans rfl)
        have q1: ∀ p:BelowW w8,p.at_.cell? ⟨g2,1,none⟩=some (.bool a0_1):=fun p=>p.cell ((blk_cell HF.out.b2 1).trans rfl)
        have q2: ∀ p:BelowW w8,p.at_.cell? ⟨g2,2,none⟩=some (.slice A2 l.length c2):=fun p=>p.cell ((blk_cell HF.out.b2 2).trans rfl)
        have q3: ∀ p:BelowW w8,p.at_.cell? ⟨g2,3,none⟩=some (.slice A3 F.length c3):=fun p=>p.cell ((blk_cell HF.out.b2 3).trans rfl)
        have q4: ∀ p:BelowW w8,p.at_.cell? ⟨g8,0,none⟩=some (.int .i64 s.f0):=fun p=>p.cell ((blk_cell B8.out 0).trans rfl)
        have q5: ∀ p:BelowW w8,p.at_.cell? ⟨g8,1,none⟩=some (.bool s.f1):=fun p=>p.cell ((blk_cell B8.out 1).trans rfl)
        have q6: ∀ p:BelowW w8,p.at_.cell? ⟨g3,0,none⟩=some (.slice (some ⟨gd,0,none⟩) n0 cd):=fun p=>p.cell ((blk_cell HF.out.b3 0).trans rfl)
        have q7: ∀ p:BelowW w8,p.at_.cell? ⟨gd,v,none⟩=some (.int .i64 dv):=fun p=>p.cell hcD
        have HCA:Aside0 (∀ p:BelowW w8,Kd.C k74 p.at_ A2 l.length l):=⟨fun p=>Kd.F_now (Kd.F_below HF.out.arcs p.below)⟩
        have HCF:Aside0 (∀ p:BelowW w8,Kd.C (Kd.int .i64) p.at_ A3 F.length F):=⟨fun p=>Kd.F_now (Kd.F_below HF.out.flow p.below)⟩
        clear hcD
        have HG8:Aside0 (g8≠gd∧g8≠gi∧g8≠gb):=⟨HG8a.out⟩
        refine wp_region_quiet_below (by kernel_rfl) (by kernel_rfl) ?_;(repeat(quiet_step ((first|(go_at_call 105;exact calls_below_of (static_Flowing_To.calls (n0:Int) a0_1 A2 c2 l A3 c3 F s.f0 s.f1 (u:Int) _ (HCA.out _) HC2.out (HCF.out _) HC3.out HTO.out))|(go_at_call 107;exact calls_below_of (static_Flowing_Time.calls (n0:Int) a0_1 A2 c2 l A3 c3 F s.f0 s.f1 tm _ (HCA.out _) HC2.out (HCF.out _) HC3.out HTM.out))))));refine wpQuiet_nil ?_;intro wq hw';obtain⟨⟨wz,hbq⟩,hwq⟩:=hw';subst hwq
        have m0_:=Aside0.mk (HF.out.below hbq)
        have m1_:=Aside0.mk (Kd.V_below VR.out hbq)
        have m2_:=Aside0.mk (blk_below B8.out hbq)
        clear HF VR B8 HCA HCF q0 q1 q2 q3 q4 q5 q6 q7 hbq
        have HF:=m0_
        have VR:=m1_
        have B8:=m2_
        clear m0_ m1_ m2_
        have r0:wq.cell? ⟨g2,0,none⟩=some (.int .i64 n0):=(blk_cell HF.out.b2 0).trans rfl
        have r1:wq.cell? ⟨g2,1,none⟩=some (.bool a0_1):=(blk_cell HF.out.b2 1).trans rfl
        have r2:wq.cell? ⟨g2,2,none⟩=some (.slice A2 l.length c2):=(blk_cell HF.out.b2 2).trans rfl
        have r3:wq.cell? ⟨g2,3,none⟩=some (.slice A3 F.length c3):=(blk_cell HF.out.b2 3).trans rfl
        have r4:wq.cell? ⟨g8,0,none⟩=some (.int .i64 s.f0):=(blk_cell B8.out 0).trans rfl
        have r5:wq.cell? ⟨g8,1,none⟩=some (.bool s.f1):=(blk_cell B8.out 1).trans rfl
        have pu:0≤((u:Nat):Int):=by omega
        have qu:((u:Nat):Int)<(n0:Int):=by omega
        by_cases hpos:0<rm
        ·have e57:decide (0<rm)=true:=decide_eq_true hpos
         rw[e57,Bool.true_and] at HVC
         cases hIu:z.I.getD u false with
         |false=>
          rw[hIu] at HVC
          have HZN:Aside0 ((⟨z.D.set u (dv+tm),z.I.set u true,z.B.set u s,false⟩:Rch)=upJ l F v y (j+1)):=⟨by rw[HZS.out];exact(HVO.out (by rw[HVC.out];rfl)).symm⟩
          have HIU:=Aside0.mk hIu
          clear hIu hpos
          go_wp2_with (first|(go_at_call 104;refine(static_Flowing_Room.calls (n0:Int) a0_1 A2 c2 l A3 c3 F s.f0 s.f1 rm _ (Kd.F_now HF.out.arcs) HC2.out (Kd.F_now HF.out.flow) HC3.out HRM.out).mono ?_;rintro e_ w21 ⟨rfl,hb⟩;have m0_:=Aside0.mk (HF.out.below hb);have m1_:=Aside0.mk (Kd.V_below VR.out hb);have m2_:=Aside0.mk (blk_below B8.out hb);have m3_:Aside0 (g8<w21.heap.size):=⟨Nat.lt_of_lt_of_le (blk_lt B8.out) hb.size⟩;clear HF VR B8 hb r0 r1 r2 r3 r4 r5;have HF:=m0_;have VR:=m1_;have B8:=m2_;clear m0_ m1_ m2_ m3_;have s0:w21.cell? ⟨g3,0,none⟩=some (.slice (some ⟨gd,0,none⟩) n0 cd):=(blk_cell HF.out.b3 0).trans rfl;have s1:w21.cell? ⟨g3,1,none⟩=some (.slice (some ⟨gi,0,none⟩) n0 ci):=(blk_cell HF.out.b3 1).trans rfl;have s2:w21.cell? ⟨g3,2,none⟩=some (.slice (some ⟨gb,0,none⟩) n0 cb):=(blk_cell HF.out.b3 2).trans rfl;have s3:=HF.out.iv hun;have s4:=HF.out.dv hun;rw[HIU.out] at s3)|fail)
          (have s5:w21.cell? ⟨g8,0,none⟩=some (.int .i64 s.f0):=(blk_cell B8.out 0).trans rfl;have s6:w21.cell? ⟨g8,1,none⟩=some (.bool s.f1):=(blk_cell B8.out 1).trans rfl;have f0:=(HF.out.free hn0 u).1;have f1:=(HF.out.free hn0 u).2.1;have f2:=(HF.out.free hn0 (u * 2)).2.2;have f3:=(HF.out.free hn0 (u * 2+1)).2.2;obtain⟨t2,t3⟩:=HF.out.bv hun;obtain⟨n1,n2,n3,n4,n5,n6,n7,n8,n9,_,_,_⟩:=HF.out.blocks HOz.out hn0;obtain⟨k1,k2,k3⟩:=HG8.out;go_region;clear s0 s1 s2 s3 s4 s5 s6 f0 f1 f2 f3 t2 t3 n1 n2 n3 n4 n5 n6 n7 n8 n9 k1 k2 k3;have HF2:=Aside0.mk ((HF.out.put HOz.out hn0 hun (dv+tm) s).below (below_drew (Below.refl _ _)));have VR2:Aside0 (Kd.V k38 38 (((((w21.setCell ⟨gd,u,none⟩ (.int .i64 (dv+tm))).setCell ⟨gi,u,none⟩ (.bool true)).setCell ⟨gb,u * 2,none⟩ (.int .i64 s.f0)).setCell ⟨gb,u * 2+1,none⟩ (.bool s.f1)).drew) 0 (okR gd gi gb) (.slice (some adj) RW.length cv) RW):=⟨Kd.V_drew (Kd.V_far (p:=⟨gb,u * 2+1,none⟩) (Kd.V_far (p:=⟨gb,u * 2,none⟩) (Kd.V_far (p:=⟨gi,u,none⟩) (Kd.V_far (p:=⟨gd,u,none⟩) VR.out (fun _ hk=>hk.1) _) (fun _ hk=>hk.2.1) _) (fun _ hk=>hk.2.2) _) (fun _ hk=>hk.2.2) _)⟩;clear HF VR B8;have HOn:Aside0 (Rch.Ok n0 ⟨z.D.set u (dv+tm),z.I.set u true,z.B.set u s,false⟩):=⟨⟨by simp[HOz.out.hD],by simp[HOz.out.hI],by simp[HOz.out.hB]⟩⟩;have HIVn:Aside0 ((z.I.set u true).getD v false=true):=⟨set_true _ _ _ HIV.out⟩;generalize ((((w21.setCell ⟨gd,u,none⟩ (.int .i64 (dv+tm))).setCell ⟨gi,u,none⟩ (.bool true)).setCell ⟨gb,u * 2,none⟩ (.int .i64 s.f0)).setCell ⟨gb,u * 2+1,none⟩ (.bool s.f1)).drew=w30 at HF2 VR2 ⊢;go_wp2_with fail;go_roundw;(case rel=>exact⟨j+1,by omega,by first|rfl|go_num,(⟨z.D.set u (dv+tm),z.I.set u true,z.B.set u s,false⟩:Rch),rfl,HZN,HOn,HBS,HIVn,HF2,VR2⟩);(case measure=>simp[intOf]<;>omega))
         |true=>
          rw[hIu,Bool.not_true,Bool.false_or] at HVC
          have HIU:=Aside0.mk hIu
          clear hIu hpos
          by_cases hlt2:dv+tm<z.D.getD u 0
          ·have e72:decide (dv+tm<z.D.getD u 0)=true:=decide_eq_true hlt2
           have HZN:Aside0 ((⟨z.D.set u (dv+tm),z.I.set u true,z.B.set u s,false⟩:Rch)=upJ l F v y (j+1)):=⟨by rw[HZS.out];exact(HVO.out (by rw[HVC.out];exact e72)).symm⟩
           obtain⟨du,hdu⟩: ∃ d_,d_=z.D.getD u 0:=⟨_,rfl⟩
           rw[← hdu] at e72 hlt2
           have HDU:=Aside0.mk hdu
           clear hdu hlt2
           go_wp2_with (first|(go_at_call 104;refine(static_Flowing_Room.calls (n0:Int) a0_1 A2 c2 l A3 c3 F s.f0 s.f1 rm _ (Kd.F_now HF.out.arcs) HC2.out (Kd.F_now HF.out.flow) HC3.out HRM.out).mono ?_;rintro e_ w21 ⟨rfl,hb⟩;have m0_:=Aside0.mk (HF.out.below hb);have m1_:=Aside0.mk (Kd.V_below VR.out hb);have m2_:=Aside0.mk (blk_below B8.out hb);have m3_:Aside0 (g8<w21.heap.size):=⟨Nat.lt_of_lt_of_le (blk_lt B8.out) hb.size⟩;clear HF VR B8 hb r0 r1 r2 r3 r4 r5;have HF:=m0_;have VR:=m1_;have B8:=m2_;clear m0_ m1_ m2_ m3_;have s0:w21.cell? ⟨g3,0,none⟩=some (.slice (some ⟨gd,0,none⟩) n0 cd):=(blk_cell HF.out.b3 0).trans rfl;have s1:w21.cell? ⟨g3,1,none⟩=some (.slice (some ⟨gi,0,none⟩) n0 ci):=(blk_cell HF.out.b3 1).trans rfl;have s2:w21.cell? ⟨g3,2,none⟩=some (.slice (some ⟨gb,0,none⟩) n0 cb):=(blk_cell HF.out.b3 2).trans rfl;have s3:=HF.out.iv hun;have s4:=HF.out.dv hun;rw[HIU.out] at s3;rw[← HDU.out] at s4)|fail)
           (have s5:w21.cell? ⟨g8,0,none⟩=some (.int .i64 s.f0):=(blk_cell B8.out 0).trans rfl;have s6:w21.cell? ⟨g8,1,none⟩=some (.bool s.f1):=(blk_cell B8.out 1).trans rfl;have f0:=(HF.out.free hn0 u).1;have f1:=(HF.out.free hn0 u).2.1;have f2:=(HF.out.free hn0 (u * 2)).2.2;have f3:=(HF.out.free hn0 (u * 2+1)).2.2;obtain⟨t2,t3⟩:=HF.out.bv hun;obtain⟨n1,n2,n3,n4,n5,n6,n7,n8,n9,_,_,_⟩:=HF.out.blocks HOz.out hn0;obtain⟨k1,k2,k3⟩:=HG8.out;go_region;clear s0 s1 s2 s3 s4 s5 s6 f0 f1 f2 f3 t2 t3 n1 n2 n3 n4 n5 n6 n7 n8 n9 k1 k2 k3;have HF2:=Aside0.mk ((HF.out.put HOz.out hn0 hun (dv+tm) s).below (below_drew (Below.refl _ _)));have VR2:Aside0 (Kd.V k38 38 (((((w21.setCell ⟨gd,u,none⟩ (.int .i64 (dv+tm))).setCell ⟨gi,u,none⟩ (.bool true)).setCell ⟨gb,u * 2,none⟩ (.int .i64 s.f0)).setCell ⟨gb,u * 2+1,none⟩ (.bool s.f1)).drew) 0 (okR gd gi gb) (.slice (some adj) RW.length cv) RW):=⟨Kd.V_drew (Kd.V_far (p:=⟨gb,u * 2+1,none⟩) (Kd.V_far (p:=⟨gb,u * 2,none⟩) (Kd.V_far (p:=⟨gi,u,none⟩) (Kd.V_far (p:=⟨gd,u,none⟩) VR.out (fun _ hk=>hk.1) _) (fun _ hk=>hk.2.1) _) (fun _ hk=>hk.2.2) _) (fun _ hk=>hk.2.2) _)⟩;clear HF VR B8;have HOn:Aside0 (Rch.Ok n0 ⟨z.D.set u (dv+tm),z.I.set u true,z.B.set u s,false⟩):=⟨⟨by simp[HOz.out.hD],by simp[HOz.out.hI],by simp[HOz.out.hB]⟩⟩;have HIVn:Aside0 ((z.I.set u true).getD v false=true):=⟨set_true _ _ _ HIV.out⟩;generalize ((((w21.setCell ⟨gd,u,none⟩ (.int .i64 (dv+tm))).setCell ⟨gi,u,none⟩ (.bool true)).setCell ⟨gb,u * 2,none⟩ (.int .i64 s.f0)).setCell ⟨gb,u * 2+1,none⟩ (.bool s.f1)).drew=w30 at HF2 VR2 ⊢;go_wp2_with fail;go_roundw;(case rel=>exact⟨j+1,by omega,by first|rfl|go_num,(⟨z.D.set u (dv+tm),z.I.set u true,z.B.set u s,false⟩:Rch),rfl,HZN,HOn,HBS,HIVn,HF2,VR2⟩);(case measure=>simp[intOf]<;>omega))
          ·have e72:decide (dv+tm<z.D.getD u 0)=false:=decide_eq_false hlt2
           have HZN:Aside0 (z=upJ l F v y (j+1)):=⟨by rw[HZS.out];exact(vis_off (by rw[HVC.out];exact e72)).symm⟩
           obtain⟨du,hdu⟩: ∃ d_,d_=z.D.getD u 0:=⟨_,rfl⟩
           rw[← hdu] at e72 hlt2
           have HDU:=Aside0.mk hdu
           clear hdu hlt2
           go_wp2_with (first|(go_at_call 104;refine(static_Flowing_Room.calls (n0:Int) a0_1 A2 c2 l A3 c3 F s.f0 s.f1 rm _ (Kd.F_now HF.out.arcs) HC2.out (Kd.F_now HF.out.flow) HC3.out HRM.out).mono ?_;rintro e_ w21 ⟨rfl,hb⟩;have m0_:=Aside0.mk (HF.out.below hb);have m1_:=Aside0.mk (Kd.V_below VR.out hb);have m2_:=Aside0.mk (blk_below B8.out hb);have m3_:Aside0 (g8<w21.heap.size):=⟨Nat.lt_of_lt_of_le (blk_lt B8.out) hb.size⟩;clear HF VR B8 hb r0 r1 r2 r3 r4 r5;have HF:=m0_;have VR:=m1_;have B8:=m2_;clear m0_ m1_ m2_ m3_;have s0:w21.cell? ⟨g3,0,none⟩=some (.slice (some ⟨gd,0,none⟩) n0 cd):=(blk_cell HF.out.b3 0).trans rfl;have s1:w21.cell? ⟨g3,1,none⟩=some (.slice (some ⟨gi,0,none⟩) n0 ci):=(blk_cell HF.out.b3 1).trans rfl;have s2:w21.cell? ⟨g3,2,none⟩=some (.slice (some ⟨gb,0,none⟩) n0 cb):=(blk_cell HF.out.b3 2).trans rfl;have s3:=HF.out.iv hun;have s4:=HF.out.dv hun;rw[HIU.out] at s3;rw[← HDU.out] at s4)|fail)
           go_roundw
           case rel=>exact⟨j+1,by omega,by first|rfl|go_num,z,rfl,HZN,HOz,⟨HBD.out.mono (by omega)⟩,HIV,HF,VR⟩
           case measure=>simp[intOf]<;>omega
        ·have e57:decide (0<rm)=false:=decide_eq_false hpos
         rw[e57,Bool.false_and] at HVC
         have HZN:Aside0 (z=upJ l F v y (j+1)):=⟨by rw[HZS.out];exact(vis_off HVC.out).symm⟩
         clear hpos
         go_wp2_with (first|(go_at_call 104;refine(static_Flowing_Room.calls (n0:Int) a0_1 A2 c2 l A3 c3 F s.f0 s.f1 rm _ (Kd.F_now HF.out.arcs) HC2.out (Kd.F_now HF.out.flow) HC3.out HRM.out).mono ?_;rintro e_ w21 ⟨rfl,hb⟩;have m0_:=Aside0.mk (HF.out.below hb);have m1_:=Aside0.mk (Kd.V_below VR.out hb);have m2_:=Aside0.mk (blk_below B8.out hb);have m3_:Aside0 (g8<w21.heap.size):=⟨Nat.lt_of_lt_of_le (blk_lt B8.out) hb.size⟩;clear HF VR B8 hb r0 r1 r2 r3 r4 r5;have HF:=m0_;have VR:=m1_;have B8:=m2_;clear m0_ m1_ m2_ m3_;have s0:w21.cell? ⟨g3,0,none⟩=some (.slice (some ⟨gd,0,none⟩) n0 cd):=(blk_cell HF.out.b3 0).trans rfl;have s1:w21.cell? ⟨g3,1,none⟩=some (.slice (some ⟨gi,0,none⟩) n0 ci):=(blk_cell HF.out.b3 1).trans rfl;have s2:w21.cell? ⟨g3,2,none⟩=some (.slice (some ⟨gb,0,none⟩) n0 cb):=(blk_cell HF.out.b3 2).trans rfl;have s3:=HF.out.iv hun;have s4:=HF.out.dv hun;skip)|fail)
         go_roundw
         case rel=>exact⟨j+1,by omega,by first|rfl|go_num,z,rfl,HZN,HOz,⟨HBD.out.mono (by omega)⟩,HIV,HF,VR⟩
         case measure=>simp[intOf]<;>omega
       ·have ej:j=RW.length:=by omega
        subst ej
        have c36:decide ((RW.length:Int)<(RW.length:Int))=false:=decide_eq_false (by omega)
        have HYS:Aside0 (z=upV l F x1 (v+1)):=⟨by rw[upV_succ, ← HY.out,HZ.out,HRW.out];exact upJ_all l F v y HIVy.out⟩
        go_wp2_with fail
        go_roundw
        case rel=>exact⟨v+1,by omega,by first|rfl|go_num,z,rfl,HYS,HOz,⟨HBD.out.mono (by omega)⟩,HF⟩
        case measure=>simp[intOf]<;>omega
    ·have ev:n0=v:=by omega
     subst ev
     have c23:decide ((n0:Int)<(n0:Int))=false:=decide_eq_false (by omega)
     have HRD:Aside0 (roundR l F n0 x1=y):=⟨HY.out.symm⟩
     have hk:n0+1 - r=(n0 - r)+1:=by omega
     rw[hk] at HG1
     clear hk
     cases hst:y.still with
     |true=>
      have HG2:Aside0 (XT=(y,true)):=⟨by rw[← HG1.out];exact goes_end HRD.out hst⟩
      clear hst
      go_wp2_with fail
      rw[Exit.noGoto_ret]
      go_ret
      rw[HG2.out]
      exact⟨rfl,HF.out.kp,HF.out.D,HF.out.I,HF.out.B⟩
     |false=>
      have HG2:Aside0 (goesR l F n0 (n0+1 - (r+1)) y=XT):=⟨by rw[show n0+1 - (r+1)=n0 - r by omega, ← HG1.out];exact(goes_step HRD.out hst).symm⟩
      clear hst
      go_wp2_with fail
      go_roundw
      case rel=>exact⟨r+1,by omega,by first|rfl|go_num,y,HO,⟨HBD.out.mono (by omega)⟩,HG2,HF⟩
      case measure=>simp[intOf]<;>omega
  ·have er:r=n0+1:=by omega
   subst er
   have c17:decide (((n0+1:Nat):Int)<(n0:Int)+1)=false:=decide_eq_false (by omega)
   have HG2:Aside0 (XT=(x1,false)):=⟨by have:=HG1.out;rw[Nat.sub_self] at this;exact this.symm⟩
   go_wp2_with fail
   rw[Exit.noGoto_ret]
   go_ret
   rw[HG2.out]
   exact⟨rfl,HF.out.kp,HF.out.D,HF.out.I,HF.out.B⟩
end Go.Proofs.Ytkcpanpdipmmmaa.H
namespace Go.Proofs.Ytkcpanpdipmmmaa.H
open Go.RowKit Go.Proofs.YtkcpanpdipmmmaaW.PrintWords Go.Proofs.YtkcpanpdipmmmaaW.PrintLast Go.Proofs.YtkcpanpdipmmmaaW.PrintMore Go.Proofs.Ytkcpanpdipmmmaa.P
set_option maxHeartbeats 1000000 in
set_option maxRecDepth 100000 in
theorem insertion_nil (A:Option Addr) (cap:Nat) (f:Value) (w:World):
  Calls Try.prog 169 #[.slice A 0 cap, .int .i64 0, .int .i64 0,f] w fun e w'=>e= .returned (.tuple #[])∧w'=w:=by
 go_enter Try.func169,Try.ntmps169
 go_wp2
 go_loopw [8] (fun i wr=>i= .int .i64 1∧Aside0 (wr=w)) (fun i _=>0)
 case atStart=>exact⟨by go_num,⟨rfl⟩⟩
 case round=>
  obtain⟨rfl,HW⟩:=hrel
  go_wp2
  go_end0
  exact⟨rfl,HW.out⟩
set_option maxHeartbeats 1000000 in
set_option maxRecDepth 100000 in
theorem stable_nil (A:Option Addr) (cap:Nat) (f:Value) (w:World):
  Calls Try.prog 162 #[.slice A 0 cap, .int .i64 0,f] w fun e w'=>e= .returned (.tuple #[])∧w'=w:=by
 go_enter Try.func162,Try.ntmps162
 go_wp2_with fail
 go_loopw [7,8] (fun va vb wr=>va= .int .i64 0∧vb= .int .i64 20∧Aside0 (wr=w)) (fun va _ _=>0)
 case atStart=>exact⟨by go_num,by go_num,⟨rfl⟩⟩
 case round=>
  obtain⟨rfl,rfl,HW⟩:=hrel
  go_wp2_with fail
  refine(insertion_nil A cap f _).mono ?_
  rintro e1 w1 ⟨rfl,rfl⟩
  go_wp2_with fail
  go_loopw [6] (fun vs wr=>vs= .int .i64 20∧Aside0 (wr=w)) (fun vs _=>0)
  case atStart=>exact⟨by go_num,HW⟩
  case round=>
   clear HW
   obtain⟨rfl,HW⟩:=hrel
   go_wp2_with fail
   go_end0
   exact⟨rfl,HW.out⟩
theorem sortStable_nil (A:Option Addr) (cap:Nat) (f:Value) (w:World):
  Calls Try.prog 143 #[.slice A 0 cap,f] w fun e w'=>e= .returned (.tuple #[])∧w'=w:=by
 go_enter Try.func143,Try.ntmps143
 go_wp2_with fail
 refine(stable_nil A cap f w).mono ?_
 rintro e1 w1 ⟨rfl,rfl⟩
 go_wp2_with fail
 go_end0
 exact⟨rfl,rfl⟩
end Go.Proofs.Ytkcpanpdipmmmaa.H
namespace Go.Proofs.Ytkcpanpdipmmmaa.H
open Go.RowKit Go.Proofs.YtkcpanpdipmmmaaW.PrintWords Go.Proofs.YtkcpanpdipmmmaaW.PrintLast Go.Proofs.YtkcpanpdipmmmaaW.PrintMore Go.Proofs.Ytkcpanpdipmmmaa.P
theorem stL_nil {l:List S74} {n:Nat} {v:Int} (hv0:0≤v) (hv:v<n) (hE:ends l n) (h:stepsU l n v=[]):stL l v l.length=[]:=by
 refine List.eq_nil_iff_forall_not_mem.2 fun s hs=> ?_
 have:=(mem_stepsU l n v hv0 hv hE s).2 ((mem_stL l v l.length s).1 hs)
 rw[h] at this
 cases this
theorem row_step (P:List S38) (L:List Int) (b:Bool) (j:Nat) (hj:j<L.length):P ++ (L.take (j+1)).map (fun i=>(⟨i,b⟩:S38))=(P ++ (L.take j).map (fun i=>(⟨i,b⟩:S38))) ++ [⟨rd L (j:Int),b⟩]:=by
 have e:L.take (j+1)=L.take j ++ [rd L (j:Int)]:=by
  rw[List.take_add_one,List.getElem?_eq_getElem hj]
  show _ ++ [L[j]]=_ ++ [L.getD (j:Int).toNat 0]
  rw[Int.toNat_natCast,List.getD_eq_getElem?_getD,List.getElem?_eq_getElem hj]
  rfl
 rw[e,List.map_append,List.append_assoc]
 rfl
theorem sort_row {w:World} {base go n co k N:Nat} {l:List S74} {X:List (List S38)} {oki:Nat→Prop} {A:Option Addr} {cr:Nat} {RW:List S38}
  (hH:Kd.H (Kd.slice 38 k38) 34 w base (fun _=>True) (.slice (some ⟨go,0,none⟩) n co) X (k:Int) oki [.slice A RW.length cr])
  (hR:Kd.R k38 38 w base oki (.slice A RW.length cr) RW) (hRW:RW=stepsU l N (k:Int)) (hk:k<N) (hE:ends l N) (hl:l.length≤1000000) (hlen:RW.length≤1000000):
  Calls Try.prog 143 #[.slice A RW.length cr, .func (.func 144) #[] #[]] w fun e w'=>e= .returned (.tuple #[])∧
   ∃ v:Value,w.grownBy w' v.ownBlock∧(∀ g,v.ownBlock=some g→base≤g∧ ∃ cells,w.heap[g]? =some (.cells cells 38 (0,0)))∧Kd.S (Kd.slice 38 k38) 34 w' base (fun _=>True) (.slice (some ⟨go,0,none⟩) n co) (X.set k (stL l k l.length)):=by
 have hk0:0≤(k:Int):=by omega
 have hkn:(k:Int)<N:=by omega
 by_cases hp:0<RW.length
 ·obtain⟨g,cap,e,hb,_,cells,hcl⟩:=Kd.R_form hR hp
  injection e with e1 _ e3
  subst e1
  subst e3
  have hA:=arr_of_R hR hp
  refine(sortStable_calls g RW.length cr (fun i=>RW.getD i z38) w hA hlen ?_ ?_).mono ?_
  ·rw[hRW];exact stab_of_list (stab_stepsU l N (k:Int) hk0 hkn hE)
  ·rw[hRW];exact small_steps hk0 hkn hE hl
  ·rintro e w' ⟨rfl,⟨K,hK,hs⟩,hf⟩
   refine⟨rfl, .slice (some ⟨g,0,none⟩) RW.length cr,hf.1,fun g' hg'=> ?_,?_⟩
   ·have:g=g':=by simpa [Value.ownBlock] using hg'
    subst this
    exact⟨hb,cells,hcl⟩
   ·have hoki:oki g:=hR.1 g rfl
    have hR':=R_of_arr hR rfl hp hK hf hoki
    have hst:(List.range RW.length).map K=stL l k l.length:=by rw[hRW] at hs ⊢;exact sorted_is hk0 hkn hE hs
    rw[hst] at hR'
    have hS:=Kd.H_back (Kd.H_grown hH hf.1 (fun q hq=>by injection hq with hq;subst hq;exact hoki)) (x':=stL l k l.length) ⟨_,rfl,hR'⟩ (fun _ hk=>hk)
    rw[Int.toNat_natCast] at hS
    exact hS
 ·have h0:RW=[]:=List.eq_nil_of_length_eq_zero (by omega)
  have hst:stL l k l.length=[]:=stL_nil hk0 hkn hE (by rw[← hRW];exact h0)
  subst h0
  refine(sortStable_nil A cr _ w).mono ?_
  rintro e w' ⟨rfl,rfl⟩
  refine⟨rfl, .slice none 0 0,World.grownBy.refl _ _,fun g' hg'=>by simp[Value.ownBlock] at hg',?_⟩
  rw[hst]
  have hS:=Kd.H_back hH (x':=([]:List S38)) ⟨_,rfl,hR⟩ (fun _ hk=>hk)
  rw[Int.toNat_natCast] at hS
  exact hS
end Go.Proofs.Ytkcpanpdipmmmaa.H
