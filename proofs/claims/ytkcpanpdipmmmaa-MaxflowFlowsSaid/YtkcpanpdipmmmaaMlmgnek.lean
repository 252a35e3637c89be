/- What the law's row needs of these texts, taken out of them by wip/tool/mini.py: P101 QFlowWalk QFillMem QDownWalk QPhaseMem QPhaseWalk QSortNil QSortRow QAt QEndsLaw QRightOf QEndsRight QMaxLaw QFillWalk P119 P120 P121 P124. -/
import Derived.Test.YtkcpanpdipmmmaaMkkdfci
import Derived.Test.YtkcpanpdipmmmaaMgnmbnl
import Derived.Test.YtkcpanpdipmmmaaMdlghjd
import Derived.Test.YtkcpanpdipmmmaaMepgmgf
import Derived.Deep.RegionHeld3
import Derived.Deep.DeepCutAuto
import Derived.Laws.IdiomCopy
import Derived.Lib.SliceRun
set_option linter.unusedVariables false
set_option linter.unusedSimpArgs false
namespace Go.Proofs.Ytkcpanpdipmmmaa.P
open Go.RowKit Go.Proofs.YtkcpanpdipmmmaaW.PrintWords Go.Proofs.YtkcpanpdipmmmaaW.PrintLast Go.Proofs.YtkcpanpdipmmmaaW.PrintMore
attribute [local go_sem] max2_int min2_int max_two min_two max_three min_three max_four min_four
def maxflow_Value.l0:Nat→Int→List Int→Int→List (S74)→Int→Int→Option (Int)
 |0,_,_,_,_,_,_=>none
 |k+1,x1,x2,x7,x11,x12,x13=>if x13<x12 then(if 0≤x13 then(if x13<(x11.length:Int) then(if ((rd_T74 x11 x13).f0)=x1 then(if x13<(x2.length:Int) then(if ((rd_T74 x11 x13).f1)=x1 then(maxflow_Value.l0 k x1 x2 (wrap64 ((wrap64 (x7+(rd x2 x13))) - (rd x2 x13))) x11 x12 (wrap64 (x13+1))) else(maxflow_Value.l0 k x1 x2 (wrap64 (x7+(rd x2 x13))) x11 x12 (wrap64 (x13+1)))) else(none)) else(if ((rd_T74 x11 x13).f1)=x1 then(if x13<(x2.length:Int) then(maxflow_Value.l0 k x1 x2 (wrap64 (x7 - (rd x2 x13))) x11 x12 (wrap64 (x13+1))) else(none)) else(maxflow_Value.l0 k x1 x2 x7 x11 x12 (wrap64 (x13+1))))) else(none)) else(none)) else(some x7)
def maxflow_Value.f (k:Nat) (a0_0:Int) (a0_1:Bool) (l0_2:List (S74)) (a1:Int) (l2:List Int):Option (Int):=maxflow_Value.l0 k a1 l2 0 l0_2 (l0_2.length:Int) 0
set_option maxHeartbeats 8000000 in
set_option maxRecDepth 100000 in
theorem maxflow_Value.calls (k:Nat) (a0_0:Int) (a0_1:Bool) (A0_2:Option Addr) (c0_2:Nat) (l0_2:List (S74)) (a1:Int) (A2:Option Addr) (c2:Nat) (l2:List Int) (r:Int) (w:World) (hr0_2:Kd.C k74 w A0_2 l0_2.length l0_2) (hc0_2:l0_2.length≤c0_2) (hr2:Kd.C (Kd.int .i64) w A2 l2.length l2) (hc2:l2.length≤c2) (h:maxflow_Value.f k a0_0 a0_1 l0_2 a1 l2=some r):
  Calls Try.prog 119 #[.agg #[.int .i64 a0_0, .bool a0_1, .slice A0_2 l0_2.length c0_2], .int .i64 a1, .slice A2 l2.length c2] w fun e w'=>e= .returned (.int .i64 r)∧Below w.heap.size w w':=by
 have hu24:=Try.underlying24
 have hu74:=Try.underlying74
 have HR0_2:=Aside0.mk hr0_2
 have HC0_2:=Aside0.mk hc0_2
 clear hr0_2 hc0_2
 have HR2:=Aside0.mk hr2
 have HC2:=Aside0.mk hc2
 clear hr2 hc2
 have HB:=Aside0.mk (Below.refl w.heap.size w)
 have H:(maxflow_Value.l0 k a1 l2 0 l0_2 (l0_2.length:Int) 0)=some r:=h
 clear h
 have H':=Aside0.mk H
 clear H
 go_enter Try.func119,Try.ntmps119
 go_wp2_with (first|((with_reducible refine gate_dst (N:=3) rfl ?_);refine box_event ?hg (N:=3) ?hd (cs:= #[.int .i64 a0_0, .bool a0_1, .slice A0_2 l0_2.length c0_2]) (t:=24) ?hr ?_;(case hd=>rfl);(case hg=>rfl);(case hr=>first|(go_simp;done)|(go_simp;rfl));intro gb758 hg w4 hbox hb;have n0_:=Aside0.mk (below_step HB.out hb);have n1_:=Aside0.mk (hbox);have n2_:=Aside0.mk ((by rw[hg];exact(below_size HB.out):w.heap.size≤gb758));have n3_:=Aside0.mk ((by rw[hg];exact(below_size HB.out):w.heap.size≤gb758));clear HB;have HB:=n0_;have BK758:=n1_;have GW758:=n2_;have GE758:=n3_;clear n0_ n1_ n2_ n3_;clear hb hbox hg;have hcz5_0:w4.cell? ⟨gb758,0,none⟩=some (.int .i64 a0_0):=(blk_cell BK758.out 0).trans rfl;have hcz5_1:w4.cell? ⟨gb758,1,none⟩=some (.bool a0_1):=(blk_cell BK758.out 1).trans rfl;have hcz5_2:w4.cell? ⟨gb758,2,none⟩=some (.slice A0_2 l0_2.length c0_2):=(blk_cell BK758.out 2).trans rfl;have hfz5_0:=blk_frozen BK758.out 0;have hfz5_1:=blk_frozen BK758.out 1;have hfz5_2:=blk_frozen BK758.out 2))
 go_loopg [7,13] k (fun kq v7 v13 w'=> ∃ (x7_1:Int) (x13_1:Int),v7= .int .i64 x7_1∧v13= .int .i64 x13_1∧Aside0 (maxflow_Value.l0 kq a1 l2 x7_1 l0_2 (l0_2.length:Int) x13_1=some r)∧Aside0 (kq≤k)∧Aside0 (w'.heap[gb758]? =some (.cells #[.int .i64 a0_0, .bool a0_1,(.slice A0_2 l0_2.length c0_2)] 24 (0,0)))∧Aside0 (Below w.heap.size w w'))
 case atStart=>exact⟨(0),(0),(by first|rfl|(simp;done)|(simp[*];done)),(by first|rfl|(simp;done)|(simp[*];done)),H',⟨Nat.le_refl _⟩,⟨BK758.out⟩,⟨HB.out⟩⟩
 case round=>
  clear H'
  try clear c1
  try clear c2
  try clear p2
  try clear hcz5_0
  try clear hcz5_1
  try clear hcz5_2
  try clear hfz5_0
  try clear hfz5_1
  try clear hfz5_2
  obtain⟨x7_1,x13_1,rfl,rfl,HA,HK1,BK758,HB⟩:=hrel
  cases gk with
  |zero=>exact absurd HA.out (by simp[maxflow_Value.l0])
  |succ k1=>
   have H:=HA.out
   clear HA
   simp only[maxflow_Value.l0] at H
   by_cases c6:x13_1<(l0_2.length:Int)
   rotate_left
   ·rw[if_neg c6] at H
    have c6b0:decide (x13_1<(l0_2.length:Int))=false:=decide_eq_false c6
    clear c6
    obtain rfl:=Option.some.inj H
    go_wp2
    go_ret
    exact⟨by first|rfl|(simp[errW_none,errW_some]<;>rfl)|(simp[*,errW_none,errW_some]<;>rfl),HB.out⟩
   rw[if_pos c6] at H
   have c6b0:decide (x13_1<(l0_2.length:Int))=true:=decide_eq_true c6
   clear c6
   by_cases c7:0≤x13_1
   rotate_left
   ·rw[if_neg c7] at H
    exact absurd H (by simp)
   rw[if_pos c7] at H
   have c7b0:decide (0≤x13_1)=true:=decide_eq_true c7
   clear c7
   by_cases c8:x13_1<(l0_2.length:Int)
   rotate_left
   ·rw[if_neg c8] at H
    exact absurd H (by simp)
   rw[if_pos c8] at H
   have c8b0:decide (x13_1<(l0_2.length:Int))=true:=decide_eq_true c8
   clear c8
   by_cases c9:((rd_T74 l0_2 x13_1).f0)=a1
   rotate_left
   ·rw[if_neg c9] at H
    have c9b0:(((rd_T74 l0_2 x13_1).f0) == a1)=false:=beq_eq_false_iff_ne.mpr c9
    have c9b1:(((rd_T74 l0_2 x13_1).f0) != a1)=true:=bne_iff_ne.mpr c9
    by_cases c18:((rd_T74 l0_2 x13_1).f1)=a1
    rotate_left
    ·rw[if_neg c18] at H
     have c18b0:(((rd_T74 l0_2 x13_1).f1) == a1)=false:=beq_eq_false_iff_ne.mpr c18
     have c18b1:(((rd_T74 l0_2 x13_1).f1) != a1)=true:=bne_iff_ne.mpr c18
     have H':=Aside0.mk H
     clear H
     have p759:0≤(x13_1:Int):=of_decide_eq_true (by first|(with_reducible assumption)|assumption)
     have q759:x13_1<(l0_2.length:Int):=of_decide_eq_true (by first|(with_reducible assumption)|assumption)
     obtain⟨ad759,e759,hx759_0,hx759_1,hx759_2,hx759_3⟩:=at_T74 HR0_2.out x13_1 p759 q759
     cases e759
     replace hx759_0:=(HB.out.cell (World.block_lt_of_cell? w _ hx759_0)).trans hx759_0
     replace hx759_1:=(HB.out.cell (World.block_lt_of_cell? w _ hx759_1)).trans hx759_1
     replace hx759_2:=(HB.out.cell (World.block_lt_of_cell? w _ hx759_2)).trans hx759_2
     replace hx759_3:=(HB.out.cell (World.block_lt_of_cell? w _ hx759_3)).trans hx759_3
     replace p759:=eq_true p759
     replace q759:=eq_true q759
     go_wp2_with (first|((with_reducible refine gate_dst (N:=9) rfl ?_);refine box_event ?hg (N:=9) ?hd (cs:= #[.int .i64 0, .int .i64 0, .int .i64 0, .int .i64 0]) (t:=74) ?hr ?_;(case hd=>rfl);(case hg=>rfl);(case hr=>first|(go_simp;done)|(go_simp;rfl));intro gb760 hg w23 hbox hb;have n0_:=Aside0.mk (blk_below BK758.out hb);have n1_:=Aside0.mk (below_step HB.out hb);have n2_:=Aside0.mk (hbox);have n3_:=Aside0.mk ((by rw[hg];exact(below_size HB.out):w.heap.size≤gb760));have n4_:=Aside0.mk ((by rw[hg];exact(below_size HB.out):w.heap.size≤gb760));have n5_:=Aside0.mk ((by rw[hg];exact Nat.ne_of_lt (blk_lt BK758.out):gb758≠gb760));have n6_:=Aside0.mk ((by rw[hg];exact Nat.ne_of_gt (blk_lt BK758.out):gb760≠gb758));clear BK758;clear HB;have BK758:=n0_;have HB:=n1_;have BK760:=n2_;have GW760:=n3_;have GE760:=n4_;have NB758_760:=n5_;have NB760_758:=n6_;clear n0_ n1_ n2_ n3_ n4_ n5_ n6_;clear hb hbox hg;have hnb24:=NB760_758.out;have hnc24:=NB758_760.out;have hcz25_0:w23.cell? ⟨gb760,0,none⟩=some (.int .i64 0):=(blk_cell BK760.out 0).trans rfl;have hcz25_1:w23.cell? ⟨gb760,1,none⟩=some (.int .i64 0):=(blk_cell BK760.out 1).trans rfl;have hcz25_2:w23.cell? ⟨gb760,2,none⟩=some (.int .i64 0):=(blk_cell BK760.out 2).trans rfl;have hcz25_3:w23.cell? ⟨gb760,3,none⟩=some (.int .i64 0):=(blk_cell BK760.out 3).trans rfl;have hfz25_0:=blk_frozen BK760.out 0;have hfz25_1:=blk_frozen BK760.out 1;have hfz25_2:=blk_frozen BK760.out 2;have hfz25_3:=blk_frozen BK760.out 3))
     go_roundg k1
     case measure=>have:=HK1.out;omega
     case rel=>exact⟨(x7_1),(wrap64 (x13_1+1)),(by first|rfl|(simp;done)|(simp[*];done)),(by first|rfl|(simp;done)|(simp[*];done)),H',⟨by have:=HK1.out;omega⟩,⟨by(with_reducible repeat(first|refine blk_drewN ?_ _|refine blk_drew ?_|refine blk_alloc ?_ _));refine blk_far ?_ NB758_760.out _;(with_reducible repeat(first|refine blk_drewN ?_ _|refine blk_drew ?_|refine blk_alloc ?_ _));refine blk_far ?_ NB758_760.out _;(with_reducible repeat(first|refine blk_drewN ?_ _|refine blk_drew ?_|refine blk_alloc ?_ _));refine blk_far ?_ NB758_760.out _;(with_reducible repeat(first|refine blk_drewN ?_ _|refine blk_drew ?_|refine blk_alloc ?_ _));refine blk_far ?_ NB758_760.out _;(with_reducible repeat(first|refine blk_drewN ?_ _|refine blk_drew ?_|refine blk_alloc ?_ _));exact BK758.out⟩,⟨by repeat(first|(with_reducible first|exact HB.out|apply below_alloc|apply pw_below_drewN|apply below_drew1|refine below_set ?_ GE758.out|refine below_set ?_ GE760.out)|exact HB.out)⟩⟩
    rw[if_pos c18] at H
    have c18b0:(((rd_T74 l0_2 x13_1).f1) == a1)=true:=beq_iff_eq.mpr c18
    have c18b1:(((rd_T74 l0_2 x13_1).f1) != a1)=false:=bne_eq_false_iff_eq.mpr c18
    clear c18
    by_cases c19:x13_1<(l2.length:Int)
    rotate_left
    ·rw[if_neg c19] at H
     exact absurd H (by simp)
    rw[if_pos c19] at H
    have c19b0:decide (x13_1<(l2.length:Int))=true:=decide_eq_true c19
    clear c19
    have H':=Aside0.mk H
    clear H
    have p759:0≤(x13_1:Int):=of_decide_eq_true (by first|(with_reducible assumption)|assumption)
    have q759:x13_1<(l0_2.length:Int):=of_decide_eq_true (by first|(with_reducible assumption)|assumption)
    obtain⟨ad759,e759,hx759_0,hx759_1,hx759_2,hx759_3⟩:=at_T74 HR0_2.out x13_1 p759 q759
    cases e759
    replace hx759_0:=(HB.out.cell (World.block_lt_of_cell? w _ hx759_0)).trans hx759_0
    replace hx759_1:=(HB.out.cell (World.block_lt_of_cell? w _ hx759_1)).trans hx759_1
    replace hx759_2:=(HB.out.cell (World.block_lt_of_cell? w _ hx759_2)).trans hx759_2
    replace hx759_3:=(HB.out.cell (World.block_lt_of_cell? w _ hx759_3)).trans hx759_3
    replace p759:=eq_true p759
    replace q759:=eq_true q759
    go_wp2_with (first|((with_reducible refine gate_dst (N:=9) rfl ?_);refine box_event ?hg (N:=9) ?hd (cs:= #[.int .i64 0, .int .i64 0, .int .i64 0, .int .i64 0]) (t:=74) ?hr ?_;(case hd=>rfl);(case hg=>rfl);(case hr=>first|(go_simp;done)|(go_simp;rfl));intro gb760 hg w20 hbox hb;have n0_:=Aside0.mk (blk_below BK758.out hb);have n1_:=Aside0.mk (below_step HB.out hb);have n2_:=Aside0.mk (hbox);have n3_:=Aside0.mk ((by rw[hg];exact(below_size HB.out):w.heap.size≤gb760));have n4_:=Aside0.mk ((by rw[hg];exact(below_size HB.out):w.heap.size≤gb760));have n5_:=Aside0.mk ((by rw[hg];exact Nat.ne_of_lt (blk_lt BK758.out):gb758≠gb760));have n6_:=Aside0.mk ((by rw[hg];exact Nat.ne_of_gt (blk_lt BK758.out):gb760≠gb758));clear BK758;clear HB;have BK758:=n0_;have HB:=n1_;have BK760:=n2_;have GW760:=n3_;have GE760:=n4_;have NB758_760:=n5_;have NB760_758:=n6_;clear n0_ n1_ n2_ n3_ n4_ n5_ n6_;clear hb hbox hg;have hnb21:=NB760_758.out;have hnc21:=NB758_760.out;have hcz22_0:w20.cell? ⟨gb760,0,none⟩=some (.int .i64 0):=(blk_cell BK760.out 0).trans rfl;have hcz22_1:w20.cell? ⟨gb760,1,none⟩=some (.int .i64 0):=(blk_cell BK760.out 1).trans rfl;have hcz22_2:w20.cell? ⟨gb760,2,none⟩=some (.int .i64 0):=(blk_cell BK760.out 2).trans rfl;have hcz22_3:w20.cell? ⟨gb760,3,none⟩=some (.int .i64 0):=(blk_cell BK760.out 3).trans rfl;have hfz22_0:=blk_frozen BK760.out 0;have hfz22_1:=blk_frozen BK760.out 1;have hfz22_2:=blk_frozen BK760.out 2;have hfz22_3:=blk_frozen BK760.out 3;have p763:0≤(x13_1:Int):=of_decide_eq_true (by first|(with_reducible assumption)|assumption);have q763:x13_1<(l2.length:Int):=of_decide_eq_true (by first|(with_reducible assumption)|assumption);obtain⟨ad763,e763,hx763_0⟩:=Kd.at_int HR2.out x13_1 p763 q763;cases e763;have hn763_0:ad763.block≠gb760:=Nat.ne_of_lt (Nat.lt_of_lt_of_le (by have:=World.block_lt_of_cell? _ _ hx763_0;first|rwa [add_block] at this|exact this) GW760.out);have hn763_1:ad763.block≠gb760:=Nat.ne_of_lt (Nat.lt_of_lt_of_le (by have:=World.block_lt_of_cell? _ _ hx763_0;first|rwa [add_block] at this|exact this) GW760.out);have hn763_2:ad763.block≠gb760:=Nat.ne_of_lt (Nat.lt_of_lt_of_le (by have:=World.block_lt_of_cell? _ _ hx763_0;first|rwa [add_block] at this|exact this) GW760.out);have hn763_3:ad763.block≠gb760:=Nat.ne_of_lt (Nat.lt_of_lt_of_le (by have:=World.block_lt_of_cell? _ _ hx763_0;first|rwa [add_block] at this|exact this) GW760.out);replace hx763_0:=(HB.out.cell (World.block_lt_of_cell? w _ hx763_0)).trans hx763_0;replace hx763_0:=(cell_far (p:=⟨gb760,0,none⟩) (by first|(rw[add_block];exact hn763_0)|(show (Addr.add _ _).block≠_;rw[add_block];exact hn763_0)|exact hn763_0) (.int .i64 ((rd_T74 l0_2 x13_1).f0))).trans hx763_0;replace hx763_0:=(cell_far (p:=⟨gb760,1,none⟩) (by first|(rw[add_block];exact hn763_1)|(show (Addr.add _ _).block≠_;rw[add_block];exact hn763_1)|exact hn763_1) (.int .i64 ((rd_T74 l0_2 x13_1).f1))).trans hx763_0;replace hx763_0:=(cell_far (p:=⟨gb760,2,none⟩) (by first|(rw[add_block];exact hn763_2)|(show (Addr.add _ _).block≠_;rw[add_block];exact hn763_2)|exact hn763_2) (.int .i64 ((rd_T74 l0_2 x13_1).f2))).trans hx763_0;replace hx763_0:=(cell_far (p:=⟨gb760,3,none⟩) (by first|(rw[add_block];exact hn763_3)|(show (Addr.add _ _).block≠_;rw[add_block];exact hn763_3)|exact hn763_3) (.int .i64 ((rd_T74 l0_2 x13_1).f3))).trans hx763_0;clear hn763_0;clear hn763_1;clear hn763_2;clear hn763_3;replace p763:=eq_true p763;replace q763:=eq_true q763))
    go_roundg k1
    case measure=>have:=HK1.out;omega
    case rel=>exact⟨(wrap64 (x7_1 - (rd l2 x13_1))),(wrap64 (x13_1+1)),(by first|rfl|(simp;done)|(simp[*];done)),(by first|rfl|(simp;done)|(simp[*];done)),H',⟨by have:=HK1.out;omega⟩,⟨by(with_reducible repeat(first|refine blk_drewN ?_ _|refine blk_drew ?_|refine blk_alloc ?_ _));refine blk_far ?_ NB758_760.out _;(with_reducible repeat(first|refine blk_drewN ?_ _|refine blk_drew ?_|refine blk_alloc ?_ _));refine blk_far ?_ NB758_760.out _;(with_reducible repeat(first|refine blk_drewN ?_ _|refine blk_drew ?_|refine blk_alloc ?_ _));refine blk_far ?_ NB758_760.out _;(with_reducible repeat(first|refine blk_drewN ?_ _|refine blk_drew ?_|refine blk_alloc ?_ _));refine blk_far ?_ NB758_760.out _;(with_reducible repeat(first|refine blk_drewN ?_ _|refine blk_drew ?_|refine blk_alloc ?_ _));exact BK758.out⟩,⟨by repeat(first|(with_reducible first|exact HB.out|apply below_alloc|apply pw_below_drewN|apply below_drew1|refine below_set ?_ GE758.out|refine below_set ?_ GE760.out)|exact HB.out)⟩⟩
   rw[if_pos c9] at H
   have c9b0:(((rd_T74 l0_2 x13_1).f0) == a1)=true:=beq_iff_eq.mpr c9
   have c9b1:(((rd_T74 l0_2 x13_1).f0) != a1)=false:=bne_eq_false_iff_eq.mpr c9
   clear c9
   by_cases c10:x13_1<(l2.length:Int)
   rotate_left
   ·rw[if_neg c10] at H
    exact absurd H (by simp)
   rw[if_pos c10] at H
   have c10b0:decide (x13_1<(l2.length:Int))=true:=decide_eq_true c10
   clear c10
   by_cases c11:((rd_T74 l0_2 x13_1).f1)=a1
   rotate_left
   ·rw[if_neg c11] at H
    have c11b0:(((rd_T74 l0_2 x13_1).f1) == a1)=false:=beq_eq_false_iff_ne.mpr c11
    have c11b1:(((rd_T74 l0_2 x13_1).f1) != a1)=true:=bne_iff_ne.mpr c11
    have H':=Aside0.mk H
    clear H
    have p759:0≤(x13_1:Int):=of_decide_eq_true (by first|(with_reducible assumption)|assumption)
    have q759:x13_1<(l0_2.length:Int):=of_decide_eq_true (by first|(with_reducible assumption)|assumption)
    obtain⟨ad759,e759,hx759_0,hx759_1,hx759_2,hx759_3⟩:=at_T74 HR0_2.out x13_1 p759 q759
    cases e759
    replace hx759_0:=(HB.out.cell (World.block_lt_of_cell? w _ hx759_0)).trans hx759_0
    replace hx759_1:=(HB.out.cell (World.block_lt_of_cell? w _ hx759_1)).trans hx759_1
    replace hx759_2:=(HB.out.cell (World.block_lt_of_cell? w _ hx759_2)).trans hx759_2
    replace hx759_3:=(HB.out.cell (World.block_lt_of_cell? w _ hx759_3)).trans hx759_3
    replace p759:=eq_true p759
    replace q759:=eq_true q759
    go_wp2_with (first|((with_reducible refine gate_dst (N:=9) rfl ?_);refine box_event ?hg (N:=9) ?hd (cs:= #[.int .i64 0, .int .i64 0, .int .i64 0, .int .i64 0]) (t:=74) ?hr ?_;(case hd=>rfl);(case hg=>rfl);(case hr=>first|(go_simp;done)|(go_simp;rfl));intro gb760 hg w15 hbox hb;have n0_:=Aside0.mk (blk_below BK758.out hb);have n1_:=Aside0.mk (below_step HB.out hb);have n2_:=Aside0.mk (hbox);have n3_:=Aside0.mk ((by rw[hg];exact(below_size HB.out):w.heap.size≤gb760));have n4_:=Aside0.mk ((by rw[hg];exact(below_size HB.out):w.heap.size≤gb760));have n5_:=Aside0.mk ((by rw[hg];exact Nat.ne_of_lt (blk_lt BK758.out):gb758≠gb760));have n6_:=Aside0.mk ((by rw[hg];exact Nat.ne_of_gt (blk_lt BK758.out):gb760≠gb758));clear BK758;clear HB;have BK758:=n0_;have HB:=n1_;have BK760:=n2_;have GW760:=n3_;have GE760:=n4_;have NB758_760:=n5_;have NB760_758:=n6_;clear n0_ n1_ n2_ n3_ n4_ n5_ n6_;clear hb hbox hg;have hnb16:=NB760_758.out;have hnc16:=NB758_760.out;have hcz17_0:w15.cell? ⟨gb760,0,none⟩=some (.int .i64 0):=(blk_cell BK760.out 0).trans rfl;have hcz17_1:w15.cell? ⟨gb760,1,none⟩=some (.int .i64 0):=(blk_cell BK760.out 1).trans rfl;have hcz17_2:w15.cell? ⟨gb760,2,none⟩=some (.int .i64 0):=(blk_cell BK760.out 2).trans rfl;have hcz17_3:w15.cell? ⟨gb760,3,none⟩=some (.int .i64 0):=(blk_cell BK760.out 3).trans rfl;have hfz17_0:=blk_frozen BK760.out 0;have hfz17_1:=blk_frozen BK760.out 1;have hfz17_2:=blk_frozen BK760.out 2;have hfz17_3:=blk_frozen BK760.out 3;have p761:0≤(x13_1:Int):=of_decide_eq_true (by first|(with_reducible assumption)|assumption);have q761:x13_1<(l2.length:Int):=of_decide_eq_true (by first|(with_reducible assumption)|assumption);obtain⟨ad761,e761,hx761_0⟩:=Kd.at_int HR2.out x13_1 p761 q761;cases e761;have hn761_0:ad761.block≠gb760:=Nat.ne_of_lt (Nat.lt_of_lt_of_le (by have:=World.block_lt_of_cell? _ _ hx761_0;first|rwa [add_block] at this|exact this) GW760.out);have hn761_1:ad761.block≠gb760:=Nat.ne_of_lt (Nat.lt_of_lt_of_le (by have:=World.block_lt_of_cell? _ _ hx761_0;first|rwa [add_block] at this|exact this) GW760.out);have hn761_2:ad761.block≠gb760:=Nat.ne_of_lt (Nat.lt_of_lt_of_le (by have:=World.block_lt_of_cell? _ _ hx761_0;first|rwa [add_block] at this|exact this) GW760.out);have hn761_3:ad761.block≠gb760:=Nat.ne_of_lt (Nat.lt_of_lt_of_le (by have:=World.block_lt_of_cell? _ _ hx761_0;first|rwa [add_block] at this|exact this) GW760.out);replace hx761_0:=(HB.out.cell (World.block_lt_of_cell? w _ hx761_0)).trans hx761_0;replace hx761_0:=(cell_far (p:=⟨gb760,0,none⟩) (by first|(rw[add_block];exact hn761_0)|(show (Addr.add _ _).block≠_;rw[add_block];exact hn761_0)|exact hn761_0) (.int .i64 ((rd_T74 l0_2 x13_1).f0))).trans hx761_0;replace hx761_0:=(cell_far (p:=⟨gb760,1,none⟩) (by first|(rw[add_block];exact hn761_1)|(show (Addr.add _ _).block≠_;rw[add_block];exact hn761_1)|exact hn761_1) (.int .i64 ((rd_T74 l0_2 x13_1).f1))).trans hx761_0;replace hx761_0:=(cell_far (p:=⟨gb760,2,none⟩) (by first|(rw[add_block];exact hn761_2)|(show (Addr.add _ _).block≠_;rw[add_block];exact hn761_2)|exact hn761_2) (.int .i64 ((rd_T74 l0_2 x13_1).f2))).trans hx761_0;replace hx761_0:=(cell_far (p:=⟨gb760,3,none⟩) (by first|(rw[add_block];exact hn761_3)|(show (Addr.add _ _).block≠_;rw[add_block];exact hn761_3)|exact hn761_3) (.int .i64 ((rd_T74 l0_2 x13_1).f3))).trans hx761_0;clear hn761_0;clear hn761_1;clear hn761_2;clear hn761_3;replace p761:=eq_true p761;replace q761:=eq_true q761))
    go_roundg k1
    case measure=>have:=HK1.out;omega
    case rel=>exact⟨(wrap64 (x7_1+(rd l2 x13_1))),(wrap64 (x13_1+1)),(by first|rfl|(simp;done)|(simp[*];done)),(by first|rfl|(simp;done)|(simp[*];done)),H',⟨by have:=HK1.out;omega⟩,⟨by(with_reducible repeat(first|refine blk_drewN ?_ _|refine blk_drew ?_|refine blk_alloc ?_ _));refine blk_far ?_ NB758_760.out _;(with_reducible repeat(first|refine blk_drewN ?_ _|refine blk_drew ?_|refine blk_alloc ?_ _));refine blk_far ?_ NB758_760.out _;(with_reducible repeat(first|refine blk_drewN ?_ _|refine blk_drew ?_|refine blk_alloc ?_ _));refine blk_far ?_ NB758_760.out _;(with_reducible repeat(first|refine blk_drewN ?_ _|refine blk_drew ?_|refine blk_alloc ?_ _));refine blk_far ?_ NB758_760.out _;(with_reducible repeat(first|refine blk_drewN ?_ _|refine blk_drew ?_|refine blk_alloc ?_ _));exact BK758.out⟩,⟨by repeat(first|(with_reducible first|exact HB.out|apply below_alloc|apply pw_below_drewN|apply below_drew1|refine below_set ?_ GE758.out|refine below_set ?_ GE760.out)|exact HB.out)⟩⟩
   rw[if_pos c11] at H
   have c11b0:(((rd_T74 l0_2 x13_1).f1) == a1)=true:=beq_iff_eq.mpr c11
   have c11b1:(((rd_T74 l0_2 x13_1).f1) != a1)=false:=bne_eq_false_iff_eq.mpr c11
   clear c11
   have H':=Aside0.mk H
   clear H
   have p759:0≤(x13_1:Int):=of_decide_eq_true (by first|(with_reducible assumption)|assumption)
   have q759:x13_1<(l0_2.length:Int):=of_decide_eq_true (by first|(with_reducible assumption)|assumption)
   obtain⟨ad759,e759,hx759_0,hx759_1,hx759_2,hx759_3⟩:=at_T74 HR0_2.out x13_1 p759 q759
   cases e759
   replace hx759_0:=(HB.out.cell (World.block_lt_of_cell? w _ hx759_0)).trans hx759_0
   replace hx759_1:=(HB.out.cell (World.block_lt_of_cell? w _ hx759_1)).trans hx759_1
   replace hx759_2:=(HB.out.cell (World.block_lt_of_cell? w _ hx759_2)).trans hx759_2
   replace hx759_3:=(HB.out.cell (World.block_lt_of_cell? w _ hx759_3)).trans hx759_3
   replace p759:=eq_true p759
   replace q759:=eq_true q759
   go_wp2_with (first|((with_reducible refine gate_dst (N:=9) rfl ?_);refine box_event ?hg (N:=9) ?hd (cs:= #[.int .i64 0, .int .i64 0, .int .i64 0, .int .i64 0]) (t:=74) ?hr ?_;(case hd=>rfl);(case hg=>rfl);(case hr=>first|(go_simp;done)|(go_simp;rfl));intro gb760 hg w12 hbox hb;have n0_:=Aside0.mk (blk_below BK758.out hb);have n1_:=Aside0.mk (below_step HB.out hb);have n2_:=Aside0.mk (hbox);have n3_:=Aside0.mk ((by rw[hg];exact(below_size HB.out):w.heap.size≤gb760));have n4_:=Aside0.mk ((by rw[hg];exact(below_size HB.out):w.heap.size≤gb760));have n5_:=Aside0.mk ((by rw[hg];exact Nat.ne_of_lt (blk_lt BK758.out):gb758≠gb760));have n6_:=Aside0.mk ((by rw[hg];exact Nat.ne_of_gt (blk_lt BK758.out):gb760≠gb758));clear BK758;clear HB;have BK758:=n0_;have HB:=n1_;have BK760:=n2_;have GW760:=n3_;have GE760:=n4_;have NB758_760:=n5_;have NB760_758:=n6_;clear n0_ n1_ n2_ n3_ n4_ n5_ n6_;clear hb hbox hg;have hnb13:=NB760_758.out;have hnc13:=NB758_760.out;have hcz14_0:w12.cell? ⟨gb760,0,none⟩=some (.int .i64 0):=(blk_cell BK760.out 0).trans rfl;have hcz14_1:w12.cell? ⟨gb760,1,none⟩=some (.int .i64 0):=(blk_cell BK760.out 1).trans rfl;have hcz14_2:w12.cell? ⟨gb760,2,none⟩=some (.int .i64 0):=(blk_cell BK760.out 2).trans rfl;have hcz14_3:w12.cell? ⟨gb760,3,none⟩=some (.int .i64 0):=(blk_cell BK760.out 3).trans rfl;have hfz14_0:=blk_frozen BK760.out 0;have hfz14_1:=blk_frozen BK760.out 1;have hfz14_2:=blk_frozen BK760.out 2;have hfz14_3:=blk_frozen BK760.out 3;have p761:0≤(x13_1:Int):=of_decide_eq_true (by first|(with_reducible assumption)|assumption);have q761:x13_1<(l2.length:Int):=of_decide_eq_true (by first|(with_reducible assumption)|assumption);obtain⟨ad761,e761,hx761_0⟩:=Kd.at_int HR2.out x13_1 p761 q761;cases e761;have hn761_0:ad761.block≠gb760:=Nat.ne_of_lt (Nat.lt_of_lt_of_le (by have:=World.block_lt_of_cell? _ _ hx761_0;first|rwa [add_block] at this|exact this) GW760.out);have hn761_1:ad761.block≠gb760:=Nat.ne_of_lt (Nat.lt_of_lt_of_le (by have:=World.block_lt_of_cell? _ _ hx761_0;first|rwa [add_block] at this|exact this) GW760.out);have hn761_2:ad761.block≠gb760:=Nat.ne_of_lt (Nat.lt_of_lt_of_le (by have:=World.block_lt_of_cell? _ _ hx761_0;first|rwa [add_block] at this|exact this) GW760.out);have hn761_3:ad761.block≠gb760:=Nat.ne_of_lt (Nat.lt_of_lt_of_le (by have:=World.block_lt_of_cell? _ _ hx761_0;first|rwa [add_block] at this|exact this) GW760.out);replace hx761_0:=(HB.out.cell (World.block_lt_of_cell? w _ hx761_0)).trans hx761_0;replace hx761_0:=(cell_far (p:=⟨gb760,0,none⟩) (by first|(rw[add_block];exact hn761_0)|(show (Addr.add _ _).block≠_;rw[add_block];exact hn761_0)|exact hn761_0) (.int .i64 ((rd_T74 l0_2 x13_1).f0))).trans hx761_0;replace hx761_0:=(cell_far (p:=⟨gb760,1,none⟩) (by first|(rw[add_block];exact hn761_1)|(show (Addr.add _ _).block≠_;rw[add_block];exact hn761_1)|exact hn761_1) (.int .i64 ((rd_T74 l0_2 x13_1).f1))).trans hx761_0;replace hx761_0:=(cell_far (p:=⟨gb760,2,none⟩) (by first|(rw[add_block];exact hn761_2)|(show (Addr.add _ _).block≠_;rw[add_block];exact hn761_2)|exact hn761_2) (.int .i64 ((rd_T74 l0_2 x13_1).f2))).trans hx761_0;replace hx761_0:=(cell_far (p:=⟨gb760,3,none⟩) (by first|(rw[add_block];exact hn761_3)|(show (Addr.add _ _).block≠_;rw[add_block];exact hn761_3)|exact hn761_3) (.int .i64 ((rd_T74 l0_2 x13_1).f3))).trans hx761_0;clear hn761_0;clear hn761_1;clear hn761_2;clear hn761_3;replace p761:=eq_true p761;replace q761:=eq_true q761;have p762:0≤(x13_1:Int):=of_decide_eq_true (by first|(with_reducible assumption)|assumption);have q762:x13_1<(l2.length:Int):=of_decide_eq_true (by first|(with_reducible assumption)|assumption);obtain⟨ad762,e762,hx762_0⟩:=Kd.at_int HR2.out x13_1 p762 q762;obtain rfl:ad761=ad762:=(by injection e762);have hn762_0:ad761.block≠gb760:=Nat.ne_of_lt (Nat.lt_of_lt_of_le (by have:=World.block_lt_of_cell? _ _ hx762_0;first|rwa [add_block] at this|exact this) GW760.out);have hn762_1:ad761.block≠gb760:=Nat.ne_of_lt (Nat.lt_of_lt_of_le (by have:=World.block_lt_of_cell? _ _ hx762_0;first|rwa [add_block] at this|exact this) GW760.out);have hn762_2:ad761.block≠gb760:=Nat.ne_of_lt (Nat.lt_of_lt_of_le (by have:=World.block_lt_of_cell? _ _ hx762_0;first|rwa [add_block] at this|exact this) GW760.out);have hn762_3:ad761.block≠gb760:=Nat.ne_of_lt (Nat.lt_of_lt_of_le (by have:=World.block_lt_of_cell? _ _ hx762_0;first|rwa [add_block] at this|exact this) GW760.out);replace hx762_0:=(HB.out.cell (World.block_lt_of_cell? w _ hx762_0)).trans hx762_0;replace hx762_0:=(cell_far (p:=⟨gb760,0,none⟩) (by first|(rw[add_block];exact hn762_0)|(show (Addr.add _ _).block≠_;rw[add_block];exact hn762_0)|exact hn762_0) (.int .i64 ((rd_T74 l0_2 x13_1).f0))).trans hx762_0;replace hx762_0:=(cell_far (p:=⟨gb760,1,none⟩) (by first|(rw[add_block];exact hn762_1)|(show (Addr.add _ _).block≠_;rw[add_block];exact hn762_1)|exact hn762_1) (.int .i64 ((rd_T74 l0_2 x13_1).f1))).trans hx762_0;replace hx762_0:=(cell_far (p:=⟨gb760,2,none⟩) (by first|(rw[add_block];exact hn762_2)|(show (Addr.add _ _).block≠_;rw[add_block];exact hn762_2)|exact hn762_2) (.int .i64 ((rd_T74 l0_2 x13_1).f2))).trans hx762_0;replace hx762_0:=(cell_far (p:=⟨gb760,3,none⟩) (by first|(rw[add_block];exact hn762_3)|(show (Addr.add _ _).block≠_;rw[add_block];exact hn762_3)|exact hn762_3) (.int .i64 ((rd_T74 l0_2 x13_1).f3))).trans hx762_0;clear hn762_0;clear hn762_1;clear hn762_2;clear hn762_3;replace p762:=eq_true p762;replace q762:=eq_true q762))
   go_roundg k1
   case measure=>have:=HK1.out;omega
   case rel=>exact⟨(wrap64 ((wrap64 (x7_1+(rd l2 x13_1))) - (rd l2 x13_1))),(wrap64 (x13_1+1)),(by first|rfl|(simp;done)|(simp[*];done)),(by first|rfl|(simp;done)|(simp[*];done)),H',⟨by have:=HK1.out;omega⟩,⟨by(with_reducible repeat(first|refine blk_drewN ?_ _|refine blk_drew ?_|refine blk_alloc ?_ _));refine blk_far ?_ NB758_760.out _;(with_reducible repeat(first|refine blk_drewN ?_ _|refine blk_drew ?_|refine blk_alloc ?_ _));refine blk_far ?_ NB758_760.out _;(with_reducible repeat(first|refine blk_drewN ?_ _|refine blk_drew ?_|refine blk_alloc ?_ _));refine blk_far ?_ NB758_760.out _;(with_reducible repeat(first|refine blk_drewN ?_ _|refine blk_drew ?_|refine blk_alloc ?_ _));refine blk_far ?_ NB758_760.out _;(with_reducible repeat(first|refine blk_drewN ?_ _|refine blk_drew ?_|refine blk_alloc ?_ _));exact BK758.out⟩,⟨by repeat(first|(with_reducible first|exact HB.out|apply below_alloc|apply pw_below_drewN|apply below_drew1|refine below_set ?_ GE758.out|refine below_set ?_ GE760.out)|exact HB.out)⟩⟩
end Go.Proofs.Ytkcpanpdipmmmaa.P
namespace Go.Proofs.Ytkcpanpdipmmmaa.H
open Go.RowKit Go.Proofs.YtkcpanpdipmmmaaW.PrintWords Go.Proofs.YtkcpanpdipmmmaaW.PrintLast Go.Proofs.YtkcpanpdipmmmaaW.PrintMore Go.Proofs.Ytkcpanpdipmmmaa.P
set_option maxHeartbeats 2000000 in
set_option maxRecDepth 100000 in
theorem go_calls (n0:Int) (a0_1:Bool) (A2:Option Addr) (c2:Nat) (l:List S74) (gF cF:Nat) (F:List Int) (s:S38) (k:Int) (w:World)
  (hF:IsI w gF F) {i:Nat} (hi:i<F.length) (hs:s.f0=i) (hk: -9223372036854775808<k∧k≤9223372036854775807)
  (h1:s.f1=false→ -9223372036854775808≤F.getD i 0+k∧F.getD i 0+k≤9223372036854775807) (h2:s.f1=true→ -9223372036854775808≤F.getD i 0 - k∧F.getD i 0 - k≤9223372036854775807):
  Calls Try.prog 154 #[.agg #[.int .i64 n0, .bool a0_1, .slice A2 l.length c2, .slice (some ⟨gF,0,none⟩) F.length cF], .agg #[.int .i64 s.f0, .bool s.f1], .int .i64 k] w fun e w'=>e= .returned (.tuple #[])∧IsI w' gF (goS F s k)∧Ks (fun b=>b=gF) w w':=by
 have hu115:=Try.underlying115
 have hu38:=Try.underlying38
 obtain⟨x,y⟩:=s
 simp only at hs h1 h2
 subst hs
 have HF:=Aside0.mk hF
 have hg:=hF.lt
 clear hF
 cases y
 ·have hb:=h1 rfl
  have hwr:IntKind.i64.wrap (F.getD i 0+k)=F.getD i 0+k:=IntWalk.i64_in _ (by omega)
  clear h1 h2
  obtain⟨y0,hy0⟩: ∃ y,y=F.getD i 0:=⟨_,rfl⟩
  rw[← hy0] at hwr hb
  have HY:=Aside0.mk hy0
  clear hy0
  go_enter Try.func154,Try.ntmps154
  go_upto_region 1 with (first|((with_reducible refine gate_dst (N:=3) rfl ?_);refine box_event ?hg (N:=3) ?hd (cs:= #[.int .i64 n0, .bool a0_1, .slice A2 l.length c2, .slice (some ⟨gF,0,none⟩) F.length cF]) (t:=115) ?hr ?_;(case hd=>rfl);(case hg=>rfl);(case hr=>first|(go_simp;done)|(go_simp;rfl));intro g3 hg3 w3 hbox hb;have B3:=Aside0.mk hbox;have HB3:=Aside0.mk hb;have G3:Aside0 (w.heap.size≤g3):=⟨Nat.le_of_eq hg3.symm⟩;clear hg3;have m0_:=Aside0.mk (HF.out.below hb);clear HF hb hbox;have HF:=m0_;clear m0_)|((with_reducible refine gate_dst (N:=4) rfl ?_);refine box_event ?hg (N:=4) ?hd (cs:= #[.int .i64 (i:Int), .bool false]) (t:=38) ?hr ?_;(case hd=>rfl);(case hg=>rfl);(case hr=>first|(go_simp;done)|(go_simp;rfl));intro g4 hg4 w4 hbox hb;have B4:=Aside0.mk hbox;have G4:Aside0 (w.heap.size≤g4):=⟨Nat.le_trans HB3.out.size (Nat.le_of_eq hg4.symm)⟩;clear hg4;have HB4:=Aside0.mk (below_step HB3.out hb);have m0_:=Aside0.mk (HF.out.below hb);have m1_:=Aside0.mk (blk_below B3.out hb);clear HF B3 HB3 hb hbox;have HF:=m0_;have B3:=m1_;clear m0_ m1_;have a3:w4.cell? ⟨g3,3,none⟩=some (.slice (some ⟨gF,0,none⟩) F.length cF):=(blk_cell B3.out 3).trans rfl;have b0:w4.cell? ⟨g4,0,none⟩=some (.int .i64 (i:Int)):=(blk_cell B4.out 0).trans rfl;have b1:w4.cell? ⟨g4,1,none⟩=some (.bool false):=(blk_cell B4.out 1).trans rfl)|fail)
  have c0:=HF.out.cell hi
  have f0:=HF.out.free i
  rw[← HY.out] at c0
  go_wp2_with fail
  refine bodyPost_end (results_none rfl _ _ _) rfl ⟨rfl,?_,(Ks.of_below HB4.out (fun b=>b=gF)).set (g:=gF) (fun _=>rfl) i _⟩
  have e:goS F ⟨(i:Int),false⟩ k=F.set i (y0+k):=by unfold goS;simp[HY.out,Int.sub_eq_add_neg]
  rw[e]
  exact HF.out.put i _
 ·have hb:=h2 rfl
  have hwr:IntKind.i64.wrap (F.getD i 0+ -k)=F.getD i 0+ -k:=IntWalk.i64_in _ (by omega)
  have hwn:IntKind.i64.wrap (-k)= -k:=IntWalk.i64_in _ (by omega)
  clear h1 h2
  obtain⟨y0,hy0⟩: ∃ y,y=F.getD i 0:=⟨_,rfl⟩
  rw[← hy0] at hwr hb
  have HY:=Aside0.mk hy0
  clear hy0
  go_enter Try.func154,Try.ntmps154
  go_upto_region 1 with (first|((with_reducible refine gate_dst (N:=3) rfl ?_);refine box_event ?hg (N:=3) ?hd (cs:= #[.int .i64 n0, .bool a0_1, .slice A2 l.length c2, .slice (some ⟨gF,0,none⟩) F.length cF]) (t:=115) ?hr ?_;(case hd=>rfl);(case hg=>rfl);(case hr=>first|(go_simp;done)|(go_simp;rfl));intro g3 hg3 w3 hbox hb;have B3:=Aside0.mk hbox;have HB3:=Aside0.mk hb;have G3:Aside0 (w.heap.size≤g3):=⟨Nat.le_of_eq hg3.symm⟩;clear hg3;have m0_:=Aside0.mk (HF.out.below hb);clear HF hb hbox;have HF:=m0_;clear m0_)|((with_reducible refine gate_dst (N:=4) rfl ?_);refine box_event ?hg (N:=4) ?hd (cs:= #[.int .i64 (i:Int), .bool true]) (t:=38) ?hr ?_;(case hd=>rfl);(case hg=>rfl);(case hr=>first|(go_simp;done)|(go_simp;rfl));intro g4 hg4 w4 hbox hb;have B4:=Aside0.mk hbox;have G4:Aside0 (w.heap.size≤g4):=⟨Nat.le_trans HB3.out.size (Nat.le_of_eq hg4.symm)⟩;clear hg4;have HB4:=Aside0.mk (below_step HB3.out hb);have m0_:=Aside0.mk (HF.out.below hb);have m1_:=Aside0.mk (blk_below B3.out hb);clear HF B3 HB3 hb hbox;have HF:=m0_;have B3:=m1_;clear m0_ m1_;have a3:w4.cell? ⟨g3,3,none⟩=some (.slice (some ⟨gF,0,none⟩) F.length cF):=(blk_cell B3.out 3).trans rfl;have b0:w4.cell? ⟨g4,0,none⟩=some (.int .i64 (i:Int)):=(blk_cell B4.out 0).trans rfl;have b1:w4.cell? ⟨g4,1,none⟩=some (.bool true):=(blk_cell B4.out 1).trans rfl)|fail)
  have c0:=HF.out.cell hi
  have f0:=HF.out.free i
  rw[← HY.out] at c0
  go_wp2_with fail
  refine bodyPost_end (results_none rfl _ _ _) rfl ⟨rfl,?_,(Ks.of_below HB4.out (fun b=>b=gF)).set (g:=gF) (fun _=>rfl) i _⟩
  have e:goS F ⟨(i:Int),true⟩ k=F.set i (y0+ -k):=by unfold goS;simp[HY.out,Int.sub_eq_add_neg]
  rw[e]
  exact HF.out.put i _
def minF (l:List S74) (F:List Int):Int→List S38→Int
 |a,[]=>a
 |a,s::L=>minF l F (min a (stRoom l F s)) L
theorem minF_least (l:List S74) (F:List Int): ∀ (L:List S38) (a:Int),L≠[]→minF l F a L=min a (leastR l F L)
 |[],a,h=>absurd rfl h
 |[s],a,_=>rfl
 |s::t::L,a,_=>by
  show minF l F (min a (stRoom l F s)) (t::L)=_
  rw[minF_least l F (t::L) _ (by simp)]
  show _=min a (min (stRoom l F s) (leastR l F (t::L)))
  omega
theorem minF_cons (l:List S74) (F:List Int) (s:S38) (L:List S38):minF l F (stRoom l F s) L=leastR l F (s::L):=by
 cases L with
 |nil=>rfl
 |cons t L=>rw[minF_least l F (t::L) _ (by simp)];rfl
attribute [local go_sem] max2_int min2_int max_two min_two
set_option maxHeartbeats 2000000 in
set_option maxRecDepth 100000 in
theorem least_calls (n0:Nat) (a0_1:Bool) (A2:Option Addr) (c2:Nat) (l:List S74) (A3:Option Addr) (c3:Nat) (F:List Int) (g cW:Nat) (W:List S38) (w:World)
  (hR:Right l F n0) (hW: ∀ s,s∈W→StepOf l s) (hne:0<W.length) (hl:W.length≤1000000) (hcW:W.length≤cW)
  (hc: ∀ (j:Nat) (e:S38),W[j]? =some e→w.cell? ⟨g,j * 2,none⟩=some (.int .i64 e.f0)∧w.cell? ⟨g,j * 2+1,none⟩=some (.bool e.f1))
  (hc2:l.length≤c2) (hc3:F.length≤c3) (h2:Kd.C k74 w A2 l.length l) (h3:Kd.C (Kd.int .i64) w A3 F.length F):
  Calls Try.prog 153 #[.agg #[.int .i64 (n0:Int), .bool a0_1, .slice A2 l.length c2, .slice A3 F.length c3], .slice (some ⟨g,0,none⟩) W.length cW] w fun e w'=>e= .returned (.int .i64 (leastR l F W))∧Below w.heap.size w w':=by
 have hu115:=Try.underlying115
 have hu38:=Try.underlying38
 have HR:=Aside0.mk hR
 have HC:=Aside0.mk hc
 have HW:=Aside0.mk hW
 have HC2:=Aside0.mk hc2
 have HC3:=Aside0.mk hc3
 have H2:=Aside0.mk h2
 have H3:=Aside0.mk h3
 obtain⟨e0,he0⟩: ∃ e,W[0]? =some e:=⟨_,List.getElem?_eq_getElem hne⟩
 have hm0:=List.mem_of_getElem? he0
 have HFM:=Aside0.mk (room_f hR (hW e0 hm0) (n0:Int) a0_1)
 have HE0:=Aside0.mk he0
 have p1:(0:Int)<(W.length:Int):=by omega
 have p2:(1:Int)≤(W.length:Int):=by omega
 clear hR hc hW hc2 hc3 h2 h3 he0 hm0
 go_enter Try.func153,Try.ntmps153
 go_upto_region 1 with (first|((with_reducible refine gate_dst (N:=2) rfl ?_);refine box_event ?hg (N:=2) ?hd (cs:= #[.int .i64 (n0:Int), .bool a0_1, .slice A2 l.length c2, .slice A3 F.length c3]) (t:=115) ?hr ?_;(case hd=>rfl);(case hg=>rfl);(case hr=>first|(go_simp;done)|(go_simp;rfl));intro g2 hg2 w3 hbox hb;have B2:=Aside0.mk hbox;have HB:=Aside0.mk hb;clear hg2 hb hbox)|fail)
 have a0:w3.cell? ⟨g2,0,none⟩=some (.int .i64 n0):=(blk_cell B2.out 0).trans rfl;have a1:w3.cell? ⟨g2,1,none⟩=some (.bool a0_1):=(blk_cell B2.out 1).trans rfl;have a2:w3.cell? ⟨g2,2,none⟩=some (.slice A2 l.length c2):=(blk_cell B2.out 2).trans rfl;have a3:w3.cell? ⟨g2,3,none⟩=some (.slice A3 F.length c3):=(blk_cell B2.out 3).trans rfl
 obtain⟨b0,b1⟩:=HC.out 0 e0 HE0.out
 replace b0:=pw_cell_below HB.out b0
 replace b1:=pw_cell_below HB.out b1
 have q0: ∀ p:BelowW w3,p.at_.cell? ⟨g2,0,none⟩=some (.int .i64 n0):=fun p=>p.cell a0
 have q1: ∀ p:BelowW w3,p.at_.cell? ⟨g2,1,none⟩=some (.bool a0_1):=fun p=>p.cell a1
 have q2: ∀ p:BelowW w3,p.at_.cell? ⟨g2,2,none⟩=some (.slice A2 l.length c2):=fun p=>p.cell a2
 have q3: ∀ p:BelowW w3,p.at_.cell? ⟨g2,3,none⟩=some (.slice A3 F.length c3):=fun p=>p.cell a3
 have q4: ∀ p:BelowW w3,p.at_.cell? ⟨g,0,none⟩=some (.int .i64 e0.f0):=fun p=>p.cell (by simpa using b0)
 have q5: ∀ p:BelowW w3,p.at_.cell? ⟨g,1,none⟩=some (.bool e0.f1):=fun p=>p.cell (by simpa using b1)
 have HCA:Aside0 (∀ p:BelowW w3,Kd.C k74 p.at_ A2 l.length l):=⟨fun p=>Kd.C_below (Kd.C_below H2.out HB.out) p.below⟩
 have HCF:Aside0 (∀ p:BelowW w3,Kd.C (Kd.int .i64) p.at_ A3 F.length F):=⟨fun p=>Kd.C_below (Kd.C_below H3.out HB.out) p.below⟩
 clear a0 a1 a2 a3 b0 b1
 refine wp_region_quiet_below (by kernel_rfl) (by kernel_rfl) ?_;(repeat(quiet_step ((first|(go_at_call 104;exact calls_below_of (static_Flowing_Room.calls (n0:Int) a0_1 A2 c2 l A3 c3 F e0.f0 e0.f1 _ _ (HCA.out _) HC2.out (HCF.out _) HC3.out HFM.out))))));refine wpQuiet_nil ?_;intro wq hw';obtain⟨⟨wz,hbq⟩,hwq⟩:=hw';subst hwq
 have m0_:=Aside0.mk (below_step HB.out hbq)
 have m1_:=Aside0.mk (blk_below B2.out hbq)
 clear HB B2 hbq q0 q1 q2 q3 q4 q5 HCA HCF
 have HB:=m0_
 have B2:=m1_
 clear m0_ m1_
 go_upto_region 2 with fail
 go_cut [14,15,16] (fun v14 v15 v16 wx=> ∃ oz cz:Nat,v14= .slice (some ⟨g,oz,none⟩) (W.length - 1) cz∧(1<W.length→oz=2)∧v15= .int .i64 ((W.length - 1:Nat):Int)∧v16= .int .i64 0∧wx=wq)
 case first=>
  by_cases hcap:cW=1
  ·have e9:W.length=1:=by omega
   go_wp2_with fail
   go_meet
   exact⟨0,0,by simp[e9],fun h=>by omega,by simp[e9],rfl,rfl⟩
  ·go_wp2_with fail
   go_meet
   exact⟨2,_,rfl,fun h=>rfl,rfl,rfl,rfl⟩
 case rest=>
  obtain⟨oz,cz,rfl,hoz,rfl,rfl,rfl⟩:=hcut
  go_wp2_with fail
  go_loopw [5,16] (fun v5 v16 w'=> ∃ (a:Int) (j:Nat),v5= .int .i64 a∧v16= .int .i64 (j:Int)∧j+1≤W.length∧Aside0 (minF l F a (W.drop (j+1))=leastR l F W)∧Aside0 (w'.heap[g2]? =some (.cells #[.int .i64 (n0:Int), .bool a0_1, .slice A2 l.length c2, .slice A3 F.length c3] 115 (0,0)))∧Aside0 (Below w.heap.size w w')) (fun _ v16 _=>W.length - (intOf v16).toNat)
  case atStart=>exact⟨stRoom l F e0,0,rfl,rfl,by omega,⟨by
   have hd:W=e0::W.drop 1:=by
    obtain⟨h1,h2⟩:=List.getElem?_eq_some_iff.1 HE0.out
    have h_:=List.drop_eq_getElem_cons (i:=0) (l:=W) (by omega)
    rw[List.drop_zero,h2] at h_
    exact h_
   rw[Nat.zero_add,minF_cons, ← hd]⟩,B2,HB⟩
  case round=>
   clear B2 HB
   obtain⟨a,j,rfl,rfl,hj,HM,B2,HB⟩:=hrel
   by_cases hlt:j+1<W.length
   ·have e1:decide ((j:Int)<((W.length - 1:Nat):Int))=true:=decide_eq_true (by omega)
    obtain rfl:=hoz (by omega)
    obtain⟨e,he⟩: ∃ e,W[j+1]? =some e:=⟨_,List.getElem?_eq_getElem hlt⟩
    obtain⟨b0,b1⟩:=HC.out (j+1) e he
    have b0:wr.cell? ⟨g,2+j * 2,none⟩=some (.int .i64 e.f0):=by rw[show 2+j * 2=(j+1) * 2 by omega];exact pw_cell_below HB.out b0
    have b1:wr.cell? ⟨g,2+j * 2+1,none⟩=some (.bool e.f1):=by rw[show 2+j * 2=(j+1) * 2 by omega];exact pw_cell_below HB.out b1
    have HFM2:=Aside0.mk (room_f HR.out (HW.out e (List.mem_of_getElem? he)) (n0:Int) a0_1)
    have hM2:minF l F (min a (stRoom l F e)) (W.drop (j+1+1))=leastR l F W:=by
     rw[← HM.out]
     obtain⟨h1,h2⟩:=List.getElem?_eq_some_iff.1 he
     rw[List.drop_eq_getElem_cons h1,h2]
     rfl
    obtain⟨rm,hrm⟩: ∃ r_,r_=stRoom l F e:=⟨_,rfl⟩
    rw[← hrm] at hM2
    rw[← hrm] at HFM2
    clear he hrm
    have q1:(0:Int)≤(j:Int):=by omega
    have q2:(j:Int)<((W.length - 1:Nat):Int):=by omega
    go_upto_region 5 with fail
    have HN:Aside0 ((wr.alloc (.cells #[.int .i64 e.f0, .bool e.f1] 38)).heap[wr.heap.size]? =some (.cells #[.int .i64 e.f0, .bool e.f1] 38 (0,0))):=⟨heap_alloc_new _ _⟩
    have m0_:=Aside0.mk (below_alloc HB.out (.cells #[.int .i64 e.f0, .bool e.f1] 38))
    have m1_:=Aside0.mk (blk_below B2.out (below_alloc (Below.refl _ _) (.cells #[.int .i64 e.f0, .bool e.f1] 38)))
    clear HB B2 b0 b1
    have HB:=m0_
    have B2:=m1_
    clear m0_ m1_
    generalize wr.alloc (.cells #[.int .i64 e.f0, .bool e.f1] 38)=w5 at *
    generalize wr.heap.size=g7 at *
    have a0:w5.cell? ⟨g2,0,none⟩=some (.int .i64 n0):=(blk_cell B2.out 0).trans rfl;have a1:w5.cell? ⟨g2,1,none⟩=some (.bool a0_1):=(blk_cell B2.out 1).trans rfl;have a2:w5.cell? ⟨g2,2,none⟩=some (.slice A2 l.length c2):=(blk_cell B2.out 2).trans rfl;have a3:w5.cell? ⟨g2,3,none⟩=some (.slice A3 F.length c3):=(blk_cell B2.out 3).trans rfl
    have b0:w5.cell? ⟨g7,0,none⟩=some (.int .i64 e.f0):=(blk_cell HN.out 0).trans rfl
    have b1:w5.cell? ⟨g7,1,none⟩=some (.bool e.f1):=(blk_cell HN.out 1).trans rfl
    have hmn:(if rm<a then rm else a)=min a rm:=by split<;>omega
    go_wp2_with (first|(go_at_call 104;refine(static_Flowing_Room.calls (n0:Int) a0_1 A2 c2 l A3 c3 F e.f0 e.f1 _ _ (Kd.C_below H2.out HB.out) HC2.out (Kd.C_below H3.out HB.out) HC3.out HFM2.out).mono ?_;rintro e_ w6 ⟨rfl,hb⟩;have m0_:=Aside0.mk (below_step HB.out hb);have m1_:=Aside0.mk (blk_below B2.out hb);clear HB B2 a0 a1 a2 a3 b0 b1 hb;have HB:=m0_;have B2:=m1_;clear m0_ m1_)|fail)
    go_roundw
    case rel=>exact⟨min a rm,j+1,rfl,by go_num,by omega,⟨hM2⟩,B2,HB⟩
    case measure=>show W.length - ((j:Int)+1).toNat<W.length - (j:Int).toNat;omega
   ·have e1:decide ((j:Int)<((W.length - 1:Nat):Int))=false:=decide_eq_false (by omega)
    have hr:a=leastR l F W:=by
     rw[← HM.out,List.drop_of_length_le (by omega)]
     rfl
    have HRR:=Aside0.mk hr
    clear hr
    go_wp2_with fail
    go_ret
    exact⟨by rw[← HRR.out];rfl,HB.out⟩
end Go.Proofs.Ytkcpanpdipmmmaa.H
namespace Go.Proofs.Ytkcpanpdipmmmaa.H
open Go.RowKit Go.Proofs.YtkcpanpdipmmmaaW.PrintWords Go.Proofs.YtkcpanpdipmmmaaW.PrintLast Go.Proofs.YtkcpanpdipmmmaaW.PrintMore Go.Proofs.Ytkcpanpdipmmmaa.P
set_option maxHeartbeats 2000000 in
set_option maxRecDepth 100000 in
theorem steps_calls (n0:Nat) (a0_1:Bool) (A2:Option Addr) (c2:Nat) (l:List S74) (A3:Option Addr) (c3:Nat) (F:List Int) (A4:Option Addr) (c4:Nat) (v:Nat) (w:World)
  (hv:v<n0) (hn50:n0≤50) {ad:Addr} (hA:A4=some ad) {Av:Option Addr} {LN cv:Nat} (hrw:w.cell? (ad.add v)=some (.slice Av LN cv)):
  Calls Try.prog 140 #[.agg #[.int .i64 (n0:Int), .bool a0_1, .slice A2 l.length c2, .slice A3 F.length c3, .slice A4 n0 c4], .int .i64 (v:Int)] w fun e w'=>e= .returned (.slice Av LN cv)∧Below w.heap.size w w':=by
 have hu118:=Try.underlying118
 subst hA
 have HRW:=Aside0.mk hrw
 have px:(0:Int)≤(v:Int):=by omega
 have qx:(v:Int)<(n0:Int):=by omega
 clear hrw
 go_enter Try.func140,Try.ntmps140
 go_upto_region 1 with (first|((with_reducible refine gate_dst (N:=2) rfl ?_);refine box_event ?hg (N:=2) ?hd (cs:= #[.int .i64 (n0:Int), .bool a0_1, .slice A2 l.length c2, .slice A3 F.length c3, .slice (some ad) n0 c4]) (t:=118) ?hr ?_;(case hd=>rfl);(case hg=>rfl);(case hr=>first|(go_simp;done)|(go_simp;rfl));intro g2 hg2 w3 hbox hb;have B2:=Aside0.mk hbox;have HB:=Aside0.mk hb;clear hg2 hb hbox)|fail)
 have a4:w3.cell? ⟨g2,4,none⟩=some (.slice (some ad) n0 c4):=(blk_cell B2.out 4).trans rfl
 have hr3:=pw_cell_below HB.out HRW.out
 go_wp2_with fail
 go_ret
 exact⟨rfl,HB.out⟩
def nI (nx:List Nat):List Int:=nx.map fun j:Nat=>(j:Int)
theorem nI_len (nx:List Nat):(nI nx).length=nx.length:=by simp[nI]
theorem nI_get (nx:List Nat) (v:Nat) (h:v<nx.length):(nI nx).getD v 0=((nx.getD v 0:Nat):Int):=by
 rw[List.getD_eq_getElem?_getD,List.getD_eq_getElem?_getD]
 unfold nI
 rw[List.getElem?_map,List.getElem?_eq_getElem h]
 rfl
theorem nI_set (nx:List Nat) (v j:Nat):nI (nx.set v j)=(nI nx).set v (j:Int):=by unfold nI;rw[List.map_set]
structure Fi (n0:Nat) (a0_1:Bool) (A2:Option Addr) (c2:Nat) (l:List S74) (gF cF:Nat) (A4:Option Addr) (c4 gx gd gn B:Nat) (F D:List Int) (nx:List Nat) (w:World):Prop where
 x:w.heap[gx]? =some (.cells #[.int .i64 (n0:Int), .bool a0_1, .slice A2 l.length c2, .slice (some ⟨gF,0,none⟩) F.length cF, .slice A4 n0 c4, .slice (some ⟨gd,0,none⟩) n0 n0, .slice (some ⟨gn,0,none⟩) n0 n0] 184 (0,0))
 d:IsI w gd D
 nx:IsI w gn (nI nx)
 fl:IsI w gF F
 arcs:Kd.F k74 w (fun k=>k<B∧k≠gF∧k≠gd∧k≠gn∧k≠gx) A2 l.length l
 rows:Kd.F (Kd.slice 38 k38) w (fun k=>k<B∧k≠gF∧k≠gd∧k≠gn∧k≠gx) A4 n0 (rowsAt l n0 n0)
 size:B≤w.heap.size
 low:gx<B∧gd<B∧gn<B∧gF<B
 apart:gx≠gd∧gx≠gn∧gx≠gF∧gd≠gn∧gd≠gF∧gn≠gF
 ca:l.length≤c2
 cf:F.length≤cF
section
variable {n0:Nat} {a0_1:Bool} {A2:Option Addr} {c2:Nat} {l:List S74} {gF cF:Nat} {A4:Option Addr} {c4 gx gd gn B:Nat} {F D:List Int} {nx:List Nat} {w w1:World}
theorem Fi.keep (h:Fi n0 a0_1 A2 c2 l gF cF A4 c4 gx gd gn B F D nx w) (hb:Below B w w1):Fi n0 a0_1 A2 c2 l gF cF A4 c4 gx gd gn B F D nx w1:=
 ⟨(hb.block _ h.low.1).trans h.x,h.d.same (hb.block _ h.low.2.1),h.nx.same (hb.block _ h.low.2.2.1),h.fl.same (hb.block _ h.low.2.2.2),Kd.F_step h.arcs (fun k hk _=>hb.block k hk.1),Kd.F_step h.rows (fun k hk _=>hb.block k hk.1),Nat.le_trans h.size hb.size,h.low,h.apart,h.ca,h.cf⟩
theorem Fi.below (h:Fi n0 a0_1 A2 c2 l gF cF A4 c4 gx gd gn B F D nx w) (hb:Below w.heap.size w w1):Fi n0 a0_1 A2 c2 l gF cF A4 c4 gx gd gn B F D nx w1:=h.keep ⟨hb.os,hb.tape,hb.output,hb.size,fun k hk=>hb.block k (Nat.lt_of_lt_of_le hk h.size)⟩
theorem Fi.put (h:Fi n0 a0_1 A2 c2 l gF cF A4 c4 gx gd gn B F D nx w) (v j:Nat):Fi n0 a0_1 A2 c2 l gF cF A4 c4 gx gd gn B F D (nx.set v j) (w.setCell ⟨gn,v,none⟩ (.int .i64 (j:Int))):=
 ⟨blk_far h.x (p:=⟨gn,v,none⟩) h.apart.2.1 _,h.d.far (p:=⟨gn,v,none⟩) h.apart.2.2.2.1 _,by rw[nI_set];exact h.nx.put v _,h.fl.far (p:=⟨gn,v,none⟩) (Ne.symm h.apart.2.2.2.2.2) _,
  Kd.F_far h.arcs (p:=⟨gn,v,none⟩) (fun k hk=>hk.2.2.2.1) _,Kd.F_far h.rows (p:=⟨gn,v,none⟩) (fun k hk=>hk.2.2.2.1) _,by simpa [World.setCell] using h.size,h.low,h.apart,h.ca,h.cf⟩
theorem Fi.ca_ (h:Fi n0 a0_1 A2 c2 l gF cF A4 c4 gx gd gn B F D nx w):Kd.C k74 w A2 l.length l:=Kd.F_now h.arcs
theorem Fi.row (h:Fi n0 a0_1 A2 c2 l gF cF A4 c4 gx gd gn B F D nx w) {v:Nat} (hv:v<n0): ∃ (ad:Addr) (Av:Option Addr) (cv:Nat),A4=some ad∧w.cell? (ad.add v)=some (.slice Av (stL l v l.length).length cv)∧(stL l v l.length).length≤cv∧Kd.F k38 w (fun k=>k<B∧k≠gF∧k≠gd∧k≠gn∧k≠gx) Av (stL l v l.length).length (stL l v l.length):=by
 obtain⟨ad,c,hA,_,hFK,hcc,_⟩:=Kd.F_get h.rows [] (v:Int) (by omega) (by omega)
 have hrow:(rowsAt l n0 n0).getD (v:Int).toNat []=stL l v l.length:=by rw[Int.toNat_natCast,List.getD_eq_getElem?_getD,rowsAt_get l n0 n0 _ hv,if_pos hv];rfl
 rw[hrow] at hFK
 obtain⟨Av,cv,rfl,hl,hF⟩:=Kd.FK_slice_open hFK
 have hrw:=hcc 0 _ rfl
 have e0:(v:Int).toNat * (Kd.slice 38 k38).sz+0=v:=by rw[Int.toNat_natCast];show v * 1+0=v;omega
 rw[e0] at hrw
 exact⟨ad,Av,cv,hA,hrw,hl,hF⟩
theorem isI_C {g:Nat} {X:List Int} (h:IsI w g X) (hl:X.length≤9223372036854775807):Kd.C (Kd.int .i64) w (some ⟨g,0,none⟩) X.length X:=(Kd.R_reads' (h.R hl (base:=0) (Nat.zero_le _) (ok:=fun _=>True) trivial)).2.2
theorem ks_b {S:Nat→Prop} {w2:World} (h:Ks S w w1) (hb:Below w.heap.size w1 w2):Ks S w w2:=
 ⟨hb.os.trans h.os,hb.tape.trans h.tape,hb.output.trans h.output,Nat.le_trans h.size hb.size,fun k hk hs=>(hb.block k hk).trans (h.block k hk hs)⟩
theorem below_low {b:Nat} (h:b≤w.heap.size) (hb:Below w.heap.size w w1):Below b w w1:=⟨hb.os,hb.tape,hb.output,hb.size,fun k hk=>hb.block k (Nat.lt_of_lt_of_le hk h)⟩
end
end Go.Proofs.Ytkcpanpdipmmmaa.H
namespace Go.Proofs.Ytkcpanpdipmmmaa.H
open Go.RowKit Go.Proofs.YtkcpanpdipmmmaaW.PrintWords Go.Proofs.YtkcpanpdipmmmaaW.PrintLast Go.Proofs.YtkcpanpdipmmmaaW.PrintMore Go.Proofs.Ytkcpanpdipmmmaa.P
def nxAt (gn v:Nat) (w:World):Nat:=match w.cell? ⟨gn,v,none⟩ with|some u=>(intOf u).toNat|none=>0
theorem nxAt_eq {gn v:Nat} {nx:List Nat} {w:World} (h:IsI w gn (nI nx)) (hv:v<nx.length):nxAt gn v w=nx.getD v 0:=by
 unfold nxAt
 rw[h.cell (by rw[nI_len];exact hv),nI_get nx v hv]
 show (((nx.getD v 0:Nat):Int)).toNat=_
 exact Int.toNat_natCast _
theorem set_same (nx:List Nat) (v:Nat):nx.set v (nx.getD v 0)=nx:=by
 apply List.ext_getElem?
 intro i
 rw[List.getElem?_set]
 by_cases h:v=i
 ·subst h
  rw[if_pos rfl,List.getD_eq_getElem?_getD]
  by_cases hl:v<nx.length
  ·rw[if_pos hl,List.getElem?_eq_getElem hl];rfl
  ·rw[if_neg hl,List.getElem?_eq_none (by omega)]
 ·rw[if_neg h]
theorem getD_put (nx:List Nat) (v j:Nat) (h:v<nx.length):(nx.set v j).getD v 0=j:=by rw[List.getD_eq_getElem?_getD,List.getElem?_set_self h];rfl
theorem leads_len {α:Type} {g:Net_ α} (hfr: ∀ u e,e∈g.rows u→g.fr e=u): ∀ {way:List α} {s v:Nat},Leads g.to_ g.rows s way v→(∀ e,e∈way→g.adm (g.fr e) e=true)→g.D v=g.D s+way.length
 |[],s,v,h,_=>by cases h;simp
 |x::way,s,v,h,ha=>by
  have hx:=adm_lv (ha x List.mem_cons_self)
  rw[hfr _ _ h.1] at hx
  have h2:=leads_len hfr h.2 (fun e he=>ha e (List.mem_cons_of_mem _ he))
  rw[List.length_cons]
  omega
theorem downG_go {α:Type} {g:Net_ α} {s t k v:Nat} {way:List α} {nx:List Nat} {j:Nat} {e:α} (h:v≠t) (hs:scanG (g.adm v) ((g.rows v).drop (nx.getD v 0)) (nx.getD v 0)=some (j,e)):downG g s t (k+1) v way nx=downG g s t k (g.to_ e) (way ++ [e]) (nx.set v j):=by
 rw[downG,if_neg h,hs]
theorem downG_out {α:Type} {g:Net_ α} {t k v:Nat} {way:List α} {nx:List Nat} (h:v≠t) (hs:scanG (g.adm v) ((g.rows v).drop (nx.getD v 0)) (nx.getD v 0)=none):downG g v t (k+1) v way nx=(none,nx.set v (g.rows v).length):=by
 rw[downG,if_neg h,hs]
 show (if v=v then _ else _:Option (List α) × List Nat)=_
 rw[if_pos rfl]
theorem downG_back {α:Type} {g:Net_ α} {s t k v:Nat} {way:List α} {nx:List Nat} {e:α} (h:v≠t) (hvs:v≠s) (hs:scanG (g.adm v) ((g.rows v).drop (nx.getD v 0)) (nx.getD v 0)=none) (hl:way.getLast? =some e):
  downG g s t (k+1) v way nx=downG g s t k (g.fr e) way.dropLast ((nx.set v (g.rows v).length).set (g.fr e) ((nx.set v (g.rows v).length).getD (g.fr e) 0+1)):=by
 rw[downG,if_neg h,hs]
 show (if v=s then _ else _:Option (List α) × List Nat)=_
 rw[if_neg hvs,hl]
attribute [local irreducible] wpQuiet
def Dn (n0:Nat) (a0_1:Bool) (A2:Option Addr) (c2:Nat) (l:List S74) (gF cF:Nat) (A4:Option Addr) (c4 gx gd gn:Nat) (F D:List Int) (s t:Nat) (R:Option (List S38) × List Nat) (w:World) (v8 v9:Value) (w':World) (k:Nat):Prop:=
 ∃ (v:Nat) (way:List S38) (nx:List Nat),v9= .int .i64 (v:Int)∧DInv (netG l F D) s n0 v way nx∧downM (netG l F D) n0 v nx<k∧downG (netG l F D) s t k v way nx=R∧
  Kd.R k38 38 w' w.heap.size (fun b=>w.heap.size≤b) v8 way∧Fi n0 a0_1 A2 c2 l gF cF A4 c4 gx gd gn w.heap.size F D nx w'∧Ks (fun b=>b=gn) w w'
set_option maxHeartbeats 20000000 in
set_option maxRecDepth 100000 in
theorem down_calls (n0:Nat) (a0_1:Bool) (A2:Option Addr) (c2:Nat) (l:List S74) (gF cF:Nat) (A4:Option Addr) (c4 gx gd gn:Nat) (F D:List Int) (s t:Nat) (nx0:List Nat) (w:World)
  (hR:Right l F n0) (hDl:D.length=n0) (hDb: ∀ v,v<n0→ -1≤D.getD v 0∧D.getD v 0≤50) (hg:(netG l F D).Fine s n0) (hnx:NxOk l n0 nx0) (hs:s<n0) (ht:t<n0) (h:Fi n0 a0_1 A2 c2 l gF cF A4 c4 gx gd gn w.heap.size F D nx0 w):
  Calls Try.prog 174 #[.pointer (some ⟨gx,0,none⟩), .int .i64 (s:Int), .int .i64 (t:Int)] w fun e w'=> ∃ v:Value,e= .returned (.tuple #[v, .bool (downG (netG l F D) s t 2000000 s [] nx0).1.isSome])∧
   (∀ L,(downG (netG l F D) s t 2000000 s [] nx0).1=some L→Kd.R k38 38 w' w.heap.size (fun _=>True) v L)∧Fi n0 a0_1 A2 c2 l gF cF A4 c4 gx gd gn w.heap.size F D (downG (netG l F D) s t 2000000 s [] nx0).2 w'∧Ks (fun b=>b=gn) w w':=by
 have hu118:=Try.underlying118
 have hu184:=Try.underlying184
 have hu115:=Try.underlying115
 have hu38:=Try.underlying38
 obtain⟨R,hRR⟩: ∃ R,R=downG (netG l F D) s t 2000000 s [] nx0:=⟨_,rfl⟩
 rw[← hRR]
 have HR:=Aside0.mk hR
 have HRR:=Aside0.mk hRR
 have HDB:=Aside0.mk hDb
 have HG:=Aside0.mk hg
 have HNX:=Aside0.mk hnx
 have HF:=Aside0.mk h
 have hn50:=hR.fifty
 have harc:=hR.arcs
 have har:l.length≤200:=harc
 clear hR hRR hDb hg hnx h harc
 go_enter Try.func174,Try.ntmps174
 go_upto_region 2 with fail
 go_step3
 go_wp2_with fail
 go_step3
 go_wp2_with fail
 have m0_:=Aside0.mk (HF.out.below (below_alloc (Below.refl _ _) (.cells #[] 38)))
 have HO:Aside0 (Kd.R k38 38 (w.alloc (.cells #[] 38)) w.heap.size (fun b=>w.heap.size≤b) (.slice (some ⟨w.heap.size,0,none⟩) 0 0) []):=⟨IsS.R (B:=[]) (heap_alloc_new w _) (by simp) (Nat.le_refl _) (Nat.le_refl _)⟩
 have HK:Aside0 (Ks (fun b=>b=gn) w (w.alloc (.cells #[] 38))):=⟨Ks.of_below (below_alloc (Below.refl _ _) _) _⟩
 clear HF
 have HF:=m0_
 clear m0_
 generalize w.alloc (.cells #[] 38)=w1 at *
 generalize Value.slice (some ⟨w.heap.size,0,none⟩) 0 0=v0 at *
 go_loopw [8,9] (fun v8 v9 w'=> ∃ k,Dn n0 a0_1 A2 c2 l gF cF A4 c4 gx gd gn F D s t R w v8 v9 w' k) (fun v8 v9 w'=>least (fun k=>Dn n0 a0_1 A2 c2 l gF cF A4 c4 gx gd gn F D s t R w v8 v9 w' k))
 case atStart=>exact⟨2000000,s,[],nx0,rfl,dinv_start hs HNX.out,downM_lt har hn50 _,HRR.out.symm,HO.out,HF.out,HK.out⟩
 case round=>
  clear HO HK HF
  have hmin:=least_spec hrel
  obtain⟨kk,hkk⟩: ∃ k_,k_=least (fun k=>Dn n0 a0_1 A2 c2 l gF cF A4 c4 gx gd gn F D s t R w u8 u9 wr k):=⟨_,rfl⟩
  rw[← hkk] at hmin
  have HLE:=Aside0.mk hkk
  clear hrel hkk
  obtain⟨v,way,nx,rfl,hdi,hdm,hdg,hO,hF,hK⟩:=hmin
  obtain⟨k,rfl⟩: ∃ k,kk=k+1:=⟨kk - 1,by omega⟩
  have HDI:=Aside0.mk hdi
  have HDM:=Aside0.mk hdm
  have HDG:=Aside0.mk hdg
  have HO:=Aside0.mk hO
  have HF:=Aside0.mk hF
  have HK:=Aside0.mk hK
  have hvn:=hdi.vn
  clear hdi hdm hdg hO hF hK
  by_cases hvt:v=t
  ·have e1:((v:Int) != (t:Int))=false:=by rw[hvt];simp
   have HR2:Aside0 (R=(some way,nx)):=⟨by rw[← HDG.out];show (if v=t then _ else _:Option (List S38) × List Nat)=_;rw[if_pos hvt]⟩
   clear hvt
   go_wp2_with fail
   rw[Exit.noGoto_ret]
   go_ret2
   rw[HR2.out]
   exact⟨_,rfl,fun L hL=>by cases hL;exact Kd.R_mono HO.out (fun _ _=>trivial),HF.out,HK.out⟩
  ·have e1:((v:Int) != (t:Int))=true:=by rw[bne_iff_ne];omega
   obtain⟨ad,Av,cv,hA,hrw,hlc,hrF⟩:=HF.out.row hvn
   obtain⟨LN,hLN⟩: ∃ n_,n_=(stL l v l.length).length:=⟨_,rfl⟩
   have hlen4:LN≤400:=by have:=stL_len l v l.length;omega
   rw[← hLN] at hrw hlc hrF
   have HLN:=Aside0.mk hLN
   have HRW:=Aside0.mk hrw
   have HLC:=Aside0.mk hlc
   have HRF:=Aside0.mk hrF
   have HAA:=Aside0.mk hA
   clear hA hrw hlc hrF hLN
   have x0:wr.cell? ⟨gx,0,none⟩=some (.int .i64 (n0:Int)):=(blk_cell HF.out.x 0).trans rfl;have x1:wr.cell? ⟨gx,1,none⟩=some (.bool a0_1):=(blk_cell HF.out.x 1).trans rfl;have x2:wr.cell? ⟨gx,2,none⟩=some (.slice A2 l.length c2):=(blk_cell HF.out.x 2).trans rfl;have x3:wr.cell? ⟨gx,3,none⟩=some (.slice (some ⟨gF,0,none⟩) F.length cF):=(blk_cell HF.out.x 3).trans rfl;have x4:wr.cell? ⟨gx,4,none⟩=some (.slice A4 n0 c4):=(blk_cell HF.out.x 4).trans rfl;have x5:wr.cell? ⟨gx,5,none⟩=some (.slice (some ⟨gd,0,none⟩) n0 n0):=(blk_cell HF.out.x 5).trans rfl;have x6:wr.cell? ⟨gx,6,none⟩=some (.slice (some ⟨gn,0,none⟩) n0 n0):=(blk_cell HF.out.x 6).trans rfl
   go_wp2_with (first|(go_at_call 140;refine(steps_calls n0 a0_1 A2 c2 l (some ⟨gF,0,none⟩) cF F A4 c4 v _ hvn hn50 HAA.out HRW.out).mono ?_;rintro e_ w5 ⟨rfl,hb⟩;have m0_:=Aside0.mk (HF.out.below hb);have m1_:=Aside0.mk (HK.out.below hb);have m2_:=Aside0.mk (Kd.R_below HO.out hb);have m3_:=Aside0.mk (Kd.F_below HRF.out hb);clear HF HK HO HRF HRW x0 x1 x2 x3 x4 x5 x6 hb;have HF:=m0_;have HK:=m1_;have HO:=m2_;have HRF:=m3_;clear m0_ m1_ m2_ m3_)|fail)
   have hnl:nx.length=n0:=HDI.out.len
   have hle0:nx.getD v 0≤LN:=by rw[HLN.out];exact HDI.out.le v hvn
   obtain⟨SC,hSC⟩: ∃ S,S=scanG ((netG l F D).adm v) ((stL l v l.length).drop (nx.getD v 0)) (nx.getD v 0):=⟨_,rfl⟩
   have HSC:=Aside0.mk hSC
   clear hSC
   have HK5:Aside0 (Ks (fun b=>b=gn) w5 w5):=⟨Ks.refl _ _⟩
   have hsz5:=HF.out.size
   go_loopw [8,9] (fun v8 v9 w'=>v8=u8∧v9= .int .i64 (v:Int)∧ ∃ j:Nat,j≤LN∧Aside0 (nx.getD v 0≤j)∧Aside0 (SC=scanG ((netG l F D).adm v) ((stL l v l.length).drop j) j)∧Aside0 (Fi n0 a0_1 A2 c2 l gF cF A4 c4 gx gd gn w.heap.size F D (nx.set v j) w')∧Aside0 (Ks (fun b=>b=gn) w w')∧Aside0 (Ks (fun b=>b=gn) w5 w')) (fun _ _ w'=>LN - nxAt gn v w')
   case atStart=>exact⟨rfl,rfl,nx.getD v 0,hle0,⟨Nat.le_refl _⟩,HSC,⟨by rw[set_same];exact HF.out⟩,HK,HK5⟩
   case round=>
    clear HF HK HK5
    obtain⟨rfl,rfl,j,hj,HJ0,HSJ,HF,HK,HK5⟩:=hrel
    have hcn:=HF.out.nx.cell (j:=v) (by rw[nI_len,List.length_set,hnl];exact hvn)
    rw[nI_get _ v (by rw[List.length_set,hnl];exact hvn),getD_put nx v j (by rw[hnl];exact hvn)] at hcn
    have HNA:Aside0 (nxAt gn v wr=j):=⟨by rw[nxAt_eq HF.out.nx (by rw[List.length_set,hnl];exact hvn),getD_put nx v j (by rw[hnl];exact hvn)]⟩
    have pv:(0:Int)≤(v:Int):=by omega
    have qv:(v:Int)<(n0:Int):=by omega
    have x0:wr.cell? ⟨gx,0,none⟩=some (.int .i64 (n0:Int)):=(blk_cell HF.out.x 0).trans rfl;have x1:wr.cell? ⟨gx,1,none⟩=some (.bool a0_1):=(blk_cell HF.out.x 1).trans rfl;have x2:wr.cell? ⟨gx,2,none⟩=some (.slice A2 l.length c2):=(blk_cell HF.out.x 2).trans rfl;have x3:wr.cell? ⟨gx,3,none⟩=some (.slice (some ⟨gF,0,none⟩) F.length cF):=(blk_cell HF.out.x 3).trans rfl;have x4:wr.cell? ⟨gx,4,none⟩=some (.slice A4 n0 c4):=(blk_cell HF.out.x 4).trans rfl;have x5:wr.cell? ⟨gx,5,none⟩=some (.slice (some ⟨gd,0,none⟩) n0 n0):=(blk_cell HF.out.x 5).trans rfl;have x6:wr.cell? ⟨gx,6,none⟩=some (.slice (some ⟨gn,0,none⟩) n0 n0):=(blk_cell HF.out.x 6).trans rfl
    by_cases hlt:j<LN
    ·have e2:decide ((j:Int)<(LN:Int))=true:=decide_eq_true (by omega)
     have hrC:=Kd.F_now (Kd.F_step HRF.out (fun b hb hbl=>HK5.out.block b hbl hb.2.2.2.1))
     rw[HLN.out] at hrC
     have pj:(0:Int)≤(j:Int):=by omega
     have qj:(j:Int)<(LN:Int):=by omega
     obtain⟨adj,eadj,hs0,hs1⟩:=at_T38 hrC (j:Int) pj (by rw[← HLN.out];exact qj)
     subst eadj
     simp only[Int.toNat_natCast] at hs0 hs1
     obtain⟨e,hee⟩: ∃ e_,e_=rd_T38 (stL l v l.length) (j:Int):=⟨_,rfl⟩
     rw[← hee] at hs0 hs1
     have hej:(stL l v l.length)[j]? =some e:=by
      rw[hee]
      unfold rd_T38
      rw[Int.toNat_natCast,List.getD_eq_getElem?_getD,List.getElem?_eq_getElem (by rw[← HLN.out];exact hlt)]
      rfl
     have HEJ:=Aside0.mk hej
     clear hee hej hrC
     go_upto_region 8 with fail
     have HN:Aside0 ((wr.alloc (.cells #[.int .i64 e.f0, .bool e.f1] 38)).heap[wr.heap.size]? =some (.cells #[.int .i64 e.f0, .bool e.f1] 38 (0,0))):=⟨heap_alloc_new _ _⟩
     have m0_:=Aside0.mk (HF.out.below (below_alloc (Below.refl _ _) (.cells #[.int .i64 e.f0, .bool e.f1] 38)))
     have m1_:=Aside0.mk (HK.out.below (below_alloc (Below.refl _ _) (.cells #[.int .i64 e.f0, .bool e.f1] 38)))
     have m2_:=Aside0.mk (HK5.out.below (below_alloc (Below.refl _ _) (.cells #[.int .i64 e.f0, .bool e.f1] 38)))
     have HGB:Aside0 (w.heap.size≤wr.heap.size):=⟨HF.out.size⟩
     clear HF HK HK5 x0 x1 x2 x3 x4 x5 x6 hcn hs0 hs1
     have HF:=m0_
     have HK:=m1_
     have HK5:=m2_
     clear m0_ m1_ m2_
     generalize wr.alloc (.cells #[.int .i64 e.f0, .bool e.f1] 38)=w7 at *
     generalize wr.heap.size=g11 at *
     have hso:StepOf l e:=stL_of (List.mem_of_getElem? HEJ.out)
     obtain⟨u,hu⟩: ∃ u_:Nat,stTo l e=(u_:Int):=⟨(stTo l e).toNat,by have:=stTo_in HR.out hso;omega⟩
     have hun:u<n0:=by have:=stTo_in HR.out hso;omega
     have hup:toP l e=u:=by unfold toP;rw[hu,Int.toNat_natCast]
     have hto:=to_f HR.out hso (n0:Int) a0_1
     rw[hu] at hto
     have HTO:=Aside0.mk hto
     have HUP:=Aside0.mk hup
     have HSO:=Aside0.mk hso
     clear hu hup hto hso
     have q0: ∀ p:BelowW w7,p.at_.cell? ⟨gx,0,none⟩=some (.int .i64 (n0:Int)):=fun p=>p.cell ((blk_cell HF.out.x 0).trans rfl)
     have q1: ∀ p:BelowW w7,p.at_.cell? ⟨gx,1,none⟩=some (.bool a0_1):=fun p=>p.cell ((blk_cell HF.out.x 1).trans rfl)
     have q2: ∀ p:BelowW w7,p.at_.cell? ⟨gx,2,none⟩=some (.slice A2 l.length c2):=fun p=>p.cell ((blk_cell HF.out.x 2).trans rfl)
     have q3: ∀ p:BelowW w7,p.at_.cell? ⟨gx,3,none⟩=some (.slice (some ⟨gF,0,none⟩) F.length cF):=fun p=>p.cell ((blk_cell HF.out.x 3).trans rfl)
     have q4: ∀ p:BelowW w7,p.at_.cell? ⟨g11,0,none⟩=some (.int .i64 e.f0):=fun p=>p.cell ((blk_cell HN.out 0).trans rfl)
     have q5: ∀ p:BelowW w7,p.at_.cell? ⟨g11,1,none⟩=some (.bool e.f1):=fun p=>p.cell ((blk_cell HN.out 1).trans rfl)
     have HCA:Aside0 (∀ p:BelowW w7,Kd.C k74 p.at_ A2 l.length l):=⟨fun p=>Kd.C_below HF.out.ca_ p.below⟩
     have HCF:Aside0 (∀ p:BelowW w7,Kd.C (Kd.int .i64) p.at_ (some ⟨gF,0,none⟩) F.length F):=⟨fun p=>Kd.C_below (isI_C HF.out.fl (by have:=HR.out.len;omega)) p.below⟩
     have HC2:=Aside0.mk HF.out.ca
     have HC3:=Aside0.mk HF.out.cf
     refine wp_region_quiet_below (by kernel_rfl) (by kernel_rfl) ?_;(repeat(quiet_step ((first|(go_at_call 105;exact calls_below_of (static_Flowing_To.calls (n0:Int) a0_1 A2 c2 l (some ⟨gF,0,none⟩) cF F e.f0 e.f1 _ _ (HCA.out _) HC2.out (HCF.out _) HC3.out HTO.out))))));refine wpQuiet_nil ?_;intro wq hw';obtain⟨⟨wz,hbq⟩,hwq⟩:=hw';subst hwq
     have m0_:=Aside0.mk (HF.out.below hbq)
     have m1_:=Aside0.mk (HK.out.below hbq)
     have m2_:=Aside0.mk (HK5.out.below hbq)
     have m3_:=Aside0.mk (blk_below HN.out hbq)
     clear HF HK HK5 HN HCA HCF q0 q1 q2 q3 q4 q5 hbq
     have HF:=m0_
     have HK:=m1_
     have HK5:=m2_
     have HN:=m3_
     clear m0_ m1_ m2_ m3_
     obtain⟨rm,hrm⟩: ∃ d_,d_=stRoom l F e:=⟨_,rfl⟩
     have HRM:=Aside0.mk (room_f HR.out HSO.out (n0:Int) a0_1)
     rw[← hrm] at HRM
     have hrm0:0≤rm:=by rw[hrm];exact(stRoom_in HR.out HSO.out).1
     have HRMV:=Aside0.mk hrm
     clear hrm
     obtain⟨du,hdu⟩: ∃ d_,d_=D.getD u 0:=⟨_,rfl⟩
     obtain⟨dv,hdv⟩: ∃ d_,d_=D.getD v 0:=⟨_,rfl⟩
     have hbv:=HDB.out v hvn
     rw[← hdv] at hbv
     obtain⟨d1,hd1⟩: ∃ d_,d_=dv+1:=⟨_,rfl⟩
     have hwr:IntKind.i64.wrap (dv+1)=d1:=by rw[hd1];exact IntWalk.i64_in _ (by omega)
     have HD1:=Aside0.mk hd1
     clear hd1 hbv
     have pu:(0:Int)≤(u:Int):=by omega
     have qu:(u:Int)<(n0:Int):=by omega
     have q0: ∀ p:BelowW wq,p.at_.cell? ⟨gx,0,none⟩=some (.int .i64 (n0:Int)):=fun p=>p.cell ((blk_cell HF.out.x 0).trans rfl)
     have q1: ∀ p:BelowW wq,p.at_.cell? ⟨gx,1,none⟩=some (.bool a0_1):=fun p=>p.cell ((blk_cell HF.out.x 1).trans rfl)
     have q2: ∀ p:BelowW wq,p.at_.cell? ⟨gx,2,none⟩=some (.slice A2 l.length c2):=fun p=>p.cell ((blk_cell HF.out.x 2).trans rfl)
     have q3: ∀ p:BelowW wq,p.at_.cell? ⟨gx,3,none⟩=some (.slice (some ⟨gF,0,none⟩) F.length cF):=fun p=>p.cell ((blk_cell HF.out.x 3).trans rfl)
     have q4: ∀ p:BelowW wq,p.at_.cell? ⟨g11,0,none⟩=some (.int .i64 e.f0):=fun p=>p.cell ((blk_cell HN.out 0).trans rfl)
     have q5: ∀ p:BelowW wq,p.at_.cell? ⟨g11,1,none⟩=some (.bool e.f1):=fun p=>p.cell ((blk_cell HN.out 1).trans rfl)
     have q6: ∀ p:BelowW wq,p.at_.cell? ⟨gx,5,none⟩=some (.slice (some ⟨gd,0,none⟩) n0 n0):=fun p=>p.cell ((blk_cell HF.out.x 5).trans rfl)
     have q7: ∀ p:BelowW wq,p.at_.cell? ⟨gd,u,none⟩=some (.int .i64 du):=fun p=>by rw[hdu];exact p.cell (HF.out.d.cell (by rw[hDl];exact hun))
     have q8: ∀ p:BelowW wq,p.at_.cell? ⟨gd,v,none⟩=some (.int .i64 dv):=fun p=>by rw[hdv];exact p.cell (HF.out.d.cell (by rw[hDl];exact hvn))
     have HCA:Aside0 (∀ p:BelowW wq,Kd.C k74 p.at_ A2 l.length l):=⟨fun p=>Kd.C_below HF.out.ca_ p.below⟩
     have HCF:Aside0 (∀ p:BelowW wq,Kd.C (Kd.int .i64) p.at_ (some ⟨gF,0,none⟩) F.length F):=⟨fun p=>Kd.C_below (isI_C HF.out.fl (by have:=HR.out.len;omega)) p.below⟩
     have HDU:=Aside0.mk hdu
     have HDV:=Aside0.mk hdv
     clear hdu hdv
     have hadm:(netG l F D).adm v e=(decide (du=d1) && decide (0<rm)):=by rw[HD1.out,HDU.out,HDV.out,HRMV.out, ← HUP.out];rfl
     have HADM:=Aside0.mk hadm
     clear hadm
     by_cases h1:du=d1
     ·have e3:(du == d1)=true:=beq_iff_eq.2 h1
      by_cases h2:0<rm
      ·have e4:decide (0<rm)=true:=decide_eq_true h2
       go_upto_region 9 with fail
       refine wp_region_quiet_below (by kernel_rfl) (by kernel_rfl) ?_;(repeat(quiet_step ((first|(go_at_call 104;exact calls_below_of (static_Flowing_Room.calls (n0:Int) a0_1 A2 c2 l (some ⟨gF,0,none⟩) cF F e.f0 e.f1 rm _ (HCA.out _) HC2.out (HCF.out _) HC3.out HRM.out))))));refine wpQuiet_nil ?_;intro wq hw';obtain⟨⟨wz,hbq⟩,hwq⟩:=hw';subst hwq
       have m0_:=Aside0.mk (HF.out.below hbq);have m1_:=Aside0.mk (HK.out.below hbq);have m2_:=Aside0.mk (HK5.out.below hbq);have m3_:=Aside0.mk (blk_below HN.out hbq);clear HF HK HK5 HN HCA HCF q0 q1 q2 q3 q4 q5 q6 q7 q8 hbq;have HF:=m0_;have HK:=m1_;have HK5:=m2_;have HN:=m3_;clear m0_ m1_ m2_ m3_
       have HSC2:Aside0 (SC=some (j,e)):=⟨by
        rw[HSJ.out]
        obtain⟨g1,g2⟩:=List.getElem?_eq_some_iff.1 HEJ.out
        rw[List.drop_eq_getElem_cons g1,g2,scanG,HADM.out,decide_eq_true h1,decide_eq_true h2]
        rfl⟩
       have HO2:Aside0 (Kd.R k38 38 wq w.heap.size (fun b=>w.heap.size≤b) u8 way):=⟨HK5.out.R HO.out (fun b hb _ hbn=>by have:=HF.out.low;omega)⟩
       have b0:wq.cell? ⟨g11,0,none⟩=some (.int .i64 e.f0):=(blk_cell HN.out 0).trans rfl
       have b1:wq.cell? ⟨g11,1,none⟩=some (.bool e.f1):=(blk_cell HN.out 1).trans rfl
       have ha:(netG l F D).adm v e=true:=by rw[HADM.out,decide_eq_true h1,decide_eq_true h2];rfl
       have hwl:way.length≤50:=by
        have h_:=leads_len HG.out.hfr HDI.out.trail HDI.out.adm
        have h_2:=HG.out.hs
        have h_3:(netG l F D).D v=D.getD v 0:=rfl
        have h_4:=(HDB.out v hvn).2
        omega
       clear HO
       go_wp2_with (first|((with_reducible refine gate_builtin (b:= .append) (xs:= #[.tmp 87, .tmp 89]) rfl ?_);at_builtin;refine Kd.R_append k38 (w0:=wq) w.heap.size rfl (.tmp 87) (.tmp 89) 34 38 (.agg #[(.int .i64 0),(.bool false)]) 16 rfl Try.underlying34 info38 rfl (by decide) (by omega) u8 way e [.int .i64 e.f0, .bool e.f1] (fun b=>w.heap.size≤b) (fun _=>False) rfl rfl ?aP (fun _ hk=>hk.elim) ?aF ?aO ?aB ?aS ?aL ?_;(case aP=>exact k38_mkM _ _ _ e);(case aF=>exact(fun k hk=>Nat.le_trans HF.out.size hk));(case aO=>exact HO2.out);(case aB=>exact Below.refl _ _);(case aS=>exact HF.out.size);(case aL=>omega);intro v1 w9 ho hb hg hat;have m0_:=Aside0.mk ho;have m1_:=Aside0.mk (HF.out.keep hb);have m2_:=Aside0.mk (ks_b HK.out hb);clear HO2 HF HK HN HK5 ho hb hg hat b0 b1;have HO2:=m0_;have HF:=m1_;have HK:=m2_;clear m0_ m1_ m2_)|fail)
       have hD:Dn n0 a0_1 A2 c2 l gF cF A4 c4 gx gd gn F D s t R w v1 (.int .i64 (u:Int)) w9 k:=⟨u,way ++ [e],nx.set v j,rfl,by rw[← HUP.out];exact HDI.out.go HG.out HJ0.out HEJ.out ha,by have h_:=downM_go HG.out HDI.out HJ0.out HEJ.out ha;have h_2:=HDM.out;rw[← HUP.out];exact Nat.lt_of_lt_of_le h_ (Nat.le_of_lt_succ h_2),by rw[← HDG.out,downG_go hvt (HSC.out.symm.trans HSC2.out), ← HUP.out];rfl,HO2.out,HF.out,HK.out⟩
       go_roundw
       case rel=>exact⟨k,hD⟩
       case measure=>exact least_lt hD (by rw[← HLE.out];exact Nat.lt_succ_self k)
      ·have e4:decide (0<rm)=false:=decide_eq_false h2
       have H2:=Aside0.mk h2
       clear h2
       go_upto_region 9 with fail
       refine wp_region_quiet_below (by kernel_rfl) (by kernel_rfl) ?_;(repeat(quiet_step ((first|(go_at_call 104;exact calls_below_of (static_Flowing_Room.calls (n0:Int) a0_1 A2 c2 l (some ⟨gF,0,none⟩) cF F e.f0 e.f1 rm _ (HCA.out _) HC2.out (HCF.out _) HC3.out HRM.out))))));refine wpQuiet_nil ?_;intro wq hw';obtain⟨⟨wz,hbq⟩,hwq⟩:=hw';subst hwq
       have m0_:=Aside0.mk (HF.out.below hbq);have m1_:=Aside0.mk (HK.out.below hbq);have m2_:=Aside0.mk (HK5.out.below hbq);have m3_:=Aside0.mk (blk_below HN.out hbq);clear HF HK HK5 HN HCA HCF q0 q1 q2 q3 q4 q5 q6 q7 q8 hbq;have HF:=m0_;have HK:=m1_;have HK5:=m2_;have HN:=m3_;clear m0_ m1_ m2_ m3_
       have HSC2:Aside0 (SC=scanG ((netG l F D).adm v) ((stL l v l.length).drop (j+1)) (j+1)):=⟨by
        rw[HSJ.out]
        obtain⟨g1,g2⟩:=List.getElem?_eq_some_iff.1 HEJ.out
        rw[List.drop_eq_getElem_cons g1,g2,scanG,HADM.out,decide_eq_false H2.out,Bool.and_false]
        rfl⟩
       have x0:wq.cell? ⟨gx,0,none⟩=some (.int .i64 (n0:Int)):=(blk_cell HF.out.x 0).trans rfl;have x1:wq.cell? ⟨gx,1,none⟩=some (.bool a0_1):=(blk_cell HF.out.x 1).trans rfl;have x2:wq.cell? ⟨gx,2,none⟩=some (.slice A2 l.length c2):=(blk_cell HF.out.x 2).trans rfl;have x3:wq.cell? ⟨gx,3,none⟩=some (.slice (some ⟨gF,0,none⟩) F.length cF):=(blk_cell HF.out.x 3).trans rfl;have x4:wq.cell? ⟨gx,4,none⟩=some (.slice A4 n0 c4):=(blk_cell HF.out.x 4).trans rfl;have x5:wq.cell? ⟨gx,5,none⟩=some (.slice (some ⟨gd,0,none⟩) n0 n0):=(blk_cell HF.out.x 5).trans rfl;have x6:wq.cell? ⟨gx,6,none⟩=some (.slice (some ⟨gn,0,none⟩) n0 n0):=(blk_cell HF.out.x 6).trans rfl
       have hcn:=HF.out.nx.cell (j:=v) (by rw[nI_len,List.length_set,hnl];exact hvn)
       rw[nI_get _ v (by rw[List.length_set,hnl];exact hvn),getD_put nx v j (by rw[hnl];exact hvn)] at hcn
       have fcn:=HF.out.nx.free v
       have hwj:IntKind.i64.wrap ((j:Int)+1)=(j:Int)+1:=IntWalk.i64_in _ (by omega)
       go_wp2_with fail
       have hnew:=HF.out.put v (j+1)
       rw[List.set_set,show ((j+1:Nat):Int)=(j:Int)+1 from rfl] at hnew
       go_roundw
       case rel=>exact⟨rfl,rfl,j+1,by omega,⟨by have:=HJ0.out;omega⟩,HSC2,⟨hnew⟩,⟨HK.out.set (g:=gn) (fun _=>rfl) v _⟩,⟨HK5.out.set (g:=gn) (fun _=>rfl) v _⟩⟩
       case measure=>rw[HNA.out];have h_:=nxAt_eq hnew.nx (v:=v) (by rw[List.length_set,hnl];exact hvn);rw[getD_put nx v (j+1) (by rw[hnl];exact hvn)] at h_;rw[h_];omega
     ·have e3:(du == d1)=false:=beq_eq_false_iff_ne.2 h1
      have H1:=Aside0.mk h1
      clear h1
      go_upto_region 9 with fail
      refine wp_region_quiet_below (by kernel_rfl) (by kernel_rfl) ?_;(repeat(quiet_step ((first|(go_at_call 104;exact calls_below_of (static_Flowing_Room.calls (n0:Int) a0_1 A2 c2 l (some ⟨gF,0,none⟩) cF F e.f0 e.f1 rm _ (HCA.out _) HC2.out (HCF.out _) HC3.out HRM.out))))));refine wpQuiet_nil ?_;intro wq hw';obtain⟨⟨wz,hbq⟩,hwq⟩:=hw';subst hwq
      have m0_:=Aside0.mk (HF.out.below hbq);have m1_:=Aside0.mk (HK.out.below hbq);have m2_:=Aside0.mk (HK5.out.below hbq);have m3_:=Aside0.mk (blk_below HN.out hbq);clear HF HK HK5 HN HCA HCF q0 q1 q2 q3 q4 q5 q6 q7 q8 hbq;have HF:=m0_;have HK:=m1_;have HK5:=m2_;have HN:=m3_;clear m0_ m1_ m2_ m3_
      have HSC2:Aside0 (SC=scanG ((netG l F D).adm v) ((stL l v l.length).drop (j+1)) (j+1)):=⟨by
       rw[HSJ.out]
       obtain⟨g1,g2⟩:=List.getElem?_eq_some_iff.1 HEJ.out
       rw[List.drop_eq_getElem_cons g1,g2,scanG,HADM.out,decide_eq_false H1.out,Bool.false_and]
       rfl⟩
      have x0:wq.cell? ⟨gx,0,none⟩=some (.int .i64 (n0:Int)):=(blk_cell HF.out.x 0).trans rfl;have x1:wq.cell? ⟨gx,1,none⟩=some (.bool a0_1):=(blk_cell HF.out.x 1).trans rfl;have x2:wq.cell? ⟨gx,2,none⟩=some (.slice A2 l.length c2):=(blk_cell HF.out.x 2).trans rfl;have x3:wq.cell? ⟨gx,3,none⟩=some (.slice (some ⟨gF,0,none⟩) F.length cF):=(blk_cell HF.out.x 3).trans rfl;have x4:wq.cell? ⟨gx,4,none⟩=some (.slice A4 n0 c4):=(blk_cell HF.out.x 4).trans rfl;have x5:wq.cell? ⟨gx,5,none⟩=some (.slice (some ⟨gd,0,none⟩) n0 n0):=(blk_cell HF.out.x 5).trans rfl;have x6:wq.cell? ⟨gx,6,none⟩=some (.slice (some ⟨gn,0,none⟩) n0 n0):=(blk_cell HF.out.x 6).trans rfl
      have hcn:=HF.out.nx.cell (j:=v) (by rw[nI_len,List.length_set,hnl];exact hvn)
      rw[nI_get _ v (by rw[List.length_set,hnl];exact hvn),getD_put nx v j (by rw[hnl];exact hvn)] at hcn
      have fcn:=HF.out.nx.free v
      have hwj:IntKind.i64.wrap ((j:Int)+1)=(j:Int)+1:=IntWalk.i64_in _ (by omega)
      go_wp2_with fail
      have hnew:=HF.out.put v (j+1)
      rw[List.set_set,show ((j+1:Nat):Int)=(j:Int)+1 from rfl] at hnew
      go_roundw
      case rel=>exact⟨rfl,rfl,j+1,by omega,⟨by have:=HJ0.out;omega⟩,HSC2,⟨hnew⟩,⟨HK.out.set (g:=gn) (fun _=>rfl) v _⟩,⟨HK5.out.set (g:=gn) (fun _=>rfl) v _⟩⟩
      case measure=>rw[HNA.out];have h_:=nxAt_eq hnew.nx (v:=v) (by rw[List.length_set,hnl];exact hvn);rw[getD_put nx v (j+1) (by rw[hnl];exact hvn)] at h_;rw[h_];omega
    ·have e2:decide ((j:Int)<(LN:Int))=false:=decide_eq_false (by omega)
     have hjl:j=LN:=by omega
     have HSN:Aside0 (SC=none):=⟨by rw[HSJ.out,List.drop_of_length_le (by rw[← HLN.out];omega)];rfl⟩
     by_cases hvs:v=s
     ·have e5:((v:Int) == (s:Int))=true:=by rw[hvs];simp
      have HR2:Aside0 (R=(none,nx.set v j)):=⟨by
       have h_:=HDG.out
       rw[← hvs,downG_out hvt (HSC.out.symm.trans HSN.out)] at h_
       rw[← h_,hjl,HLN.out]
       rfl⟩
      clear hvs
      go_wp2_with fail
      rw[Exit.noGoto_ret]
      go_ret2
      rw[HR2.out]
      exact⟨_,rfl,fun L hL=>(by cases hL),HF.out,HK.out⟩
     ·have e5:((v:Int) == (s:Int))=false:=beq_eq_false_iff_ne.2 (by omega)
      have HVS:=Aside0.mk hvs
      clear hvs
      have hwne:way≠[]:=by
       intro hw0
       have h_:=HDI.out.trail
       rw[hw0] at h_
       exact HVS.out h_.symm
      obtain⟨e,he⟩: ∃ e_,way.getLast? =some e_:=⟨_,List.getLast?_eq_some_getLast hwne⟩
      obtain⟨q1,q2,_,_,q5,q6⟩:=HDI.out.back HG.out he
      have hbk:=downM_back HG.out HDI.out he
      have hdb:=downG_back (k:=k) hvt HVS.out (HSC.out.symm.trans HSN.out) he
      have hat:=HDI.out.at_ e q6
      have hso:StepOf l e:=stL_of (List.mem_of_getElem? hat)
      have hatl:=(List.getElem?_eq_some_iff.1 hat).1
      have ej:((netG l F D).rows v).length=j:=by rw[hjl,HLN.out];rfl
      rw[ej] at q1 hbk hdb
      obtain⟨fr,hfr⟩: ∃ f_,f_=frP l e:=⟨_,rfl⟩
      have hfre:(netG l F D).fr e=fr:=hfr.symm
      rw[hfre] at q1 q2 q5 hbk hdb hatl
      obtain⟨y,hy⟩: ∃ y_,y_=(nx.set v j).getD fr 0:=⟨_,rfl⟩
      rw[← hy] at q1 hbk hdb
      have hyl:y≤400:=by
       have h_:=getD_setN nx v j fr (by rw[hnl];exact hvn)
       rw[if_neg q2] at h_
       have h_2:=stL_len l fr l.length
       have h_3:((netG l F D).rows fr).length=(stL l fr l.length).length:=rfl
       omega
      have hff:=stFrom_in HR.out hso
      have hfm:=fromS_f HR.out hso (n0:Int) a0_1
      have hfi:stFrom l e=(fr:Int):=by rw[hfr];unfold frP;omega
      rw[hfi] at hfm
      have HFM:=Aside0.mk hfm
      have HQ1:=Aside0.mk q1
      have HBK:=Aside0.mk hbk
      have HDB2:=Aside0.mk hdb
      have HY:=Aside0.mk hy
      have HE:=Aside0.mk he
      have HO2:Aside0 (Kd.R k38 38 wr w.heap.size (fun b=>w.heap.size≤b) u8 way):=⟨HK5.out.R HO.out (fun b hb _ hbn=>by have:=HF.out.low;omega)⟩
      have hwl:way.length≤50:=by
       have h_:=leads_len HG.out.hfr HDI.out.trail HDI.out.adm
       have h_2:=HG.out.hs
       have h_3:(netG l F D).D v=D.getD v 0:=rfl
       have h_4:=(HDB.out v hvn).2
       omega
      clear q1 hbk hdb hat hatl hso hff hfi hfm hfre hfr hy he q6 ej HO
      obtain⟨Aw,cw,ew⟩:=Kd.R_slice HO2.out
      subst ew
      have hCw:=(Kd.R_reads' HO2.out).2.2
      have hcw:=(Kd.R_reads' HO2.out).2.1
      obtain⟨m,hm⟩: ∃ m,way.length=m+1:=⟨way.length - 1,by have:=List.length_pos_iff.2 hwne;omega⟩
      have pm:(0:Int)≤(m:Int):=by omega
      have qm:(m:Int)<(way.length:Int):=by omega
      obtain⟨aw,eaw,hs0,hs1⟩:=at_T38 hCw (m:Int) pm qm
      subst eaw
      simp only[Int.toNat_natCast] at hs0 hs1
      have hee:rd_T38 way (m:Int)=e:=by
       have h_:=HE.out
       rw[List.getLast?_eq_getElem?,hm,Nat.add_sub_cancel] at h_
       unfold rd_T38
       rw[Int.toNat_natCast,List.getD_eq_getElem?_getD,h_]
       rfl
      rw[hee] at hs0 hs1
      clear hee hCw
      have hwm:IntKind.i64.wrap ((way.length:Int) - 1)=(m:Int):=by rw[hm];have h_:=IntWalk.i64_in ((m:Int)) (by omega);rw[← h_];congr 1;omega
      have hwm2:IntKind.i64.wrap ((way.length:Int)+ -1)=(m:Int):=by rw[hm];have h_:=IntWalk.i64_in ((m:Int)) (by omega);rw[← h_];congr 1;omega
      have HM:=Aside0.mk hm
      clear hm
      go_upto_region 15 with fail
      clear hcn x0 x1 x2 x3 x4 x5 x6
      have q0: ∀ p:BelowW wr,p.at_.cell? ⟨gx,0,none⟩=some (.int .i64 (n0:Int)):=fun p=>p.cell ((blk_cell HF.out.x 0).trans rfl)
      have q1: ∀ p:BelowW wr,p.at_.cell? ⟨gx,1,none⟩=some (.bool a0_1):=fun p=>p.cell ((blk_cell HF.out.x 1).trans rfl)
      have q2_: ∀ p:BelowW wr,p.at_.cell? ⟨gx,2,none⟩=some (.slice A2 l.length c2):=fun p=>p.cell ((blk_cell HF.out.x 2).trans rfl)
      have q3: ∀ p:BelowW wr,p.at_.cell? ⟨gx,3,none⟩=some (.slice (some ⟨gF,0,none⟩) F.length cF):=fun p=>p.cell ((blk_cell HF.out.x 3).trans rfl)
      have q4: ∀ p:BelowW wr,p.at_.cell? (aw.add (m * 2))=some (.int .i64 e.f0):=fun p=>p.cell hs0
      have q6: ∀ p:BelowW wr,p.at_.cell? ⟨(aw.add (m * 2)).block,(aw.add (m * 2)).off+1,none⟩=some (.bool e.f1):=fun p=>p.cell hs1
      have HCA:Aside0 (∀ p:BelowW wr,Kd.C k74 p.at_ A2 l.length l):=⟨fun p=>Kd.C_below HF.out.ca_ p.below⟩
      have HCF:Aside0 (∀ p:BelowW wr,Kd.C (Kd.int .i64) p.at_ (some ⟨gF,0,none⟩) F.length F):=⟨fun p=>Kd.C_below (isI_C HF.out.fl (by have:=HR.out.len;omega)) p.below⟩
      have HC2:=Aside0.mk HF.out.ca
      have HC3:=Aside0.mk HF.out.cf
      clear hs0 hs1
      refine wp_region_quiet_below (by kernel_rfl) (by kernel_rfl) ?_;(repeat(quiet_step ((first|(go_at_call 106;exact calls_below_of (static_Flowing_From.calls (n0:Int) a0_1 A2 c2 l (some ⟨gF,0,none⟩) cF F e.f0 e.f1 (fr:Int) _ (HCA.out _) HC2.out (HCF.out _) HC3.out HFM.out))))));refine wpQuiet_nil ?_;intro wq hw';obtain⟨⟨wz,hbq⟩,hwq⟩:=hw';subst hwq
      have m0_:=Aside0.mk (HF.out.below hbq)
      have m1_:=Aside0.mk (HK.out.below hbq)
      have m2_:=Aside0.mk (Kd.R_below HO2.out hbq)
      clear HF HK HK5 HO2 HCA HCF q0 q1 q2_ q3 q4 q6 hbq
      have HF:=m0_
      have HK:=m1_
      have HO2:=m2_
      clear m0_ m1_ m2_
      have x0:wq.cell? ⟨gx,0,none⟩=some (.int .i64 (n0:Int)):=(blk_cell HF.out.x 0).trans rfl;have x1:wq.cell? ⟨gx,1,none⟩=some (.bool a0_1):=(blk_cell HF.out.x 1).trans rfl;have x2:wq.cell? ⟨gx,2,none⟩=some (.slice A2 l.length c2):=(blk_cell HF.out.x 2).trans rfl;have x3:wq.cell? ⟨gx,3,none⟩=some (.slice (some ⟨gF,0,none⟩) F.length cF):=(blk_cell HF.out.x 3).trans rfl;have x4:wq.cell? ⟨gx,4,none⟩=some (.slice A4 n0 c4):=(blk_cell HF.out.x 4).trans rfl;have x5:wq.cell? ⟨gx,5,none⟩=some (.slice (some ⟨gd,0,none⟩) n0 n0):=(blk_cell HF.out.x 5).trans rfl;have x6:wq.cell? ⟨gx,6,none⟩=some (.slice (some ⟨gn,0,none⟩) n0 n0):=(blk_cell HF.out.x 6).trans rfl
      have hcn:=HF.out.nx.cell (j:=fr) (by rw[nI_len,List.length_set,hnl];exact q5)
      rw[nI_get _ fr (by rw[List.length_set,hnl];exact q5), ← HY.out] at hcn
      have fcn:=HF.out.nx.free fr
      have hwj:IntKind.i64.wrap ((y:Int)+1)=(y:Int)+1:=IntWalk.i64_in _ (by omega)
      have pf:(0:Int)≤(fr:Int):=by omega
      have qf:(fr:Int)<(n0:Int):=by omega
      go_wp2_with fail
      have hnew:=HF.out.put fr (y+1)
      rw[show ((y+1:Nat):Int)=(y:Int)+1 from rfl] at hnew
      have hrt:=Kd.R_take HO2.out (m:=m) (by have:=HM.out;omega)
      rw[show way.take m=way.dropLast by rw[List.dropLast_eq_take,HM.out,Nat.add_sub_cancel]] at hrt
      have hlow:=HF.out.low
      have hD:Dn n0 a0_1 A2 c2 l gF cF A4 c4 gx gd gn F D s t R w (.slice (some aw) m cw) (.int .i64 (fr:Int)) (wq.setCell ⟨gn,fr,none⟩ (.int .i64 ((y:Int)+1))) k:=⟨fr,way.dropLast,(nx.set v j).set fr (y+1),rfl,HQ1.out,by have h_:=HBK.out;have h_2:=HDM.out;omega,by rw[← HDB2.out];exact HDG.out,Kd.R_far hrt (p:=⟨gn,fr,none⟩) (fun b hb hbn=>by have hbn:b=gn:=hbn;omega) _,hnew,HK.out.set (g:=gn) (fun _=>rfl) fr _⟩
      go_roundw
      case rel=>exact⟨k,hD⟩
      case measure=>exact least_lt hD (by rw[← HLE.out];exact Nat.lt_succ_self k)
end Go.Proofs.Ytkcpanpdipmmmaa.H
namespace Go.Proofs.Ytkcpanpdipmmmaa.H
open Go.RowKit Go.Proofs.YtkcpanpdipmmmaaW.PrintWords Go.Proofs.YtkcpanpdipmmmaaW.PrintLast Go.Proofs.YtkcpanpdipmmmaaW.PrintMore Go.Proofs.Ytkcpanpdipmmmaa.P
structure Fo (n0:Nat) (a0_1:Bool) (A2:Option Addr) (c2:Nat) (l:List S74) (gF cF:Nat) (A4:Option Addr) (c4 gx gn B:Nat) (vd:Value) (F:List Int) (nx:List Nat) (w:World):Prop where
 x:w.heap[gx]? =some (.cells #[.int .i64 (n0:Int), .bool a0_1, .slice A2 l.length c2, .slice (some ⟨gF,0,none⟩) F.length cF, .slice A4 n0 c4,vd, .slice (some ⟨gn,0,none⟩) n0 n0] 184 (0,0))
 nx:IsI w gn (nI nx)
 fl:IsI w gF F
 arcs:Kd.F k74 w (fun k=>k<B∧k≠gF∧k≠gn∧k≠gx) A2 l.length l
 rows:Kd.F (Kd.slice 38 k38) w (fun k=>k<B∧k≠gF∧k≠gn∧k≠gx) A4 n0 (rowsAt l n0 n0)
 size:B≤w.heap.size
 low:gx<B∧gn<B∧gF<B
 apart:gx≠gn∧gx≠gF∧gn≠gF
 ca:l.length≤c2
 cf:F.length≤cF
section
variable {n0:Nat} {a0_1:Bool} {A2:Option Addr} {c2:Nat} {l:List S74} {gF cF:Nat} {A4:Option Addr} {c4 gx gd gn B B':Nat} {vd vd':Value} {F D:List Int} {nx nx':List Nat} {w w1:World}
theorem Fo.keep (h:Fo n0 a0_1 A2 c2 l gF cF A4 c4 gx gn B vd F nx w) (hb:Below B w w1):Fo n0 a0_1 A2 c2 l gF cF A4 c4 gx gn B vd F nx w1:=
 ⟨(hb.block _ h.low.1).trans h.x,h.nx.same (hb.block _ h.low.2.1),h.fl.same (hb.block _ h.low.2.2),Kd.F_step h.arcs (fun k hk _=>hb.block k hk.1),Kd.F_step h.rows (fun k hk _=>hb.block k hk.1),Nat.le_trans h.size hb.size,h.low,h.apart,h.ca,h.cf⟩
theorem Fo.below (h:Fo n0 a0_1 A2 c2 l gF cF A4 c4 gx gn B vd F nx w) (hb:Below w.heap.size w w1):Fo n0 a0_1 A2 c2 l gF cF A4 c4 gx gn B vd F nx w1:=h.keep (below_low h.size hb)
theorem Fo.ca_ (h:Fo n0 a0_1 A2 c2 l gF cF A4 c4 gx gn B vd F nx w):Kd.C k74 w A2 l.length l:=Kd.F_now h.arcs
theorem Fo.cr_ (h:Fo n0 a0_1 A2 c2 l gF cF A4 c4 gx gn B vd F nx w):(Kd.slice 38 k38).C w A4 n0 (rowsAt l n0 n0):=Kd.F_now h.rows
theorem Fo.putD (h:Fo n0 a0_1 A2 c2 l gF cF A4 c4 gx gn B vd F nx w) (v:Value):Fo n0 a0_1 A2 c2 l gF cF A4 c4 gx gn B v F nx (w.setCell ⟨gx,5,none⟩ v):=
 ⟨(blk_set h.x 5 v).trans rfl,h.nx.far (p:=⟨gx,5,none⟩) (Ne.symm h.apart.1) _,h.fl.far (p:=⟨gx,5,none⟩) (Ne.symm h.apart.2.1) _,
  Kd.F_far h.arcs (p:=⟨gx,5,none⟩) (fun k hk=>hk.2.2.2) _,Kd.F_far h.rows (p:=⟨gx,5,none⟩) (fun k hk=>hk.2.2.2) _,by simpa [World.setCell] using h.size,h.low,h.apart,h.ca,h.cf⟩
theorem Fo.putN (h:Fo n0 a0_1 A2 c2 l gF cF A4 c4 gx gn B vd F nx w) (hk:Ks (fun b=>b=gn) w w1) (hn:IsI w1 gn (nI nx')):Fo n0 a0_1 A2 c2 l gF cF A4 c4 gx gn B vd F nx' w1:=
 ⟨(hk.block _ (blk_lt h.x) h.apart.1).trans h.x,hn,h.fl.same (hk.block _ h.fl.lt (Ne.symm h.apart.2.2)),Kd.F_step h.arcs (fun k hk2 hlt=>hk.block k hlt hk2.2.2.1),Kd.F_step h.rows (fun k hk2 hlt=>hk.block k hlt hk2.2.2.1),Nat.le_trans h.size hk.size,h.low,h.apart,h.ca,h.cf⟩
theorem Fo.putF (h:Fo n0 a0_1 A2 c2 l gF cF A4 c4 gx gn B vd F nx w) (hk:Ks (fun b=>b=gF) w w1) {G:List Int} (hg:IsI w1 gF G) (hl:G.length=F.length):Fo n0 a0_1 A2 c2 l gF cF A4 c4 gx gn B vd G nx w1:=by
 refine⟨?_,h.nx.same (hk.block _ h.nx.lt h.apart.2.2),hg,Kd.F_step h.arcs (fun k hk2 hlt=>hk.block k hlt hk2.2.1),Kd.F_step h.rows (fun k hk2 hlt=>hk.block k hlt hk2.2.1),Nat.le_trans h.size hk.size,h.low,h.apart,h.ca,by rw[hl];exact h.cf⟩
 rw[hl]
 exact(hk.block _ (blk_lt h.x) h.apart.2.1).trans h.x
theorem Fo.fi (h:Fo n0 a0_1 A2 c2 l gF cF A4 c4 gx gn B (.slice (some ⟨gd,0,none⟩) n0 n0) F nx w) (hd:IsI w gd D) (hB:B≤gd) (hB':gd<B') (hw:B'≤w.heap.size):Fi n0 a0_1 A2 c2 l gF cF A4 c4 gx gd gn B' F D nx w:=by
 have hl:=h.low
 have hp:=h.apart
 exact⟨h.x,hd,h.nx,h.fl,Kd.F_mono h.arcs (fun k hk=>⟨by omega,hk.2.1,by omega,hk.2.2.1,hk.2.2.2⟩),Kd.F_mono h.rows (fun k hk=>⟨by omega,hk.2.1,by omega,hk.2.2.1,hk.2.2.2⟩),hw,⟨by omega,hB',by omega,by omega⟩,⟨by omega,hp.1,hp.2.1,by omega,by omega,hp.2.2⟩,h.ca,h.cf⟩
theorem Fo.ofFi (h:Fo n0 a0_1 A2 c2 l gF cF A4 c4 gx gn B (.slice (some ⟨gd,0,none⟩) n0 n0) F nx w) (hk:Ks (fun b=>b=gn) w w1) {C:Nat} (hf:Fi n0 a0_1 A2 c2 l gF cF A4 c4 gx gd gn C F D nx' w1):Fo n0 a0_1 A2 c2 l gF cF A4 c4 gx gn B (.slice (some ⟨gd,0,none⟩) n0 n0) F nx' w1:=h.putN hk hf.nx
end
theorem isI_clear {g:Nat} (m:Nat): ∀ {w:World} {X:List Int} (o:Nat),o+m=X.length→IsI w g X→IsI (w.setCells g o (List.replicate m (.int .i64 0))) g (X.take o ++ List.replicate m 0)∧Ks (fun b=>b=g) w (w.setCells g o (List.replicate m (.int .i64 0))):=by
 induction m with
 |zero=>
  intro w X o ho h
  rw[List.replicate_zero,List.replicate_zero,List.append_nil,List.take_of_length_le (by omega)]
  exact⟨h,Ks.refl _ _⟩
 |succ m ih=>
  intro w X o ho h
  obtain⟨h1,h2⟩:=ih (o+1) (by rw[List.length_set];omega) (h.put o 0)
  have e:(X.set o 0).take (o+1)=X.take o ++ [0]:=by
   apply List.ext_getElem?
   intro i
   rw[List.getElem?_take,List.getElem?_set,List.getElem?_append,List.length_take,List.getElem?_take]
   have hm:min o X.length=o:=by omega
   rw[hm]
   by_cases a:i<o
   ·rw[if_pos (by omega),if_neg (by omega),if_pos a,if_pos a]
   ·by_cases b:i=o
    ·subst b;rw[if_pos (by omega),if_pos rfl,if_pos (by omega),if_neg a,Nat.sub_self];rfl
    ·rw[if_neg (by omega),if_neg a,List.getElem?_eq_none (by simp;omega)]
  rw[e,List.append_assoc] at h1
  refine⟨h1,?_⟩
  exact((Ks.refl (fun b=>b=g) w).set (g:=g) (fun _=>rfl) o _).trans h2 (fun b hb _=>hb)
end Go.Proofs.Ytkcpanpdipmmmaa.H
namespace Go.Proofs.Ytkcpanpdipmmmaa.H
open Go.RowKit Go.Proofs.YtkcpanpdipmmmaaW.PrintWords Go.Proofs.YtkcpanpdipmmmaaW.PrintLast Go.Proofs.YtkcpanpdipmmmaaW.PrintMore Go.Proofs.Ytkcpanpdipmmmaa.P
open Go.Proofs.Ytkcpanpdipmmmaa.Q (bal)
theorem zero3 (w:World):(zeroValue 3).run Try.prog w= .ok (.int .i64 0) w:=by kernel_rfl
theorem pushW_snoc (F:List Int) (k:Int) (L:List S38) (e:S38):pushW F k (L ++ [e])=goS (pushW F k L) e k:=by unfold pushW;rw[List.foldl_append];rfl
theorem Right.take {l:List S74} {F:List Int} {n:Nat} {k:Int} (h0:0≤k) (hr:Right l F n) {L:List S38} (h: ∀ s,s∈L→StepOf l s∧k≤stRoom l F s) (hp:L.Pairwise (fun a b=>a.f0≠b.f0)) (j:Nat):Right l (H.pushW F k (L.take j)) n:=
 Right.pushW h0 _ hr (fun s hs=>h s (List.mem_of_mem_take hs)) (hp.sublist (List.take_sublist _ _))
theorem take_snoc {L:List S38} {j:Nat} {e:S38} (h:L[j]? =some e):L.take (j+1)=L.take j ++ [e]:=by
 rw[List.take_add_one,h];rfl
theorem ks_cellF {gF g j:Nat} {w w1:World} {v:Value} (h:Ks (fun b=>b=gF) w w1) (hc:w.cell? ⟨g,j,none⟩=some v) (hne: ¬ g=gF):w1.cell? ⟨g,j,none⟩=some v:=by
 have hb:=h.block g (World.block_lt_of_cell? w _ hc) hne
 simpa [World.cell?,hb] using hc
def Ps (n0:Nat) (a0_1:Bool) (A2:Option Addr) (c2:Nat) (l:List S74) (gF cF:Nat) (A4:Option Addr) (c4 gx gn B gd:Nat) (D:List Int) (s t:Nat) (R:List Int) (w w':World) (k:Nat):Prop:=
 ∃ (F:List Int) (nx:List Nat),IsFlow l F n0 s t∧NxOk l n0 nx∧209715200<(k:Int)+bal l F s∧phaseF l D s t k F nx=R∧Fo n0 a0_1 A2 c2 l gF cF A4 c4 gx gn B (.slice (some ⟨gd,0,none⟩) n0 n0) F nx w'∧IsI w' gd D∧Ks (fun b=>b=gx∨b=gF∨b=gn) w w'
set_option maxHeartbeats 20000000 in
set_option maxRecDepth 100000 in
theorem phase_calls (n0:Nat) (a0_1:Bool) (A2:Option Addr) (c2:Nat) (l:List S74) (gF cF:Nat) (A4:Option Addr) (c4 gx gn:Nat) (vd:Value) (F:List Int) (s t:Nat) (nx0:List Nat) (w:World)
  (hf:IsFlow l F n0 s t) (hb0:0≤bal l F s) (hs:s<n0) (ht:t<n0) (hst:s≠t) (hn:nx0.length=n0) (h:Fo n0 a0_1 A2 c2 l gF cF A4 c4 gx gn w.heap.size vd F nx0 w):
  Calls Try.prog 168 #[.pointer (some ⟨gx,0,none⟩), .int .i64 (s:Int), .int .i64 (t:Int)] w fun e w'=> ∃ (vd':Value) (nx':List Nat),e= .returned (.bool (!decide ((dOf n0 (bfP l F n0 s)).getD t 0<0)))∧nx'.length=n0∧
   Fo n0 a0_1 A2 c2 l gF cF A4 c4 gx gn w.heap.size vd' (if (dOf n0 (bfP l F n0 s)).getD t 0<0 then F else phaseF l (dOf n0 (bfP l F n0 s)) s t 300000000 F (List.replicate n0 0)) nx' w'∧Ks (fun b=>b=gx∨b=gF∨b=gn) w w':=by
 have hu118:=Try.underlying118
 have hu184:=Try.underlying184
 have hu115:=Try.underlying115
 have hu38:=Try.underlying38
 have hr:=hf.right
 have hn50:=hr.fifty
 have hpos:=hr.pos
 have hDlen:(dOf n0 (bfP l F n0 s)).length=n0:=dOf_len n0 _
 have hfine:=netG_fine (F:=F) hr hs
 have hDb: ∀ v,v<n0→ -1≤(dOf n0 (bfP l F n0 s)).getD v 0∧(dOf n0 (bfP l F n0 s)).getD v 0≤50:=by
  intro v hv
  have h1:=hfine.hD v hv
  refine⟨?_,by have h1:(dOf n0 (bfP l F n0 s)).getD v 0<(n0:Int):=h1;omega⟩
  rw[dOf_get _ 0 hv]
  cases hf:fnd (bfP l F n0 s) v with
  |none=>simp only;omega
  |some x=>simp only;omega
 have hfineG: ∀ G:List Int,(netG l G (dOf n0 (bfP l F n0 s))).Fine s n0:=fun G=>netG_fine (F:=G) hr hs
 have hpush: ∀ {G:List Int} {L:List S38},IsFlow l G n0 s t→Leads (toP l) (fun v=>stL l v l.length) s L t→(∀ e,e∈L→(netG l G (dOf n0 (bfP l F n0 s))).adm (frP l e) e=true)→
   IsFlow l (pushW G (leastR l G L) L) n0 s t∧1≤leastR l G L∧L≠[]∧bal l (pushW G (leastR l G L) L) s=bal l G s+leastR l G L∧L.Pairwise (fun a b=>a.f0≠b.f0)∧(∀ s,s∈L→StepOf l s)∧leastR l G L≤1048576:=fun hG hL ha=>push_found hG hr hs hst hL ha
 obtain⟨D,hD⟩: ∃ D_,D_=dOf n0 (bfP l F n0 s):=⟨_,rfl⟩
 have HFIN:Aside0 (∀ G:List Int,(netG l G D).Fine s n0):=⟨by rw[hD];exact hfineG⟩
 have HPUSH:Aside0 (∀ {G:List Int} {L:List S38},IsFlow l G n0 s t→Leads (toP l) (fun v=>stL l v l.length) s L t→(∀ e,e∈L→(netG l G D).adm (frP l e) e=true)→
   IsFlow l (pushW G (leastR l G L) L) n0 s t∧1≤leastR l G L∧L≠[]∧bal l (pushW G (leastR l G L) L) s=bal l G s+leastR l G L∧L.Pairwise (fun a b=>a.f0≠b.f0)∧(∀ s,s∈L→StepOf l s)∧leastR l G L≤1048576):=⟨by rw[hD];exact hpush⟩
 rw[← hD] at hDlen hDb
 have HDE:=Aside0.mk hD
 have HDB:=Aside0.mk hDb
 have HFL:=Aside0.mk hf
 have HB0:=Aside0.mk hb0
 have HR:=Aside0.mk hr
 have HF:=Aside0.mk h
 rw[← hD]
 clear hf hb0 hr hfine hDb hfineG hpush hD h
 obtain⟨y,hy⟩: ∃ y_,y_=D.getD t 0:=⟨_,rfl⟩
 rw[← hy]
 have HY:=Aside0.mk hy
 clear hy
 have pt:(0:Int)≤(t:Int):=by omega
 have qt:(t:Int)<(n0:Int):=by omega
 go_enter Try.func168,Try.ntmps168
 have x0:w.cell? ⟨gx,0,none⟩=some (.int .i64 (n0:Int)):=(blk_cell HF.out.x 0).trans rfl;have x1:w.cell? ⟨gx,1,none⟩=some (.bool a0_1):=(blk_cell HF.out.x 1).trans rfl;have x2:w.cell? ⟨gx,2,none⟩=some (.slice A2 l.length c2):=(blk_cell HF.out.x 2).trans rfl;have x3:w.cell? ⟨gx,3,none⟩=some (.slice (some ⟨gF,0,none⟩) F.length cF):=(blk_cell HF.out.x 3).trans rfl;have x4:w.cell? ⟨gx,4,none⟩=some (.slice A4 n0 c4):=(blk_cell HF.out.x 4).trans rfl;have x6:w.cell? ⟨gx,6,none⟩=some (.slice (some ⟨gn,0,none⟩) n0 n0):=(blk_cell HF.out.x 6).trans rfl
 go_upto_region 2 with (first|(go_at_call 108;refine(far_calls n0 a0_1 A2 c2 l (some ⟨gF,0,none⟩) cF F A4 c4 s _ HR.out hs HF.out.ca HF.out.cf HF.out.ca_ (isI_C HF.out.fl (by have:=HR.out.len;have:=HR.out.arcs;omega)) HF.out.cr_).mono ?_;rintro e_ w5 ⟨gd,rfl,hge,hd,hb⟩;have m0_:=Aside0.mk (HF.out.below hb);have HGE:=Aside0.mk hge;have HD5:=Aside0.mk hd;have HB5:=Aside0.mk hb;clear HF hge hd hb x0 x1 x2 x3 x4 x6;have HF:=m0_;clear m0_;have y5:w5.cell? ⟨gx,5,none⟩=some vd:=(blk_cell HF.out.x 5).trans rfl;have f5:=blk_frozen HF.out.x 5)|fail)
 have hDb5:=HD5.out
 rw[← HDE.out] at hDb5
 have hlow:=HF.out.low
 have HFD:Aside0 (Fo n0 a0_1 A2 c2 l gF cF A4 c4 gx gn w.heap.size (.slice (some ⟨gd,0,none⟩) n0 n0) F nx0 (w5.setCell ⟨gx,5,none⟩ (.slice (some ⟨gd,0,none⟩) n0 n0))):=⟨HF.out.putD _⟩
 have HDI:Aside0 (IsI (w5.setCell ⟨gx,5,none⟩ (.slice (some ⟨gd,0,none⟩) n0 n0)) gd D):=⟨hDb5.far (p:=⟨gx,5,none⟩) (by have:=HGE.out;show gd≠gx;omega) _⟩
 have HK:Aside0 (Ks (fun b=>b=gx∨b=gF∨b=gn) w (w5.setCell ⟨gx,5,none⟩ (.slice (some ⟨gd,0,none⟩) n0 n0))):=⟨(Ks.of_below HB5.out _).set (g:=gx) (fun _=> .inl rfl) 5 _⟩
 have HGD:=HGE
 have HSZ:Aside0 (gd<(w5.setCell ⟨gx,5,none⟩ (.slice (some ⟨gd,0,none⟩) n0 n0)).heap.size):=⟨HDI.out.lt⟩
 clear HF HD5 HB5 hDb5 y5 f5 HGE
 generalize w5.setCell ⟨gx,5,none⟩ (.slice (some ⟨gd,0,none⟩) n0 n0)=w6 at *
 have HF:=HFD
 clear HFD
 have x0:w6.cell? ⟨gx,0,none⟩=some (.int .i64 (n0:Int)):=(blk_cell HF.out.x 0).trans rfl;have x1:w6.cell? ⟨gx,1,none⟩=some (.bool a0_1):=(blk_cell HF.out.x 1).trans rfl;have x2:w6.cell? ⟨gx,2,none⟩=some (.slice A2 l.length c2):=(blk_cell HF.out.x 2).trans rfl;have x3:w6.cell? ⟨gx,3,none⟩=some (.slice (some ⟨gF,0,none⟩) F.length cF):=(blk_cell HF.out.x 3).trans rfl;have x4:w6.cell? ⟨gx,4,none⟩=some (.slice A4 n0 c4):=(blk_cell HF.out.x 4).trans rfl;have x6:w6.cell? ⟨gx,6,none⟩=some (.slice (some ⟨gn,0,none⟩) n0 n0):=(blk_cell HF.out.x 6).trans rfl
 have x5:w6.cell? ⟨gx,5,none⟩=some (.slice (some ⟨gd,0,none⟩) n0 n0):=(blk_cell HF.out.x 5).trans rfl
 have d0:w6.cell? ⟨gd,t,none⟩=some (.int .i64 y):=by rw[HY.out];exact HDI.out.cell (by rw[hDlen];exact ht)
 by_cases hy0:y<0
 ·have e1:decide (y<0)=true:=decide_eq_true hy0
  go_wp2_with fail
  go_ret
  exact⟨rfl,_,nx0,hn,HF.out,HK.out⟩
 ·have e1:decide (y<0)=false:=decide_eq_false hy0
  have hclr: ∀ ty,(Builtin.clear_ #[25] ty #[.slice (some ⟨gn,0,none⟩) n0 n0]).run Try.prog w6= .ok (.tuple #[]) (w6.setCells gn 0 (List.replicate n0 (.int .i64 0))):=fun ty=>Lib.run_clear_slice w6 25 3 ty (.int .i64 0) Try.underlying25 zero3 rfl rfl gn 0 n0 n0 (by omega) (fun j hj=>by rw[Nat.zero_add,HF.out.nx.cell (by rw[nI_len,hn];exact hj)];rfl) (fun j hj=>HF.out.nx.free _)
  obtain⟨hz,hzk⟩:=isI_clear (g:=gn) n0 (w:=w6) (X:=nI nx0) 0 (by rw[nI_len,hn];omega) HF.out.nx
  rw[List.take_zero,List.nil_append,show List.replicate n0 (0:Int)=nI (List.replicate n0 0) by unfold nI;rw[List.map_replicate];rfl] at hz
  have HF2:Aside0 (Fo n0 a0_1 A2 c2 l gF cF A4 c4 gx gn w.heap.size (.slice (some ⟨gd,0,none⟩) n0 n0) F (List.replicate n0 0) (w6.setCells gn 0 (List.replicate n0 (.int .i64 0)))):=⟨HF.out.putN hzk hz⟩
  have HD2:Aside0 (IsI (w6.setCells gn 0 (List.replicate n0 (.int .i64 0))) gd D):=⟨HDI.out.kept hzk (by show ¬ gd=gn;have:=HGD.out;omega)⟩
  have HK2:Aside0 (Ks (fun b=>b=gx∨b=gF∨b=gn) w (w6.setCells gn 0 (List.replicate n0 (.int .i64 0)))):=⟨HK.out.trans hzk (fun b hb _=> .inr (.inr hb))⟩
  clear hz hzk
  go_wp2_with fail
  clear HF HDI HK hclr x0 x1 x2 x3 x4 x5 x6 d0 HSZ
  have HF:=HF2
  have HDI:=HD2
  have HK:=HK2
  clear HF2 HD2 HK2
  generalize w6.setCells gn 0 (List.replicate n0 (.int .i64 0))=w7 at *
  obtain⟨R,hR⟩: ∃ R,R=phaseF l D s t 300000000 F (List.replicate n0 0):=⟨_,rfl⟩
  have HRR:=Aside0.mk hR
  clear hR
  go_loopw [] (fun w'=> ∃ k,Ps n0 a0_1 A2 c2 l gF cF A4 c4 gx gn w.heap.size gd D s t R w w' k) (fun w'=>least (fun k=>Ps n0 a0_1 A2 c2 l gF cF A4 c4 gx gn w.heap.size gd D s t R w w' k))
  case atStart=>exact⟨300000000,F,List.replicate n0 0,HFL.out,nx_zero l n0,by have:=HB0.out;omega,HRR.out.symm,HF.out,HDI.out,HK.out⟩
  case round=>
   clear HF HDI HK
   have hmin:=least_spec hrel
   obtain⟨kk,hkk⟩: ∃ k_,k_=least (fun k=>Ps n0 a0_1 A2 c2 l gF cF A4 c4 gx gn w.heap.size gd D s t R w wr k):=⟨_,rfl⟩
   rw[← hkk] at hmin
   have HLE:=Aside0.mk hkk
   clear hrel hkk
   obtain⟨G,nx,hgf,hnx,hgk,hgp,hF,hdi,hK⟩:=hmin
   have hgt:=flow_top hgf hs hst
   obtain⟨k,rfl⟩: ∃ k,kk=k+1:=⟨kk - 1,by omega⟩
   have HGF:=Aside0.mk hgf
   have HNX:=Aside0.mk hnx
   have HGK:=Aside0.mk hgk
   have HGP:=Aside0.mk hgp
   have HF:=Aside0.mk hF
   have HDI:=Aside0.mk hdi
   have HK:=Aside0.mk hK
   have hwsz:w.heap.size≤wr.heap.size:=hK.size
   have HFI:Aside0 (Fi n0 a0_1 A2 c2 l gF cF A4 c4 gx gd gn wr.heap.size G D nx wr):=⟨hF.fi hdi HGD.out hdi.lt (Nat.le_refl _)⟩
   obtain⟨RD,hRD⟩: ∃ R_,R_=downG (netG l G D) s t 2000000 s [] nx:=⟨_,rfl⟩
   have hfd:=downG_found (t:=t) (HFIN.out G) 2000000 (dinv_start (F:=G) (D:=D) hs hnx) (downM_lt hgf.right.arcs hgf.right.fifty nx)
   rw[← hRD] at hfd
   have HFD:=Aside0.mk hfd
   have HRD:=Aside0.mk hRD
   clear hgf hnx hgk hgp hF hdi hK hgt hfd hRD
   go_upto_region 6 with (first|(go_at_call 174;refine(down_calls n0 a0_1 A2 c2 l gF cF A4 c4 gx gd gn G D s t nx _ HGF.out.right hDlen HDB.out (HFIN.out G) HNX.out hs ht HFI.out).mono ?_;rintro e_ w8 ⟨vw,rfl,hvr,hfi,hks⟩;rw[← HRD.out] at hvr hfi ⊢;have m0_:=Aside0.mk (HF.out.ofFi hks hfi);have m1_:=Aside0.mk (HDI.out.kept hks (by show ¬ gd=gn;have:=HGD.out;have:=HF.out.low;omega));have m2_:=Aside0.mk (HK.out.trans hks (fun b hb _=> .inr (.inr hb)));have HVR:=Aside0.mk hvr;clear HF HDI HK HFI hvr hfi hks;have HF:=m0_;have HDI:=m1_;have HK:=m2_;clear m0_ m1_ m2_)|fail)
   obtain⟨o,nx'⟩:=RD
   cases o with
   |none=>
    have e2:(!(none:Option (List S38)).isSome)=true:=rfl
    have hq:G=R:=by rw[← HGP.out,phase_end HRD.out.symm]
    go_wp2_with fail
    go_ret
    exact⟨rfl,_,nx',HFD.out.len,by rw[← HRR.out, ← hq];exact HF.out,HK.out⟩
   |some L=>
    have e2:(!(some L:Option (List S38)).isSome)=false:=rfl
    obtain⟨hL1,hL2⟩:=HFD.out.way L rfl
    have hLl:=leads_len (HFIN.out G).hfr hL1 hL2
    obtain⟨p1,p2,p3,p4,p5,p6,p7⟩:=HPUSH.out HGF.out hL1 hL2
    have hLn:L.length≤50:=by
     have h_1:=(HDB.out t ht).2
     have h_2:=(HFIN.out G).hs
     have h_3:(netG l G D).D t=D.getD t 0:=rfl
     omega
    have hLp:0<L.length:=List.length_pos_iff.2 p3
    have HP1:=Aside0.mk p1
    have HP4:=Aside0.mk p4
    have HP5:=Aside0.mk p5
    have HP6:=Aside0.mk p6
    have hRv:=HVR.out L rfl
    obtain⟨Aw,cw,ew⟩:=Kd.R_slice hRv
    subst ew
    have hCw:=(Kd.R_reads' hRv).2.2
    have hcw:=(Kd.R_reads' hRv).2.1
    obtain⟨ad,ead,_⟩:=hCw.2.2 hLp
    subst ead
    obtain⟨g,eg⟩:=Kd.R_head hRv
    subst eg
    have hgb:wr.heap.size≤g:=Kd.R_base hRv g rfl
    have HWC:Aside0 (∀ (j:Nat) (e:S38),L[j]? =some e→w8.cell? ⟨g,j * 2,none⟩=some (.int .i64 e.f0)∧w8.cell? ⟨g,j * 2+1,none⟩=some (.bool e.f1)):=⟨by
     intro j e hj
     obtain⟨ad,ead,c0,c1⟩:=at_T38 hCw (j:Int) (by omega) (by have:=(List.getElem?_eq_some_iff.1 hj).1;omega)
     injection ead with ead
     subst ead
     have hee:rd_T38 L (j:Int)=e:=by
      unfold rd_T38
      rw[Int.toNat_natCast,List.getD_eq_getElem?_getD,hj]
      rfl
     rw[hee,Int.toNat_natCast,add_at,Nat.zero_add] at c0 c1
     exact⟨c0,c1⟩⟩
    have hgl:g<w8.heap.size:=Kd.R_lt hRv g rfl
    have HGG:Aside0 (w.heap.size≤g):=⟨Nat.le_trans hwsz hgb⟩
    clear hL1 hL2 hLl p1 p4 p5 p6 hRv hCw hgb HVR
    have x0:w8.cell? ⟨gx,0,none⟩=some (.int .i64 (n0:Int)):=(blk_cell HF.out.x 0).trans rfl;have x1:w8.cell? ⟨gx,1,none⟩=some (.bool a0_1):=(blk_cell HF.out.x 1).trans rfl;have x2:w8.cell? ⟨gx,2,none⟩=some (.slice A2 l.length c2):=(blk_cell HF.out.x 2).trans rfl;have x3:w8.cell? ⟨gx,3,none⟩=some (.slice (some ⟨gF,0,none⟩) G.length cF):=(blk_cell HF.out.x 3).trans rfl;have x4:w8.cell? ⟨gx,4,none⟩=some (.slice A4 n0 c4):=(blk_cell HF.out.x 4).trans rfl;have x6:w8.cell? ⟨gx,6,none⟩=some (.slice (some ⟨gn,0,none⟩) n0 n0):=(blk_cell HF.out.x 6).trans rfl
    obtain⟨m,hm⟩: ∃ m_,m_=leastR l G L:=⟨_,rfl⟩
    rw[← hm] at p2 p7
    have HMM:=Aside0.mk hm
    clear hm
    go_upto_region 9 with (first|(go_at_call 153;refine(least_calls n0 a0_1 A2 c2 l (some ⟨gF,0,none⟩) cF G g cw L _ HGF.out.right HP6.out hLp (by omega) hcw HWC.out HF.out.ca HF.out.cf HF.out.ca_ (isI_C HF.out.fl (by have:=HGF.out.right.len;have:=HGF.out.right.arcs;omega))).mono ?_;rintro e_ w9 ⟨rfl,hb⟩;rw[← HMM.out];have m0_:=Aside0.mk (HF.out.below hb);have m1_:=Aside0.mk (HDI.out.below hb);have m2_:=Aside0.mk (HK.out.below hb);have m3_:Aside0 (∀ (j:Nat) (e:S38),L[j]? =some e→w9.cell? ⟨g,j * 2,none⟩=some (.int .i64 e.f0)∧w9.cell? ⟨g,j * 2+1,none⟩=some (.bool e.f1)):=⟨fun j e hj=>⟨pw_cell_below hb (HWC.out j e hj).1,pw_cell_below hb (HWC.out j e hj).2⟩⟩;have hgl9:g<w9.heap.size:=Nat.lt_of_lt_of_le hgl hb.size;clear HF HDI HK HWC hb x0 x1 x2 x3 x4 x6;have HF:=m0_;have HDI:=m1_;have HK:=m2_;have HWC:=m3_;clear m0_ m1_ m2_ m3_)|fail)
    go_wp2_with fail
    go_loopw [51] (fun v51 w'=> ∃ j:Nat,j≤L.length∧v51= .int .i64 (j:Int)∧Aside0 (Fo n0 a0_1 A2 c2 l gF cF A4 c4 gx gn w.heap.size (.slice (some ⟨gd,0,none⟩) n0 n0) (pushW G m (L.take j)) nx' w')∧Aside0 (IsI w' gd D)∧Aside0 (Ks (fun b=>b=gx∨b=gF∨b=gn) w w')∧Aside0 (∀ (j:Nat) (e:S38),L[j]? =some e→w'.cell? ⟨g,j * 2,none⟩=some (.int .i64 e.f0)∧w'.cell? ⟨g,j * 2+1,none⟩=some (.bool e.f1))∧Aside0 (g<w'.heap.size)) (fun v51 _=>L.length - (intOf v51).toNat)
    case atStart=>exact⟨0,by omega,rfl,by rw[List.take_zero];exact HF,HDI,HK,HWC,⟨hgl9⟩⟩
    case round=>
     clear HF HDI HK HWC hgl hgl9
     obtain⟨j,hj,rfl,HF,HDI,HK,HWC,HGL⟩:=hrel
     by_cases hlt:j<L.length
     ·have e3:decide ((j:Int)<(L.length:Int))=true:=decide_eq_true (by omega)
      obtain⟨e,he⟩: ∃ e,L[j]? =some e:=⟨_,List.getElem?_eq_getElem hlt⟩
      obtain⟨c0,c1⟩:=HWC.out j e he
      have hmem:=List.mem_of_getElem? he
      have hso:=HP6.out e hmem
      have hrj:=Right.take (k:=m) (by omega) HGF.out.right (L:=L) (fun x hx=>⟨HP6.out x hx,by rw[HMM.out];exact leastR_le hx⟩) HP5.out j
      have hgo:goS (pushW G m (L.take j)) e m=pushW G m (L.take (j+1)):=by rw[take_snoc he,pushW_snoc]
      obtain⟨i,hi,hei⟩:=hso
      have hnj:=hrj.nums i hi
      have hlj:=hrj.len
      obtain⟨Fj,hFj⟩: ∃ F_,F_=pushW G m (L.take j):=⟨_,rfl⟩
      rw[← hFj] at hgo hnj hlj HF
      have HGO:=Aside0.mk hgo
      have HNJ:=Aside0.mk hnj
      have HLJ:=Aside0.mk hlj
      have HEI:=Aside0.mk hei
      have hgFj:(pushW G m (L.take (j+1))).length=Fj.length:=by rw[← hgo,goS_len]
      clear hrj hgo hnj hlj hei hFj he hmem
      have pj:(0:Int)≤(j:Int):=by omega
      have qj:(j:Int)<(L.length:Int):=by omega
      go_upto_region 12 with fail
      have HN:Aside0 ((wr.alloc (.cells #[.int .i64 e.f0, .bool e.f1] 38)).heap[wr.heap.size]? =some (.cells #[.int .i64 e.f0, .bool e.f1] 38 (0,0))):=⟨heap_alloc_new _ _⟩
      have hbA:Below wr.heap.size wr (wr.alloc (.cells #[.int .i64 e.f0, .bool e.f1] 38)):=below_alloc (Below.refl _ _) _
      have hszr:w.heap.size≤wr.heap.size:=HK.out.size
      have m0_:=Aside0.mk (HF.out.below hbA)
      have m1_:=Aside0.mk (HDI.out.below hbA)
      have m2_:=Aside0.mk (HK.out.below hbA)
      have m3_:Aside0 (∀ (j:Nat) (e:S38),L[j]? =some e→(wr.alloc (.cells #[.int .i64 e.f0, .bool e.f1] 38)).cell? ⟨g,j * 2,none⟩=some (.int .i64 e.f0)∧(wr.alloc (.cells #[.int .i64 e.f0, .bool e.f1] 38)).cell? ⟨g,j * 2+1,none⟩=some (.bool e.f1))→True:=fun _=>trivial
      have m4_:Aside0 (∀ (q:Nat) (e_:S38),L[q]? =some e_→(wr.alloc (.cells #[.int .i64 e.f0, .bool e.f1] 38)).cell? ⟨g,q * 2,none⟩=some (.int .i64 e_.f0)∧(wr.alloc (.cells #[.int .i64 e.f0, .bool e.f1] 38)).cell? ⟨g,q * 2+1,none⟩=some (.bool e_.f1)):=⟨fun q e_ hq=>⟨pw_cell_below hbA (HWC.out q e_ hq).1,pw_cell_below hbA (HWC.out q e_ hq).2⟩⟩
      clear HF HDI HK HWC c0 c1 m3_ hbA
      have HF:=m0_
      have HDI:=m1_
      have HK:=m2_
      have HWC:=m4_
      clear m0_ m1_ m2_ m4_
      have HGL:=HGL.out
      generalize wr.alloc (.cells #[.int .i64 e.f0, .bool e.f1] 38)=w11 at *
      generalize wr.heap.size=g11 at *
      have x0:w11.cell? ⟨gx,0,none⟩=some (.int .i64 (n0:Int)):=(blk_cell HF.out.x 0).trans rfl;have x1:w11.cell? ⟨gx,1,none⟩=some (.bool a0_1):=(blk_cell HF.out.x 1).trans rfl;have x2:w11.cell? ⟨gx,2,none⟩=some (.slice A2 l.length c2):=(blk_cell HF.out.x 2).trans rfl;have x3:w11.cell? ⟨gx,3,none⟩=some (.slice (some ⟨gF,0,none⟩) Fj.length cF):=(blk_cell HF.out.x 3).trans rfl;have x4:w11.cell? ⟨gx,4,none⟩=some (.slice A4 n0 c4):=(blk_cell HF.out.x 4).trans rfl;have x6:w11.cell? ⟨gx,6,none⟩=some (.slice (some ⟨gn,0,none⟩) n0 n0):=(blk_cell HF.out.x 6).trans rfl
      have b0:w11.cell? ⟨g11,0,none⟩=some (.int .i64 e.f0):=(blk_cell HN.out 0).trans rfl
      have b1:w11.cell? ⟨g11,1,none⟩=some (.bool e.f1):=(blk_cell HN.out 1).trans rfl
      have hgx: ¬ gx=gF:=HF.out.apart.2.1
      have hg11: ¬ g11=gF:=by have:=HF.out.low;omega
      have hgw:g<w11.heap.size:=by have:=blk_lt HN.out;omega
      have hlF:i<Fj.length:=by have:=HLJ.out;omega
      clear x4 x6
      go_region_held3 (fun w'=>w'.cell? ⟨gx,0,none⟩=some (.int .i64 (n0:Int))∧w'.cell? ⟨gx,1,none⟩=some (.bool a0_1)∧w'.cell? ⟨gx,2,none⟩=some (.slice A2 l.length c2)∧w'.cell? ⟨gx,3,none⟩=some (.slice (some ⟨gF,0,none⟩) Fj.length cF)∧w'.cell? ⟨g11,0,none⟩=some (.int .i64 e.f0)∧w'.cell? ⟨g11,1,none⟩=some (.bool e.f1))
       (first|((try dsimp only);(refine⟨?_,?_,?_,?_,?_,?_⟩)<;>first|(exact pw_cell_below (below_drew (Below.refl _ _)) (by assumption))|(exact ks_cellF hks (pw_cell_below (below_drew (Below.refl _ _)) (by assumption)) (by assumption))|(exact ks_cellF hks (by assumption) (by assumption)))|go_keep)
       (first|(go_at_call 154;refine(go_calls (n0:Int) a0_1 A2 c2 l gF cF Fj e m _ ?hF (i:=i) hlF HEI.out ⟨by omega,by omega⟩ (fun _=>by have:=HNJ.out;omega) (fun _=>by have:=HNJ.out;omega)).mono ?_;(case hF=>first|exact HF.out.fl|exact HF.out.fl.below (below_drew (Below.refl _ _)));rintro e_ w12 ⟨rfl,hil,hks⟩))
      rw[HGO.out] at hil
      have hbd:Below w11.heap.size w11 w11.drew:=below_drew (Below.refl _ _)
      have m0_:=Aside0.mk ((HF.out.below hbd).putF hks hil hgFj)
      have m1_:=Aside0.mk ((HDI.out.below hbd).kept hks (by show ¬ gd=gF;have:=HGD.out;have:=HF.out.low;omega))
      have m2_:=Aside0.mk ((HK.out.below hbd).trans hks (fun b hb _=> .inr (.inl hb)))
      have m4_:Aside0 (∀ (q:Nat) (e_:S38),L[q]? =some e_→w12.cell? ⟨g,q * 2,none⟩=some (.int .i64 e_.f0)∧w12.cell? ⟨g,q * 2+1,none⟩=some (.bool e_.f1)):=⟨fun q e_ hq=>⟨ks_cellF hks (pw_cell_below hbd (HWC.out q e_ hq).1) (by have:=HGG.out;have:=HF.out.low;omega),ks_cellF hks (pw_cell_below hbd (HWC.out q e_ hq).2) (by have:=HGG.out;have:=HF.out.low;omega)⟩⟩
      have hgw2:g<w12.heap.size:=Nat.lt_of_lt_of_le hgw (Nat.le_trans hbd.size hks.size)
      clear HF HDI HK HWC hbd hks hil x0 x1 x2 x3 b0 b1 HN
      go_wp2_with fail
      go_roundw
      case rel=>exact⟨j+1,by omega,by go_num,m0_,m1_,m2_,m4_,⟨hgw2⟩⟩
      case measure=>simp[intOf];omega
     ·have e3:decide ((j:Int)<(L.length:Int))=false:=decide_eq_false (by omega)
      have htk:L.take j=L:=List.take_of_length_le (by omega)
      rw[htk] at HF
      have HP1':Aside0 (IsFlow l (pushW G m L) n0 s t∧bal l (pushW G m L) s=bal l G s+m):=⟨by rw[HMM.out];exact⟨HP1.out,HP4.out⟩⟩
      have hps:phaseF l D s t (k+1) G nx=phaseF l D s t k (pushW G m L) nx':=by rw[HMM.out];exact phase_step HRD.out.symm
      have HPS:=Aside0.mk hps
      clear hps htk
      have hPs:Ps n0 a0_1 A2 c2 l gF cF A4 c4 gx gn w.heap.size gd D s t R w wr k:=⟨pushW G m L,nx',HP1'.out.1,⟨HFD.out.len,HFD.out.le⟩,by have:=HP1'.out.2;have:=HGK.out;omega,by rw[← HPS.out];exact HGP.out,HF.out,HDI.out,HK.out⟩
      go_wp2_with fail
      go_roundw
      case rel=>exact⟨k,hPs⟩
      case measure=>exact least_lt hPs (by rw[← HLE.out];exact Nat.lt_succ_self k)
end Go.Proofs.Ytkcpanpdipmmmaa.H
namespace Go.Proofs.Ytkcpanpdipmmmaa.H
open Go.RowKit Go.Proofs.YtkcpanpdipmmmaaW.PrintWords Go.Proofs.YtkcpanpdipmmmaaW.PrintLast Go.Proofs.YtkcpanpdipmmmaaW.PrintMore Go.Proofs.Ytkcpanpdipmmmaa.P
set_option maxHeartbeats 1000000 in
set_option maxRecDepth 100000 in
theorem insertion_nil (A:Option Addr) (cap:Nat) (f:Value) (w:World):
  Calls Try.prog 169 #[.slice A 0 cap, .int .i64 0, .int .i64 0,f] w fun e w'=>e= .returned (.tuple #[])∧w'=w:=by
 go_enter Try.func169,Try.ntmps169
 go_wp2
 go_loopw [8] (fun i wr=>i= .int .i64 1∧Aside0 (wr=w)) (fun i _=>0)
 case atStart=>exact⟨by go_num,⟨rfl⟩⟩
 case round=>
  obtain⟨rfl,HW⟩:=hrel
  go_wp2
  go_end0
  exact⟨rfl,HW.out⟩
set_option maxHeartbeats 1000000 in
set_option maxRecDepth 100000 in
theorem stable_nil (A:Option Addr) (cap:Nat) (f:Value) (w:World):
  Calls Try.prog 162 #[.slice A 0 cap, .int .i64 0,f] w fun e w'=>e= .returned (.tuple #[])∧w'=w:=by
 go_enter Try.func162,Try.ntmps162
 go_wp2_with fail
 go_loopw [7,8] (fun va vb wr=>va= .int .i64 0∧vb= .int .i64 20∧Aside0 (wr=w)) (fun va _ _=>0)
 case atStart=>exact⟨by go_num,by go_num,⟨rfl⟩⟩
 case round=>
  obtain⟨rfl,rfl,HW⟩:=hrel
  go_wp2_with fail
  refine(insertion_nil A cap f _).mono ?_
  rintro e1 w1 ⟨rfl,rfl⟩
  go_wp2_with fail
  go_loopw [6] (fun vs wr=>vs= .int .i64 20∧Aside0 (wr=w)) (fun vs _=>0)
  case atStart=>exact⟨by go_num,HW⟩
  case round=>
   clear HW
   obtain⟨rfl,HW⟩:=hrel
   go_wp2_with fail
   go_end0
   exact⟨rfl,HW.out⟩
theorem sortStable_nil (A:Option Addr) (cap:Nat) (f:Value) (w:World):
  Calls Try.prog 143 #[.slice A 0 cap,f] w fun e w'=>e= .returned (.tuple #[])∧w'=w:=by
 go_enter Try.func143,Try.ntmps143
 go_wp2_with fail
 refine(stable_nil A cap f w).mono ?_
 rintro e1 w1 ⟨rfl,rfl⟩
 go_wp2_with fail
 go_end0
 exact⟨rfl,rfl⟩
end Go.Proofs.Ytkcpanpdipmmmaa.H
namespace Go.Proofs.Ytkcpanpdipmmmaa.H
open Go.RowKit Go.Proofs.YtkcpanpdipmmmaaW.PrintWords Go.Proofs.YtkcpanpdipmmmaaW.PrintLast Go.Proofs.YtkcpanpdipmmmaaW.PrintMore Go.Proofs.Ytkcpanpdipmmmaa.P
theorem stL_nil {l:List S74} {n:Nat} {v:Int} (hv0:0≤v) (hv:v<n) (hE:ends l n) (h:stepsU l n v=[]):stL l v l.length=[]:=by
 refine List.eq_nil_iff_forall_not_mem.2 fun s hs=> ?_
 have:=(mem_stepsU l n v hv0 hv hE s).2 ((mem_stL l v l.length s).1 hs)
 rw[h] at this
 cases this
theorem row_step (P:List S38) (L:List Int) (b:Bool) (j:Nat) (hj:j<L.length):P ++ (L.take (j+1)).map (fun i=>(⟨i,b⟩:S38))=(P ++ (L.take j).map (fun i=>(⟨i,b⟩:S38))) ++ [⟨rd L (j:Int),b⟩]:=by
 have e:L.take (j+1)=L.take j ++ [rd L (j:Int)]:=by
  rw[List.take_add_one,List.getElem?_eq_getElem hj]
  show _ ++ [L[j]]=_ ++ [L.getD (j:Int).toNat 0]
  rw[Int.toNat_natCast,List.getD_eq_getElem?_getD,List.getElem?_eq_getElem hj]
  rfl
 rw[e,List.map_append,List.append_assoc]
 rfl
theorem sort_row {w:World} {base go n co k N:Nat} {l:List S74} {X:List (List S38)} {oki:Nat→Prop} {A:Option Addr} {cr:Nat} {RW:List S38}
  (hH:Kd.H (Kd.slice 38 k38) 34 w base (fun _=>True) (.slice (some ⟨go,0,none⟩) n co) X (k:Int) oki [.slice A RW.length cr])
  (hR:Kd.R k38 38 w base oki (.slice A RW.length cr) RW) (hRW:RW=stepsU l N (k:Int)) (hk:k<N) (hE:ends l N) (hl:l.length≤1000000) (hlen:RW.length≤1000000):
  Calls Try.prog 143 #[.slice A RW.length cr, .func (.func 144) #[] #[]] w fun e w'=>e= .returned (.tuple #[])∧
   ∃ v:Value,w.grownBy w' v.ownBlock∧(∀ g,v.ownBlock=some g→base≤g∧ ∃ cells,w.heap[g]? =some (.cells cells 38 (0,0)))∧Kd.S (Kd.slice 38 k38) 34 w' base (fun _=>True) (.slice (some ⟨go,0,none⟩) n co) (X.set k (stL l k l.length)):=by
 have hk0:0≤(k:Int):=by omega
 have hkn:(k:Int)<N:=by omega
 by_cases hp:0<RW.length
 ·obtain⟨g,cap,e,hb,_,cells,hcl⟩:=Kd.R_form hR hp
  injection e with e1 _ e3
  subst e1
  subst e3
  have hA:=arr_of_R hR hp
  refine(sortStable_calls g RW.length cr (fun i=>RW.getD i z38) w hA hlen ?_ ?_).mono ?_
  ·rw[hRW];exact stab_of_list (stab_stepsU l N (k:Int) hk0 hkn hE)
  ·rw[hRW];exact small_steps hk0 hkn hE hl
  ·rintro e w' ⟨rfl,⟨K,hK,hs⟩,hf⟩
   refine⟨rfl, .slice (some ⟨g,0,none⟩) RW.length cr,hf.1,fun g' hg'=> ?_,?_⟩
   ·have:g=g':=by simpa [Value.ownBlock] using hg'
    subst this
    exact⟨hb,cells,hcl⟩
   ·have hoki:oki g:=hR.1 g rfl
    have hR':=R_of_arr hR rfl hp hK hf hoki
    have hst:(List.range RW.length).map K=stL l k l.length:=by rw[hRW] at hs ⊢;exact sorted_is hk0 hkn hE hs
    rw[hst] at hR'
    have hS:=Kd.H_back (Kd.H_grown hH hf.1 (fun q hq=>by injection hq with hq;subst hq;exact hoki)) (x':=stL l k l.length) ⟨_,rfl,hR'⟩ (fun _ hk=>hk)
    rw[Int.toNat_natCast] at hS
    exact hS
 ·have h0:RW=[]:=List.eq_nil_of_length_eq_zero (by omega)
  have hst:stL l k l.length=[]:=stL_nil hk0 hkn hE (by rw[← hRW];exact h0)
  subst h0
  refine(sortStable_nil A cr _ w).mono ?_
  rintro e w' ⟨rfl,rfl⟩
  refine⟨rfl, .slice none 0 0,World.grownBy.refl _ _,fun g' hg'=>by simp[Value.ownBlock] at hg',?_⟩
  rw[hst]
  have hS:=Kd.H_back hH (x':=([]:List S38)) ⟨_,rfl,hR⟩ (fun _ hk=>hk)
  rw[Int.toNat_natCast] at hS
  exact hS
end Go.Proofs.Ytkcpanpdipmmmaa.H
namespace Go.Proofs.Ytkcpanpdipmmmaa.H
open Go.RowKit Go.Proofs.YtkcpanpdipmmmaaW.PrintWords Go.Proofs.YtkcpanpdipmmmaaW.PrintLast Go.Proofs.YtkcpanpdipmmmaaW.PrintMore Go.Proofs.Ytkcpanpdipmmmaa.P
theorem infoRowS:(Try.prog.info? 34).map (fun i=>(i.zero,i.size,i.bytes))=some (some (.slice none 0 0),1,24):=by kernel_rfl
set_option maxHeartbeats 2000000 in
set_option maxRecDepth 100000 in
theorem at_calls (n0:Nat) (a0_1:Bool) (A0_2:Option Addr) (c0_2:Nat) (l0_2:List S74) (A1:Option Addr) (c1 n1:Nat) (w:World) (hr0_2:Kd.C k74 w A0_2 l0_2.length l0_2) (hc0_2:l0_2.length≤c0_2) (h0:0≤(n0:Int)) (h1:(n0:Int)≤1000000) (hl:l0_2.length≤500000) (hE0: ∀ k:Nat,k<l0_2.length→0≤eFrom (rd_T74 l0_2 k)∧eFrom (rd_T74 l0_2 k)<(n0:Int)) (hE1: ∀ k:Nat,k<l0_2.length→0≤eTo (rd_T74 l0_2 k)∧eTo (rd_T74 l0_2 k)<(n0:Int)):
  Calls Try.prog 101 #[.agg #[.int .i64 (n0:Int), .bool a0_1, .slice A0_2 l0_2.length c0_2], .slice A1 n1 c1] w fun e w'=> ∃ v0_:Value,e= .returned (.agg #[.int .i64 (n0:Int), .bool a0_1, .slice A0_2 l0_2.length c0_2, .slice A1 n1 c1,v0_])∧Kd.S (Kd.slice 38 k38) 34 w' w.heap.size (fun _=>True) v0_ (rowsAt l0_2 n0 n0)∧Below w.heap.size w w':=by
 have hu24:=Try.underlying24
 have hu118:=Try.underlying118
 have HR0_2:=Aside0.mk hr0_2
 have HC0_2:=Aside0.mk hc0_2
 have HH0:=Aside0.mk h0
 have HH1:=Aside0.mk h1
 have HE0:=Aside0.mk hE0
 have HE1:=Aside0.mk hE1
 have HR0:=Aside0.mk hr0_2
 clear hr0_2 hc0_2 h0 h1 hE0 hE1
 have HB:=Aside0.mk (Below.refl w.heap.size w)
 go_enter Try.func101,Try.ntmps101
 go_wp2_with (first|((with_reducible refine gate_dst (N:=2) rfl ?_);refine box_event ?hg (N:=2) ?hd (cs:= #[.int .i64 (n0:Int), .bool a0_1, .slice A0_2 l0_2.length c0_2]) (t:=24) ?hr ?_;(case hd=>rfl);(case hg=>rfl);(case hr=>first|(go_simp;done)|(go_simp;rfl));intro gb111 hg w4 hbox hb;have n0_:=Aside0.mk (below_step (by repeat(first|(with_reducible first|exact HB.out|apply below_alloc|apply pw_below_drewN|apply below_drew1)|exact HB.out)) hb);have n1_:=Aside0.mk (hbox);have n2_:=Aside0.mk (Kd.C_below HR0_2.out hb);clear HB HR0_2;have HB:=n0_;have BK111:=n1_;have HR0_2:=n2_;clear n0_ n1_ n2_;clear hb hbox hg)|((with_reducible refine gate_dst (N:=4) rfl ?_);refine box_event ?hg (N:=4) ?hd (cs:= #[.int .i64 0, .bool false, .slice none 0 0, .slice none 0 0, .slice none 0 0]) (t:=118) ?hr ?_;(case hd=>rfl);(case hg=>rfl);(case hr=>first|(go_simp;done)|(go_simp;rfl));intro gb4 hg w5 hbox hb;have GE4:Aside0 (w.heap.size≤gb4):=⟨by rw[hg];exact HB.out.size⟩;have n0_:=Aside0.mk (below_step (by repeat(first|(with_reducible first|exact HB.out|apply below_alloc|apply pw_below_drewN|apply below_drew1)|exact HB.out)) hb);have n1_:=Aside0.mk (hbox);have n2_:=Aside0.mk (Kd.C_below HR0_2.out hb);have n3_:=Aside0.mk (blk_below BK111.out hb);clear HB HR0_2 BK111;have HB:=n0_;have BK4:=n1_;have HR0_2:=n2_;have BK111:=n3_;clear n0_ n1_ n2_ n3_;clear hb hbox hg)|fail)
 obtain⟨R0,hR0⟩: ∃ y_:List (List S38),y_=List.replicate (n0:Int).toNat []:=⟨_,rfl⟩
 have NR0:=Aside0.mk hR0
 clear hR0
 refine start_ (n:=9) (S:=(fun w'=>w'.cell? ⟨gb111,0,none⟩=some (.int .i64 (n0:Int))∧w'.cell? ⟨gb111,1,none⟩=some (.bool a0_1)∧w'.cell? ⟨gb111,2,none⟩=some (.slice A0_2 l0_2.length c0_2))) (ds:=[]) #[false,false,false,false,false,false,false,false,false] (by kernel_rfl) rfl rfl ⟨(blk_cell BK111.out 0).trans rfl,(blk_cell BK111.out 1).trans rfl,(blk_cell BK111.out 2).trans rfl⟩ (fun hHeld=> ?_)
 have n0_:=Aside0.mk (below_drew HB.out)
 have n1_:Aside0 (w5.drew.heap[gb111]? =some (.cells #[.int .i64 (n0:Int), .bool a0_1, .slice A0_2 l0_2.length c0_2] 24 (0,0))):=⟨BK111.out⟩
 have n2_:Aside0 (w5.drew.heap[gb4]? =some (.cells #[.int .i64 0, .bool false, .slice none 0 0, .slice none 0 0, .slice none 0 0] 118 (0,0))):=⟨BK4.out⟩
 clear HB BK111 BK4
 have HB:=n0_
 have BK111:=n1_
 have BK4:=n2_
 clear n0_ n1_ n2_
 generalize w5.drew=w6 at BK111 HB BK4 hHeld ⊢
 refine pure_ (i:=1) (N:=some 14) (v:= ?_) (a':= ?_) #[false,true,false,false,false,false,false,false,false] rfl rfl (by kernel_rfl) (fun _ _ _ h=>h) (Or.inl ⟨by rfl,?_⟩) ?_ ?_
 rotate_left
 ·intro w'
  go_simp
  with_reducible rfl
 rotate_left
 ·simp only[Act.put,List.setIfInBounds_toArray,List.set_cons_zero,List.set_cons_succ,i64_w,i32_w]
  rfl
 refine pure_ (i:=3) (N:=some 16) (v:= ?_) (a':= ?_) #[false,true,false,true,false,false,false,false,false] rfl rfl (by kernel_rfl) (fun _ _ _ h=>h) (Or.inl ⟨by rfl,?_⟩) ?_ ?_
 rotate_left
 ·intro w'
  go_simp
  with_reducible rfl
 rotate_left
 ·simp only[Act.put,List.setIfInBounds_toArray,List.set_cons_zero,List.set_cons_succ,i64_w,i32_w]
  rfl
 refine take_ (i:=0) (N:=some 13) (v:= ?_) (a':= ?_) #[true,true,false,true,false,false,false,false,false] rfl rfl (by kernel_rfl) (fun _ _ _ h=>h) (Or.inl ⟨by rfl,?_⟩) hHeld ?_ ?_
 rotate_left
 ·rintro w' ⟨s0,s1,s2⟩
  go_simp
  with_reducible rfl
 rotate_left
 ·simp only[Act.put,List.setIfInBounds_toArray,List.set_cons_zero,List.set_cons_succ,i64_w,i32_w]
  rfl
 refine take_ (i:=4) (N:=some 17) (v:= ?_) (a':= ?_) #[true,true,false,true,true,false,false,false,false] rfl rfl (by kernel_rfl) (fun _ _ _ h=>h) (Or.inl ⟨by rfl,?_⟩) hHeld ?_ ?_
 rotate_left
 ·rintro w' ⟨s0,s1,s2⟩
  go_simp
  with_reducible rfl
 rotate_left
 ·simp only[Act.put,List.setIfInBounds_toArray,List.set_cons_zero,List.set_cons_succ,i64_w,i32_w]
  rfl
 refine pure_ (i:=2) (N:=some 15) (v:= ?_) (a':= ?_) #[true,true,true,true,true,false,false,false,false] rfl rfl (by kernel_rfl) (fun _ _ _ h=>h) (Or.inl ⟨by rfl,?_⟩) ?_ ?_
 rotate_left
 ·intro w'
  go_simp
  with_reducible rfl
 rotate_left
 ·simp only[Act.put,List.setIfInBounds_toArray,List.set_cons_zero,List.set_cons_succ,i64_w,i32_w]
  rfl
 refine join_ (σ:=Value × Nat) 1 #[true,true,true,true,true,true,true,true,false] (fun s_=>[(18,s_.1),(19, .agg #[.int .i64 (n0:Int), .bool a0_1, .slice A0_2 l0_2.length c0_2, .slice A1 n1 c1,s_.1]),(5, .pointer (some ⟨s_.2,0,none⟩))]) (fun s_ w'=>(w'.cell? ⟨gb111,0,none⟩=some (.int .i64 (n0:Int))∧w'.cell? ⟨gb111,1,none⟩=some (.bool a0_1)∧w'.cell? ⟨gb111,2,none⟩=some (.slice A0_2 l0_2.length c0_2))∧Kd.S (Kd.slice 38 k38) 34 w' w.heap.size (fun _=>True) s_.1 R0∧w'.heap[gb111]? =some (.cells #[.int .i64 (n0:Int), .bool a0_1, .slice A0_2 l0_2.length c0_2] 24 (0,0))∧w'.heap[s_.2]? =some (.cells #[.int .i64 0, .bool false, .slice none 0 0, .slice none 0 0, .slice none 0 0] 118 (0,0))∧w'.heap[gb4]? =some (.cells #[.int .i64 0, .bool false, .slice none 0 0, .slice none 0 0, .slice none 0 0] 118 (0,0))∧w.heap.size≤s_.2∧gb111≠s_.2∧gb4≠s_.2∧Below w.heap.size w w') ?_ ?_
 rotate_left
 ·intro hCont
  refine two_ (i:=5) (j:=7) (Ni:=some 18) (Nj:=some 5) #[true,true,true,true,true,true,false,false,false] #[true,true,true,true,true,false,false,true,false] rfl rfl rfl rfl (by kernel_rfl) (by decide) (by decide) (fun K hK=> ?_) (fun K hK=> ?_)
  ·skip
   refine Kd.S_make_step (Kd.slice 38 k38) _ 34 (by rfl) (N:=18) rfl 116 _ _ rfl (n0:Int) rfl rfl Try.underlying116 (.slice none 0 0) 24 infoRowS rfl (by decide) (by omega) [] (ok:=fun _=>True) (okp:=fun _=>True) ⟨_,rfl,Kd.R_nil _ _ _ _ _⟩ (fun _ hk=>hk) trivial HH0.out (by have:=HH1.out;omega) (Below.refl _ _) (Nat.le_refl _) ?_
   intro v18 w7 ho hb _ _
   rw[← NR0.out] at ho
   obtain⟨Ao,co,eo⟩:=Kd.S_slice ho
   subst eo
   have n0_:=Aside0.mk (Kd.S_lower ho HB.out.size)
   have n1_:=Aside0.mk (blk_below BK111.out hb)
   have n2_:=Aside0.mk (blk_below BK4.out hb)
   have n3_:=Aside0.mk (below_step HB.out hb)
   clear BK111 BK4 HB ho hb
   have HO:=n0_
   have BK111:=n1_
   have BK4:=n2_
   have HB:=n3_
   clear n0_ n1_ n2_ n3_
   refine hK.out _ _ ⟨(blk_cell BK111.out 0).trans rfl,(blk_cell BK111.out 1).trans rfl,(blk_cell BK111.out 2).trans rfl⟩ (fun hHeld=> ?_)
   clear hK K
   refine norm_ (a':= ?_) ?_ ?_
   rotate_left
   ·show Act.put _ (some 18) _=_
    simp only[Act.put,List.setIfInBounds_toArray,List.set_cons_zero,List.set_cons_succ,i64_w,i32_w]
    rfl
   refine pure_ (i:=6) (N:=some 19) (v:= ?_) (a':= ?_) #[true,true,true,true,true,true,true,false,false] rfl rfl (by kernel_rfl) (fun _ _ _ h=>h) (Or.inl ⟨by rfl,?_⟩) ?_ ?_
   rotate_left
   ·intro w'
    go_simp
    with_reducible rfl
   rotate_left
   ·simp only[Act.put,List.setIfInBounds_toArray,List.set_cons_zero,List.set_cons_succ,i64_w,i32_w]
    rfl
   refine one_ (i:=7) (N:=some 5) #[true,true,true,true,true,true,true,true,false] rfl rfl (by kernel_rfl) (by decide) (fun K hK=> ?_)
   refine box_step ?hg (N:=5) ?hd (cs:= #[.int .i64 0, .bool false, .slice none 0 0, .slice none 0 0, .slice none 0 0]) (t:=118) ?hr ?_;(case hd=>rfl);(case hg=>rfl);(case hr=>first|(go_simp;done)|(go_simp;rfl))
   intro gb5 hg w8 hbox hb
   have n0_:=Aside0.mk hbox
   have n1_:=Aside0.mk (blk_below BK111.out hb)
   have n2_:=Aside0.mk (blk_below BK4.out hb)
   have n3_:=Aside0.mk (below_step HB.out hb)
   have n5_:Aside0 (w.heap.size≤gb5):=⟨by rw[hg];exact HB.out.size⟩
   have n6_:Aside0 (gb111≠gb5):=⟨by rw[hg];exact Nat.ne_of_lt (blk_lt BK111.out)⟩
   have n7_:Aside0 (gb4≠gb5):=⟨by rw[hg];exact Nat.ne_of_lt (blk_lt BK4.out)⟩
   have n4_:=Aside0.mk (Kd.S_below HO.out hb)
   clear HO
   have HO:=n4_
   clear n4_
   clear BK111 BK4 HB hbox hb hg
   have BK5:=n0_
   have BK111:=n1_
   have BK4:=n2_
   have HB:=n3_
   have GE5:=n5_
   have NB111:=n6_
   have NB4:=n7_
   clear n0_ n1_ n2_ n3_ n5_ n6_ n7_
   refine hK.out _ _ ⟨(blk_cell BK111.out 0).trans rfl,(blk_cell BK111.out 1).trans rfl,(blk_cell BK111.out 2).trans rfl⟩ (fun hHeld=> ?_)
   clear hK K
   refine norm_ (a':= ?_) ?_ ?_
   rotate_left
   ·show Act.put _ (some 5) _=_
    simp only[Act.put,List.setIfInBounds_toArray,List.set_cons_zero,List.set_cons_succ,i64_w,i32_w]
    rfl
   exact norm_ (by(simp only[putAll,Act.put,List.setIfInBounds_toArray,List.set_cons_zero,List.set_cons_succ])<;>rfl) (hCont (.slice Ao R0.length co,gb5) _ ⟨hHeld,HO.out,BK111.out,BK5.out,BK4.out,GE5.out,NB111.out,NB4.out,HB.out⟩)
  ·skip
   refine box_step ?hg (N:=5) ?hd (cs:= #[.int .i64 0, .bool false, .slice none 0 0, .slice none 0 0, .slice none 0 0]) (t:=118) ?hr ?_;(case hd=>rfl);(case hg=>rfl);(case hr=>first|(go_simp;done)|(go_simp;rfl))
   intro gb5 hg w7 hbox hb
   have n0_:=Aside0.mk hbox
   have n1_:=Aside0.mk (blk_below BK111.out hb)
   have n2_:=Aside0.mk (blk_below BK4.out hb)
   have n3_:=Aside0.mk (below_step HB.out hb)
   have n5_:Aside0 (w.heap.size≤gb5):=⟨by rw[hg];exact HB.out.size⟩
   have n6_:Aside0 (gb111≠gb5):=⟨by rw[hg];exact Nat.ne_of_lt (blk_lt BK111.out)⟩
   have n7_:Aside0 (gb4≠gb5):=⟨by rw[hg];exact Nat.ne_of_lt (blk_lt BK4.out)⟩
   clear BK111 BK4 HB hbox hb hg
   have BK5:=n0_
   have BK111:=n1_
   have BK4:=n2_
   have HB:=n3_
   have GE5:=n5_
   have NB111:=n6_
   have NB4:=n7_
   clear n0_ n1_ n2_ n3_ n5_ n6_ n7_
   refine hK.out _ _ ⟨(blk_cell BK111.out 0).trans rfl,(blk_cell BK111.out 1).trans rfl,(blk_cell BK111.out 2).trans rfl⟩ (fun hHeld=> ?_)
   clear hK K
   refine norm_ (a':= ?_) ?_ ?_
   rotate_left
   ·show Act.put _ (some 5) _=_
    simp only[Act.put,List.setIfInBounds_toArray,List.set_cons_zero,List.set_cons_succ,i64_w,i32_w]
    rfl
   refine one_ (i:=5) (N:=some 18) #[true,true,true,true,true,true,false,true,false] rfl rfl (by kernel_rfl) (by decide) (fun K hK=> ?_)
   refine Kd.S_make_step (Kd.slice 38 k38) _ 34 (by rfl) (N:=18) rfl 116 _ _ rfl (n0:Int) rfl rfl Try.underlying116 (.slice none 0 0) 24 infoRowS rfl (by decide) (by omega) [] (ok:=fun _=>True) (okp:=fun _=>True) ⟨_,rfl,Kd.R_nil _ _ _ _ _⟩ (fun _ hk=>hk) trivial HH0.out (by have:=HH1.out;omega) (Below.refl _ _) (Nat.le_refl _) ?_
   intro v18 w8 ho hb _ _
   rw[← NR0.out] at ho
   obtain⟨Ao,co,eo⟩:=Kd.S_slice ho
   subst eo
   have n0_:=Aside0.mk (Kd.S_lower ho HB.out.size)
   have n1_:=Aside0.mk (blk_below BK111.out hb)
   have n2_:=Aside0.mk (blk_below BK4.out hb)
   have n3_:=Aside0.mk (below_step HB.out hb)
   have n4_:=Aside0.mk (blk_below BK5.out hb)
   clear BK5
   have BK5:=n4_
   clear n4_
   clear BK111 BK4 HB ho hb
   have HO:=n0_
   have BK111:=n1_
   have BK4:=n2_
   have HB:=n3_
   clear n0_ n1_ n2_ n3_
   refine hK.out _ _ ⟨(blk_cell BK111.out 0).trans rfl,(blk_cell BK111.out 1).trans rfl,(blk_cell BK111.out 2).trans rfl⟩ (fun hHeld=> ?_)
   clear hK K
   refine norm_ (a':= ?_) ?_ ?_
   rotate_left
   ·show Act.put _ (some 18) _=_
    simp only[Act.put,List.setIfInBounds_toArray,List.set_cons_zero,List.set_cons_succ,i64_w,i32_w]
    rfl
   refine pure_ (i:=6) (N:=some 19) (v:= ?_) (a':= ?_) #[true,true,true,true,true,true,true,true,false] rfl rfl (by kernel_rfl) (fun _ _ _ h=>h) (Or.inl ⟨by rfl,?_⟩) ?_ ?_
   rotate_left
   ·intro w'
    go_simp
    with_reducible rfl
   rotate_left
   ·simp only[Act.put,List.setIfInBounds_toArray,List.set_cons_zero,List.set_cons_succ,i64_w,i32_w]
    rfl
   exact norm_ (by(simp only[putAll,Act.put,List.setIfInBounds_toArray,List.set_cons_zero,List.set_cons_succ])<;>rfl) (hCont (.slice Ao R0.length co,gb5) _ ⟨hHeld,HO.out,BK111.out,BK5.out,BK4.out,GE5.out,NB111.out,NB4.out,HB.out⟩)
 rintro⟨v18,gb5⟩ w9 ⟨hHeld,h0_,h1_,h2_,h3_,h4_,h5_,h6_,h7_⟩
 clear BK111 BK4 HB
 have HO:=Aside0.mk h0_
 clear h0_
 have BK111:=Aside0.mk h1_
 clear h1_
 have BK5:=Aside0.mk h2_
 clear h2_
 have BK4:=Aside0.mk h3_
 clear h3_
 have GE5:=Aside0.mk h4_
 clear h4_
 have NB111:=Aside0.mk h5_
 clear h5_
 have NB4:=Aside0.mk h6_
 clear h6_
 have HB:=Aside0.mk h7_
 clear h7_
 obtain⟨Ao,co,eo⟩:=Kd.S_slice HO.out
 dsimp only at eo HO BK5 GE5 NB111 NB4
 subst eo
 refine norm_ (a':= ?_) ?_ ?_
 rotate_left
 ·simp only[putAll,Act.put,List.setIfInBounds_toArray,List.set_cons_zero,List.set_cons_succ]
  rfl
 refine one_ (i:=8) (N:=none) #[true,true,true,true,true,true,true,true,true] rfl rfl (by kernel_rfl) (by decide) (fun K hK=> ?_)
 have hs0:w9.cell? ⟨gb5,0,none⟩=some (.int .i64 0):=(blk_cell BK5.out 0).trans rfl
 have hfs0:=blk_frozen BK5.out 0
 have hs1:w9.cell? ⟨gb5,1,none⟩=some (.bool false):=(blk_cell BK5.out 1).trans rfl
 have hfs1:=blk_frozen BK5.out 1
 have hs2:w9.cell? ⟨gb5,2,none⟩=some (.slice none 0 0):=(blk_cell BK5.out 2).trans rfl
 have hfs2:=blk_frozen BK5.out 2
 have hs3:w9.cell? ⟨gb5,3,none⟩=some (.slice none 0 0):=(blk_cell BK5.out 3).trans rfl
 have hfs3:=blk_frozen BK5.out 3
 have hs4:w9.cell? ⟨gb5,4,none⟩=some (.slice none 0 0):=(blk_cell BK5.out 4).trans rfl
 have hfs4:=blk_frozen BK5.out 4
 have n0_:Aside0 ((((((w9.setCell ⟨gb5,0,none⟩ (.int .i64 (n0:Int))).setCell ⟨gb5,1,none⟩ (.bool a0_1)).setCell ⟨gb5,2,none⟩ (.slice A0_2 l0_2.length c0_2)).setCell ⟨gb5,3,none⟩ (.slice A1 n1 c1)).setCell ⟨gb5,4,none⟩ (.slice Ao R0.length co)).heap[gb5]? =some (.cells #[.int .i64 (n0:Int), .bool a0_1, .slice A0_2 l0_2.length c0_2, .slice A1 n1 c1, .slice Ao R0.length co] 118 (0,0))):=⟨by
  refine blk_put (cs:= #[.int .i64 (n0:Int), .bool a0_1, .slice A0_2 l0_2.length c0_2, .slice A1 n1 c1, .slice none 0 0]) ?_ 4 _ rfl
  refine blk_put (cs:= #[.int .i64 (n0:Int), .bool a0_1, .slice A0_2 l0_2.length c0_2, .slice none 0 0, .slice none 0 0]) ?_ 3 _ rfl
  refine blk_put (cs:= #[.int .i64 (n0:Int), .bool a0_1, .slice none 0 0, .slice none 0 0, .slice none 0 0]) ?_ 2 _ rfl
  refine blk_put (cs:= #[.int .i64 (n0:Int), .bool false, .slice none 0 0, .slice none 0 0, .slice none 0 0]) ?_ 1 _ rfl
  refine blk_put (cs:= #[.int .i64 0, .bool false, .slice none 0 0, .slice none 0 0, .slice none 0 0]) ?_ 0 _ rfl
  exact BK5.out⟩
 have n1_:Aside0 ((((((w9.setCell ⟨gb5,0,none⟩ (.int .i64 (n0:Int))).setCell ⟨gb5,1,none⟩ (.bool a0_1)).setCell ⟨gb5,2,none⟩ (.slice A0_2 l0_2.length c0_2)).setCell ⟨gb5,3,none⟩ (.slice A1 n1 c1)).setCell ⟨gb5,4,none⟩ (.slice Ao R0.length co)).heap[gb111]? =some (.cells #[.int .i64 (n0:Int), .bool a0_1, .slice A0_2 l0_2.length c0_2] 24 (0,0))):=⟨by
  refine blk_far ?_ NB111.out _
  refine blk_far ?_ NB111.out _
  refine blk_far ?_ NB111.out _
  refine blk_far ?_ NB111.out _
  refine blk_far ?_ NB111.out _
  exact BK111.out⟩
 have n2_:Aside0 ((((((w9.setCell ⟨gb5,0,none⟩ (.int .i64 (n0:Int))).setCell ⟨gb5,1,none⟩ (.bool a0_1)).setCell ⟨gb5,2,none⟩ (.slice A0_2 l0_2.length c0_2)).setCell ⟨gb5,3,none⟩ (.slice A1 n1 c1)).setCell ⟨gb5,4,none⟩ (.slice Ao R0.length co)).heap[gb4]? =some (.cells #[.int .i64 0, .bool false, .slice none 0 0, .slice none 0 0, .slice none 0 0] 118 (0,0))):=⟨by
  refine blk_far ?_ NB4.out _
  refine blk_far ?_ NB4.out _
  refine blk_far ?_ NB4.out _
  refine blk_far ?_ NB4.out _
  refine blk_far ?_ NB4.out _
  exact BK4.out⟩
 have n3_:Aside0 (Kd.S (Kd.slice 38 k38) 34 (((((w9.setCell ⟨gb5,0,none⟩ (.int .i64 (n0:Int))).setCell ⟨gb5,1,none⟩ (.bool a0_1)).setCell ⟨gb5,2,none⟩ (.slice A0_2 l0_2.length c0_2)).setCell ⟨gb5,3,none⟩ (.slice A1 n1 c1)).setCell ⟨gb5,4,none⟩ (.slice Ao R0.length co)) w.heap.size (fun _=>True) (.slice Ao R0.length co) R0):=⟨Kd.S_mono (Kd.S_far (p:=⟨gb5,4,none⟩) (Kd.S_far (p:=⟨gb5,3,none⟩) (Kd.S_far (p:=⟨gb5,2,none⟩) (Kd.S_far (p:=⟨gb5,1,none⟩) (Kd.S_far (p:=⟨gb5,0,none⟩) (Kd.S_types HO.out BK5.out (by decide)) (fun _ hk=>hk.2) (.int .i64 (n0:Int))) (fun _ hk=>hk.2) (.bool a0_1)) (fun _ hk=>hk.2) (.slice A0_2 l0_2.length c0_2)) (fun _ hk=>hk.2) (.slice A1 n1 c1)) (fun _ hk=>hk.2) (.slice Ao R0.length co)) (fun _ _=>trivial)⟩
 have n4_:Aside0 (Below w.heap.size w (((((w9.setCell ⟨gb5,0,none⟩ (.int .i64 (n0:Int))).setCell ⟨gb5,1,none⟩ (.bool a0_1)).setCell ⟨gb5,2,none⟩ (.slice A0_2 l0_2.length c0_2)).setCell ⟨gb5,3,none⟩ (.slice A1 n1 c1)).setCell ⟨gb5,4,none⟩ (.slice Ao R0.length co))):=⟨by repeat(first|exact HB.out|refine below_set ?_ GE5.out)⟩
 refine skip_ (w1:=(((((w9.setCell ⟨gb5,0,none⟩ (.int .i64 (n0:Int))).setCell ⟨gb5,1,none⟩ (.bool a0_1)).setCell ⟨gb5,2,none⟩ (.slice A0_2 l0_2.length c0_2)).setCell ⟨gb5,3,none⟩ (.slice A1 n1 c1)).setCell ⟨gb5,4,none⟩ (.slice Ao R0.length co))) (by rfl) rfl ?_ ?_
 ·go_simp
 clear hs0 hfs0 hs1 hfs1 hs2 hfs2 hs3 hfs3 hs4 hfs4
 refine hK.out _ _ ⟨(blk_cell n1_.out 0).trans rfl,(blk_cell n1_.out 1).trans rfl,(blk_cell n1_.out 2).trans rfl⟩ (fun hHeld=> ?_)
 clear hK K BK5 BK111 BK4 HO HB hHeld
 have BK5:=n0_
 have BK111:=n1_
 have BK4:=n2_
 have HO:=n3_
 have HB:=n4_
 clear n0_ n1_ n2_ n3_ n4_
 refine done_ (by kernel_rfl) ?_
 generalize (((((w9.setCell ⟨gb5,0,none⟩ (.int .i64 (n0:Int))).setCell ⟨gb5,1,none⟩ (.bool a0_1)).setCell ⟨gb5,2,none⟩ (.slice A0_2 l0_2.length c0_2)).setCell ⟨gb5,3,none⟩ (.slice A1 n1 c1)).setCell ⟨gb5,4,none⟩ (.slice Ao R0.length co))=w10 at BK5 BK111 BK4 HO HB ⊢
 go_wp2_with fail
 refine start_ (n:=6) (S:=(fun w'=>w'.cell? ⟨gb111,0,none⟩=some (.int .i64 (n0:Int))∧w'.cell? ⟨gb111,1,none⟩=some (.bool a0_1)∧w'.cell? ⟨gb111,2,none⟩=some (.slice A0_2 l0_2.length c0_2))) (ds:=[]) #[false,false,false,false,false,false] (by kernel_rfl) rfl rfl ⟨(blk_cell BK111.out 0).trans rfl,(blk_cell BK111.out 1).trans rfl,(blk_cell BK111.out 2).trans rfl⟩ (fun hHeld=> ?_)
 have n0_:=Aside0.mk (below_drew HB.out)
 have n1_:Aside0 (w10.drew.heap[gb111]? =some (.cells #[.int .i64 (n0:Int), .bool a0_1, .slice A0_2 l0_2.length c0_2] 24 (0,0))):=⟨BK111.out⟩
 have n2_:Aside0 (w10.drew.heap[gb4]? =some (.cells #[.int .i64 0, .bool false, .slice none 0 0, .slice none 0 0, .slice none 0 0] 118 (0,0))):=⟨BK4.out⟩
 have n3_:Aside0 (w10.drew.heap[gb5]? =some (.cells #[.int .i64 (n0:Int), .bool a0_1, .slice A0_2 l0_2.length c0_2, .slice A1 n1 c1, .slice Ao R0.length co] 118 (0,0))):=⟨BK5.out⟩
 have n4_:=Aside0.mk (Kd.S_drew HO.out)
 clear HB BK111 BK4 BK5 HO
 have HB:=n0_
 have BK111:=n1_
 have BK4:=n2_
 have BK5:=n3_
 have HO:=n4_
 clear n0_ n1_ n2_ n3_ n4_
 generalize w10.drew=w11 at BK111 HB BK4 BK5 HO hHeld ⊢
 refine take_ (i:=0) (N:=some 20) (v:= ?_) (a':= ?_) #[true,false,false,false,false,false] rfl rfl (by kernel_rfl) (fun _ _ _ h=>h) (Or.inl ⟨by rfl,?_⟩) hHeld ?_ ?_
 rotate_left
 ·rintro w' ⟨s0,s1,s2⟩
  go_simp
  with_reducible rfl
 rotate_left
 ·simp only[Act.put,List.setIfInBounds_toArray,List.set_cons_zero,List.set_cons_succ,i64_w,i32_w]
  rfl
 refine take_ (i:=2) (N:=some 22) (v:= ?_) (a':= ?_) #[true,false,true,false,false,false] rfl rfl (by kernel_rfl) (fun _ _ _ h=>h) (Or.inl ⟨by rfl,?_⟩) hHeld ?_ ?_
 rotate_left
 ·rintro w' ⟨s0,s1,s2⟩
  go_simp
  with_reducible rfl
 rotate_left
 ·simp only[Act.put,List.setIfInBounds_toArray,List.set_cons_zero,List.set_cons_succ,i64_w,i32_w]
  rfl
 refine one_ (i:=1) (N:=some 21) #[true,true,true,false,false,false] rfl rfl (by kernel_rfl) (by decide) (fun K hK=> ?_)
 refine goes_ Try.func141 (by kernel_rfl) rfl #[.agg #[.int .i64 (n0:Int), .bool a0_1, .slice A0_2 l0_2.length c0_2]] (by rfl) rfl rfl (by(try simp only[List.map_toArray,List.map_cons,List.map_nil]);first|done|rfl) ?_
 refine(leaving_calls (n0:Int) a0_1 A0_2 c0_2 l0_2 _ (Kd.C_below HR0.out HB.out) HC0_2.out HH0.out HH1.out (by omega) HE0.out).mono ?_
 rintro e w12 ⟨v21,rfl,hS,hb⟩
 refine⟨_,rfl,?_⟩
 have n0_:=Aside0.mk (below_step HB.out hb)
 have n1_:=Aside0.mk (blk_below BK111.out hb)
 have n2_:=Aside0.mk (blk_below BK4.out hb)
 have n3_:=Aside0.mk (blk_below BK5.out hb)
 have n4_:=Aside0.mk (Kd.S_below HO.out hb)
 have n5_:=Aside0.mk (Kd.S_lower hS HB.out.size)
 clear HB BK111 BK4 BK5 HO hS hb
 have HB:=n0_
 have BK111:=n1_
 have BK4:=n2_
 have BK5:=n3_
 have HO:=n4_
 have Hv21:=n5_
 clear n0_ n1_ n2_ n3_ n4_ n5_
 obtain⟨Av21,cv21,ev21⟩:=Kd.S_slice Hv21.out
 subst ev21
 refine hK.out _ _ ⟨(blk_cell BK111.out 0).trans rfl,(blk_cell BK111.out 1).trans rfl,(blk_cell BK111.out 2).trans rfl⟩ (fun hHeld=> ?_)
 clear hK K
 refine norm_ (a':= ?_) ?_ ?_
 rotate_left
 ·show Act.put _ (some 21) _=_
  simp only[Act.put,List.setIfInBounds_toArray,List.set_cons_zero,List.set_cons_succ,i64_w,i32_w]
  rfl
 refine one_ (i:=3) (N:=some 23) #[true,true,true,true,false,false] rfl rfl (by kernel_rfl) (by decide) (fun K hK=> ?_)
 refine goes_ Try.func142 (by kernel_rfl) rfl #[.agg #[.int .i64 (n0:Int), .bool a0_1, .slice A0_2 l0_2.length c0_2]] (by rfl) rfl rfl (by(try simp only[List.map_toArray,List.map_cons,List.map_nil]);first|done|rfl) ?_
 refine(coming_calls (n0:Int) a0_1 A0_2 c0_2 l0_2 _ (Kd.C_below HR0.out HB.out) HC0_2.out HH0.out HH1.out (by omega) HE1.out).mono ?_
 rintro e w13 ⟨v23,rfl,hS,hb⟩
 refine⟨_,rfl,?_⟩
 have n0_:=Aside0.mk (below_step HB.out hb)
 have n1_:=Aside0.mk (blk_below BK111.out hb)
 have n2_:=Aside0.mk (blk_below BK4.out hb)
 have n3_:=Aside0.mk (blk_below BK5.out hb)
 have n4_:=Aside0.mk (Kd.S_below HO.out hb)
 have n5_:=Aside0.mk (Kd.S_lower hS HB.out.size)
 have m_:=Aside0.mk (Kd.S_below Hv21.out hb)
 clear Hv21
 have Hv21:=m_
 clear m_
 clear HB BK111 BK4 BK5 HO hS hb
 have HB:=n0_
 have BK111:=n1_
 have BK4:=n2_
 have BK5:=n3_
 have HO:=n4_
 have Hv23:=n5_
 clear n0_ n1_ n2_ n3_ n4_ n5_
 obtain⟨Av23,cv23,ev23⟩:=Kd.S_slice Hv23.out
 subst ev23
 refine hK.out _ _ ⟨(blk_cell BK111.out 0).trans rfl,(blk_cell BK111.out 1).trans rfl,(blk_cell BK111.out 2).trans rfl⟩ (fun hHeld=> ?_)
 clear hK K
 refine norm_ (a':= ?_) ?_ ?_
 rotate_left
 ·show Act.put _ (some 23) _=_
  simp only[Act.put,List.setIfInBounds_toArray,List.set_cons_zero,List.set_cons_succ,i64_w,i32_w]
  rfl
 refine pure_ (i:=4) (N:=some 6) (v:= ?_) (a':= ?_) #[true,true,true,true,true,false] rfl rfl (by kernel_rfl) (fun _ _ _ h=>h) (Or.inl ⟨by rfl,?_⟩) ?_ ?_
 rotate_left
 ·intro w'
  go_simp
  with_reducible rfl
 rotate_left
 ·simp only[Act.put,List.setIfInBounds_toArray,List.set_cons_zero,List.set_cons_succ,i64_w,i32_w]
  rfl
 refine pure_ (i:=5) (N:=some 7) (v:= ?_) (a':= ?_) #[true,true,true,true,true,true] rfl rfl (by kernel_rfl) (fun _ _ _ h=>h) (Or.inl ⟨by rfl,?_⟩) ?_ ?_
 rotate_left
 ·intro w'
  go_simp
  with_reducible rfl
 rotate_left
 ·simp only[Act.put,List.setIfInBounds_toArray,List.set_cons_zero,List.set_cons_succ,i64_w,i32_w]
  rfl
 refine done_ (by kernel_rfl) ?_
 go_wp2_with fail
 have HR0':Aside0 (R0=rowsAt l0_2 n0 0):=⟨by rw[NR0.out,rowsAt_zero,Int.toNat_natCast]⟩
 have hlR:R0.length=n0:=by rw[HR0'.out,rowsAt_len]
 rw[hlR] at HO BK5 ⊢
 rw[HR0'.out] at HO
 simp only[Int.toNat_natCast] at Hv21 Hv23 ⊢
 clear hHeld
 obtain⟨L0,hL0⟩: ∃ L,L=lsAt eFrom l0_2 n0 l0_2.length:=⟨_,rfl⟩
 obtain⟨L1,hL1⟩: ∃ L,L=lsAt eTo l0_2 n0 l0_2.length:=⟨_,rfl⟩
 have hn0:L0.length=n0:=by rw[hL0,lsAt_len]
 have hn1:L1.length=n0:=by rw[hL1,lsAt_len]
 rw[← hL0,hn0] at Hv21 ⊢
 rw[← hL1,hn1] at Hv23 ⊢
 have HL0:=Aside0.mk hL0
 have HL1:=Aside0.mk hL1
 clear hL0 hL1
 clear HR0' hlR HR0_2
 have hn6:n0≤1000000:=by have:=HH1.out;omega
 go_loopw [26] (fun v26 w'=> ∃ k:Nat,k≤n0∧v26= .int .i64 k∧Aside0 (Kd.S (Kd.slice 38 k38) 34 w' w.heap.size (fun _=>True) (.slice Ao n0 co) (rowsAt l0_2 n0 k))∧Aside0 (w'.heap[gb111]? =some (.cells #[.int .i64 (n0:Int), .bool a0_1, .slice A0_2 l0_2.length c0_2] 24 (0,0)))∧Aside0 (w'.heap[gb4]? =some (.cells #[.int .i64 0, .bool false, .slice none 0 0, .slice none 0 0, .slice none 0 0] 118 (0,0)))∧Aside0 (w'.heap[gb5]? =some (.cells #[.int .i64 (n0:Int), .bool a0_1, .slice A0_2 l0_2.length c0_2, .slice A1 n1 c1, .slice Ao n0 co] 118 (0,0)))∧Aside0 (Kd.S (Kd.slice 3 (Kd.int .i64)) 25 w' w.heap.size (fun _=>True) (.slice Av21 n0 cv21) L0)∧Aside0 (Kd.S (Kd.slice 3 (Kd.int .i64)) 25 w' w.heap.size (fun _=>True) (.slice Av23 n0 cv23) L1)∧Aside0 (Below w.heap.size w w')) (fun v26 _=>n0 - (intOf v26).toNat)
 case atStart=>exact⟨0,Nat.zero_le _,rfl,HO,BK111,BK4,BK5,Hv21,Hv23,HB⟩
 case round=>
  clear HO BK111 BK4 BK5 Hv21 Hv23 HB
  obtain⟨k,hk,rfl,HO,BK111,BK4,BK5,Hv21,Hv23,HB⟩:=hrel
  by_cases hlt:k<n0
  ·have pk:0≤((k:Nat):Int):=by omega
   have qk:((k:Nat):Int)<(n0:Int):=by omega
   have c27:decide ((k:Int)<(n0:Int))=true:=decide_eq_true qk
   obtain⟨ad0,AA0,cc0,e_,hx_,hl_,_⟩:=at_L7 (Kd.S_reads' Hv21.out).2.2 (k:Int) pk (by rw[hn0];omega)
   cases e_
   obtain⟨ce_,hce_,hM_,hcc_⟩:=Kd.S_get Hv21.out [] (k:Int) pk qk
   obtain⟨ve_,rfl,ge_⟩:=hM_
   have hv_:=hcc_ 0 _ rfl
   rw[Nat.add_zero,show ((Kd.slice 3 (Kd.int .i64))).sz=1 from rfl,Nat.mul_one] at hv_
   replace hv_:=Option.some.inj (hv_.symm.trans hx_)
   rw[hv_] at ge_
   obtain⟨LL0,hLL0⟩: ∃ L,L=rd_L7 L0 (k:Int):=⟨_,rfl⟩
   have HLL0:Aside0 (Kd.R (Kd.int .i64) 3 wr w.heap.size (fun _=>True) (.slice AA0 LL0.length cc0) LL0):=⟨by rw[hLL0];exact Kd.R_mono ge_ (fun _ _=>trivial)⟩
   rw[← hLL0] at hx_
   simp only[Int.toNat_natCast] at hx_
   have HELL0:=Aside0.mk hLL0
   clear ge_ hv_ hcc_ hce_ hl_ hLL0
   have hxLL0:=hx_
   clear hx_
   obtain⟨go,co2,eo,gbase,glt,cl,HG⟩:=Kd.S_form HO.out (by rw[rowsAt_len];omega)
   rw[rowsAt_len] at eo
   injection eo with ea _ ec
   subst ea
   subst ec
   have GBO:=Aside0.mk gbase
   clear gbase glt HG
   have HLE0:Aside0 (LL0.length≤500000):=⟨by rw[HELL0.out,HL0.out];exact Nat.le_trans (lsAt_row _ _ _ _ _) hl⟩
   go_wp2_with fail
   have hLL0:=HLE0.out
   obtain⟨wo1,hwo1⟩: ∃ x_:World,x_=wr:=⟨_,rfl⟩
   subst hwo1
   go_loopw [34] (fun v_ w'=> ∃ j:Nat,j≤LL0.length∧v_= .int .i64 j∧Aside0 (Kd.S (Kd.slice 38 k38) 34 w' w.heap.size (fun _=>True) (.slice (some ⟨go,0,none⟩) n0 co) ((rowsAt l0_2 n0 k).set k (([]:List S38) ++ (LL0.take j).map (fun i=>(⟨i,false⟩:S38)))))∧Aside0 (w'.heap[gb111]? =some (.cells #[.int .i64 (n0:Int), .bool a0_1, .slice A0_2 l0_2.length c0_2] 24 (0,0)))∧Aside0 (w'.heap[gb4]? =some (.cells #[.int .i64 0, .bool false, .slice none 0 0, .slice none 0 0, .slice none 0 0] 118 (0,0)))∧Aside0 (w'.heap[gb5]? =some (.cells #[.int .i64 (n0:Int), .bool a0_1, .slice A0_2 l0_2.length c0_2, .slice A1 n1 c1, .slice (some ⟨go,0,none⟩) n0 co] 118 (0,0)))∧Aside0 (Kd.S (Kd.slice 3 (Kd.int .i64)) 25 w' w.heap.size (fun _=>True) (.slice (some ad0) n0 cv21) L0)∧Aside0 (Kd.S (Kd.slice 3 (Kd.int .i64)) 25 w' w.heap.size (fun _=>True) (.slice Av23 n0 cv23) L1)∧Aside0 (Kd.R (Kd.int .i64) 3 w' w.heap.size (fun _=>True) (.slice AA0 LL0.length cc0) LL0)∧Aside0 (Below w.heap.size w w')) (fun v_ _=>LL0.length - (intOf v_).toNat)
   case atStart=>exact⟨0,Nat.zero_le _,rfl,⟨by rw[List.take_zero,List.map_nil,List.append_nil,rowsAt_self l0_2 n0 k hlt];exact HO.out⟩,BK111,BK4,BK5,Hv21,Hv23,HLL0,HB⟩
   case round=>
    clear HO BK111 BK4 BK5 Hv21 Hv23 HLL0 HB
    obtain⟨j,hj,rfl,HO,BK111,BK4,BK5,Hv21,Hv23,HLL0,HB⟩:=hrel
    by_cases hltj:j<LL0.length
    ·have pj:0≤((j:Nat):Int):=by omega
     have qj:((j:Nat):Int)<(LL0.length:Int):=by omega
     have cj:decide ((j:Int)<(LL0.length:Int))=true:=decide_eq_true qj
     obtain⟨adj,eadj,hxj⟩:=Kd.at_int (Kd.R_reads' HLL0.out).2.2 (j:Int) pj qj
     cases eadj
     simp only[Int.toNat_natCast] at hxj
     have HST:=Aside0.mk (row_step ([]:List S38) LL0 false j hltj)
     obtain⟨xj,hxv⟩: ∃ x_,x_=rd LL0 (j:Int):=⟨_,rfl⟩
     obtain⟨RW,hRW⟩: ∃ r_,r_=(([]:List S38) ++ (LL0.take j).map (fun i=>(⟨i,false⟩:S38))):=⟨_,rfl⟩
     have HRL:Aside0 (RW.length≤1000000):=⟨by rw[hRW];simp;have:=HLE0.out;omega⟩
     rw[← hRW, ← hxv] at HST
     obtain⟨RW2,hRW2⟩: ∃ r_,r_=(([]:List S38) ++ (LL0.take (j+1)).map (fun i=>(⟨i,false⟩:S38))):=⟨_,rfl⟩
     rw[← hRW2] at HST
     have HRW2:=Aside0.mk hRW2
     clear hRW2
     rw[← hxv] at hxj
     rw[← hRW] at HO
     have HRW:=Aside0.mk hRW
     have HXV:=Aside0.mk hxv
     clear hRW hxv
     obtain⟨oki,c_,_,hM_,hcc_,_,_,hH_⟩:=Kd.S_elem HO.out [] (k:Int) pk qk
     obtain⟨vr,rfl,hR_⟩:=hM_
     rw[show ((rowsAt l0_2 n0 k).set k RW).getD (k:Int).toNat []=RW from rd_set (rowsAt l0_2 n0 k) k RW (by rw[rowsAt_len];exact hlt)] at hR_
     obtain⟨Ar,cr,er⟩:=Kd.R_slice hR_
     subst er
     have hx4:=hcc_ 0 _ rfl
     rw[show ((Kd.slice 38 k38)).sz=1 from rfl,Nat.mul_one,Nat.add_zero,Int.toNat_natCast] at hx4
     have UU:=Aside0.mk hR_
     have HH:=Aside0.mk hH_
     clear hcc_ hR_ hH_
     have hx5:wr.cell? ⟨gb5,4,none⟩=some (.slice (some ⟨go,0,none⟩) n0 co):=(blk_cell BK5.out 4).trans rfl
     go_wp2_with fail
     refine start_ (n:=14) (S:=fun w'=>w'.cell? ⟨gb5,4,none⟩=some (.slice (some ⟨go,0,none⟩) n0 co)∧w'.cell? ⟨go,k,none⟩=some (.slice Ar RW.length cr)) (ds:=[13]) #[false,false,false,false,false,false,false,false,false,false,false,false,false,false] (by kernel_rfl) rfl rfl ⟨hx5,hx4⟩ (fun hHeld=> ?_)
     have m0_:=Aside0.mk (below_drew HB.out)
     have m1_:=Aside0.mk ((show wr.drew.heap[gb111]? =_ from BK111.out))
     have m2_:=Aside0.mk ((show wr.drew.heap[gb4]? =_ from BK4.out))
     have m3_:=Aside0.mk ((show wr.drew.heap[gb5]? =_ from BK5.out))
     have m4_:=Aside0.mk (Kd.S_drew Hv21.out)
     have m5_:=Aside0.mk (Kd.S_drew Hv23.out)
     have m6_:=Aside0.mk (Kd.R_drew HLL0.out)
     have m7_:=Aside0.mk (Kd.R_drew UU.out)
     have m8_:=Aside0.mk (Kd.H_drew HH.out)
     clear HB BK111 BK4 BK5 Hv21 Hv23 HLL0 UU HH
     have HB:=m0_
     clear m0_
     have BK111:=m1_
     clear m1_
     have BK4:=m2_
     clear m2_
     have BK5:=m3_
     clear m3_
     have Hv21:=m4_
     clear m4_
     have Hv23:=m5_
     clear m5_
     have HLL0:=m6_
     clear m6_
     have UU:=m7_
     clear m7_
     have HH:=m8_
     clear m8_
     clear HO hxj hx5 hx4
     generalize wr.drew=w14 at HB BK111 BK4 BK5 Hv21 Hv23 HLL0 UU HH hHeld ⊢
     refine pure_ (i:=0) (N:=some 38) (v:= ?_) (a':= ?_) #[true,false,false,false,false,false,false,false,false,false,false,false,false,false] rfl rfl (by kernel_rfl) (fun _ _ _ h=>h) (Or.inl ⟨by rfl,?_⟩) ?_ ?_
     rotate_left
     ·intro w'
      go_simp
      with_reducible rfl
     rotate_left
     ·simp only[Act.put,List.setIfInBounds_toArray,List.set_cons_zero,List.set_cons_succ,i64_w,i32_w]
      rfl
     refine pure_ (i:=2) (N:=some 40) (v:= ?_) (a':= ?_) #[true,false,true,false,false,false,false,false,false,false,false,false,false,false] rfl rfl (by kernel_rfl) (fun _ _ _ h=>h) (Or.inl ⟨by rfl,?_⟩) ?_ ?_
     rotate_left
     ·intro w'
      go_simp
      with_reducible rfl
     rotate_left
     ·simp only[Act.put,List.setIfInBounds_toArray,List.set_cons_zero,List.set_cons_succ,i64_w,i32_w]
      rfl
     refine pure_ (i:=3) (N:=some 41) (v:= ?_) (a':= ?_) #[true,false,true,true,false,false,false,false,false,false,false,false,false,false] rfl rfl (by kernel_rfl) (fun _ _ _ h=>h) (Or.inl ⟨by rfl,?_⟩) ?_ ?_
     rotate_left
     ·intro w'
      go_simp
      with_reducible rfl
     rotate_left
     ·simp only[Act.put,List.setIfInBounds_toArray,List.set_cons_zero,List.set_cons_succ,i64_w,i32_w]
      rfl
     refine pure_ (i:=5) (N:=some 43) (v:= ?_) (a':= ?_) #[true,false,true,true,false,true,false,false,false,false,false,false,false,false] rfl rfl (by kernel_rfl) (fun _ _ _ h=>h) (Or.inl ⟨by rfl,?_⟩) ?_ ?_
     rotate_left
     ·intro w'
      go_simp
      with_reducible rfl
     rotate_left
     ·simp only[Act.put,List.setIfInBounds_toArray,List.set_cons_zero,List.set_cons_succ,i64_w,i32_w]
      rfl
     refine pure_ (i:=8) (N:=some 46) (v:= ?_) (a':= ?_) #[true,false,true,true,false,true,false,false,true,false,false,false,false,false] rfl rfl (by kernel_rfl) (fun _ _ _ h=>h) (Or.inl ⟨by rfl,?_⟩) ?_ ?_
     rotate_left
     ·intro w'
      go_simp
      with_reducible rfl
     rotate_left
     ·simp only[Act.put,List.setIfInBounds_toArray,List.set_cons_zero,List.set_cons_succ,i64_w,i32_w]
      rfl
     refine pure_ (i:=9) (N:=some 47) (v:= ?_) (a':= ?_) #[true,false,true,true,false,true,false,false,true,true,false,false,false,false] rfl rfl (by kernel_rfl) (fun _ _ _ h=>h) (Or.inl ⟨by rfl,?_⟩) ?_ ?_
     rotate_left
     ·intro w'
      go_simp
      with_reducible rfl
     rotate_left
     ·simp only[Act.put,List.setIfInBounds_toArray,List.set_cons_zero,List.set_cons_succ,i64_w,i32_w]
      rfl
     refine take_ (i:=1) (N:=some 39) (v:= ?_) (a':= ?_) #[true,true,true,true,false,true,false,false,true,true,false,false,false,false] rfl rfl (by kernel_rfl) (fun _ _ _ h=>h) (Or.inl ⟨by rfl,?_⟩) hHeld ?_ ?_
     rotate_left
     ·rintro w' ⟨s0,s1⟩
      go_simp
      with_reducible rfl
     rotate_left
     ·simp only[Act.put,List.setIfInBounds_toArray,List.set_cons_zero,List.set_cons_succ,i64_w,i32_w]
      rfl
     refine take_ (i:=4) (N:=some 42) (v:= ?_) (a':= ?_) #[true,true,true,true,true,true,false,false,true,true,false,false,false,false] rfl rfl (by kernel_rfl) (fun _ _ _ h=>h) (Or.inl ⟨by rfl,?_⟩) hHeld ?_ ?_
     rotate_left
     ·rintro w' ⟨s0,s1⟩
      go_simp
      with_reducible rfl
     rotate_left
     ·simp only[Act.put,List.setIfInBounds_toArray,List.set_cons_zero,List.set_cons_succ,i64_w,i32_w]
      rfl
     refine pure_ (i:=6) (N:=some 44) (v:= ?_) (a':= ?_) #[true,true,true,true,true,true,true,false,true,true,false,false,false,false] rfl rfl (by kernel_rfl) (fun _ _ _ h=>h) (Or.inl ⟨by rfl,?_⟩) ?_ ?_
     rotate_left
     ·intro w'
      go_simp
      with_reducible rfl
     rotate_left
     ·simp only[Act.put,List.setIfInBounds_toArray,List.set_cons_zero,List.set_cons_succ,i64_w,i32_w]
      rfl
     refine take_ (i:=7) (N:=some 45) (v:= ?_) (a':= ?_) #[true,true,true,true,true,true,true,true,true,true,false,false,false,false] rfl rfl (by kernel_rfl) (fun _ _ _ h=>h) (Or.inl ⟨by rfl,?_⟩) hHeld ?_ ?_
     rotate_left
     ·rintro w' ⟨s0,s1⟩
      go_simp
      with_reducible rfl
     rotate_left
     ·simp only[Act.put,List.setIfInBounds_toArray,List.set_cons_zero,List.set_cons_succ,i64_w,i32_w]
      rfl
     refine one_ (i:=10) (N:=some 48) #[true,true,true,true,true,true,true,true,true,true,true,false,false,false] rfl rfl (by kernel_rfl) (by decide) (fun K hK=> ?_)
     refine value_ (w1:= ?_) (v:= ?_) (by rfl) rfl ?_ ?_
     rotate_left 2
     ·go_simp
      constructor
      ·rfl
      ·rfl
     refine hK.out _ _ ⟨(blk_cell (blk_alloc BK5.out _) 4).trans rfl,(World.cell?_alloc_lt _ _ _ (World.block_lt_of_cell? _ _ hHeld.2)).trans hHeld.2⟩ (fun hHeld2=> ?_)
     clear hK K hHeld2
     refine norm_ (a':= ?_) ?_ ?_
     rotate_left
     ·show Act.put _ (some 48) _=_
      simp only[Act.put,List.setIfInBounds_toArray,List.set_cons_zero,List.set_cons_succ,i64_w,i32_w]
      rfl
     refine one_ (i:=11) (N:=some 49) #[true,true,true,true,true,true,true,true,true,true,true,true,false,false] rfl rfl (by kernel_rfl) (by decide) (fun K hK=> ?_)
     refine Kd.R_append_step k38 (w0:=w) w.heap.size (by rfl) (.tmp 45) (.tmp 48) 34 38 (.agg #[(.int .i64 0),(.bool false)]) 16 rfl Try.underlying34 info38 rfl (by decide) (by omega) (.slice Ar RW.length cr) RW (⟨xj,false⟩:S38) [.int .i64 xj, .bool false] (fun k_=>oki k_∨((fun _=>True)) k_∧w14.heap.size≤k_) (fun _=>False) rfl rfl ?aP (fun _ hk=>hk.elim) ?aF ?aO ?aB ?aS ?aL ?_
     (case aP=>exact k38_mkM _ _ _ (⟨xj,false⟩:S38))
     (case aF=>exact fun k_ hk=> .inr ⟨trivial,hk⟩)
     (case aO=>exact Kd.R_mono UU.out (fun _ hk=> .inl hk))
     (case aB=>exact HB.out)
     (case aS=>exact HB.out.size)
     (case aL=>have:=HRL.out;omega)
     intro v_ w16 ho hb hg hat
     clear hat
     have m0_:=Aside0.mk (blk_grown BK111.out hg (Kd.R_ne UU.out BK111.out (by decide)))
     have m1_:=Aside0.mk (blk_grown BK4.out hg (Kd.R_ne UU.out BK4.out (by decide)))
     have m2_:=Aside0.mk (blk_grown BK5.out hg (Kd.R_ne UU.out BK5.out (by decide)))
     have m3_:=Aside0.mk (Kd.S_over' Hv21.out (Kd.R_typed UU.out) (by decide) hg)
     have m4_:=Aside0.mk (Kd.S_over' Hv23.out (Kd.R_typed UU.out) (by decide) hg)
     have m5_:=Aside0.mk (Kd.R_over' HLL0.out (Kd.R_typed UU.out) (by decide) hg)
     have m6_:=Aside0.mk (Kd.H_grown (Kd.H_widen HH.out) hg (fun k_ e_=> .inl (UU.out.1 k_ e_)))
     have m7_:=Aside0.mk (hb)
     have m8_:=Aside0.mk (ho)
     clear BK111 BK4 BK5 Hv21 Hv23 HLL0 HH HB UU
     have BK111:=m0_
     clear m0_
     have BK4:=m1_
     clear m1_
     have BK5:=m2_
     clear m2_
     have Hv21:=m3_
     clear m3_
     have Hv23:=m4_
     clear m4_
     have HLL0:=m5_
     clear m5_
     have HH:=m6_
     clear m6_
     have HB:=m7_
     clear m7_
     have UU:=m8_
     clear m8_
     rw[← HST.out] at UU
     obtain⟨A2,c2,e2⟩:=Kd.R_slice UU.out
     subst e2
     obtain⟨_,_,hraw,_,_,hcc_,_⟩:=Kd.H_raw HH.out pk qk
     obtain⟨_,hfr_⟩:=Kd.H_at HH.out pk qk
     have hx4:=hcc_ 0 _ rfl
     have hf4:=hfr_ 0
     rw[show ((Kd.slice 38 k38)).sz=1 from rfl,Nat.mul_one,Nat.add_zero,Int.toNat_natCast] at hx4 hf4
     have HRAW:=Aside0.mk hraw
     clear hcc_ hfr_ hraw ho hb hg
     refine hK.out _ _ ⟨(blk_cell BK5.out 4).trans rfl,hx4⟩ (fun hHeld=> ?_)
     clear hK K
     refine norm_ (a':= ?_) ?_ ?_
     rotate_left
     ·show Act.put _ (some 49) _=_
      simp only[Act.put,List.setIfInBounds_toArray,List.set_cons_zero,List.set_cons_succ,i64_w,i32_w]
      rfl
     refine pure_ (i:=12) (N:=some 50) (v:= ?_) (a':= ?_) #[true,true,true,true,true,true,true,true,true,true,true,true,true,false] rfl rfl (by kernel_rfl) (fun _ _ _ h=>h) (Or.inl ⟨by rfl,?_⟩) ?_ ?_
     rotate_left
     ·intro w'
      go_simp
      with_reducible rfl
     rotate_left
     ·simp only[Act.put,List.setIfInBounds_toArray,List.set_cons_zero,List.set_cons_succ,i64_w,i32_w]
      rfl
     have HP:=Kd.S_seg0 HH.out pk qk (seg:=[.slice A2 RW2.length c2]) (j:=0) (show 1≤1 from by decide) (x':=RW2) (Kd.M_row UU.out) (fun _ hk=>hk)
     rw[show ((Kd.slice 38 k38)).sz=1 from rfl,Nat.mul_one,Nat.add_zero,Int.toNat_natCast,List.set_set] at HP
     have HG2:w16.grownBy (w16.setCell ⟨go,k,none⟩ (.slice A2 RW2.length c2)) (some go):=HP.2
     have HO:=Aside0.mk (show Kd.S (Kd.slice 38 k38) 34 (w16.setCell ⟨go,k,none⟩ (.slice A2 RW2.length c2)) w.heap.size (fun _=>True) (.slice (some ⟨go,0,none⟩) n0 co) ((rowsAt l0_2 n0 k).set k RW2) from HP.1)
     refine last_ (i:=13) (N:=none) #[true,true,true,true,true,true,true,true,true,true,true,true,true,true] rfl rfl (by kernel_rfl) (by decide) (fun K hK=> ?_)
     refine skip_ (w1:=w16.setCell ⟨go,k,none⟩ (.slice A2 RW2.length c2)) (by rfl) rfl ?_ ?_
     ·go_simp
     refine hK.out _ _ ?_
     clear hK K
     have m0_:=Aside0.mk (blk_grown BK111.out HG2 (Kd.R_ne HRAW.out BK111.out (by decide)))
     have m1_:=Aside0.mk (blk_grown BK4.out HG2 (Kd.R_ne HRAW.out BK4.out (by decide)))
     have m2_:=Aside0.mk (blk_grown BK5.out HG2 (Kd.R_ne HRAW.out BK5.out (by decide)))
     have m3_:=Aside0.mk (Kd.S_over' Hv21.out (Kd.R_typed HRAW.out) (by decide) HG2)
     have m4_:=Aside0.mk (Kd.S_over' Hv23.out (Kd.R_typed HRAW.out) (by decide) HG2)
     have m5_:=Aside0.mk (Kd.R_over' HLL0.out (Kd.R_typed HRAW.out) (by decide) HG2)
     have m6_:=Aside0.mk ((below_set HB.out GBO.out:Below w.heap.size w (w16.setCell ⟨go,k,none⟩ (.slice A2 RW2.length c2))))
     clear BK111 BK4 BK5 Hv21 Hv23 HLL0 HB
     have BK111:=m0_
     clear m0_
     have BK4:=m1_
     clear m1_
     have BK5:=m2_
     clear m2_
     have Hv21:=m3_
     clear m3_
     have Hv23:=m4_
     clear m4_
     have HLL0:=m5_
     clear m5_
     have HB:=m6_
     clear m6_
     clear HP HG2 HRAW UU HH hHeld hx4 hf4
     refine done_ (by kernel_rfl) ?_
     generalize w16.setCell ⟨go,k,none⟩ (.slice A2 RW2.length c2)=w17 at HO BK111 BK4 BK5 Hv21 Hv23 HLL0 HB ⊢
     rw[HRW2.out] at HO
     clear HRW2 HST HRW
     go_wp2_with fail
     go_roundw
     case rel=>exact⟨j+1,by omega,by first|rfl|go_num,HO,BK111,BK4,BK5,Hv21,Hv23,HLL0,HB⟩
     case measure=>simp[intOf]<;>omega
    ·have ej:j=LL0.length:=by omega
     subst ej
     rw[List.take_length] at HO
     have cj:decide ((LL0.length:Int)<(LL0.length:Int))=false:=decide_eq_false (by omega)
     have hlenx:True:=trivial
     obtain⟨ad1,AA1,cc1,e_,hx_,hl_,_⟩:=at_L7 (Kd.S_reads' Hv23.out).2.2 (k:Int) pk (by rw[hn1];omega)
     cases e_
     obtain⟨ce_,hce_,hM_,hcc_⟩:=Kd.S_get Hv23.out [] (k:Int) pk qk
     obtain⟨ve_,rfl,ge_⟩:=hM_
     have hv_:=hcc_ 0 _ rfl
     rw[Nat.add_zero,show ((Kd.slice 3 (Kd.int .i64))).sz=1 from rfl,Nat.mul_one] at hv_
     replace hv_:=Option.some.inj (hv_.symm.trans hx_)
     rw[hv_] at ge_
     obtain⟨LL1,hLL1⟩: ∃ L,L=rd_L7 L1 (k:Int):=⟨_,rfl⟩
     have HLL1:Aside0 (Kd.R (Kd.int .i64) 3 wr w.heap.size (fun _=>True) (.slice AA1 LL1.length cc1) LL1):=⟨by rw[hLL1];exact Kd.R_mono ge_ (fun _ _=>trivial)⟩
     rw[← hLL1] at hx_
     simp only[Int.toNat_natCast] at hx_
     have HELL1:=Aside0.mk hLL1
     clear ge_ hv_ hcc_ hce_ hl_ hLL1
     have hxLL1:=hx_
     clear hx_
     have HLE1:Aside0 (LL1.length≤500000):=⟨by rw[HELL1.out,HL1.out];exact Nat.le_trans (lsAt_row _ _ _ _ _) hl⟩
     go_wp2_with fail
     have hLL1:=HLE1.out
     obtain⟨wo2,hwo2⟩: ∃ x_:World,x_=wr:=⟨_,rfl⟩
     subst hwo2
     go_loopw [57] (fun v_ w'=> ∃ j:Nat,j≤LL1.length∧v_= .int .i64 j∧Aside0 (Kd.S (Kd.slice 38 k38) 34 w' w.heap.size (fun _=>True) (.slice (some ⟨go,0,none⟩) n0 co) ((rowsAt l0_2 n0 k).set k ((([]:List S38) ++ LL0.map (fun i=>(⟨i,false⟩:S38))) ++ (LL1.take j).map (fun i=>(⟨i,true⟩:S38)))))∧Aside0 (w'.heap[gb111]? =some (.cells #[.int .i64 (n0:Int), .bool a0_1, .slice A0_2 l0_2.length c0_2] 24 (0,0)))∧Aside0 (w'.heap[gb4]? =some (.cells #[.int .i64 0, .bool false, .slice none 0 0, .slice none 0 0, .slice none 0 0] 118 (0,0)))∧Aside0 (w'.heap[gb5]? =some (.cells #[.int .i64 (n0:Int), .bool a0_1, .slice A0_2 l0_2.length c0_2, .slice A1 n1 c1, .slice (some ⟨go,0,none⟩) n0 co] 118 (0,0)))∧Aside0 (Kd.S (Kd.slice 3 (Kd.int .i64)) 25 w' w.heap.size (fun _=>True) (.slice (some ad0) n0 cv21) L0)∧Aside0 (Kd.S (Kd.slice 3 (Kd.int .i64)) 25 w' w.heap.size (fun _=>True) (.slice (some ad1) n0 cv23) L1)∧Aside0 (Kd.R (Kd.int .i64) 3 w' w.heap.size (fun _=>True) (.slice AA1 LL1.length cc1) LL1)∧Aside0 (Below w.heap.size w w')) (fun v_ _=>LL1.length - (intOf v_).toNat)
     case atStart=>exact⟨0,Nat.zero_le _,rfl,⟨by rw[List.take_zero,List.map_nil,List.append_nil];exact HO.out⟩,BK111,BK4,BK5,Hv21,Hv23,HLL1,HB⟩
     case round=>
      clear HO BK111 BK4 BK5 Hv21 Hv23 HLL1 HB
      obtain⟨j,hj,rfl,HO,BK111,BK4,BK5,Hv21,Hv23,HLL1,HB⟩:=hrel
      by_cases hltj:j<LL1.length
      ·have pj:0≤((j:Nat):Int):=by omega
       have qj:((j:Nat):Int)<(LL1.length:Int):=by omega
       have cj:decide ((j:Int)<(LL1.length:Int))=true:=decide_eq_true qj
       obtain⟨adj,eadj,hxj⟩:=Kd.at_int (Kd.R_reads' HLL1.out).2.2 (j:Int) pj qj
       cases eadj
       simp only[Int.toNat_natCast] at hxj
       have HST:=Aside0.mk (row_step (([]:List S38) ++ LL0.map (fun i=>(⟨i,false⟩:S38))) LL1 true j hltj)
       obtain⟨xj,hxv⟩: ∃ x_,x_=rd LL1 (j:Int):=⟨_,rfl⟩
       obtain⟨RW,hRW⟩: ∃ r_,r_=((([]:List S38) ++ LL0.map (fun i=>(⟨i,false⟩:S38))) ++ (LL1.take j).map (fun i=>(⟨i,true⟩:S38))):=⟨_,rfl⟩
       have HRL:Aside0 (RW.length≤1000000):=⟨by rw[hRW];simp;have:=HLE0.out;have:=HLE1.out;omega⟩
       rw[← hRW, ← hxv] at HST
       obtain⟨RW2,hRW2⟩: ∃ r_,r_=((([]:List S38) ++ LL0.map (fun i=>(⟨i,false⟩:S38))) ++ (LL1.take (j+1)).map (fun i=>(⟨i,true⟩:S38))):=⟨_,rfl⟩
       rw[← hRW2] at HST
       have HRW2:=Aside0.mk hRW2
       clear hRW2
       rw[← hxv] at hxj
       rw[← hRW] at HO
       have HRW:=Aside0.mk hRW
       have HXV:=Aside0.mk hxv
       clear hRW hxv
       obtain⟨oki,c_,_,hM_,hcc_,_,_,hH_⟩:=Kd.S_elem HO.out [] (k:Int) pk qk
       obtain⟨vr,rfl,hR_⟩:=hM_
       rw[show ((rowsAt l0_2 n0 k).set k RW).getD (k:Int).toNat []=RW from rd_set (rowsAt l0_2 n0 k) k RW (by rw[rowsAt_len];exact hlt)] at hR_
       obtain⟨Ar,cr,er⟩:=Kd.R_slice hR_
       subst er
       have hx4:=hcc_ 0 _ rfl
       rw[show ((Kd.slice 38 k38)).sz=1 from rfl,Nat.mul_one,Nat.add_zero,Int.toNat_natCast] at hx4
       have UU:=Aside0.mk hR_
       have HH:=Aside0.mk hH_
       clear hcc_ hR_ hH_
       have hx5:wr.cell? ⟨gb5,4,none⟩=some (.slice (some ⟨go,0,none⟩) n0 co):=(blk_cell BK5.out 4).trans rfl
       go_wp2_with fail
       refine start_ (n:=14) (S:=fun w'=>w'.cell? ⟨gb5,4,none⟩=some (.slice (some ⟨go,0,none⟩) n0 co)∧w'.cell? ⟨go,k,none⟩=some (.slice Ar RW.length cr)) (ds:=[13]) #[false,false,false,false,false,false,false,false,false,false,false,false,false,false] (by kernel_rfl) rfl rfl ⟨hx5,hx4⟩ (fun hHeld=> ?_)
       have m0_:=Aside0.mk (below_drew HB.out)
       have m1_:=Aside0.mk ((show wr.drew.heap[gb111]? =_ from BK111.out))
       have m2_:=Aside0.mk ((show wr.drew.heap[gb4]? =_ from BK4.out))
       have m3_:=Aside0.mk ((show wr.drew.heap[gb5]? =_ from BK5.out))
       have m4_:=Aside0.mk (Kd.S_drew Hv21.out)
       have m5_:=Aside0.mk (Kd.S_drew Hv23.out)
       have m6_:=Aside0.mk (Kd.R_drew HLL1.out)
       have m7_:=Aside0.mk (Kd.R_drew UU.out)
       have m8_:=Aside0.mk (Kd.H_drew HH.out)
       clear HB BK111 BK4 BK5 Hv21 Hv23 HLL1 UU HH
       have HB:=m0_
       clear m0_
       have BK111:=m1_
       clear m1_
       have BK4:=m2_
       clear m2_
       have BK5:=m3_
       clear m3_
       have Hv21:=m4_
       clear m4_
       have Hv23:=m5_
       clear m5_
       have HLL1:=m6_
       clear m6_
       have UU:=m7_
       clear m7_
       have HH:=m8_
       clear m8_
       clear HO hxj hx5 hx4
       generalize wr.drew=w14 at HB BK111 BK4 BK5 Hv21 Hv23 HLL1 UU HH hHeld ⊢
       refine pure_ (i:=0) (N:=some 61) (v:= ?_) (a':= ?_) #[true,false,false,false,false,false,false,false,false,false,false,false,false,false] rfl rfl (by kernel_rfl) (fun _ _ _ h=>h) (Or.inl ⟨by rfl,?_⟩) ?_ ?_
       rotate_left
       ·intro w'
        go_simp
        with_reducible rfl
       rotate_left
       ·simp only[Act.put,List.setIfInBounds_toArray,List.set_cons_zero,List.set_cons_succ,i64_w,i32_w]
        rfl
       refine pure_ (i:=2) (N:=some 63) (v:= ?_) (a':= ?_) #[true,false,true,false,false,false,false,false,false,false,false,false,false,false] rfl rfl (by kernel_rfl) (fun _ _ _ h=>h) (Or.inl ⟨by rfl,?_⟩) ?_ ?_
       rotate_left
       ·intro w'
        go_simp
        with_reducible rfl
       rotate_left
       ·simp only[Act.put,List.setIfInBounds_toArray,List.set_cons_zero,List.set_cons_succ,i64_w,i32_w]
        rfl
       refine pure_ (i:=3) (N:=some 64) (v:= ?_) (a':= ?_) #[true,false,true,true,false,false,false,false,false,false,false,false,false,false] rfl rfl (by kernel_rfl) (fun _ _ _ h=>h) (Or.inl ⟨by rfl,?_⟩) ?_ ?_
       rotate_left
       ·intro w'
        go_simp
        with_reducible rfl
       rotate_left
       ·simp only[Act.put,List.setIfInBounds_toArray,List.set_cons_zero,List.set_cons_succ,i64_w,i32_w]
        rfl
       refine pure_ (i:=5) (N:=some 66) (v:= ?_) (a':= ?_) #[true,false,true,true,false,true,false,false,false,false,false,false,false,false] rfl rfl (by kernel_rfl) (fun _ _ _ h=>h) (Or.inl ⟨by rfl,?_⟩) ?_ ?_
       rotate_left
       ·intro w'
        go_simp
        with_reducible rfl
       rotate_left
       ·simp only[Act.put,List.setIfInBounds_toArray,List.set_cons_zero,List.set_cons_succ,i64_w,i32_w]
        rfl
       refine pure_ (i:=8) (N:=some 69) (v:= ?_) (a':= ?_) #[true,false,true,true,false,true,false,false,true,false,false,false,false,false] rfl rfl (by kernel_rfl) (fun _ _ _ h=>h) (Or.inl ⟨by rfl,?_⟩) ?_ ?_
       rotate_left
       ·intro w'
        go_simp
        with_reducible rfl
       rotate_left
       ·simp only[Act.put,List.setIfInBounds_toArray,List.set_cons_zero,List.set_cons_succ,i64_w,i32_w]
        rfl
       refine pure_ (i:=9) (N:=some 70) (v:= ?_) (a':= ?_) #[true,false,true,true,false,true,false,false,true,true,false,false,false,false] rfl rfl (by kernel_rfl) (fun _ _ _ h=>h) (Or.inl ⟨by rfl,?_⟩) ?_ ?_
       rotate_left
       ·intro w'
        go_simp
        with_reducible rfl
       rotate_left
       ·simp only[Act.put,List.setIfInBounds_toArray,List.set_cons_zero,List.set_cons_succ,i64_w,i32_w]
        rfl
       refine take_ (i:=1) (N:=some 62) (v:= ?_) (a':= ?_) #[true,true,true,true,false,true,false,false,true,true,false,false,false,false] rfl rfl (by kernel_rfl) (fun _ _ _ h=>h) (Or.inl ⟨by rfl,?_⟩) hHeld ?_ ?_
       rotate_left
       ·rintro w' ⟨s0,s1⟩
        go_simp
        with_reducible rfl
       rotate_left
       ·simp only[Act.put,List.setIfInBounds_toArray,List.set_cons_zero,List.set_cons_succ,i64_w,i32_w]
        rfl
       refine take_ (i:=4) (N:=some 65) (v:= ?_) (a':= ?_) #[true,true,true,true,true,true,false,false,true,true,false,false,false,false] rfl rfl (by kernel_rfl) (fun _ _ _ h=>h) (Or.inl ⟨by rfl,?_⟩) hHeld ?_ ?_
       rotate_left
       ·rintro w' ⟨s0,s1⟩
        go_simp
        with_reducible rfl
       rotate_left
       ·simp only[Act.put,List.setIfInBounds_toArray,List.set_cons_zero,List.set_cons_succ,i64_w,i32_w]
        rfl
       refine pure_ (i:=6) (N:=some 67) (v:= ?_) (a':= ?_) #[true,true,true,true,true,true,true,false,true,true,false,false,false,false] rfl rfl (by kernel_rfl) (fun _ _ _ h=>h) (Or.inl ⟨by rfl,?_⟩) ?_ ?_
       rotate_left
       ·intro w'
        go_simp
        with_reducible rfl
       rotate_left
       ·simp only[Act.put,List.setIfInBounds_toArray,List.set_cons_zero,List.set_cons_succ,i64_w,i32_w]
        rfl
       refine take_ (i:=7) (N:=some 68) (v:= ?_) (a':= ?_) #[true,true,true,true,true,true,true,true,true,true,false,false,false,false] rfl rfl (by kernel_rfl) (fun _ _ _ h=>h) (Or.inl ⟨by rfl,?_⟩) hHeld ?_ ?_
       rotate_left
       ·rintro w' ⟨s0,s1⟩
        go_simp
        with_reducible rfl
       rotate_left
       ·simp only[Act.put,List.setIfInBounds_toArray,List.set_cons_zero,List.set_cons_succ,i64_w,i32_w]
        rfl
       refine one_ (i:=10) (N:=some 71) #[true,true,true,true,true,true,true,true,true,true,true,false,false,false] rfl rfl (by kernel_rfl) (by decide) (fun K hK=> ?_)
       refine value_ (w1:= ?_) (v:= ?_) (by rfl) rfl ?_ ?_
       rotate_left 2
       ·go_simp
        constructor
        ·rfl
        ·rfl
       refine hK.out _ _ ⟨(blk_cell (blk_alloc BK5.out _) 4).trans rfl,(World.cell?_alloc_lt _ _ _ (World.block_lt_of_cell? _ _ hHeld.2)).trans hHeld.2⟩ (fun hHeld2=> ?_)
       clear hK K hHeld2
       refine norm_ (a':= ?_) ?_ ?_
       rotate_left
       ·show Act.put _ (some 71) _=_
        simp only[Act.put,List.setIfInBounds_toArray,List.set_cons_zero,List.set_cons_succ,i64_w,i32_w]
        rfl
       refine one_ (i:=11) (N:=some 72) #[true,true,true,true,true,true,true,true,true,true,true,true,false,false] rfl rfl (by kernel_rfl) (by decide) (fun K hK=> ?_)
       refine Kd.R_append_step k38 (w0:=w) w.heap.size (by rfl) (.tmp 68) (.tmp 71) 34 38 (.agg #[(.int .i64 0),(.bool false)]) 16 rfl Try.underlying34 info38 rfl (by decide) (by omega) (.slice Ar RW.length cr) RW (⟨xj,true⟩:S38) [.int .i64 xj, .bool true] (fun k_=>oki k_∨((fun _=>True)) k_∧w14.heap.size≤k_) (fun _=>False) rfl rfl ?aP (fun _ hk=>hk.elim) ?aF ?aO ?aB ?aS ?aL ?_
       (case aP=>exact k38_mkM _ _ _ (⟨xj,true⟩:S38))
       (case aF=>exact fun k_ hk=> .inr ⟨trivial,hk⟩)
       (case aO=>exact Kd.R_mono UU.out (fun _ hk=> .inl hk))
       (case aB=>exact HB.out)
       (case aS=>exact HB.out.size)
       (case aL=>have:=HRL.out;omega)
       intro v_ w16 ho hb hg hat
       clear hat
       have m0_:=Aside0.mk (blk_grown BK111.out hg (Kd.R_ne UU.out BK111.out (by decide)))
       have m1_:=Aside0.mk (blk_grown BK4.out hg (Kd.R_ne UU.out BK4.out (by decide)))
       have m2_:=Aside0.mk (blk_grown BK5.out hg (Kd.R_ne UU.out BK5.out (by decide)))
       have m3_:=Aside0.mk (Kd.S_over' Hv21.out (Kd.R_typed UU.out) (by decide) hg)
       have m4_:=Aside0.mk (Kd.S_over' Hv23.out (Kd.R_typed UU.out) (by decide) hg)
       have m5_:=Aside0.mk (Kd.R_over' HLL1.out (Kd.R_typed UU.out) (by decide) hg)
       have m6_:=Aside0.mk (Kd.H_grown (Kd.H_widen HH.out) hg (fun k_ e_=> .inl (UU.out.1 k_ e_)))
       have m7_:=Aside0.mk (hb)
       have m8_:=Aside0.mk (ho)
       clear BK111 BK4 BK5 Hv21 Hv23 HLL1 HH HB UU
       have BK111:=m0_
       clear m0_
       have BK4:=m1_
       clear m1_
       have BK5:=m2_
       clear m2_
       have Hv21:=m3_
       clear m3_
       have Hv23:=m4_
       clear m4_
       have HLL1:=m5_
       clear m5_
       have HH:=m6_
       clear m6_
       have HB:=m7_
       clear m7_
       have UU:=m8_
       clear m8_
       rw[← HST.out] at UU
       obtain⟨A2,c2,e2⟩:=Kd.R_slice UU.out
       subst e2
       obtain⟨_,_,hraw,_,_,hcc_,_⟩:=Kd.H_raw HH.out pk qk
       obtain⟨_,hfr_⟩:=Kd.H_at HH.out pk qk
       have hx4:=hcc_ 0 _ rfl
       have hf4:=hfr_ 0
       rw[show ((Kd.slice 38 k38)).sz=1 from rfl,Nat.mul_one,Nat.add_zero,Int.toNat_natCast] at hx4 hf4
       have HRAW:=Aside0.mk hraw
       clear hcc_ hfr_ hraw ho hb hg
       refine hK.out _ _ ⟨(blk_cell BK5.out 4).trans rfl,hx4⟩ (fun hHeld=> ?_)
       clear hK K
       refine norm_ (a':= ?_) ?_ ?_
       rotate_left
       ·show Act.put _ (some 72) _=_
        simp only[Act.put,List.setIfInBounds_toArray,List.set_cons_zero,List.set_cons_succ,i64_w,i32_w]
        rfl
       refine pure_ (i:=12) (N:=some 73) (v:= ?_) (a':= ?_) #[true,true,true,true,true,true,true,true,true,true,true,true,true,false] rfl rfl (by kernel_rfl) (fun _ _ _ h=>h) (Or.inl ⟨by rfl,?_⟩) ?_ ?_
       rotate_left
       ·intro w'
        go_simp
        with_reducible rfl
       rotate_left
       ·simp only[Act.put,List.setIfInBounds_toArray,List.set_cons_zero,List.set_cons_succ,i64_w,i32_w]
        rfl
       have HP:=Kd.S_seg0 HH.out pk qk (seg:=[.slice A2 RW2.length c2]) (j:=0) (show 1≤1 from by decide) (x':=RW2) (Kd.M_row UU.out) (fun _ hk=>hk)
       rw[show ((Kd.slice 38 k38)).sz=1 from rfl,Nat.mul_one,Nat.add_zero,Int.toNat_natCast,List.set_set] at HP
       have HG2:w16.grownBy (w16.setCell ⟨go,k,none⟩ (.slice A2 RW2.length c2)) (some go):=HP.2
       have HO:=Aside0.mk (show Kd.S (Kd.slice 38 k38) 34 (w16.setCell ⟨go,k,none⟩ (.slice A2 RW2.length c2)) w.heap.size (fun _=>True) (.slice (some ⟨go,0,none⟩) n0 co) ((rowsAt l0_2 n0 k).set k RW2) from HP.1)
       refine last_ (i:=13) (N:=none) #[true,true,true,true,true,true,true,true,true,true,true,true,true,true] rfl rfl (by kernel_rfl) (by decide) (fun K hK=> ?_)
       refine skip_ (w1:=w16.setCell ⟨go,k,none⟩ (.slice A2 RW2.length c2)) (by rfl) rfl ?_ ?_
       ·go_simp
       refine hK.out _ _ ?_
       clear hK K
       have m0_:=Aside0.mk (blk_grown BK111.out HG2 (Kd.R_ne HRAW.out BK111.out (by decide)))
       have m1_:=Aside0.mk (blk_grown BK4.out HG2 (Kd.R_ne HRAW.out BK4.out (by decide)))
       have m2_:=Aside0.mk (blk_grown BK5.out HG2 (Kd.R_ne HRAW.out BK5.out (by decide)))
       have m3_:=Aside0.mk (Kd.S_over' Hv21.out (Kd.R_typed HRAW.out) (by decide) HG2)
       have m4_:=Aside0.mk (Kd.S_over' Hv23.out (Kd.R_typed HRAW.out) (by decide) HG2)
       have m5_:=Aside0.mk (Kd.R_over' HLL1.out (Kd.R_typed HRAW.out) (by decide) HG2)
       have m6_:=Aside0.mk ((below_set HB.out GBO.out:Below w.heap.size w (w16.setCell ⟨go,k,none⟩ (.slice A2 RW2.length c2))))
       clear BK111 BK4 BK5 Hv21 Hv23 HLL1 HB
       have BK111:=m0_
       clear m0_
       have BK4:=m1_
       clear m1_
       have BK5:=m2_
       clear m2_
       have Hv21:=m3_
       clear m3_
       have Hv23:=m4_
       clear m4_
       have HLL1:=m5_
       clear m5_
       have HB:=m6_
       clear m6_
       clear HP HG2 HRAW UU HH hHeld hx4 hf4
       refine done_ (by kernel_rfl) ?_
       generalize w16.setCell ⟨go,k,none⟩ (.slice A2 RW2.length c2)=w17 at HO BK111 BK4 BK5 Hv21 Hv23 HLL1 HB ⊢
       rw[HRW2.out] at HO
       clear HRW2 HST HRW
       go_wp2_with fail
       go_roundw
       case rel=>exact⟨j+1,by omega,by first|rfl|go_num,HO,BK111,BK4,BK5,Hv21,Hv23,HLL1,HB⟩
       case measure=>simp[intOf]<;>omega
      ·have ej:j=LL1.length:=by omega
       subst ej
       rw[List.take_length] at HO
       have cj:decide ((LL1.length:Int)<(LL1.length:Int))=false:=decide_eq_false (by omega)
       obtain⟨RW,hRW⟩: ∃ r_,r_=((([]:List S38) ++ LL0.map (fun i=>(⟨i,false⟩:S38))) ++ LL1.map (fun i=>(⟨i,true⟩:S38))):=⟨_,rfl⟩
       have HRU:Aside0 (RW=stepsU l0_2 n0 (k:Int)):=⟨by rw[hRW,HELL0.out,HELL1.out,HL0.out,HL1.out];rfl⟩
       have HRL:Aside0 (RW.length≤1000000):=⟨by rw[hRW];simp;have:=HLE0.out;have:=HLE1.out;omega⟩
       rw[← hRW] at HO
       clear hRW
       obtain⟨oki,c_,_,hM_,hcc_,_,_,hH_⟩:=Kd.S_elem HO.out [] (k:Int) pk qk
       obtain⟨vr,rfl,hR_⟩:=hM_
       rw[show ((rowsAt l0_2 n0 k).set k RW).getD (k:Int).toNat []=RW from rd_set (rowsAt l0_2 n0 k) k RW (by rw[rowsAt_len];exact hlt)] at hR_
       obtain⟨Ar,cr,er⟩:=Kd.R_slice hR_
       subst er
       have hx4:=hcc_ 0 _ rfl
       rw[show ((Kd.slice 38 k38)).sz=1 from rfl,Nat.mul_one,Nat.add_zero,Int.toNat_natCast] at hx4
       have UU:=Aside0.mk hR_
       have HH:=Aside0.mk hH_
       clear hcc_ hR_ hH_
       have hx5:wr.cell? ⟨gb5,4,none⟩=some (.slice (some ⟨go,0,none⟩) n0 co):=(blk_cell BK5.out 4).trans rfl
       have HEN:Aside0 (ends l0_2 n0):=⟨fun i hi=>⟨HE0.out i hi,HE1.out i hi⟩⟩
       go_wp2_with (first|(go_at_call 143;refine(sort_row HH.out UU.out HRU.out hlt HEN.out (by omega) HRL.out).mono ?_;rintro e_ w20 ⟨rfl,vv,hg,hty,hS⟩;rw[List.set_set,rowsAt_set l0_2 n0 k hlt] at hS;have m0_:=Aside0.mk (blk_grown BK111.out hg (fun he=>by obtain⟨_,cells_,hc_⟩:=hty _ he.symm;have t_:=BK111.out.symm.trans hc_;simp at t_));have m1_:=Aside0.mk (blk_grown BK4.out hg (fun he=>by obtain⟨_,cells_,hc_⟩:=hty _ he.symm;have t_:=BK4.out.symm.trans hc_;simp at t_));have m2_:=Aside0.mk (blk_grown BK5.out hg (fun he=>by obtain⟨_,cells_,hc_⟩:=hty _ he.symm;have t_:=BK5.out.symm.trans hc_;simp at t_));have m3_:=Aside0.mk (Kd.S_over' (v:=vv) Hv21.out (fun k_ hk_=>(hty k_ hk_).2) (by decide) hg);have m4_:=Aside0.mk (Kd.S_over' (v:=vv) Hv23.out (fun k_ hk_=>(hty k_ hk_).2) (by decide) hg);have m5_:=Aside0.mk (HB.out.grown hg HB.out.size (fun k_ hk_=>(hty k_ hk_).1));have m6_:=Aside0.mk hS;clear hg hty hS HO BK111 BK4 BK5 Hv21 Hv23 HLL1 HB UU HH hx4 hx5;have HO:=m6_;have BK111:=m0_;have BK4:=m1_;have BK5:=m2_;have Hv21:=m3_;have Hv23:=m4_;have HB:=m5_;clear m0_ m1_ m2_ m3_ m4_ m5_ m6_)|fail)
       go_roundw
       case rel=>exact⟨k+1,by omega,by first|rfl|go_num,HO,BK111,BK4,BK5,Hv21,Hv23,HB⟩
       case measure=>simp[intOf]<;>omega
  ·have ek:n0=k:=by omega
   subst ek
   have hx0:wr.cell? ⟨gb5,0,none⟩=some (.int .i64 (n0:Int)):=(blk_cell BK5.out 0).trans rfl
   have hx1:wr.cell? ⟨gb5,1,none⟩=some (.bool a0_1):=(blk_cell BK5.out 1).trans rfl
   have hx2:wr.cell? ⟨gb5,2,none⟩=some (.slice A0_2 l0_2.length c0_2):=(blk_cell BK5.out 2).trans rfl
   have hx3:wr.cell? ⟨gb5,3,none⟩=some (.slice A1 n1 c1):=(blk_cell BK5.out 3).trans rfl
   have hx4:wr.cell? ⟨gb5,4,none⟩=some (.slice Ao n0 co):=(blk_cell BK5.out 4).trans rfl
   have hy0:wr.cell? ⟨gb4,0,none⟩=some (.int .i64 0):=(blk_cell BK4.out 0).trans rfl
   have hf0:=blk_frozen BK4.out 0
   have hy1:wr.cell? ⟨gb4,1,none⟩=some (.bool false):=(blk_cell BK4.out 1).trans rfl
   have hf1:=blk_frozen BK4.out 1
   have hy2:wr.cell? ⟨gb4,2,none⟩=some (.slice none 0 0):=(blk_cell BK4.out 2).trans rfl
   have hf2:=blk_frozen BK4.out 2
   have hy3:wr.cell? ⟨gb4,3,none⟩=some (.slice none 0 0):=(blk_cell BK4.out 3).trans rfl
   have hf3:=blk_frozen BK4.out 3
   have hy4:wr.cell? ⟨gb4,4,none⟩=some (.slice none 0 0):=(blk_cell BK4.out 4).trans rfl
   have hf4:=blk_frozen BK4.out 4
   have GE4':=GE4.out
   go_wp2
   refine bodyPost_ret (results_cell_row rfl _ _ gb4 118 #[.int .i64 (n0:Int), .bool a0_1, .slice A0_2 l0_2.length c0_2, .slice A1 n1 c1, .slice Ao n0 co] (0,0) _ rfl (by refine blk_put (cs:= #[.int .i64 (n0:Int), .bool a0_1, .slice A0_2 l0_2.length c0_2, .slice A1 n1 c1, .slice none 0 0]) ?_ 4 _ rfl;refine blk_put (cs:= #[.int .i64 (n0:Int), .bool a0_1, .slice A0_2 l0_2.length c0_2, .slice none 0 0, .slice none 0 0]) ?_ 3 _ rfl;refine blk_put (cs:= #[.int .i64 (n0:Int), .bool a0_1, .slice none 0 0, .slice none 0 0, .slice none 0 0]) ?_ 2 _ rfl;refine blk_put (cs:= #[.int .i64 (n0:Int), .bool false, .slice none 0 0, .slice none 0 0, .slice none 0 0]) ?_ 1 _ rfl;refine blk_put (cs:= #[.int .i64 0, .bool false, .slice none 0 0, .slice none 0 0, .slice none 0 0]) ?_ 0 _ rfl;exact BK4.out) Try.underlying118 rfl (by kernel_rfl)) rfl ?_
   exact⟨_,rfl,Kd.S_mono (Kd.S_far (p:=⟨gb4,4,none⟩) (Kd.S_far (p:=⟨gb4,3,none⟩) (Kd.S_far (p:=⟨gb4,2,none⟩) (Kd.S_far (p:=⟨gb4,1,none⟩) (Kd.S_far (p:=⟨gb4,0,none⟩) (Kd.S_types HO.out BK4.out (by decide)) (fun _ hk=>hk.2) (.int .i64 (n0:Int))) (fun _ hk=>hk.2) (.bool a0_1)) (fun _ hk=>hk.2) (.slice A0_2 l0_2.length c0_2)) (fun _ hk=>hk.2) (.slice A1 n1 c1)) (fun _ hk=>hk.2) (.slice Ao n0 co)) (fun _ _=>trivial),by repeat(first|exact HB.out|refine below_set ?_ GE4.out)⟩
end Go.Proofs.Ytkcpanpdipmmmaa.H
namespace Go.Proofs.Ytkcpanpdipmmmaa.Q
open Go.RowKit Go.Proofs.YtkcpanpdipmmmaaW.PrintWords Go.Proofs.YtkcpanpdipmmmaaW.PrintLast Go.Proofs.YtkcpanpdipmmmaaW.PrintMore Go.Proofs.Ytkcpanpdipmmmaa.P
open Go.Proofs.Ytkcpanpdipmmmaa.H (endsErr)
theorem ends_ev (n:Int) (b:Bool) (l:List S74) (s t:Int):Ev (fun k=>static_Ends.f k n b l s t) (endsErr n l s t):=by
 unfold static_Ends.f endsErr
 refine Ev.bind (check_ev n b l) ?_
 refine Ev.ite (fun h=> ?_) (fun h=> ?_)
 ·rw[if_pos h]
  refine Ev.ite (fun g=> ?_) (fun g=> ?_)
  ·exact Ev.done (by unfold mn at g;rw[if_neg (by omega)])
  ·unfold mn at g
   refine Ev.ite (fun g2=> ?_) (fun g2=> ?_)
   ·exact Ev.done (by unfold mx at g2;rw[if_neg (by omega)])
   ·unfold mx at g2
    refine Ev.ite (fun g3=> ?_) (fun g3=> ?_)
    ·exact Ev.done (by rw[if_neg (by omega)])
    ·exact Ev.done (by rw[if_pos (by omega)])
 ·rw[if_neg h]
  exact Ev.now _
theorem ref_ends_ev (n:Int) (b:Bool) (l:List S74) (s t:Int):Ev (fun k=>ebbtideref07_Ends.f k n b l s t) (endsErr n l s t):=by
 unfold ebbtideref07_Ends.f endsErr
 refine Ev.bind (ref_check_ev n b l) ?_
 refine Ev.ite (fun h=> ?_) (fun h=> ?_)
 ·rw[if_pos h]
  refine Ev.call (node_eq n b l s) ?_
  refine Ev.ite (fun g=> ?_) (fun g=> ?_)
  ·have g:=of_decide_eq_true g
   refine Ev.call (node_eq n b l t) ?_
   refine Ev.ite (fun g2=> ?_) (fun g2=> ?_)
   ·have g2:=of_decide_eq_true g2
    refine Ev.ite (fun g3=> ?_) (fun g3=> ?_)
    ·exact Ev.done (by rw[if_neg (by omega)])
    ·exact Ev.done (by rw[if_pos (by omega)])
   ·have g2:=of_decide_eq_false (Bool.eq_false_iff.2 g2)
    exact Ev.done (by rw[if_neg (by omega)])
  ·have g:=of_decide_eq_false (Bool.eq_false_iff.2 g)
   exact Ev.done (by rw[if_neg (by omega)])
 ·rw[if_neg h]
  exact Ev.now _
end Go.Proofs.Ytkcpanpdipmmmaa.Q
namespace Go.Proofs.Ytkcpanpdipmmmaa.H
open Go.RowKit Go.Proofs.YtkcpanpdipmmmaaW.PrintWords Go.Proofs.YtkcpanpdipmmmaaW.PrintLast Go.Proofs.YtkcpanpdipmmmaaW.PrintMore Go.Proofs.Ytkcpanpdipmmmaa.P Go.Proofs.Ytkcpanpdipmmmaa.Q
theorem right_of {n:Int} {l:List S74} {F:List Int} (h:askErr n l F=0): ∃ n0:Nat,n=n0∧Right l F n0:=by
 obtain⟨hn,hf⟩:=askErr_ok h
 have h1:=hn.lo
 have h2:=hn.hi
 obtain⟨n0,rfl⟩: ∃ n0:Nat,n=n0:=⟨n.toNat,by omega⟩
 refine⟨n0,rfl,⟨by omega,by omega,hn.len,hf.len,fun i hi=> ?_,fun i hi=> ?_⟩⟩
 ·have ha:=hn.at_ (i:=(i:Int)) (by omega) (by omega)
  exact⟨⟨ha.f0,ha.h0⟩,⟨ha.f1,ha.h1⟩⟩
 ·have ha:=hn.at_ (i:=(i:Int)) (by omega) (by omega)
  have hb:=hf.at_ i (by rw[hf.len];exact hi)
  rw[rd_nat] at hb
  exact⟨ha.f3,ha.h3,hb.1,hb.2,ha.h2⟩
end Go.Proofs.Ytkcpanpdipmmmaa.H
namespace Go.Proofs.Ytkcpanpdipmmmaa.Q
open Go.RowKit Go.Proofs.YtkcpanpdipmmmaaW.PrintWords Go.Proofs.YtkcpanpdipmmmaaW.PrintLast Go.Proofs.YtkcpanpdipmmmaaW.PrintMore Go.Proofs.Ytkcpanpdipmmmaa.P
open Go.Proofs.Ytkcpanpdipmmmaa.H (endsErr Right right_of)
theorem ends_zero {n:Int} {l:List S74} {s t:Int} (h:endsErr n l s t=0): ∃ n0 s0 t0:Nat,n=n0∧s=s0∧t=t0∧s0<n0∧t0<n0∧s0≠t0∧NetOk n0 l∧Right l (List.replicate l.length 0) n0:=by
 have hb:NetOk n l∧0≤s∧s<n∧0≤t∧t<n∧s≠t:=by
  unfold endsErr at h
  by_cases hn:netErr n l=0
  ·rw[if_pos hn] at h
   split at h
   ·rename_i he
    exact⟨netErr_ok hn,he⟩
   ·cases h
  ·rw[if_neg hn] at h;exact absurd h hn
 obtain⟨hn,h1,h2,h3,h4,h5⟩:=hb
 have hz:FlowOk l (List.replicate l.length 0):=by
  refine⟨by simp,fun i hi=> ?_⟩
  rw[List.length_replicate] at hi
  have ha:=(hn.at_ (i:=(i:Int)) (by omega) (by omega)).f2
  rw[rd_nat,List.getD_eq_getElem?_getD,List.getElem?_replicate,if_pos hi]
  exact⟨Int.le_refl _,ha⟩
 obtain⟨n0,rfl,hr⟩:=right_of (ask_of hn hz)
 exact⟨n0,s.toNat,t.toNat,rfl,by omega,by omega,by omega,by omega,by omega,hn,hr⟩
end Go.Proofs.Ytkcpanpdipmmmaa.Q
namespace Go.Proofs.Ytkcpanpdipmmmaa.H
open Go.RowKit Go.Proofs.YtkcpanpdipmmmaaW.PrintWords Go.Proofs.YtkcpanpdipmmmaaW.PrintLast Go.Proofs.YtkcpanpdipmmmaaW.PrintMore Go.Proofs.Ytkcpanpdipmmmaa.P Go.Proofs.Ytkcpanpdipmmmaa.Q
theorem max_nonneg {l:List S74} {F:List Int} {n s t:Nat} (h:MaxF l F n s t) (hs:s<n) (hst:s≠t):0≤bal l F s:=by
 have h1:=(max_value h hs hst).1
 have h2:=(capR_top (sideP l F n s) l h.flow.right.caps).1
 omega
theorem zeros_of {l:List S74} {F:List Int} {n s t:Nat} (h:Right l F n):IsFlow l (List.replicate l.length 0) n s t∧bal l (List.replicate l.length 0) s=0:=
 zeros_flow h.pos h.fifty h.arcs h.ends (fun i hi=>by have:=h.nums i hi;exact⟨this.1,this.2.1,by omega,by omega⟩)
theorem fill_max {l:List S74} {F:List Int} {n s t:Nat} (hr:Right l F n) (hs:s<n) (ht:t<n) (hst:s≠t):MaxF l (fillF l n s t) n s t:=by
 obtain⟨h1,h2⟩:=zeros_of (s:=s) (t:=t) hr
 exact refill_max hs ht hst 300000000 h1 (by omega)
end Go.Proofs.Ytkcpanpdipmmmaa.H
namespace Go.Proofs.Ytkcpanpdipmmmaa.H
open Go.RowKit Go.Proofs.YtkcpanpdipmmmaaW.PrintWords Go.Proofs.YtkcpanpdipmmmaaW.PrintLast Go.Proofs.YtkcpanpdipmmmaaW.PrintMore Go.Proofs.Ytkcpanpdipmmmaa.P
open Go.Proofs.Ytkcpanpdipmmmaa.Q (bal ends_zero)
theorem heap_k74:Kd.Heap k74:=Kd.heap_iso _ (Kd.heap_pair (Kd.heap_int _) (Kd.heap_pair (Kd.heap_int _) (Kd.heap_pair (Kd.heap_int _) (Kd.heap_int _))))
theorem made_ints (n:Nat) (hn:n≤500): ∀ W:World,(Instr.makeSlice 25 (.int .i64 (n:Int)) (.int .i64 (n:Int))).run Try.prog W= .ok (.slice (some ⟨W.heap.size,0,none⟩) n n) (W.alloc (.cells (nums .i64 (List.replicate n 0)).toArray 3)):=by
 intro W
 rw[print_make 25 3 .i64 8 Try.underlying25 (by kernel_rfl) (by omega) n (by omega) W]
 have hl:(madeCells #[Value.int .i64 0] n)=(nums .i64 (List.replicate n 0)).toArray:=by
  apply Array.ext'
  apply List.ext_getElem
  ·simp[nums,madeCells]
  ·intro i h1 h2
   simp[nums,madeCells,Nat.mod_one]
 rw[hl]
section
variable {n0:Nat} {a0_1:Bool} {A2:Option Addr} {c2:Nat} {l:List S74} {gF cF:Nat} {A4:Option Addr} {c4 gx gn B B':Nat} {vd:Value} {F:List Int} {nx:List Nat} {w w5 w7 wf:World}
theorem Fo.raise (h:Fo n0 a0_1 A2 c2 l gF cF A4 c4 gx gn B vd F nx w) (h1:B≤B') (h2:B'≤w.heap.size):Fo n0 a0_1 A2 c2 l gF cF A4 c4 gx gn B' vd F nx w:=by
 have hl:=h.low
 exact⟨h.x,h.nx,h.fl,Kd.F_mono h.arcs (fun k hk=>⟨by omega,hk.2⟩),Kd.F_mono h.rows (fun k hk=>⟨by omega,hk.2⟩),h2,⟨by omega,by omega,by omega⟩,h.apart,h.ca,h.cf⟩
theorem Fo.made {base:Nat} {ok:Nat→Prop} (hb:Below w5.heap.size w5 wf) (hF:IsI w5 gF F) (ha:Kd.F k74 w5 (fun k=>k<w5.heap.size∧k≠gF) A2 l.length l) (hS:Kd.S (Kd.slice 38 k38) 34 w7 base ok (.slice A4 n0 c4) (rowsAt l n0 n0)) (hb7:Below w7.heap.size w7 wf) (hbase:w5.heap.size≤base)
  (hx:wf.heap[gx]? =some (.cells #[.int .i64 (n0:Int), .bool a0_1, .slice A2 l.length c2, .slice (some ⟨gF,0,none⟩) F.length cF, .slice A4 n0 c4, .slice none 0 0, .slice (some ⟨gn,0,none⟩) n0 n0] 184 (0,0)))
  (hn:IsI wf gn (List.replicate n0 0)) (h1:w5.heap.size≤gn) (h2:w7.heap.size≤gx) (h3:gn≠gx) (h4:gn<base∨w7.heap.size≤gn) (h57:w5.heap.size≤w7.heap.size) (hca:l.length≤c2) (hcf:F.length≤cF):Fo n0 a0_1 A2 c2 l gF cF A4 c4 gx gn wf.heap.size (.slice none 0 0) F (List.replicate n0 0) wf:=by
 have hl5:=hF.lt
 have hn2:=hn.lt
 have hx2:=blk_lt hx
 have hr:=Kd.F_below (Kd.S_F (Kd.S_bound hS)) hb7
 refine⟨hx,by unfold nI;rw[List.map_replicate];exact hn,hF.below hb,Kd.F_mono (Kd.F_below ha hb) (fun k hk=> ?_),Kd.F_mono hr (fun k hk=> ?_),Nat.le_refl _,⟨hx2,hn2,?_⟩,⟨Ne.symm h3,by omega,by omega⟩,hca,hcf⟩
 ·have:=hb.size;exact⟨by omega,hk.2,by omega,by omega⟩
 ·have h5:=hk.2.1
  have h6:=hk.2.2.1
  exact⟨by omega,by omega,by omega,by omega⟩
 ·have:=hb.size;omega
end
theorem refill_stop {l:List S74} {n s t k:Nat} {F:List Int} (h:(dOf n (bfP l F n s)).getD t 0<0):refillF l n s t (k+1) F=F:=by rw[refillF,if_pos h]
theorem refill_go {l:List S74} {n s t k:Nat} {F:List Int} (h: ¬ (dOf n (bfP l F n s)).getD t 0<0):refillF l n s t (k+1) F=refillF l n s t k (phaseF l (dOf n (bfP l F n s)) s t 300000000 F (List.replicate n 0)):=by rw[refillF,if_neg h]
def Rs (n0:Nat) (a0_1:Bool) (A2:Option Addr) (c2:Nat) (l:List S74) (gF cF:Nat) (A4:Option Addr) (c4 gx gn:Nat) (s t:Nat) (R:List Int) (w w':World) (k:Nat):Prop:=
 ∃ (F:List Int) (nx:List Nat) (vd:Value) (B:Nat),IsFlow l F n0 s t∧0≤bal l F s∧nx.length=n0∧209715200<(k:Int)+bal l F s∧refillF l n0 s t k F=R∧Fo n0 a0_1 A2 c2 l gF cF A4 c4 gx gn B vd F nx w'∧Ks (fun b=>b=gx∨b=gF∨b=gn) w w'
set_option maxHeartbeats 20000000 in
set_option maxRecDepth 100000 in
theorem refill_calls (n0:Nat) (a0_1:Bool) (A2:Option Addr) (c2:Nat) (l:List S74) (gF cF:Nat) (F:List Int) (s t:Nat) (w:World)
  (hf:IsFlow l F n0 s t) (hb0:0≤bal l F s) (hs:s<n0) (ht:t<n0) (hst:s≠t) (hF:IsI w gF F) (hcF:F.length≤cF) (ha:Kd.F k74 w (fun k=>k<w.heap.size∧k≠gF) A2 l.length l) (hca:l.length≤c2):
  Calls Try.prog 155 #[.agg #[.int .i64 (n0:Int), .bool a0_1, .slice A2 l.length c2], .slice (some ⟨gF,0,none⟩) F.length cF, .int .i64 (s:Int), .int .i64 (t:Int)] w fun e w'=>e= .returned (.tuple #[])∧IsI w' gF (refillF l n0 s t 300000000 F)∧Ks (fun b=>b=gF) w w':=by
 have hu24:=Try.underlying24
 have hu184:=Try.underlying184
 have hn50:=hf.right.fifty
 have hmk:=made_ints n0 (by omega)
 have HFL:=Aside0.mk hf
 have HB0:=Aside0.mk hb0
 have HIF:=Aside0.mk hF
 have HCF:=Aside0.mk hcF
 have HAF:=Aside0.mk ha
 have HCA:=Aside0.mk hca
 have hgF:=hF.lt
 obtain⟨R,hR⟩: ∃ R,R=refillF l n0 s t 300000000 F:=⟨_,rfl⟩
 rw[← hR]
 have HRR:=Aside0.mk hR
 clear hf hb0 hF hcF ha hca hR
 go_enter Try.func155,Try.ntmps155
 go_upto_region 1 with (first|((with_reducible refine gate_dst (N:=4) rfl ?_);refine box_event ?hg (N:=4) ?hd (cs:= #[.int .i64 (n0:Int), .bool a0_1, .slice A2 l.length c2]) (t:=24) ?hr ?_;(case hd=>rfl);(case hg=>rfl);(case hr=>first|(go_simp;done)|(go_simp;rfl));intro g4 hg4 w5 hbox hb;have B4:=Aside0.mk hbox;have HB:=Aside0.mk hb;have HG4:=Aside0.mk hg4;clear hg4 hbox hb)|fail)
 have h0:w5.cell? ⟨g4,0,none⟩=some (.int .i64 (n0:Int)):=(blk_cell B4.out 0).trans rfl
 have h1:w5.cell? ⟨g4,1,none⟩=some (.bool a0_1):=(blk_cell B4.out 1).trans rfl
 have h2:w5.cell? ⟨g4,2,none⟩=some (.slice A2 l.length c2):=(blk_cell B4.out 2).trans rfl
 have hsz:=HB.out.size
 have HIF5:=Aside0.mk (HIF.out.below HB.out)
 have HAF5:Aside0 (Kd.F k74 w5 (fun k=>k<w5.heap.size∧k≠gF) A2 l.length l):=⟨Kd.F_mono (Kd.F_below HAF.out HB.out) (fun k hk=>⟨by omega,hk.2⟩)⟩
 have HC5:=Aside0.mk (Kd.F_now HAF5.out)
 simp only[Act.put,List.setIfInBounds_toArray,List.set_cons_zero,List.set_cons_succ]
 go_cut [8] (fun v8 wx=> ∃ (gx gn:Nat) (A4:Option Addr) (c4:Nat),v8= .pointer (some ⟨gx,0,none⟩)∧Aside0 (Fo n0 a0_1 A2 c2 l gF cF A4 c4 gx gn wx.heap.size (.slice none 0 0) F (List.replicate n0 0) wx)∧Aside0 (Below w5.heap.size w5 wx)∧Aside0 (w5.heap.size≤gx∧w5.heap.size≤gn))
 case first=>
  go_region_held3 (fun w'=>w'.cell? ⟨g4,0,none⟩=some (.int .i64 (n0:Int))∧w'.cell? ⟨g4,1,none⟩=some (.bool a0_1)∧w'.cell? ⟨g4,2,none⟩=some (.slice A2 l.length c2))
   (first|((try dsimp only);(refine⟨?_,?_,?_⟩)<;>first|(exact pw_cell_below (below_drew (Below.refl _ _)) (by assumption))|(exact pw_cell_below (below_alloc (Below.refl _ _) _) (by assumption))|(exact pw_cell_below hbr (by assumption))|(exact pw_cell_below (below_alloc (below_step (below_drew (Below.refl w5.heap.size w5)) hbr) _) (by assumption))|(exact pw_cell_below (below_step (below_drew (below_alloc (Below.refl w5.heap.size w5) _)) hbr) (by assumption))|(exact pw_cell_below (below_step (below_drew (Below.refl w5.heap.size w5)) hbr) (by assumption)))|go_keep)
   (first|(go_at_call 101;refine(at_calls n0 a0_1 A2 c2 l (some ⟨gF,0,none⟩) cF F.length _ ?hC HCA.out (by omega) (by omega) (by have:=HFL.out.right.arcs;omega) (fun k hk=>(HFL.out.right.ends k hk).1) (fun k hk=>(HFL.out.right.ends k hk).2)).mono ?_;(case hC=>first|exact HC5.out|exact Kd.C_below HC5.out (below_drew (Below.refl _ _))|exact Kd.C_below HC5.out (below_drew (below_alloc (Below.refl _ _) _)));rintro e_ w7 ⟨vr,rfl,hS,hbr⟩;obtain⟨A4,c4,ev⟩:=Kd.S_slice hS;subst ev;rw[rowsAt_len] at hS ⊢))
  ·go_wp2_with fail
   go_meet
   have hbb:Below w5.heap.size w5 w7:=below_step (below_drew (Below.refl w5.heap.size w5)) hbr
   have hsz7:=hbb.size
   refine⟨w7.heap.size+1,w7.heap.size,A4,c4,rfl,⟨Fo.made (below_alloc (below_alloc hbb _) _) HIF5.out HAF5.out hS (below_alloc (below_alloc (Below.refl _ _) _) _) (by simp) ?_ (IsI.below (w:=w7.alloc (.cells (nums .i64 (List.replicate n0 0)).toArray 3)) (heap_alloc_new w7 _) (below_alloc (Below.refl _ _) _)) (by omega) (by omega) (by omega) (.inr (Nat.le_refl _)) (by omega) HCA.out HCF.out⟩,⟨below_alloc (below_alloc hbb _) _⟩,⟨by omega,by omega⟩⟩
   have h_:=heap_alloc_new (w7.alloc (.cells (nums .i64 (List.replicate n0 0)).toArray 3)) (.cells #[.int .i64 (n0:Int), .bool a0_1, .slice A2 l.length c2, .slice (some ⟨gF,0,none⟩) F.length cF, .slice A4 n0 c4, .slice none 0 0, .slice (some ⟨w7.heap.size,0,none⟩) n0 n0] 184)
   rw[show (w7.alloc (.cells (nums .i64 (List.replicate n0 0)).toArray 3)).heap.size=w7.heap.size+1 by simp] at h_
   exact h_
  ·go_wp2_with fail
   go_meet
   have hbb:Below w5.heap.size w5 w7:=below_step (below_drew (below_alloc (Below.refl w5.heap.size w5) _)) hbr
   have hsz7:=hbr.size
   rw[show (w5.alloc (.cells (nums .i64 (List.replicate n0 0)).toArray 3)).drew.heap.size=w5.heap.size+1 by simp] at hsz7
   refine⟨w7.heap.size,w5.heap.size,A4,c4,rfl,⟨Fo.made (below_alloc hbb _) HIF5.out HAF5.out hS (below_alloc (Below.refl _ _) _) (by simp) (heap_alloc_new w7 _) (IsI.below (w:=w7) (IsI.below (w:=(w5.alloc (.cells (nums .i64 (List.replicate n0 0)).toArray 3)).drew) (IsI.below (w:=w5.alloc (.cells (nums .i64 (List.replicate n0 0)).toArray 3)) (heap_alloc_new w5 _) (below_drew (Below.refl _ _))) hbr) (below_alloc (Below.refl _ _) _)) (by omega) (by omega) (by omega) (.inl (by simp)) (by omega) HCA.out HCF.out⟩,⟨below_alloc hbb _⟩,⟨by omega,by omega⟩⟩
 case rest=>
  obtain⟨gx,gn,A4,c4,rfl,HFO,HBC,HGX⟩:=hcut
  have HBW:Aside0 (Below w.heap.size w wc):=⟨below_step HB.out HBC.out⟩
  have HGW:Aside0 (w.heap.size≤gx∧w.heap.size≤gn):=⟨by have:=HGX.out;omega⟩
  clear h0 h1 h2 hmk HIF5 HAF5 HC5 HIF HAF HB HBC B4 HGX HG4 hsz
  go_wp2_with fail
  go_loopw [] (fun w'=> ∃ k,Rs n0 a0_1 A2 c2 l gF cF A4 c4 gx gn s t R wc w' k) (fun w'=>least (fun k=>Rs n0 a0_1 A2 c2 l gF cF A4 c4 gx gn s t R wc w' k))
  case atStart=>exact⟨300000000,F,List.replicate n0 0, .slice none 0 0,_,HFL.out,HB0.out,by simp,by have:=HB0.out;omega,HRR.out.symm,HFO.out,Ks.refl _ _⟩
  case round=>
   clear HFO
   have hmin:=least_spec hrel
   obtain⟨kk,hkk⟩: ∃ k_,k_=least (fun k=>Rs n0 a0_1 A2 c2 l gF cF A4 c4 gx gn s t R wc wr k):=⟨_,rfl⟩
   rw[← hkk] at hmin
   have HLE:=Aside0.mk hkk
   clear hrel hkk
   obtain⟨G,nx,vd,B,hgf,hg0,hnl,hgk,hgp,hF,hK⟩:=hmin
   have hgt:=flow_top hgf hs hst
   obtain⟨k,rfl⟩: ∃ k,kk=k+1:=⟨kk - 1,by omega⟩
   have HGF:=Aside0.mk hgf
   have HG0:=Aside0.mk hg0
   have HGK:=Aside0.mk hgk
   have HK:=Aside0.mk hK
   have HFO:=Aside0.mk (hF.raise hF.size (Nat.le_refl _))
   clear hgf hg0 hgk hF hK hgt
   by_cases hy:(dOf n0 (bfP l G n0 s)).getD t 0<0
   ·have hq:G=R:=by rw[← hgp,refill_stop hy]
    have HQ:=Aside0.mk hq
    have HY:=Aside0.mk hy
    clear hq hgp
    obtain⟨b,hb⟩: ∃ b_,b_=(!decide ((dOf n0 (bfP l G n0 s)).getD t 0<0)):=⟨_,rfl⟩
    have hbf:b=false:=by rw[hb,decide_eq_true hy];rfl
    have HBE:=Aside0.mk hb
    clear hy hb
    go_wp2_with (first|(go_at_call 168;refine(phase_calls n0 a0_1 A2 c2 l gF cF A4 c4 gx gn vd G s t nx _ HGF.out HG0.out hs ht hst hnl HFO.out).mono ?_;rintro e_ w8 ⟨vd',nx',rfl,hnl',hfo,hks⟩;rw[if_pos HY.out] at hfo;rw[← HBE.out])|fail)
    refine bodyPost_end (results_none rfl _ _ _) rfl ⟨rfl,?_,?_⟩
    ·rw[← HQ.out];exact hfo.fl
    ·refine((Ks.of_below HBW.out (fun b=>b=gF)).trans (HK.out.trans hks (fun b hb _=>hb)) (fun b hb hlt=> ?_))
     have:=HGW.out
     rcases hb with h_|h_|h_
     ·omega
     ·exact h_
     ·omega
   ·have hq:refillF l n0 s t k (phaseF l (dOf n0 (bfP l G n0 s)) s t 300000000 G (List.replicate n0 0))=R:=by rw[← hgp,refill_go hy]
    have HQ:=Aside0.mk hq
    have HY:=Aside0.mk hy
    obtain⟨m1,m2⟩:=phase_grows HGF.out hs ht hst (by omega) 299999999
    have HM1:=Aside0.mk m1
    have HM2:=Aside0.mk m2
    clear hq hgp m1 m2
    obtain⟨b,hb⟩: ∃ b_,b_=(!decide ((dOf n0 (bfP l G n0 s)).getD t 0<0)):=⟨_,rfl⟩
    have hbf:b=true:=by rw[hb,decide_eq_false hy];rfl
    have HBE:=Aside0.mk hb
    clear hy hb
    go_wp2_with (first|(go_at_call 168;refine(phase_calls n0 a0_1 A2 c2 l gF cF A4 c4 gx gn vd G s t nx _ HGF.out HG0.out hs ht hst hnl HFO.out).mono ?_;rintro e_ w8 ⟨vd',nx',rfl,hnl',hfo,hks⟩;rw[if_neg HY.out] at hfo;rw[← HBE.out];have HFN:=Aside0.mk hfo;have HKN:=Aside0.mk hks;clear hfo hks)|fail)
    have hRs:Rs n0 a0_1 A2 c2 l gF cF A4 c4 gx gn s t R wc w8 k:=by
     obtain⟨H,hH⟩: ∃ H_,H_=phaseF l (dOf n0 (bfP l G n0 s)) s t 300000000 G (List.replicate n0 0):=⟨_,rfl⟩
     have q1:=HM1.out
     have q2:=HM2.out
     rw[show 299999999+1=300000000 from rfl, ← hH] at q1 q2
     have q3:=HG0.out
     have q4:=HGK.out
     have q5:=HQ.out
     have q6:=HFN.out
     rw[← hH] at q5 q6
     exact⟨H,nx',vd',_,q1,by omega,hnl',by omega,q5,q6,HK.out.trans HKN.out (fun b hb _=>hb)⟩
    go_roundw
    case rel=>exact⟨k,hRs⟩
    case measure=>exact least_lt hRs (by rw[← HLE.out];exact Nat.lt_succ_self k)
set_option maxHeartbeats 4000000 in
set_option maxRecDepth 100000 in
theorem maxflow_Fill_calls (a0_0:Int) (a0_1:Bool) (A0_2:Option Addr) (c0_2:Nat) (l0_2:List S74) (a1:Int) (a2:Int) (r:List Int) (w:World) (hr0_2:Kd.C k74 w A0_2 l0_2.length l0_2) (hc0_2:l0_2.length≤c0_2) (h:(if endsErr a0_0 l0_2 a1 a2=0 then some (fillF l0_2 a0_0.toNat a1.toNat a2.toNat) else none)=some r):
  Calls Try.prog 121 #[.agg #[.int .i64 a0_0, .bool a0_1, .slice A0_2 l0_2.length c0_2], .int .i64 a1, .int .i64 a2] w fun e w'=> ∃ v0_:Value,e= .returned (v0_)∧Kd.R (Kd.int .i64) 3 w' w.heap.size (fun _=>True) v0_ r∧Below w.heap.size w w':=by
 by_cases he:endsErr a0_0 l0_2 a1 a2=0
 ·rw[if_pos he] at h
  injection h with h
  obtain⟨n0,s0,t0,rfl,rfl,rfl,hs,ht,hst,hn,hr⟩:=ends_zero he
  simp only[Int.toNat_natCast] at h
  have hM:=fill_max hr hs ht hst
  have hlen:r.length=l0_2.length:=by rw[← h];exact hM.flow.right.len
  have HRE:=Aside0.mk h
  have harc:=hr.arcs
  have hmk:=made_ints l0_2.length (by omega)
  obtain⟨z1,z2⟩:=zeros_of (s:=s0) (t:=t0) hr
  have HZ1:=Aside0.mk z1
  have HZ2:=Aside0.mk z2
  have H2:=Aside0.mk hr0_2
  have HC2:=Aside0.mk hc0_2
  clear z1 z2 h he hn hr hM hr0_2 hc0_2
  go_enter Try.func121,Try.ntmps121
  go_upto_region 2 with (first|((with_reducible refine gate_dst (N:=3) rfl ?_);refine box_event ?hg (N:=3) ?hd (cs:= #[.int .i64 (n0:Int), .bool a0_1, .slice A0_2 l0_2.length c0_2]) (t:=24) ?hr ?_;(case hd=>rfl);(case hg=>rfl);(case hr=>first|(go_simp;done)|(go_simp;rfl));intro g4 hg4 w5 hbox hb;have B4:=Aside0.mk hbox;have HB:=Aside0.mk hb;clear hg4 hbox hb;have h2:w5.cell? ⟨g4,2,none⟩=some (.slice A0_2 l0_2.length c0_2):=(blk_cell B4.out 2).trans rfl)|fail)
  have hIA:IsI (w5.alloc (.cells (nums .i64 (List.replicate l0_2.length 0)).toArray 3)) w5.heap.size (List.replicate l0_2.length 0):=heap_alloc_new w5 _
  have HB6:Aside0 (Below w.heap.size w (w5.alloc (.cells (nums .i64 (List.replicate l0_2.length 0)).toArray 3))):=⟨below_alloc HB.out _⟩
  have B6:Aside0 ((w5.alloc (.cells (nums .i64 (List.replicate l0_2.length 0)).toArray 3)).heap[g4]? =_):=⟨blk_below B4.out (below_alloc (Below.refl _ _) _)⟩
  have hgb:w.heap.size≤w5.heap.size:=HB.out.size
  clear HB B4 h2 hmk
  generalize w5.alloc (.cells (nums .i64 (List.replicate l0_2.length 0)).toArray 3)=w6 at *
  generalize w5.heap.size=gF at *
  have HIA:=Aside0.mk hIA
  clear hIA
  have h0:w6.cell? ⟨g4,0,none⟩=some (.int .i64 (n0:Int)):=(blk_cell B6.out 0).trans rfl
  have h1:w6.cell? ⟨g4,1,none⟩=some (.bool a0_1):=(blk_cell B6.out 1).trans rfl
  have h2:w6.cell? ⟨g4,2,none⟩=some (.slice A0_2 l0_2.length c0_2):=(blk_cell B6.out 2).trans rfl
  have key:=refill_calls n0 a0_1 A0_2 c0_2 l0_2 gF l0_2.length (List.replicate l0_2.length 0) s0 t0 w6 HZ1.out (by rw[HZ2.out];exact Int.le_refl _) hs ht hst HIA.out (by simp) (Kd.F_mono (Kd.F_below (Kd.C_F heap_k74 H2.out) (below_low (Nat.le_refl _) HB6.out)) (fun k hk=>⟨by have:=HB6.out.size;omega,by omega⟩)) HC2.out
  rw[List.length_replicate] at key
  have HKEY:=Aside0.mk key
  clear key
  go_wp2_with (first|(go_at_call 155;refine HKEY.out.mono ?_;rintro e_ w9 ⟨rfl,hI,hk⟩)|fail)
  go_ret
  have hI2:IsI w9 gF r:=by rw[← HRE.out];exact hI
  have hR:=hI2.R (base:=w.heap.size) (ok:=fun _=>True) (by omega) hgb trivial
  rw[hlen] at hR
  exact⟨_,rfl,hR,hk.toBelow HB6.out HB6.out.size (fun b hb=>by have hb:b=gF:=hb;omega)⟩
 ·rw[if_neg he] at h;cases h
end Go.Proofs.Ytkcpanpdipmmmaa.H
namespace Go.Proofs.Ytkcpanpdipmmmaa.P
open Go.RowKit Go.Proofs.YtkcpanpdipmmmaaW.PrintWords Go.Proofs.YtkcpanpdipmmmaaW.PrintLast Go.Proofs.YtkcpanpdipmmmaaW.PrintMore
attribute [local go_sem] max2_int min2_int max_two min_two max_three min_three max_four min_four
def maxflow_Fill.f (a0_0:Int) (a0_1:Bool) (l0_2:List (S74)) (a1:Int) (a2:Int):Option (List Int):=(if H.endsErr a0_0 l0_2 a1 a2=0 then some (H.fillF l0_2 a0_0.toNat a1.toNat a2.toNat) else none)
theorem maxflow_Fill.calls (a0_0:Int) (a0_1:Bool) (A0_2:Option Addr) (c0_2:Nat) (l0_2:List (S74)) (a1:Int) (a2:Int) (r:List Int) (w:World) (hr0_2:Kd.C k74 w A0_2 l0_2.length l0_2) (hc0_2:l0_2.length≤c0_2) (h:maxflow_Fill.f a0_0 a0_1 l0_2 a1 a2=some r):
  Calls Try.prog 121 #[.agg #[.int .i64 a0_0, .bool a0_1, .slice A0_2 l0_2.length c0_2], .int .i64 a1, .int .i64 a2] w fun e w'=> ∃ v0_:Value,e= .returned (v0_)∧Kd.R (Kd.int .i64) 3 w' w.heap.size (fun _=>True) v0_ r∧Below w.heap.size w w':=H.maxflow_Fill_calls a0_0 a0_1 A0_2 c0_2 l0_2 a1 a2 r w hr0_2 hc0_2 h
end Go.Proofs.Ytkcpanpdipmmmaa.P
namespace Go.Proofs.Ytkcpanpdipmmmaa.P
open Go.RowKit Go.Proofs.YtkcpanpdipmmmaaW.PrintWords Go.Proofs.YtkcpanpdipmmmaaW.PrintLast Go.Proofs.YtkcpanpdipmmmaaW.PrintMore
attribute [local go_sem] max2_int min2_int max_two min_two max_three min_three max_four min_four
def maxflow_Max.f (k:Nat) (a0_0:Int) (a0_1:Bool) (l0_2:List (S74)) (a1:Int) (a2:Int):Option (List Int × Int × Int):=(static_Ends.f k a0_0 a0_1 l0_2 a1 a2).bind fun t917=>(if t917=0 then((maxflow_Fill.f a0_0 a0_1 l0_2 a1 a2).bind fun t918=>((maxflow_Value.f k a0_0 a0_1 l0_2 a1 t918).bind fun t921=>(some (t918,t921,0)))) else(some (([]:List Int),0,t917)))
set_option maxHeartbeats 8000000 in
set_option maxRecDepth 100000 in
theorem maxflow_Max.calls (k:Nat) (a0_0:Int) (a0_1:Bool) (A0_2:Option Addr) (c0_2:Nat) (l0_2:List (S74)) (a1:Int) (a2:Int) (r1:List Int) (r2:Int) (r3:Int) (w:World) (hr0_2:Kd.C k74 w A0_2 l0_2.length l0_2) (hc0_2:l0_2.length≤c0_2) (h:maxflow_Max.f k a0_0 a0_1 l0_2 a1 a2=some (r1,r2,r3)):
  Calls Try.prog 76 #[.agg #[.int .i64 a0_0, .bool a0_1, .slice A0_2 l0_2.length c0_2], .int .i64 a1, .int .i64 a2] w fun e w'=> ∃ v0_:Value,e= .returned (.tuple #[v0_, .int .i64 r2, .int .i64 r3])∧Kd.R (Kd.int .i64) 3 w' w.heap.size (fun _=>True) v0_ r1∧Below w.heap.size w w':=by
 have hu24:=Try.underlying24
 have HR0_2:=Aside0.mk hr0_2
 have HC0_2:=Aside0.mk hc0_2
 clear hr0_2 hc0_2
 have HB:=Aside0.mk (Below.refl w.heap.size w)
 have H:((static_Ends.f k a0_0 a0_1 l0_2 a1 a2).bind fun t917=>(if t917=0 then((maxflow_Fill.f a0_0 a0_1 l0_2 a1 a2).bind fun t918=>((maxflow_Value.f k a0_0 a0_1 l0_2 a1 t918).bind fun t921=>(some (t918,t921,0)))) else(some (([]:List Int),0,t917))))=some (r1,r2,r3):=h
 clear h
 replace H:=Option.bind_eq_some_iff.mp H
 obtain⟨t917,A40,H⟩:=H
 replace H:(if t917=0 then((maxflow_Fill.f a0_0 a0_1 l0_2 a1 a2).bind fun t918=>((maxflow_Value.f k a0_0 a0_1 l0_2 a1 t918).bind fun t921=>(some (t918,t921,0)))) else(some (([]:List Int),0,t917)))=some (r1,r2,r3):=H
 have A4:=Aside0.mk A40
 clear A40
 by_cases c5:t917=0
 rotate_left
 ·rw[if_neg c5] at H
  have c5b0:(t917 == 0)=false:=beq_eq_false_iff_ne.mpr c5
  have c5b1:(t917 != 0)=true:=bne_iff_ne.mpr c5
  simp only[Option.some.injEq,Prod.mk.injEq] at H
  obtain⟨rfl,rfl,rfl⟩:=H
  go_enter Try.func76,Try.ntmps76
  go_wp2_with (first|((with_reducible refine gate_dst (N:=3) rfl ?_);refine box_event ?hg (N:=3) ?hd (cs:= #[.int .i64 a0_0, .bool a0_1, .slice A0_2 l0_2.length c0_2]) (t:=24) ?hr ?_;(case hd=>rfl);(case hg=>rfl);(case hr=>first|(go_simp;done)|(go_simp;rfl));intro gb916 hg w16 hbox hb;have n0_:=Aside0.mk (below_step (by repeat(first|(with_reducible first|exact HB.out|apply below_alloc|apply pw_below_drewN|apply below_drew1)|exact HB.out)) hb);have n1_:=Aside0.mk (hbox);have n2_:=Aside0.mk ((by rw[hg];exact(below_size (by repeat(first|(with_reducible first|exact HB.out|apply below_alloc|apply pw_below_drewN|apply below_drew1)|exact HB.out))):w.heap.size≤gb916));have n3_:=Aside0.mk ((by rw[hg];exact(below_size (by repeat(first|(with_reducible first|exact HB.out|apply below_alloc|apply pw_below_drewN|apply below_drew1)|exact HB.out))):w.heap.size≤gb916));clear HB;have HB:=n0_;have BK916:=n1_;have GW916:=n2_;have GE916:=n3_;clear n0_ n1_ n2_ n3_;clear hb hbox hg;have hcz17_0:w16.cell? ⟨gb916,0,none⟩=some (.int .i64 a0_0):=(blk_cell BK916.out 0).trans rfl;have hcz17_1:w16.cell? ⟨gb916,1,none⟩=some (.bool a0_1):=(blk_cell BK916.out 1).trans rfl;have hcz17_2:w16.cell? ⟨gb916,2,none⟩=some (.slice A0_2 l0_2.length c0_2):=(blk_cell BK916.out 2).trans rfl;have hfz17_0:=blk_frozen BK916.out 0;have hfz17_1:=blk_frozen BK916.out 1;have hfz17_2:=blk_frozen BK916.out 2)|((with_reducible refine gate_callee (f:=111) rfl ?_);refine goesL_ (some 12) rfl rfl Try.func111 (by kernel_rfl) rfl #[.agg #[.int .i64 a0_0, .bool a0_1, .slice A0_2 l0_2.length c0_2], .int .i64 a1, .int .i64 a2] rfl (by(try simp only[List.map_toArray,List.map_cons,List.map_nil]);first|done|rfl|(simp only[List.length_drop,List.length_take];rfl)) ?_;(with_reducible refine(static_Ends.calls k a0_0 a0_1 _ _ l0_2 a1 a2 t917 _ ?side1 ?side2 A4.out).mono ?_);(case side1=>repeat(first|exact(Kd.C_below HR0_2.out HB.out)|(with_reducible refine Kd.C_alloc ?_ _)|(with_reducible refine Kd.C_drewN ?_ _)|(with_reducible refine Kd.C_drew ?_)));(case side2=>exact HC0_2.out);rintro e w18 ⟨rfl,hb⟩;refine⟨_,rfl,?_⟩;have n0_:=Aside0.mk (blk_below (g:=gb916) (o:= .cells #[.int .i64 a0_0, .bool a0_1, .slice A0_2 l0_2.length c0_2] 24 (0,0)) (by(with_reducible repeat(first|refine blk_drewN ?_ _|refine blk_drew ?_|refine blk_alloc ?_ _));exact BK916.out) hb);have n1_:=Aside0.mk (below_step (by repeat(first|(with_reducible first|exact HB.out|apply below_alloc|apply pw_below_drewN|apply below_drew1|refine below_set ?_ GE916.out)|exact HB.out)) hb);clear BK916;clear HB;have BK916:=n0_;have HB:=n1_;clear n0_ n1_;(try clear hb);(try clear hb2);(try clear hk);(try clear hi)))
  go_ret3
  exact⟨_,by first|rfl|(simp[errW_none,errW_some]<;>rfl)|(simp[*,errW_none,errW_some]<;>rfl),by first|exact Kd.R_nil _ _ _ _ _|exact Kd.N_nil _ _ _ _ _|exact Kd.V_nil _ _ _ _ _|exact Kd.Q_nil _ _ _ _ _|exact Kd.S_nil _ _ _ _ _,by repeat(first|(with_reducible first|exact HB.out|apply below_alloc|apply pw_below_drewN|apply below_drew1|refine below_set ?_ GE916.out)|exact HB.out)⟩
 rw[if_pos c5] at H
 have c5b0:(t917 == 0)=true:=beq_iff_eq.mpr c5
 have c5b1:(t917 != 0)=false:=bne_eq_false_iff_eq.mpr c5
 clear c5
 replace H:=Option.bind_eq_some_iff.mp H
 obtain⟨t918,A60,H⟩:=H
 replace H:((maxflow_Value.f k a0_0 a0_1 l0_2 a1 t918).bind fun t921=>(some (t918,t921,0)))=some (r1,r2,r3):=H
 have A6:=Aside0.mk A60
 clear A60
 replace H:=Option.bind_eq_some_iff.mp H
 obtain⟨t921,A70,H⟩:=H
 replace H:(some (t918,t921,0))=some (r1,r2,r3):=H
 have A7:=Aside0.mk A70
 clear A70
 simp only[Option.some.injEq,Prod.mk.injEq] at H
 obtain⟨rfl,rfl,rfl⟩:=H
 go_enter Try.func76,Try.ntmps76
 go_wp2_with (first|((with_reducible refine gate_dst (N:=3) rfl ?_);refine box_event ?hg (N:=3) ?hd (cs:= #[.int .i64 a0_0, .bool a0_1, .slice A0_2 l0_2.length c0_2]) (t:=24) ?hr ?_;(case hd=>rfl);(case hg=>rfl);(case hr=>first|(go_simp;done)|(go_simp;rfl));intro gb916 hg w8 hbox hb;have n0_:=Aside0.mk (below_step (by repeat(first|(with_reducible first|exact HB.out|apply below_alloc|apply pw_below_drewN|apply below_drew1)|exact HB.out)) hb);have n1_:=Aside0.mk (hbox);have n2_:=Aside0.mk ((by rw[hg];exact(below_size (by repeat(first|(with_reducible first|exact HB.out|apply below_alloc|apply pw_below_drewN|apply below_drew1)|exact HB.out))):w.heap.size≤gb916));have n3_:=Aside0.mk ((by rw[hg];exact(below_size (by repeat(first|(with_reducible first|exact HB.out|apply below_alloc|apply pw_below_drewN|apply below_drew1)|exact HB.out))):w.heap.size≤gb916));clear HB;have HB:=n0_;have BK916:=n1_;have GW916:=n2_;have GE916:=n3_;clear n0_ n1_ n2_ n3_;clear hb hbox hg;have hcz9_0:w8.cell? ⟨gb916,0,none⟩=some (.int .i64 a0_0):=(blk_cell BK916.out 0).trans rfl;have hcz9_1:w8.cell? ⟨gb916,1,none⟩=some (.bool a0_1):=(blk_cell BK916.out 1).trans rfl;have hcz9_2:w8.cell? ⟨gb916,2,none⟩=some (.slice A0_2 l0_2.length c0_2):=(blk_cell BK916.out 2).trans rfl;have hfz9_0:=blk_frozen BK916.out 0;have hfz9_1:=blk_frozen BK916.out 1;have hfz9_2:=blk_frozen BK916.out 2)|((with_reducible refine gate_callee (f:=111) rfl ?_);refine goesL_ (some 12) rfl rfl Try.func111 (by kernel_rfl) rfl #[.agg #[.int .i64 a0_0, .bool a0_1, .slice A0_2 l0_2.length c0_2], .int .i64 a1, .int .i64 a2] rfl (by(try simp only[List.map_toArray,List.map_cons,List.map_nil]);first|done|rfl|(simp only[List.length_drop,List.length_take];rfl)) ?_;(with_reducible refine(static_Ends.calls k a0_0 a0_1 _ _ l0_2 a1 a2 t917 _ ?side1 ?side2 A4.out).mono ?_);(case side1=>repeat(first|exact(Kd.C_below HR0_2.out HB.out)|(with_reducible refine Kd.C_alloc ?_ _)|(with_reducible refine Kd.C_drewN ?_ _)|(with_reducible refine Kd.C_drew ?_)));(case side2=>exact HC0_2.out);rintro e w10 ⟨rfl,hb⟩;refine⟨_,rfl,?_⟩;have n0_:=Aside0.mk (blk_below (g:=gb916) (o:= .cells #[.int .i64 a0_0, .bool a0_1, .slice A0_2 l0_2.length c0_2] 24 (0,0)) (by(with_reducible repeat(first|refine blk_drewN ?_ _|refine blk_drew ?_|refine blk_alloc ?_ _));exact BK916.out) hb);have n1_:=Aside0.mk (below_step (by repeat(first|(with_reducible first|exact HB.out|apply below_alloc|apply pw_below_drewN|apply below_drew1|refine below_set ?_ GE916.out)|exact HB.out)) hb);clear BK916;clear HB;have BK916:=n0_;have HB:=n1_;clear n0_ n1_;(try clear hb);(try clear hb2);(try clear hk);(try clear hi);have hcz11_0:w10.cell? ⟨gb916,0,none⟩=some (.int .i64 a0_0):=(blk_cell BK916.out 0).trans rfl;have hcz11_1:w10.cell? ⟨gb916,1,none⟩=some (.bool a0_1):=(blk_cell BK916.out 1).trans rfl;have hcz11_2:w10.cell? ⟨gb916,2,none⟩=some (.slice A0_2 l0_2.length c0_2):=(blk_cell BK916.out 2).trans rfl;have hfz11_0:=blk_frozen BK916.out 0;have hfz11_1:=blk_frozen BK916.out 1;have hfz11_2:=blk_frozen BK916.out 2)|((with_reducible refine gate_callee (f:=121) rfl ?_);refine goesL_ (some 19) rfl rfl Try.func121 (by kernel_rfl) rfl #[.agg #[.int .i64 a0_0, .bool a0_1, .slice A0_2 l0_2.length c0_2], .int .i64 a1, .int .i64 a2] rfl (by(try simp only[List.map_toArray,List.map_cons,List.map_nil]);first|done|rfl|(simp only[List.length_drop,List.length_take];rfl)) ?_;(with_reducible refine(maxflow_Fill.calls a0_0 a0_1 _ _ l0_2 a1 a2 t918 _ ?side1 ?side2 A6.out).mono ?_);(case side1=>repeat(first|exact(Kd.C_below HR0_2.out HB.out)|(with_reducible refine Kd.C_alloc ?_ _)|(with_reducible refine Kd.C_drewN ?_ _)|(with_reducible refine Kd.C_drew ?_)));(case side2=>exact HC0_2.out);rintro e w12 ⟨v919,rfl,ho0,hb⟩;refine⟨_,rfl,?_⟩;have n0_:=Aside0.mk (Kd.R_lower ho0 (below_size (by repeat(first|(with_reducible first|exact HB.out|apply below_alloc|apply pw_below_drewN|apply below_drew1|refine below_set ?_ GE916.out)|exact HB.out))));have n1_:=Aside0.mk (blk_below (g:=gb916) (o:= .cells #[.int .i64 a0_0, .bool a0_1, .slice A0_2 l0_2.length c0_2] 24 (0,0)) (by(with_reducible repeat(first|refine blk_drewN ?_ _|refine blk_drew ?_|refine blk_alloc ?_ _));exact BK916.out) hb);have n2_:=Aside0.mk (below_step (by repeat(first|(with_reducible first|exact HB.out|apply below_alloc|apply pw_below_drewN|apply below_drew1|refine below_set ?_ GE916.out)|exact HB.out)) hb);clear BK916;clear HB;have HO920:=n0_;have BK916:=n1_;have HB:=n2_;clear n0_ n1_ n2_;(try clear hb);(try clear hb2);(try clear hk);(try clear hi);(try clear ho0);have hcz13_0:w12.cell? ⟨gb916,0,none⟩=some (.int .i64 a0_0):=(blk_cell BK916.out 0).trans rfl;have hcz13_1:w12.cell? ⟨gb916,1,none⟩=some (.bool a0_1):=(blk_cell BK916.out 1).trans rfl;have hcz13_2:w12.cell? ⟨gb916,2,none⟩=some (.slice A0_2 l0_2.length c0_2):=(blk_cell BK916.out 2).trans rfl;have hfz13_0:=blk_frozen BK916.out 0;have hfz13_1:=blk_frozen BK916.out 1;have hfz13_2:=blk_frozen BK916.out 2;obtain⟨Ao14,co14,eo14⟩:=Kd.R_slice HO920.out;subst eo14)|((with_reducible refine gate_callee (f:=119) rfl ?_);refine goesL_ (some 24) rfl rfl Try.func119 (by kernel_rfl) rfl #[.agg #[.int .i64 a0_0, .bool a0_1, .slice A0_2 l0_2.length c0_2], .int .i64 a1, .slice Ao14 t918.length co14] rfl (by(try simp only[List.map_toArray,List.map_cons,List.map_nil]);first|done|rfl|(simp only[List.length_drop,List.length_take];rfl)) ?_;(with_reducible refine(maxflow_Value.calls k a0_0 a0_1 _ _ l0_2 a1 _ _ t918 t921 _ ?side1 ?side2 ?side3 ?side4 A7.out).mono ?_);(case side1=>repeat(first|exact(Kd.C_below HR0_2.out HB.out)|(with_reducible refine Kd.C_alloc ?_ _)|(with_reducible refine Kd.C_drewN ?_ _)|(with_reducible refine Kd.C_drew ?_)));(case side2=>exact HC0_2.out);(case side3=>repeat(first|exact(Kd.R_reads' HO920.out).2.2|(with_reducible refine Kd.C_alloc ?_ _)|(with_reducible refine Kd.C_drewN ?_ _)|(with_reducible refine Kd.C_drew ?_)));(case side4=>exact(Kd.R_reads' HO920.out).2.1);rintro e w15 ⟨rfl,hb⟩;refine⟨_,rfl,?_⟩;have n0_:=Aside0.mk (Kd.R_below (by(with_reducible repeat(first|apply Kd.R_alloc|apply Kd.R_drewN|apply Kd.R_drew));exact HO920.out) hb);have n1_:=Aside0.mk (blk_below (g:=gb916) (o:= .cells #[.int .i64 a0_0, .bool a0_1, .slice A0_2 l0_2.length c0_2] 24 (0,0)) (by(with_reducible repeat(first|refine blk_drewN ?_ _|refine blk_drew ?_|refine blk_alloc ?_ _));exact BK916.out) hb);have n2_:=Aside0.mk (below_step (by repeat(first|(with_reducible first|exact HB.out|apply below_alloc|apply pw_below_drewN|apply below_drew1|refine below_set ?_ GE916.out)|exact HB.out)) hb);clear HO920;clear BK916;clear HB;have HO920:=n0_;have BK916:=n1_;have HB:=n2_;clear n0_ n1_ n2_;(try clear hb);(try clear hb2);(try clear hk);(try clear hi)))
 go_ret3
 exact⟨_,by first|rfl|(simp[errW_none,errW_some]<;>rfl)|(simp[*,errW_none,errW_some]<;>rfl),by(with_reducible repeat(first|apply Kd.R_alloc|apply Kd.R_drewN|apply Kd.R_drew));exact HO920.out,by repeat(first|(with_reducible first|exact HB.out|apply below_alloc|apply pw_below_drewN|apply below_drew1|refine below_set ?_ GE916.out)|exact HB.out)⟩
end Go.Proofs.Ytkcpanpdipmmmaa.P
namespace Go.Proofs.Ytkcpanpdipmmmaa.P
open Go.RowKit Go.Proofs.YtkcpanpdipmmmaaW.PrintWords Go.Proofs.YtkcpanpdipmmmaaW.PrintLast Go.Proofs.YtkcpanpdipmmmaaW.PrintMore
attribute [local go_sem] max2_int min2_int max_two min_two max_three min_three max_four min_four
def maxflow_Most.f (k:Nat) (a0_0:Int) (a0_1:Bool) (l0_2:List (S74)) (a1:Int) (a2:Int):Option (Int × Int):=(maxflow_Max.f k a0_0 a0_1 l0_2 a1 a2).bind fun bt923=>(some (bt923.2.1,bt923.2.2))
set_option maxHeartbeats 8000000 in
set_option maxRecDepth 100000 in
theorem maxflow_Most.calls (k:Nat) (a0_0:Int) (a0_1:Bool) (A0_2:Option Addr) (c0_2:Nat) (l0_2:List (S74)) (a1:Int) (a2:Int) (r1:Int) (r2:Int) (w:World) (hr0_2:Kd.C k74 w A0_2 l0_2.length l0_2) (hc0_2:l0_2.length≤c0_2) (h:maxflow_Most.f k a0_0 a0_1 l0_2 a1 a2=some (r1,r2)):
  Calls Try.prog 73 #[.agg #[.int .i64 a0_0, .bool a0_1, .slice A0_2 l0_2.length c0_2], .int .i64 a1, .int .i64 a2] w fun e w'=>e= .returned (.tuple #[.int .i64 r1, .int .i64 r2])∧Below w.heap.size w w':=by
 have hu24:=Try.underlying24
 have HR0_2:=Aside0.mk hr0_2
 have HC0_2:=Aside0.mk hc0_2
 clear hr0_2 hc0_2
 have HB:=Aside0.mk (Below.refl w.heap.size w)
 have H:((maxflow_Max.f k a0_0 a0_1 l0_2 a1 a2).bind fun bt923=>(some (bt923.2.1,bt923.2.2)))=some (r1,r2):=h
 clear h
 replace H:=Option.bind_eq_some_iff.mp H
 obtain⟨⟨t923,t926,t927⟩,A40,H⟩:=H
 replace H:(some (t926,t927))=some (r1,r2):=H
 have A4:=Aside0.mk A40
 clear A40
 simp only[Option.some.injEq,Prod.mk.injEq] at H
 obtain⟨rfl,rfl⟩:=H
 go_enter Try.func73,Try.ntmps73
 go_wp2_with (first|((with_reducible refine gate_dst (N:=3) rfl ?_);refine box_event ?hg (N:=3) ?hd (cs:= #[.int .i64 a0_0, .bool a0_1, .slice A0_2 l0_2.length c0_2]) (t:=24) ?hr ?_;(case hd=>rfl);(case hg=>rfl);(case hr=>first|(go_simp;done)|(go_simp;rfl));intro gb922 hg w5 hbox hb;have n0_:=Aside0.mk (below_step (by repeat(first|(with_reducible first|exact HB.out|apply below_alloc|apply pw_below_drewN|apply below_drew1)|exact HB.out)) hb);have n1_:=Aside0.mk (hbox);have n2_:=Aside0.mk ((by rw[hg];exact(below_size (by repeat(first|(with_reducible first|exact HB.out|apply below_alloc|apply pw_below_drewN|apply below_drew1)|exact HB.out))):w.heap.size≤gb922));have n3_:=Aside0.mk ((by rw[hg];exact(below_size (by repeat(first|(with_reducible first|exact HB.out|apply below_alloc|apply pw_below_drewN|apply below_drew1)|exact HB.out))):w.heap.size≤gb922));clear HB;have HB:=n0_;have BK922:=n1_;have GW922:=n2_;have GE922:=n3_;clear n0_ n1_ n2_ n3_;clear hb hbox hg;have hcz6_0:w5.cell? ⟨gb922,0,none⟩=some (.int .i64 a0_0):=(blk_cell BK922.out 0).trans rfl;have hcz6_1:w5.cell? ⟨gb922,1,none⟩=some (.bool a0_1):=(blk_cell BK922.out 1).trans rfl;have hcz6_2:w5.cell? ⟨gb922,2,none⟩=some (.slice A0_2 l0_2.length c0_2):=(blk_cell BK922.out 2).trans rfl;have hfz6_0:=blk_frozen BK922.out 0;have hfz6_1:=blk_frozen BK922.out 1;have hfz6_2:=blk_frozen BK922.out 2)|((with_reducible refine gate_callee (f:=76) rfl ?_);refine goesL_ (some 12) rfl rfl Try.func76 (by kernel_rfl) rfl #[.agg #[.int .i64 a0_0, .bool a0_1, .slice A0_2 l0_2.length c0_2], .int .i64 a1, .int .i64 a2] rfl (by(try simp only[List.map_toArray,List.map_cons,List.map_nil]);first|done|rfl|(simp only[List.length_drop,List.length_take];rfl)) ?_;(with_reducible refine(maxflow_Max.calls k a0_0 a0_1 _ _ l0_2 a1 a2 t923 t926 t927 _ ?side1 ?side2 A4.out).mono ?_);(case side1=>repeat(first|exact(Kd.C_below HR0_2.out HB.out)|(with_reducible refine Kd.C_alloc ?_ _)|(with_reducible refine Kd.C_drewN ?_ _)|(with_reducible refine Kd.C_drew ?_)));(case side2=>exact HC0_2.out);rintro e w7 ⟨v924,rfl,ho0,hb⟩;refine⟨_,rfl,?_⟩;have n0_:=Aside0.mk (Kd.R_lower ho0 (below_size (by repeat(first|(with_reducible first|exact HB.out|apply below_alloc|apply pw_below_drewN|apply below_drew1|refine below_set ?_ GE922.out)|exact HB.out))));have n1_:=Aside0.mk (blk_below (g:=gb922) (o:= .cells #[.int .i64 a0_0, .bool a0_1, .slice A0_2 l0_2.length c0_2] 24 (0,0)) (by(with_reducible repeat(first|refine blk_drewN ?_ _|refine blk_drew ?_|refine blk_alloc ?_ _));exact BK922.out) hb);have n2_:=Aside0.mk (below_step (by repeat(first|(with_reducible first|exact HB.out|apply below_alloc|apply pw_below_drewN|apply below_drew1|refine below_set ?_ GE922.out)|exact HB.out)) hb);clear BK922;clear HB;have HO925:=n0_;have BK922:=n1_;have HB:=n2_;clear n0_ n1_ n2_;(try clear hb);(try clear hb2);(try clear hk);(try clear hi);(try clear ho0)))
 go_ret2
 exact⟨by first|rfl|(simp[errW_none,errW_some]<;>rfl)|(simp[*,errW_none,errW_some]<;>rfl),by repeat(first|(with_reducible first|exact HB.out|apply below_alloc|apply pw_below_drewN|apply below_drew1|refine below_set ?_ GE922.out)|exact HB.out)⟩
end Go.Proofs.Ytkcpanpdipmmmaa.P
namespace Go.Proofs.Ytkcpanpdipmmmaa.P
open Go.RowKit Go.Proofs.YtkcpanpdipmmmaaW.PrintWords Go.Proofs.YtkcpanpdipmmmaaW.PrintLast Go.Proofs.YtkcpanpdipmmmaaW.PrintMore
attribute [local go_sem] max2_int min2_int max_two min_two max_three min_three max_four min_four
def ebbtidelaw09_awake.f (k:Nat)  :Option (Bool):=(some (([(⟨0,1,3,0⟩:S74),(⟨0,2,2,0⟩:S74),(⟨1,3,2,0⟩:S74),(⟨2,3,3,0⟩:S74),(⟨1,2,5,0⟩:S74)]:List (S74)):List (S74))).bind fun y949=>((maxflow_Max.f k 4 false y949 0 3).bind fun bt953=>((maxflow_Most.f k 4 false y949 3 0).bind fun bt958=>((maxflow_Max.f k 4 false y949 1 1).bind fun bt960=>(if bt953.2.2=0 then(if bt953.2.1=5 then(if (bt953.1.length:Int)=5 then(if bt958.2=0 then(if bt958.1=0 then(some (bt960.2.2 == 70)) else(some false)) else(some false)) else(some false)) else(some false)) else(some false)))))
set_option maxHeartbeats 8000000 in
set_option maxRecDepth 100000 in
theorem ebbtidelaw09_awake.calls (k:Nat)  (r:Bool) (w:World) (h:ebbtidelaw09_awake.f k  =some r) (hrT_:r=true:=by first|rfl|exact Aside0.out (by assumption)):
  Calls Try.prog 75 #[] w fun e w'=>e= .returned (.bool r)∧Below w.heap.size w w':=by
 have HRT:=Aside0.mk hrT_
 clear hrT_
 have hu74:=Try.underlying74
 have hu24:=Try.underlying24
 have HB:=Aside0.mk (Below.refl w.heap.size w)
 have H:((some (([(⟨0,1,3,0⟩:S74),(⟨0,2,2,0⟩:S74),(⟨1,3,2,0⟩:S74),(⟨2,3,3,0⟩:S74),(⟨1,2,5,0⟩:S74)]:List (S74)):List (S74))).bind fun y949=>((maxflow_Max.f k 4 false y949 0 3).bind fun bt953=>((maxflow_Most.f k 4 false y949 3 0).bind fun bt958=>((maxflow_Max.f k 4 false y949 1 1).bind fun bt960=>(if bt953.2.2=0 then(if bt953.2.1=5 then(if (bt953.1.length:Int)=5 then(if bt958.2=0 then(if bt958.1=0 then(some (bt960.2.2 == 70)) else(some false)) else(some false)) else(some false)) else(some false)) else(some false))))))=some r:=h
 clear h
 obtain⟨y949,hy949⟩: ∃ y_:List (S74),y_=(([(⟨0,1,3,0⟩:S74),(⟨0,2,2,0⟩:S74),(⟨1,3,2,0⟩:S74),(⟨2,3,3,0⟩:S74),(⟨1,2,5,0⟩:S74)]:List (S74))):=⟨_,rfl⟩
 replace H:((maxflow_Max.f k 4 false y949 0 3).bind fun bt953=>((maxflow_Most.f k 4 false y949 3 0).bind fun bt958=>((maxflow_Max.f k 4 false y949 1 1).bind fun bt960=>(if bt953.2.2=0 then(if bt953.2.1=5 then(if (bt953.1.length:Int)=5 then(if bt958.2=0 then(if bt958.1=0 then(some (bt960.2.2 == 70)) else(some false)) else(some false)) else(some false)) else(some false)) else(some false)))))=some r:=by first|(rw[hy949];with_reducible exact H)|(have H2_:=(Option.bind_some _ _).symm.trans H;rw[hy949];with_reducible exact H2_)|(have H2_:=(Option.bind_some _ _).symm.trans H;with_reducible exact H2_)|with_reducible exact H|(rw[hy949];exact H)|exact H
 have Ny949:=Aside0.mk hy949
 clear hy949
 replace H:=Option.bind_eq_some_iff.mp H
 obtain⟨⟨t953,t956,t957⟩,A10,H⟩:=H
 replace H:((maxflow_Most.f k 4 false y949 3 0).bind fun bt958=>((maxflow_Max.f k 4 false y949 1 1).bind fun bt960=>(if t957=0 then(if t956=5 then(if (t953.length:Int)=5 then(if bt958.2=0 then(if bt958.1=0 then(some (bt960.2.2 == 70)) else(some false)) else(some false)) else(some false)) else(some false)) else(some false))))=some r:=H
 have A1:=Aside0.mk A10
 clear A10
 replace H:=Option.bind_eq_some_iff.mp H
 obtain⟨⟨t958,t959⟩,A20,H⟩:=H
 replace H:((maxflow_Max.f k 4 false y949 1 1).bind fun bt960=>(if t957=0 then(if t956=5 then(if (t953.length:Int)=5 then(if t959=0 then(if t958=0 then(some (bt960.2.2 == 70)) else(some false)) else(some false)) else(some false)) else(some false)) else(some false)))=some r:=H
 have A2:=Aside0.mk A20
 clear A20
 replace H:=Option.bind_eq_some_iff.mp H
 obtain⟨⟨t960,t963,t964⟩,A30,H⟩:=H
 replace H:(if t957=0 then(if t956=5 then(if (t953.length:Int)=5 then(if t959=0 then(if t958=0 then(some (t964 == 70)) else(some false)) else(some false)) else(some false)) else(some false)) else(some false))=some r:=H
 have A3:=Aside0.mk A30
 clear A30
 by_cases c4:t957=0
 rotate_left
 ·rw[if_neg c4] at H
  exact absurd (Option.some.inj H) (by rw[HRT.out];decide)
 rw[if_pos c4] at H
 have c4b0:(t957 == 0)=true:=beq_iff_eq.mpr c4
 have c4b1:(t957 != 0)=false:=bne_eq_false_iff_eq.mpr c4
 clear c4
 by_cases c5:t956=5
 rotate_left
 ·rw[if_neg c5] at H
  exact absurd (Option.some.inj H) (by rw[HRT.out];decide)
 rw[if_pos c5] at H
 have c5b0:(t956 == 5)=true:=beq_iff_eq.mpr c5
 have c5b1:(t956 != 5)=false:=bne_eq_false_iff_eq.mpr c5
 clear c5
 by_cases c6:(t953.length:Int)=5
 rotate_left
 ·rw[if_neg c6] at H
  exact absurd (Option.some.inj H) (by rw[HRT.out];decide)
 rw[if_pos c6] at H
 have c6b0:((t953.length:Int) == 5)=true:=beq_iff_eq.mpr c6
 have c6b1:((t953.length:Int) != 5)=false:=bne_eq_false_iff_eq.mpr c6
 clear c6
 by_cases c7:t959=0
 rotate_left
 ·rw[if_neg c7] at H
  exact absurd (Option.some.inj H) (by rw[HRT.out];decide)
 rw[if_pos c7] at H
 have c7b0:(t959 == 0)=true:=beq_iff_eq.mpr c7
 have c7b1:(t959 != 0)=false:=bne_eq_false_iff_eq.mpr c7
 clear c7
 by_cases c8:t958=0
 rotate_left
 ·rw[if_neg c8] at H
  exact absurd (Option.some.inj H) (by rw[HRT.out];decide)
 rw[if_pos c8] at H
 have c8b0:(t958 == 0)=true:=beq_iff_eq.mpr c8
 have c8b1:(t958 != 0)=false:=bne_eq_false_iff_eq.mpr c8
 clear c8
 obtain rfl:=Option.some.inj H
 go_enter Try.func75,Try.ntmps75
 go_wp2_with (first|((with_reducible refine gate_dst (N:=15) rfl ?_);(try (refine gate_guard (by rfl) ?_;dsimp only));refine Kd.R_lit k74 _ 74 ?hg (N:=15) ?hd (xs:=([(⟨0,1,3,0⟩:S74),(⟨0,2,2,0⟩:S74),(⟨1,3,2,0⟩:S74),(⟨2,3,3,0⟩:S74),(⟨1,2,5,0⟩:S74)]:List (S74))) (inner:=[.int .i64 0, .int .i64 1, .int .i64 3, .int .i64 0, .int .i64 0, .int .i64 2, .int .i64 2, .int .i64 0, .int .i64 1, .int .i64 3, .int .i64 2, .int .i64 0, .int .i64 2, .int .i64 3, .int .i64 3, .int .i64 0, .int .i64 1, .int .i64 2, .int .i64 5, .int .i64 0]) (ok:=fun _=>True) (okp:=fun _=>True) ?hr ?hp (fun _ hk=>hk) trivial (Below.refl _ _) (Nat.le_refl _) (by simp) ?_;(case hd=>rfl);(case hg=>rfl);(case hr=>first|(go_simp;done)|(go_simp;rfl));(case hp=>exact(Reps.c4 (show Kd.M k74 _ _ _ (⟨0,1,3,0⟩:S74) [.int .i64 0, .int .i64 1, .int .i64 3, .int .i64 0] from(k74_mkM _ _ _ (⟨0,1,3,0⟩:S74) )) (Reps.c4 (show Kd.M k74 _ _ _ (⟨0,2,2,0⟩:S74) [.int .i64 0, .int .i64 2, .int .i64 2, .int .i64 0] from(k74_mkM _ _ _ (⟨0,2,2,0⟩:S74) )) (Reps.c4 (show Kd.M k74 _ _ _ (⟨1,3,2,0⟩:S74) [.int .i64 1, .int .i64 3, .int .i64 2, .int .i64 0] from(k74_mkM _ _ _ (⟨1,3,2,0⟩:S74) )) (Reps.c4 (show Kd.M k74 _ _ _ (⟨2,3,3,0⟩:S74) [.int .i64 2, .int .i64 3, .int .i64 3, .int .i64 0] from(k74_mkM _ _ _ (⟨2,3,3,0⟩:S74) )) (Reps.c4 (show Kd.M k74 _ _ _ (⟨1,2,5,0⟩:S74) [.int .i64 1, .int .i64 2, .int .i64 5, .int .i64 0] from(k74_mkM _ _ _ (⟨1,2,5,0⟩:S74) )) (Reps.none _ _)))))));intro v950 w9 ho10 hb hg_ hnew_;clear hg_ hnew_;(first|rw[← Ny949.out] at ho10|(simp only[Int.reduceToNat] at ho10;rw[← Ny949.out] at ho10));have n0_:=Aside0.mk (Kd.R_lower ho10 (below_size (by repeat(first|(with_reducible first|exact HB.out|apply below_alloc|apply pw_below_drewN|apply below_drew1)|exact HB.out))));have n1_:=Aside0.mk (below_step (by repeat(first|(with_reducible first|exact HB.out|apply below_alloc|apply pw_below_drewN|apply below_drew1)|exact HB.out)) hb);clear HB;have HO951:=n0_;have HB:=n1_;clear n0_ n1_;clear hb ho10;obtain⟨Ao11,co11,eo11⟩:=Kd.R_slice HO951.out;subst eo11)|((with_reducible refine gate_dst (N:=1) rfl ?_);(try (refine gate_guard (by rfl) ?_;dsimp only));refine box_event ?hg (N:=1) ?hd (cs:= #[.int .i64 0, .bool false, .slice none 0 0]) (t:=24) ?hr ?_;(case hd=>rfl);(case hg=>rfl);(case hr=>first|(go_simp;done)|(go_simp;rfl));intro gb952 hg w12 hbox hb;have n0_:=Aside0.mk (Kd.R_below (by(with_reducible repeat(first|apply Kd.R_alloc|apply Kd.R_drewN|apply Kd.R_drew));exact HO951.out) hb);have n1_:=Aside0.mk (below_step (by repeat(first|(with_reducible first|exact HB.out|apply below_alloc|apply pw_below_drewN|apply below_drew1)|exact HB.out)) hb);have n2_:=Aside0.mk (hbox);have n3_:=Aside0.mk ((by rw[hg];exact(below_size (by repeat(first|(with_reducible first|exact HB.out|apply below_alloc|apply pw_below_drewN|apply below_drew1)|exact HB.out))):w.heap.size≤gb952));have n4_:=Aside0.mk ((by rw[hg];exact(below_size (by repeat(first|(with_reducible first|exact HB.out|apply below_alloc|apply pw_below_drewN|apply below_drew1)|exact HB.out))):w.heap.size≤gb952));clear HO951;clear HB;have HO951:=n0_;have HB:=n1_;have BK952:=n2_;have GW952:=n3_;have GE952:=n4_;clear n0_ n1_ n2_ n3_ n4_;clear hb hbox hg;have hcz13_0:w12.cell? ⟨gb952,0,none⟩=some (.int .i64 0):=(blk_cell BK952.out 0).trans rfl;have hcz13_1:w12.cell? ⟨gb952,1,none⟩=some (.bool false):=(blk_cell BK952.out 1).trans rfl;have hcz13_2:w12.cell? ⟨gb952,2,none⟩=some (.slice none 0 0):=(blk_cell BK952.out 2).trans rfl;have hfz13_0:=blk_frozen BK952.out 0;have hfz13_1:=blk_frozen BK952.out 1;have hfz13_2:=blk_frozen BK952.out 2)|((with_reducible refine gate_callee (f:=76) rfl ?_);refine goesL_ (some 19) rfl rfl Try.func76 (by kernel_rfl) rfl #[.agg #[.int .i64 4, .bool false, .slice Ao11 y949.length co11], .int .i64 0, .int .i64 3] rfl (by(try simp only[List.map_toArray,List.map_cons,List.map_nil]);first|done|rfl|(simp only[List.length_drop,List.length_take];rfl)) ?_;(with_reducible refine(maxflow_Max.calls k 4 false _ _ y949 0 3 t953 t956 t957 _ ?side1 ?side2 A1.out).mono ?_);(case side1=>refine(Kd.R_reads' (e:=74) (base:=w.heap.size) (ok:=fun k_=>True) (n:=y949.length) (c:=co11) ?_).2.2;exact(by(with_reducible repeat(first|apply Kd.R_alloc|apply Kd.R_drewN|apply Kd.R_drew));exact(Kd.R_mono (Kd.R_far (p:=⟨gb952,2,none⟩) (Kd.R_far (p:=⟨gb952,1,none⟩) (Kd.R_far (p:=⟨gb952,0,none⟩) (Kd.R_types HO951.out BK952.out (by decide)) (fun _ hk=>hk.2) (.int .i64 4)) (fun _ hk=>hk.2) (.bool false)) (fun _ hk=>hk.2) (.slice Ao11 y949.length co11)) (fun _ h_=>h_.1))));(case side2=>exact(Kd.R_reads' HO951.out).2.1);rintro e w14 ⟨v954,rfl,ho0,hb⟩;refine⟨_,rfl,?_⟩;have n0_:=Aside0.mk (Kd.R_below (by(with_reducible repeat(first|apply Kd.R_alloc|apply Kd.R_drewN|apply Kd.R_drew));exact(Kd.R_mono (Kd.R_far (p:=⟨gb952,2,none⟩) (Kd.R_far (p:=⟨gb952,1,none⟩) (Kd.R_far (p:=⟨gb952,0,none⟩) (Kd.R_types HO951.out BK952.out (by decide)) (fun _ hk=>hk.2) (.int .i64 4)) (fun _ hk=>hk.2) (.bool false)) (fun _ hk=>hk.2) (.slice Ao11 y949.length co11)) (fun _ h_=>h_.1))) hb);have n1_:=Aside0.mk (Kd.R_lower ho0 (below_size (by repeat(first|(with_reducible first|exact HB.out|apply below_alloc|apply pw_below_drewN|apply below_drew1|refine below_set ?_ GE952.out)|exact HB.out))));have n2_:=Aside0.mk (blk_below (g:=gb952) (o:= .cells #[.int .i64 4, .bool false, .slice Ao11 y949.length co11] 24 (0,0)) (by(with_reducible repeat(first|refine blk_drewN ?_ _|refine blk_drew ?_|refine blk_alloc ?_ _));refine blk_put (cs:= #[.int .i64 4, .bool false, .slice none 0 0]) ?_ 2 _ rfl;(with_reducible repeat(first|refine blk_drewN ?_ _|refine blk_drew ?_|refine blk_alloc ?_ _));refine blk_put (cs:= #[.int .i64 4, .bool false, .slice none 0 0]) ?_ 1 _ rfl;(with_reducible repeat(first|refine blk_drewN ?_ _|refine blk_drew ?_|refine blk_alloc ?_ _));refine blk_put (cs:= #[.int .i64 0, .bool false, .slice none 0 0]) ?_ 0 _ rfl;(with_reducible repeat(first|refine blk_drewN ?_ _|refine blk_drew ?_|refine blk_alloc ?_ _));exact BK952.out) hb);have n3_:=Aside0.mk (below_step (by repeat(first|(with_reducible first|exact HB.out|apply below_alloc|apply pw_below_drewN|apply below_drew1|refine below_set ?_ GE952.out)|exact HB.out)) hb);clear HO951;clear BK952;clear HB;have HO951:=n0_;have HO955:=n1_;have BK952:=n2_;have HB:=n3_;clear n0_ n1_ n2_ n3_;(try clear hb);(try clear hb2);(try clear hk);(try clear hi);(try clear ho0);have hcz15_0:w14.cell? ⟨gb952,0,none⟩=some (.int .i64 4):=(blk_cell BK952.out 0).trans rfl;have hcz15_1:w14.cell? ⟨gb952,1,none⟩=some (.bool false):=(blk_cell BK952.out 1).trans rfl;have hcz15_2:w14.cell? ⟨gb952,2,none⟩=some (.slice Ao11 y949.length co11):=(blk_cell BK952.out 2).trans rfl;have hfz15_0:=blk_frozen BK952.out 0;have hfz15_1:=blk_frozen BK952.out 1;have hfz15_2:=blk_frozen BK952.out 2)|((with_reducible refine gate_callee (f:=73) rfl ?_);refine goesL_ (some 25) rfl rfl Try.func73 (by kernel_rfl) rfl #[.agg #[.int .i64 4, .bool false, .slice Ao11 y949.length co11], .int .i64 3, .int .i64 0] rfl (by(try simp only[List.map_toArray,List.map_cons,List.map_nil]);first|done|rfl|(simp only[List.length_drop,List.length_take];rfl)) ?_;(with_reducible refine(maxflow_Most.calls k 4 false _ _ y949 3 0 t958 t959 _ ?side1 ?side2 A2.out).mono ?_);(case side1=>repeat(first|exact(Kd.R_reads' HO951.out).2.2|(with_reducible refine Kd.C_alloc ?_ _)|(with_reducible refine Kd.C_drewN ?_ _)|(with_reducible refine Kd.C_drew ?_)));(case side2=>exact(Kd.R_reads' HO951.out).2.1);rintro e w16 ⟨rfl,hb⟩;refine⟨_,rfl,?_⟩;have n0_:=Aside0.mk (Kd.R_below (by(with_reducible repeat(first|apply Kd.R_alloc|apply Kd.R_drewN|apply Kd.R_drew));exact HO951.out) hb);have n1_:=Aside0.mk (Kd.R_below (by(with_reducible repeat(first|apply Kd.R_alloc|apply Kd.R_drewN|apply Kd.R_drew));exact HO955.out) hb);have n2_:=Aside0.mk (blk_below (g:=gb952) (o:= .cells #[.int .i64 4, .bool false, .slice Ao11 y949.length co11] 24 (0,0)) (by(with_reducible repeat(first|refine blk_drewN ?_ _|refine blk_drew ?_|refine blk_alloc ?_ _));exact BK952.out) hb);have n3_:=Aside0.mk (below_step (by repeat(first|(with_reducible first|exact HB.out|apply below_alloc|apply pw_below_drewN|apply below_drew1|refine below_set ?_ GE952.out)|exact HB.out)) hb);clear HO951;clear HO955;clear BK952;clear HB;have HO951:=n0_;have HO955:=n1_;have BK952:=n2_;have HB:=n3_;clear n0_ n1_ n2_ n3_;(try clear hb);(try clear hb2);(try clear hk);(try clear hi);have hcz17_0:w16.cell? ⟨gb952,0,none⟩=some (.int .i64 4):=(blk_cell BK952.out 0).trans rfl;have hcz17_1:w16.cell? ⟨gb952,1,none⟩=some (.bool false):=(blk_cell BK952.out 1).trans rfl;have hcz17_2:w16.cell? ⟨gb952,2,none⟩=some (.slice Ao11 y949.length co11):=(blk_cell BK952.out 2).trans rfl;have hfz17_0:=blk_frozen BK952.out 0;have hfz17_1:=blk_frozen BK952.out 1;have hfz17_2:=blk_frozen BK952.out 2)|((with_reducible refine gate_callee (f:=76) rfl ?_);refine goesL_ (some 30) rfl rfl Try.func76 (by kernel_rfl) rfl #[.agg #[.int .i64 4, .bool false, .slice Ao11 y949.length co11], .int .i64 1, .int .i64 1] rfl (by(try simp only[List.map_toArray,List.map_cons,List.map_nil]);first|done|rfl|(simp only[List.length_drop,List.length_take];rfl)) ?_;(with_reducible refine(maxflow_Max.calls k 4 false _ _ y949 1 1 t960 t963 t964 _ ?side1 ?side2 A3.out).mono ?_);(case side1=>repeat(first|exact(Kd.R_reads' HO951.out).2.2|(with_reducible refine Kd.C_alloc ?_ _)|(with_reducible refine Kd.C_drewN ?_ _)|(with_reducible refine Kd.C_drew ?_)));(case side2=>exact(Kd.R_reads' HO951.out).2.1);rintro e w18 ⟨v961,rfl,ho0,hb⟩;refine⟨_,rfl,?_⟩;have n0_:=Aside0.mk (Kd.R_below (by(with_reducible repeat(first|apply Kd.R_alloc|apply Kd.R_drewN|apply Kd.R_drew));exact HO951.out) hb);have n1_:=Aside0.mk (Kd.R_elder' (by(with_reducible repeat(first|apply Kd.R_alloc|apply Kd.R_drewN|apply Kd.R_drew));exact HO955.out) (Kd.R_base ho0) hb);have n2_:=Aside0.mk (Kd.R_lower (Kd.R_new' ho0 (Kd.R_lt (by(with_reducible repeat(first|apply Kd.R_alloc|apply Kd.R_drewN|apply Kd.R_drew));exact HO955.out))) (below_size (by repeat(first|(with_reducible first|exact HB.out|apply below_alloc|apply pw_below_drewN|apply below_drew1|refine below_set ?_ GE952.out)|exact HB.out))));have n3_:=Aside0.mk (blk_below (g:=gb952) (o:= .cells #[.int .i64 4, .bool false, .slice Ao11 y949.length co11] 24 (0,0)) (by(with_reducible repeat(first|refine blk_drewN ?_ _|refine blk_drew ?_|refine blk_alloc ?_ _));exact BK952.out) hb);have n4_:=Aside0.mk (below_step (by repeat(first|(with_reducible first|exact HB.out|apply below_alloc|apply pw_below_drewN|apply below_drew1|refine below_set ?_ GE952.out)|exact HB.out)) hb);clear HO951;clear HO955;clear BK952;clear HB;have HO951:=n0_;have HO955:=n1_;have HO962:=n2_;have BK952:=n3_;have HB:=n4_;clear n0_ n1_ n2_ n3_ n4_;(try clear hb);(try clear hb2);(try clear hk);(try clear hi);(try clear ho0);obtain⟨Ao19,co19,eo19⟩:=Kd.R_slice HO955.out;subst eo19))
 go_ret
 exact⟨by first|rfl|(simp[errW_none,errW_some]<;>rfl)|(simp[*,errW_none,errW_some]<;>rfl),by repeat(first|(with_reducible first|exact HB.out|apply below_alloc|apply pw_below_drewN|apply below_drew1|refine below_set ?_ GE952.out)|exact HB.out)⟩
end Go.Proofs.Ytkcpanpdipmmmaa.P
