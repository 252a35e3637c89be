/- What the law's row needs of these texts, taken out of them by wip/tool/mini.py: P101 P178 P179 P92 P93 P95 P180. -/
import Derived.Test.YtkcpanpdipmmmaaMhbmfmk
import Derived.Test.YtkcpanpdipmmmaaMnhmlfp
import Derived.Test.YtkcpanpdipmmmaaMollpmc
set_option linter.unusedVariables false
set_option linter.unusedSimpArgs false
namespace Go.Proofs.Ytkcpanpdipmmmaa.P
open Go.RowKit Go.Proofs.YtkcpanpdipmmmaaW.PrintWords Go.Proofs.YtkcpanpdipmmmaaW.PrintLast Go.Proofs.YtkcpanpdipmmmaaW.PrintMore
attribute [local go_sem] max2_int min2_int max_two min_two max_three min_three max_four min_four
def maxflow_Value.l0:Nat→Int→List Int→Int→List (S74)→Int→Int→Option (Int)
 |0,_,_,_,_,_,_=>none
 |k+1,x1,x2,x7,x11,x12,x13=>if x13<x12 then(if 0≤x13 then(if x13<(x11.length:Int) then(if ((rd_T74 x11 x13).f0)=x1 then(if x13<(x2.length:Int) then(if ((rd_T74 x11 x13).f1)=x1 then(maxflow_Value.l0 k x1 x2 (wrap64 ((wrap64 (x7+(rd x2 x13))) - (rd x2 x13))) x11 x12 (wrap64 (x13+1))) else(maxflow_Value.l0 k x1 x2 (wrap64 (x7+(rd x2 x13))) x11 x12 (wrap64 (x13+1)))) else(none)) else(if ((rd_T74 x11 x13).f1)=x1 then(if x13<(x2.length:Int) then(maxflow_Value.l0 k x1 x2 (wrap64 (x7 - (rd x2 x13))) x11 x12 (wrap64 (x13+1))) else(none)) else(maxflow_Value.l0 k x1 x2 x7 x11 x12 (wrap64 (x13+1))))) else(none)) else(none)) else(some x7)
def maxflow_Value.f (k:Nat) (a0_0:Int) (a0_1:Bool) (l0_2:List (S74)) (a1:Int) (l2:List Int):Option (Int):=maxflow_Value.l0 k a1 l2 0 l0_2 (l0_2.length:Int) 0
set_option maxHeartbeats 8000000 in
set_option maxRecDepth 100000 in
theorem maxflow_Value.calls (k:Nat) (a0_0:Int) (a0_1:Bool) (A0_2:Option Addr) (c0_2:Nat) (l0_2:List (S74)) (a1:Int) (A2:Option Addr) (c2:Nat) (l2:List Int) (r:Int) (w:World) (hr0_2:Kd.C k74 w A0_2 l0_2.length l0_2) (hc0_2:l0_2.length≤c0_2) (hr2:Kd.C (Kd.int .i64) w A2 l2.length l2) (hc2:l2.length≤c2) (h:maxflow_Value.f k a0_0 a0_1 l0_2 a1 l2=some r):
  Calls Try.prog 119 #[.agg #[.int .i64 a0_0, .bool a0_1, .slice A0_2 l0_2.length c0_2], .int .i64 a1, .slice A2 l2.length c2] w fun e w'=>e= .returned (.int .i64 r)∧Below w.heap.size w w':=by
 have hu24:=Try.underlying24
 have hu74:=Try.underlying74
 have HR0_2:=Aside0.mk hr0_2
 have HC0_2:=Aside0.mk hc0_2
 clear hr0_2 hc0_2
 have HR2:=Aside0.mk hr2
 have HC2:=Aside0.mk hc2
 clear hr2 hc2
 have HB:=Aside0.mk (Below.refl w.heap.size w)
 have H:(maxflow_Value.l0 k a1 l2 0 l0_2 (l0_2.length:Int) 0)=some r:=h
 clear h
 have H':=Aside0.mk H
 clear H
 go_enter Try.func119,Try.ntmps119
 go_wp2_with (first|((with_reducible refine gate_dst (N:=3) rfl ?_);refine box_event ?hg (N:=3) ?hd (cs:= #[.int .i64 a0_0, .bool a0_1, .slice A0_2 l0_2.length c0_2]) (t:=24) ?hr ?_;(case hd=>rfl);(case hg=>rfl);(case hr=>first|(go_simp;done)|(go_simp;rfl));intro gb758 hg w4 hbox hb;have n0_:=Aside0.mk (below_step HB.out hb);have n1_:=Aside0.mk (hbox);have n2_:=Aside0.mk ((by rw[hg];exact(below_size HB.out):w.heap.size≤gb758));have n3_:=Aside0.mk ((by rw[hg];exact(below_size HB.out):w.heap.size≤gb758));clear HB;have HB:=n0_;have BK758:=n1_;have GW758:=n2_;have GE758:=n3_;clear n0_ n1_ n2_ n3_;clear hb hbox hg;have hcz5_0:w4.cell? ⟨gb758,0,none⟩=some (.int .i64 a0_0):=(blk_cell BK758.out 0).trans rfl;have hcz5_1:w4.cell? ⟨gb758,1,none⟩=some (.bool a0_1):=(blk_cell BK758.out 1).trans rfl;have hcz5_2:w4.cell? ⟨gb758,2,none⟩=some (.slice A0_2 l0_2.length c0_2):=(blk_cell BK758.out 2).trans rfl;have hfz5_0:=blk_frozen BK758.out 0;have hfz5_1:=blk_frozen BK758.out 1;have hfz5_2:=blk_frozen BK758.out 2))
 go_loopg [7,13] k (fun kq v7 v13 w'=> ∃ (x7_1:Int) (x13_1:Int),v7= .int .i64 x7_1∧v13= .int .i64 x13_1∧Aside0 (maxflow_Value.l0 kq a1 l2 x7_1 l0_2 (l0_2.length:Int) x13_1=some r)∧Aside0 (kq≤k)∧Aside0 (w'.heap[gb758]? =some (.cells #[.int .i64 a0_0, .bool a0_1,(.slice A0_2 l0_2.length c0_2)] 24 (0,0)))∧Aside0 (Below w.heap.size w w'))
 case atStart=>exact⟨(0),(0),(by first|rfl|(simp;done)|(simp[*];done)),(by first|rfl|(simp;done)|(simp[*];done)),H',⟨Nat.le_refl _⟩,⟨BK758.out⟩,⟨HB.out⟩⟩
 case round=>
  clear H'
  try clear c1
  try clear c2
  try clear p2
  try clear hcz5_0
  try clear hcz5_1
  try clear hcz5_2
  try clear hfz5_0
  try clear hfz5_1
  try clear hfz5_2
  obtain⟨x7_1,x13_1,rfl,rfl,HA,HK1,BK758,HB⟩:=hrel
  cases gk with
  |zero=>exact absurd HA.out (by simp[maxflow_Value.l0])
  |succ k1=>
   have H:=HA.out
   clear HA
   simp only[maxflow_Value.l0] at H
   by_cases c6:x13_1<(l0_2.length:Int)
   rotate_left
   ·rw[if_neg c6] at H
    have c6b0:decide (x13_1<(l0_2.length:Int))=false:=decide_eq_false c6
    clear c6
    obtain rfl:=Option.some.inj H
    go_wp2
    go_ret
    exact⟨by first|rfl|(simp[errW_none,errW_some]<;>rfl)|(simp[*,errW_none,errW_some]<;>rfl),HB.out⟩
   rw[if_pos c6] at H
   have c6b0:decide (x13_1<(l0_2.length:Int))=true:=decide_eq_true c6
   clear c6
   by_cases c7:0≤x13_1
   rotate_left
   ·rw[if_neg c7] at H
    exact absurd H (by simp)
   rw[if_pos c7] at H
   have c7b0:decide (0≤x13_1)=true:=decide_eq_true c7
   clear c7
   by_cases c8:x13_1<(l0_2.length:Int)
   rotate_left
   ·rw[if_neg c8] at H
    exact absurd H (by simp)
   rw[if_pos c8] at H
   have c8b0:decide (x13_1<(l0_2.length:Int))=true:=decide_eq_true c8
   clear c8
   by_cases c9:((rd_T74 l0_2 x13_1).f0)=a1
   rotate_left
   ·rw[if_neg c9] at H
    have c9b0:(((rd_T74 l0_2 x13_1).f0) == a1)=false:=beq_eq_false_iff_ne.mpr c9
    have c9b1:(((rd_T74 l0_2 x13_1).f0) != a1)=true:=bne_iff_ne.mpr c9
    by_cases c18:((rd_T74 l0_2 x13_1).f1)=a1
    rotate_left
    ·rw[if_neg c18] at H
     have c18b0:(((rd_T74 l0_2 x13_1).f1) == a1)=false:=beq_eq_false_iff_ne.mpr c18
     have c18b1:(((rd_T74 l0_2 x13_1).f1) != a1)=true:=bne_iff_ne.mpr c18
     have H':=Aside0.mk H
     clear H
     have p759:0≤(x13_1:Int):=of_decide_eq_true (by first|(with_reducible assumption)|assumption)
     have q759:x13_1<(l0_2.length:Int):=of_decide_eq_true (by first|(with_reducible assumption)|assumption)
     obtain⟨ad759,e759,hx759_0,hx759_1,hx759_2,hx759_3⟩:=at_T74 HR0_2.out x13_1 p759 q759
     cases e759
     replace hx759_0:=(HB.out.cell (World.block_lt_of_cell? w _ hx759_0)).trans hx759_0
     replace hx759_1:=(HB.out.cell (World.block_lt_of_cell? w _ hx759_1)).trans hx759_1
     replace hx759_2:=(HB.out.cell (World.block_lt_of_cell? w _ hx759_2)).trans hx759_2
     replace hx759_3:=(HB.out.cell (World.block_lt_of_cell? w _ hx759_3)).trans hx759_3
     replace p759:=eq_true p759
     replace q759:=eq_true q759
     go_wp2_with (first|((with_reducible refine gate_dst (N:=9) rfl ?_);refine box_event ?hg (N:=9) ?hd (cs:= #[.int .i64 0, .int .i64 0, .int .i64 0, .int .i64 0]) (t:=74) ?hr ?_;(case hd=>rfl);(case hg=>rfl);(case hr=>first|(go_simp;done)|(go_simp;rfl));intro gb760 hg w23 hbox hb;have n0_:=Aside0.mk (blk_below BK758.out hb);have n1_:=Aside0.mk (below_step HB.out hb);have n2_:=Aside0.mk (hbox);have n3_:=Aside0.mk ((by rw[hg];exact(below_size HB.out):w.heap.size≤gb760));have n4_:=Aside0.mk ((by rw[hg];exact(below_size HB.out):w.heap.size≤gb760));have n5_:=Aside0.mk ((by rw[hg];exact Nat.ne_of_lt (blk_lt BK758.out):gb758≠gb760));have n6_:=Aside0.mk ((by rw[hg];exact Nat.ne_of_gt (blk_lt BK758.out):gb760≠gb758));clear BK758;clear HB;have BK758:=n0_;have HB:=n1_;have BK760:=n2_;have GW760:=n3_;have GE760:=n4_;have NB758_760:=n5_;have NB760_758:=n6_;clear n0_ n1_ n2_ n3_ n4_ n5_ n6_;clear hb hbox hg;have hnb24:=NB760_758.out;have hnc24:=NB758_760.out;have hcz25_0:w23.cell? ⟨gb760,0,none⟩=some (.int .i64 0):=(blk_cell BK760.out 0).trans rfl;have hcz25_1:w23.cell? ⟨gb760,1,none⟩=some (.int .i64 0):=(blk_cell BK760.out 1).trans rfl;have hcz25_2:w23.cell? ⟨gb760,2,none⟩=some (.int .i64 0):=(blk_cell BK760.out 2).trans rfl;have hcz25_3:w23.cell? ⟨gb760,3,none⟩=some (.int .i64 0):=(blk_cell BK760.out 3).trans rfl;have hfz25_0:=blk_frozen BK760.out 0;have hfz25_1:=blk_frozen BK760.out 1;have hfz25_2:=blk_frozen BK760.out 2;have hfz25_3:=blk_frozen BK760.out 3))
     go_roundg k1
     case measure=>have:=HK1.out;omega
     case rel=>exact⟨(x7_1),(wrap64 (x13_1+1)),(by first|rfl|(simp;done)|(simp[*];done)),(by first|rfl|(simp;done)|(simp[*];done)),H',⟨by have:=HK1.out;omega⟩,⟨by(with_reducible repeat(first|refine blk_drewN ?_ _|refine blk_drew ?_|refine blk_alloc ?_ _));refine blk_far ?_ NB758_760.out _;(with_reducible repeat(first|refine blk_drewN ?_ _|refine blk_drew ?_|refine blk_alloc ?_ _));refine blk_far ?_ NB758_760.out _;(with_reducible repeat(first|refine blk_drewN ?_ _|refine blk_drew ?_|refine blk_alloc ?_ _));refine blk_far ?_ NB758_760.out _;(with_reducible repeat(first|refine blk_drewN ?_ _|refine blk_drew ?_|refine blk_alloc ?_ _));refine blk_far ?_ NB758_760.out _;(with_reducible repeat(first|refine blk_drewN ?_ _|refine blk_drew ?_|refine blk_alloc ?_ _));exact BK758.out⟩,⟨by repeat(first|(with_reducible first|exact HB.out|apply below_alloc|apply pw_below_drewN|apply below_drew1|refine below_set ?_ GE758.out|refine below_set ?_ GE760.out)|exact HB.out)⟩⟩
    rw[if_pos c18] at H
    have c18b0:(((rd_T74 l0_2 x13_1).f1) == a1)=true:=beq_iff_eq.mpr c18
    have c18b1:(((rd_T74 l0_2 x13_1).f1) != a1)=false:=bne_eq_false_iff_eq.mpr c18
    clear c18
    by_cases c19:x13_1<(l2.length:Int)
    rotate_left
    ·rw[if_neg c19] at H
     exact absurd H (by simp)
    rw[if_pos c19] at H
    have c19b0:decide (x13_1<(l2.length:Int))=true:=decide_eq_true c19
    clear c19
    have H':=Aside0.mk H
    clear H
    have p759:0≤(x13_1:Int):=of_decide_eq_true (by first|(with_reducible assumption)|assumption)
    have q759:x13_1<(l0_2.length:Int):=of_decide_eq_true (by first|(with_reducible assumption)|assumption)
    obtain⟨ad759,e759,hx759_0,hx759_1,hx759_2,hx759_3⟩:=at_T74 HR0_2.out x13_1 p759 q759
    cases e759
    replace hx759_0:=(HB.out.cell (World.block_lt_of_cell? w _ hx759_0)).trans hx759_0
    replace hx759_1:=(HB.out.cell (World.block_lt_of_cell? w _ hx759_1)).trans hx759_1
    replace hx759_2:=(HB.out.cell (World.block_lt_of_cell? w _ hx759_2)).trans hx759_2
    replace hx759_3:=(HB.out.cell (World.block_lt_of_cell? w _ hx759_3)).trans hx759_3
    replace p759:=eq_true p759
    replace q759:=eq_true q759
    go_wp2_with (first|((with_reducible refine gate_dst (N:=9) rfl ?_);refine box_event ?hg (N:=9) ?hd (cs:= #[.int .i64 0, .int .i64 0, .int .i64 0, .int .i64 0]) (t:=74) ?hr ?_;(case hd=>rfl);(case hg=>rfl);(case hr=>first|(go_simp;done)|(go_simp;rfl));intro gb760 hg w20 hbox hb;have n0_:=Aside0.mk (blk_below BK758.out hb);have n1_:=Aside0.mk (below_step HB.out hb);have n2_:=Aside0.mk (hbox);have n3_:=Aside0.mk ((by rw[hg];exact(below_size HB.out):w.heap.size≤gb760));have n4_:=Aside0.mk ((by rw[hg];exact(below_size HB.out):w.heap.size≤gb760));have n5_:=Aside0.mk ((by rw[hg];exact Nat.ne_of_lt (blk_lt BK758.out):gb758≠gb760));have n6_:=Aside0.mk ((by rw[hg];exact Nat.ne_of_gt (blk_lt BK758.out):gb760≠gb758));clear BK758;clear HB;have BK758:=n0_;have HB:=n1_;have BK760:=n2_;have GW760:=n3_;have GE760:=n4_;have NB758_760:=n5_;have NB760_758:=n6_;clear n0_ n1_ n2_ n3_ n4_ n5_ n6_;clear hb hbox hg;have hnb21:=NB760_758.out;have hnc21:=NB758_760.out;have hcz22_0:w20.cell? ⟨gb760,0,none⟩=some (.int .i64 0):=(blk_cell BK760.out 0).trans rfl;have hcz22_1:w20.cell? ⟨gb760,1,none⟩=some (.int .i64 0):=(blk_cell BK760.out 1).trans rfl;have hcz22_2:w20.cell? ⟨gb760,2,none⟩=some (.int .i64 0):=(blk_cell BK760.out 2).trans rfl;have hcz22_3:w20.cell? ⟨gb760,3,none⟩=some (.int .i64 0):=(blk_cell BK760.out 3).trans rfl;have hfz22_0:=blk_frozen BK760.out 0;have hfz22_1:=blk_frozen BK760.out 1;have hfz22_2:=blk_frozen BK760.out 2;have hfz22_3:=blk_frozen BK760.out 3;have p763:0≤(x13_1:Int):=of_decide_eq_true (by first|(with_reducible assumption)|assumption);have q763:x13_1<(l2.length:Int):=of_decide_eq_true (by first|(with_reducible assumption)|assumption);obtain⟨ad763,e763,hx763_0⟩:=Kd.at_int HR2.out x13_1 p763 q763;cases e763;have hn763_0:ad763.block≠gb760:=Nat.ne_of_lt (Nat.lt_of_lt_of_le (by have:=World.block_lt_of_cell? _ _ hx763_0;first|rwa [add_block] at this|exact this) GW760.out);have hn763_1:ad763.block≠gb760:=Nat.ne_of_lt (Nat.lt_of_lt_of_le (by have:=World.block_lt_of_cell? _ _ hx763_0;first|rwa [add_block] at this|exact this) GW760.out);have hn763_2:ad763.block≠gb760:=Nat.ne_of_lt (Nat.lt_of_lt_of_le (by have:=World.block_lt_of_cell? _ _ hx763_0;first|rwa [add_block] at this|exact this) GW760.out);have hn763_3:ad763.block≠gb760:=Nat.ne_of_lt (Nat.lt_of_lt_of_le (by have:=World.block_lt_of_cell? _ _ hx763_0;first|rwa [add_block] at this|exact this) GW760.out);replace hx763_0:=(HB.out.cell (World.block_lt_of_cell? w _ hx763_0)).trans hx763_0;replace hx763_0:=(cell_far (p:=⟨gb760,0,none⟩) (by first|(rw[add_block];exact hn763_0)|(show (Addr.add _ _).block≠_;rw[add_block];exact hn763_0)|exact hn763_0) (.int .i64 ((rd_T74 l0_2 x13_1).f0))).trans hx763_0;replace hx763_0:=(cell_far (p:=⟨gb760,1,none⟩) (by first|(rw[add_block];exact hn763_1)|(show (Addr.add _ _).block≠_;rw[add_block];exact hn763_1)|exact hn763_1) (.int .i64 ((rd_T74 l0_2 x13_1).f1))).trans hx763_0;replace hx763_0:=(cell_far (p:=⟨gb760,2,none⟩) (by first|(rw[add_block];exact hn763_2)|(show (Addr.add _ _).block≠_;rw[add_block];exact hn763_2)|exact hn763_2) (.int .i64 ((rd_T74 l0_2 x13_1).f2))).trans hx763_0;replace hx763_0:=(cell_far (p:=⟨gb760,3,none⟩) (by first|(rw[add_block];exact hn763_3)|(show (Addr.add _ _).block≠_;rw[add_block];exact hn763_3)|exact hn763_3) (.int .i64 ((rd_T74 l0_2 x13_1).f3))).trans hx763_0;clear hn763_0;clear hn763_1;clear hn763_2;clear hn763_3;replace p763:=eq_true p763;replace q763:=eq_true q763))
    go_roundg k1
    case measure=>have:=HK1.out;omega
    case rel=>exact⟨(wrap64 (x7_1 - (rd l2 x13_1))),(wrap64 (x13_1+1)),(by first|rfl|(simp;done)|(simp[*];done)),(by first|rfl|(simp;done)|(simp[*];done)),H',⟨by have:=HK1.out;omega⟩,⟨by(with_reducible repeat(first|refine blk_drewN ?_ _|refine blk_drew ?_|refine blk_alloc ?_ _));refine blk_far ?_ NB758_760.out _;(with_reducible repeat(first|refine blk_drewN ?_ _|refine blk_drew ?_|refine blk_alloc ?_ _));refine blk_far ?_ NB758_760.out _;(with_reducible repeat(first|refine blk_drewN ?_ _|refine blk_drew ?_|refine blk_alloc ?_ _));refine blk_far ?_ NB758_760.out _;(with_reducible repeat(first|refine blk_drewN ?_ _|refine blk_drew ?_|refine blk_alloc ?_ _));refine blk_far ?_ NB758_760.out _;(with_reducible repeat(first|refine blk_drewN ?_ _|refine blk_drew ?_|refine blk_alloc ?_ _));exact BK758.out⟩,⟨by repeat(first|(with_reducible first|exact HB.out|apply below_alloc|apply pw_below_drewN|apply below_drew1|refine below_set ?_ GE758.out|refine below_set ?_ GE760.out)|exact HB.out)⟩⟩
   rw[if_pos c9] at H
   have c9b0:(((rd_T74 l0_2 x13_1).f0) == a1)=true:=beq_iff_eq.mpr c9
   have c9b1:(((rd_T74 l0_2 x13_1).f0) != a1)=false:=bne_eq_false_iff_eq.mpr c9
   clear c9
   by_cases c10:x13_1<(l2.length:Int)
   rotate_left
   ·rw[if_neg c10] at H
    exact absurd H (by simp)
   rw[if_pos c10] at H
   have c10b0:decide (x13_1<(l2.length:Int))=true:=decide_eq_true c10
   clear c10
   by_cases c11:((rd_T74 l0_2 x13_1).f1)=a1
   rotate_left
   ·rw[if_neg c11] at H
    have c11b0:(((rd_T74 l0_2 x13_1).f1) == a1)=false:=beq_eq_false_iff_ne.mpr c11
    have c11b1:(((rd_T74 l0_2 x13_1).f1) != a1)=true:=bne_iff_ne.mpr c11
    have H':=Aside0.mk H
    clear H
    have p759:0≤(x13_1:Int):=of_decide_eq_true (by first|(with_reducible assumption)|assumption)
    have q759:x13_1<(l0_2.length:Int):=of_decide_eq_true (by first|(with_reducible assumption)|assumption)
    obtain⟨ad759,e759,hx759_0,hx759_1,hx759_2,hx759_3⟩:=at_T74 HR0_2.out x13_1 p759 q759
    cases e759
    replace hx759_0:=(HB.out.cell (World.block_lt_of_cell? w _ hx759_0)).trans hx759_0
    replace hx759_1:=(HB.out.cell (World.block_lt_of_cell? w _ hx759_1)).trans hx759_1
    replace hx759_2:=(HB.out.cell (World.block_lt_of_cell? w _ hx759_2)).trans hx759_2
    replace hx759_3:=(HB.out.cell (World.block_lt_of_cell? w _ hx759_3)).trans hx759_3
    replace p759:=eq_true p759
    replace q759:=eq_true q759
    go_wp2_with (first|((with_reducible refine gate_dst (N:=9) rfl ?_);refine box_event ?hg (N:=9) ?hd (cs:= #[.int .i64 0, .int .i64 0, .int .i64 0, .int .i64 0]) (t:=74) ?hr ?_;(case hd=>rfl);(case hg=>rfl);(case hr=>first|(go_simp;done)|(go_simp;rfl));intro gb760 hg w15 hbox hb;have n0_:=Aside0.mk (blk_below BK758.out hb);have n1_:=Aside0.mk (below_step HB.out hb);have n2_:=Aside0.mk (hbox);have n3_:=Aside0.mk ((by rw[hg];exact(below_size HB.out):w.heap.size≤gb760));have n4_:=Aside0.mk ((by rw[hg];exact(below_size HB.out):w.heap.size≤gb760));have n5_:=Aside0.mk ((by rw[hg];exact Nat.ne_of_lt (blk_lt BK758.out):gb758≠gb760));have n6_:=Aside0.mk ((by rw[hg];exact Nat.ne_of_gt (blk_lt BK758.out):gb760≠gb758));clear BK758;clear HB;have BK758:=n0_;have HB:=n1_;have BK760:=n2_;have GW760:=n3_;have GE760:=n4_;have NB758_760:=n5_;have NB760_758:=n6_;clear n0_ n1_ n2_ n3_ n4_ n5_ n6_;clear hb hbox hg;have hnb16:=NB760_758.out;have hnc16:=NB758_760.out;have hcz17_0:w15.cell? ⟨gb760,0,none⟩=some (.int .i64 0):=(blk_cell BK760.out 0).trans rfl;have hcz17_1:w15.cell? ⟨gb760,1,none⟩=some (.int .i64 0):=(blk_cell BK760.out 1).trans rfl;have hcz17_2:w15.cell? ⟨gb760,2,none⟩=some (.int .i64 0):=(blk_cell BK760.out 2).trans rfl;have hcz17_3:w15.cell? ⟨gb760,3,none⟩=some (.int .i64 0):=(blk_cell BK760.out 3).trans rfl;have hfz17_0:=blk_frozen BK760.out 0;have hfz17_1:=blk_frozen BK760.out 1;have hfz17_2:=blk_frozen BK760.out 2;have hfz17_3:=blk_frozen BK760.out 3;have p761:0≤(x13_1:Int):=of_decide_eq_true (by first|(with_reducible assumption)|assumption);have q761:x13_1<(l2.length:Int):=of_decide_eq_true (by first|(with_reducible assumption)|assumption);obtain⟨ad761,e761,hx761_0⟩:=Kd.at_int HR2.out x13_1 p761 q761;cases e761;have hn761_0:ad761.block≠gb760:=Nat.ne_of_lt (Nat.lt_of_lt_of_le (by have:=World.block_lt_of_cell? _ _ hx761_0;first|rwa [add_block] at this|exact this) GW760.out);have hn761_1:ad761.block≠gb760:=Nat.ne_of_lt (Nat.lt_of_lt_of_le (by have:=World.block_lt_of_cell? _ _ hx761_0;first|rwa [add_block] at this|exact this) GW760.out);have hn761_2:ad761.block≠gb760:=Nat.ne_of_lt (Nat.lt_of_lt_of_le (by have:=World.block_lt_of_cell? _ _ hx761_0;first|rwa [add_block] at this|exact this) GW760.out);have hn761_3:ad761.block≠gb760:=Nat.ne_of_lt (Nat.lt_of_lt_of_le (by have:=World.block_lt_of_cell? _ _ hx761_0;first|rwa [add_block] at this|exact this) GW760.out);replace hx761_0:=(HB.out.cell (World.block_lt_of_cell? w _ hx761_0)).trans hx761_0;replace hx761_0:=(cell_far (p:=⟨gb760,0,none⟩) (by first|(rw[add_block];exact hn761_0)|(show (Addr.add _ _).block≠_;rw[add_block];exact hn761_0)|exact hn761_0) (.int .i64 ((rd_T74 l0_2 x13_1).f0))).trans hx761_0;replace hx761_0:=(cell_far (p:=⟨gb760,1,none⟩) (by first|(rw[add_block];exact hn761_1)|(show (Addr.add _ _).block≠_;rw[add_block];exact hn761_1)|exact hn761_1) (.int .i64 ((rd_T74 l0_2 x13_1).f1))).trans hx761_0;replace hx761_0:=(cell_far (p:=⟨gb760,2,none⟩) (by first|(rw[add_block];exact hn761_2)|(show (Addr.add _ _).block≠_;rw[add_block];exact hn761_2)|exact hn761_2) (.int .i64 ((rd_T74 l0_2 x13_1).f2))).trans hx761_0;replace hx761_0:=(cell_far (p:=⟨gb760,3,none⟩) (by first|(rw[add_block];exact hn761_3)|(show (Addr.add _ _).block≠_;rw[add_block];exact hn761_3)|exact hn761_3) (.int .i64 ((rd_T74 l0_2 x13_1).f3))).trans hx761_0;clear hn761_0;clear hn761_1;clear hn761_2;clear hn761_3;replace p761:=eq_true p761;replace q761:=eq_true q761))
    go_roundg k1
    case measure=>have:=HK1.out;omega
    case rel=>exact⟨(wrap64 (x7_1+(rd l2 x13_1))),(wrap64 (x13_1+1)),(by first|rfl|(simp;done)|(simp[*];done)),(by first|rfl|(simp;done)|(simp[*];done)),H',⟨by have:=HK1.out;omega⟩,⟨by(with_reducible repeat(first|refine blk_drewN ?_ _|refine blk_drew ?_|refine blk_alloc ?_ _));refine blk_far ?_ NB758_760.out _;(with_reducible repeat(first|refine blk_drewN ?_ _|refine blk_drew ?_|refine blk_alloc ?_ _));refine blk_far ?_ NB758_760.out _;(with_reducible repeat(first|refine blk_drewN ?_ _|refine blk_drew ?_|refine blk_alloc ?_ _));refine blk_far ?_ NB758_760.out _;(with_reducible repeat(first|refine blk_drewN ?_ _|refine blk_drew ?_|refine blk_alloc ?_ _));refine blk_far ?_ NB758_760.out _;(with_reducible repeat(first|refine blk_drewN ?_ _|refine blk_drew ?_|refine blk_alloc ?_ _));exact BK758.out⟩,⟨by repeat(first|(with_reducible first|exact HB.out|apply below_alloc|apply pw_below_drewN|apply below_drew1|refine below_set ?_ GE758.out|refine below_set ?_ GE760.out)|exact HB.out)⟩⟩
   rw[if_pos c11] at H
   have c11b0:(((rd_T74 l0_2 x13_1).f1) == a1)=true:=beq_iff_eq.mpr c11
   have c11b1:(((rd_T74 l0_2 x13_1).f1) != a1)=false:=bne_eq_false_iff_eq.mpr c11
   clear c11
   have H':=Aside0.mk H
   clear H
   have p759:0≤(x13_1:Int):=of_decide_eq_true (by first|(with_reducible assumption)|assumption)
   have q759:x13_1<(l0_2.length:Int):=of_decide_eq_true (by first|(with_reducible assumption)|assumption)
   obtain⟨ad759,e759,hx759_0,hx759_1,hx759_2,hx759_3⟩:=at_T74 HR0_2.out x13_1 p759 q759
   cases e759
   replace hx759_0:=(HB.out.cell (World.block_lt_of_cell? w _ hx759_0)).trans hx759_0
   replace hx759_1:=(HB.out.cell (World.block_lt_of_cell? w _ hx759_1)).trans hx759_1
   replace hx759_2:=(HB.out.cell (World.block_lt_of_cell? w _ hx759_2)).trans hx759_2
   replace hx759_3:=(HB.out.cell (World.block_lt_of_cell? w _ hx759_3)).trans hx759_3
   replace p759:=eq_true p759
   replace q759:=eq_true q759
   go_wp2_with (first|((with_reducible refine gate_dst (N:=9) rfl ?_);refine box_event ?hg (N:=9) ?hd (cs:= #[.int .i64 0, .int .i64 0, .int .i64 0, .int .i64 0]) (t:=74) ?hr ?_;(case hd=>rfl);(case hg=>rfl);(case hr=>first|(go_simp;done)|(go_simp;rfl));intro gb760 hg w12 hbox hb;have n0_:=Aside0.mk (blk_below BK758.out hb);have n1_:=Aside0.mk (below_step HB.out hb);have n2_:=Aside0.mk (hbox);have n3_:=Aside0.mk ((by rw[hg];exact(below_size HB.out):w.heap.size≤gb760));have n4_:=Aside0.mk ((by rw[hg];exact(below_size HB.out):w.heap.size≤gb760));have n5_:=Aside0.mk ((by rw[hg];exact Nat.ne_of_lt (blk_lt BK758.out):gb758≠gb760));have n6_:=Aside0.mk ((by rw[hg];exact Nat.ne_of_gt (blk_lt BK758.out):gb760≠gb758));clear BK758;clear HB;have BK758:=n0_;have HB:=n1_;have BK760:=n2_;have GW760:=n3_;have GE760:=n4_;have NB758_760:=n5_;have NB760_758:=n6_;clear n0_ n1_ n2_ n3_ n4_ n5_ n6_;clear hb hbox hg;have hnb13:=NB760_758.out;have hnc13:=NB758_760.out;have hcz14_0:w12.cell? ⟨gb760,0,none⟩=some (.int .i64 0):=(blk_cell BK760.out 0).trans rfl;have hcz14_1:w12.cell? ⟨gb760,1,none⟩=some (.int .i64 0):=(blk_cell BK760.out 1).trans rfl;have hcz14_2:w12.cell? ⟨gb760,2,none⟩=some (.int .i64 0):=(blk_cell BK760.out 2).trans rfl;have hcz14_3:w12.cell? ⟨gb760,3,none⟩=some (.int .i64 0):=(blk_cell BK760.out 3).trans rfl;have hfz14_0:=blk_frozen BK760.out 0;have hfz14_1:=blk_frozen BK760.out 1;have hfz14_2:=blk_frozen BK760.out 2;have hfz14_3:=blk_frozen BK760.out 3;have p761:0≤(x13_1:Int):=of_decide_eq_true (by first|(with_reducible assumption)|assumption);have q761:x13_1<(l2.length:Int):=of_decide_eq_true (by first|(with_reducible assumption)|assumption);obtain⟨ad761,e761,hx761_0⟩:=Kd.at_int HR2.out x13_1 p761 q761;cases e761;have hn761_0:ad761.block≠gb760:=Nat.ne_of_lt (Nat.lt_of_lt_of_le (by have:=World.block_lt_of_cell? _ _ hx761_0;first|rwa [add_block] at this|exact this) GW760.out);have hn761_1:ad761.block≠gb760:=Nat.ne_of_lt (Nat.lt_of_lt_of_le (by have:=World.block_lt_of_cell? _ _ hx761_0;first|rwa [add_block] at this|exact this) GW760.out);have hn761_2:ad761.block≠gb760:=Nat.ne_of_lt (Nat.lt_of_lt_of_le (by have:=World.block_lt_of_cell? _ _ hx761_0;first|rwa [add_block] at this|exact this) GW760.out);have hn761_3:ad761.block≠gb760:=Nat.ne_of_lt (Nat.lt_of_lt_of_le (by have:=World.block_lt_of_cell? _ _ hx761_0;first|rwa [add_block] at this|exact this) GW760.out);replace hx761_0:=(HB.out.cell (World.block_lt_of_cell? w _ hx761_0)).trans hx761_0;replace hx761_0:=(cell_far (p:=⟨gb760,0,none⟩) (by first|(rw[add_block];exact hn761_0)|(show (Addr.add _ _).block≠_;rw[add_block];exact hn761_0)|exact hn761_0) (.int .i64 ((rd_T74 l0_2 x13_1).f0))).trans hx761_0;replace hx761_0:=(cell_far (p:=⟨gb760,1,none⟩) (by first|(rw[add_block];exact hn761_1)|(show (Addr.add _ _).block≠_;rw[add_block];exact hn761_1)|exact hn761_1) (.int .i64 ((rd_T74 l0_2 x13_1).f1))).trans hx761_0;replace hx761_0:=(cell_far (p:=⟨gb760,2,none⟩) (by first|(rw[add_block];exact hn761_2)|(show (Addr.add _ _).block≠_;rw[add_block];exact hn761_2)|exact hn761_2) (.int .i64 ((rd_T74 l0_2 x13_1).f2))).trans hx761_0;replace hx761_0:=(cell_far (p:=⟨gb760,3,none⟩) (by first|(rw[add_block];exact hn761_3)|(show (Addr.add _ _).block≠_;rw[add_block];exact hn761_3)|exact hn761_3) (.int .i64 ((rd_T74 l0_2 x13_1).f3))).trans hx761_0;clear hn761_0;clear hn761_1;clear hn761_2;clear hn761_3;replace p761:=eq_true p761;replace q761:=eq_true q761;have p762:0≤(x13_1:Int):=of_decide_eq_true (by first|(with_reducible assumption)|assumption);have q762:x13_1<(l2.length:Int):=of_decide_eq_true (by first|(with_reducible assumption)|assumption);obtain⟨ad762,e762,hx762_0⟩:=Kd.at_int HR2.out x13_1 p762 q762;obtain rfl:ad761=ad762:=(by injection e762);have hn762_0:ad761.block≠gb760:=Nat.ne_of_lt (Nat.lt_of_lt_of_le (by have:=World.block_lt_of_cell? _ _ hx762_0;first|rwa [add_block] at this|exact this) GW760.out);have hn762_1:ad761.block≠gb760:=Nat.ne_of_lt (Nat.lt_of_lt_of_le (by have:=World.block_lt_of_cell? _ _ hx762_0;first|rwa [add_block] at this|exact this) GW760.out);have hn762_2:ad761.block≠gb760:=Nat.ne_of_lt (Nat.lt_of_lt_of_le (by have:=World.block_lt_of_cell? _ _ hx762_0;first|rwa [add_block] at this|exact this) GW760.out);have hn762_3:ad761.block≠gb760:=Nat.ne_of_lt (Nat.lt_of_lt_of_le (by have:=World.block_lt_of_cell? _ _ hx762_0;first|rwa [add_block] at this|exact this) GW760.out);replace hx762_0:=(HB.out.cell (World.block_lt_of_cell? w _ hx762_0)).trans hx762_0;replace hx762_0:=(cell_far (p:=⟨gb760,0,none⟩) (by first|(rw[add_block];exact hn762_0)|(show (Addr.add _ _).block≠_;rw[add_block];exact hn762_0)|exact hn762_0) (.int .i64 ((rd_T74 l0_2 x13_1).f0))).trans hx762_0;replace hx762_0:=(cell_far (p:=⟨gb760,1,none⟩) (by first|(rw[add_block];exact hn762_1)|(show (Addr.add _ _).block≠_;rw[add_block];exact hn762_1)|exact hn762_1) (.int .i64 ((rd_T74 l0_2 x13_1).f1))).trans hx762_0;replace hx762_0:=(cell_far (p:=⟨gb760,2,none⟩) (by first|(rw[add_block];exact hn762_2)|(show (Addr.add _ _).block≠_;rw[add_block];exact hn762_2)|exact hn762_2) (.int .i64 ((rd_T74 l0_2 x13_1).f2))).trans hx762_0;replace hx762_0:=(cell_far (p:=⟨gb760,3,none⟩) (by first|(rw[add_block];exact hn762_3)|(show (Addr.add _ _).block≠_;rw[add_block];exact hn762_3)|exact hn762_3) (.int .i64 ((rd_T74 l0_2 x13_1).f3))).trans hx762_0;clear hn762_0;clear hn762_1;clear hn762_2;clear hn762_3;replace p762:=eq_true p762;replace q762:=eq_true q762))
   go_roundg k1
   case measure=>have:=HK1.out;omega
   case rel=>exact⟨(wrap64 ((wrap64 (x7_1+(rd l2 x13_1))) - (rd l2 x13_1))),(wrap64 (x13_1+1)),(by first|rfl|(simp;done)|(simp[*];done)),(by first|rfl|(simp;done)|(simp[*];done)),H',⟨by have:=HK1.out;omega⟩,⟨by(with_reducible repeat(first|refine blk_drewN ?_ _|refine blk_drew ?_|refine blk_alloc ?_ _));refine blk_far ?_ NB758_760.out _;(with_reducible repeat(first|refine blk_drewN ?_ _|refine blk_drew ?_|refine blk_alloc ?_ _));refine blk_far ?_ NB758_760.out _;(with_reducible repeat(first|refine blk_drewN ?_ _|refine blk_drew ?_|refine blk_alloc ?_ _));refine blk_far ?_ NB758_760.out _;(with_reducible repeat(first|refine blk_drewN ?_ _|refine blk_drew ?_|refine blk_alloc ?_ _));refine blk_far ?_ NB758_760.out _;(with_reducible repeat(first|refine blk_drewN ?_ _|refine blk_drew ?_|refine blk_alloc ?_ _));exact BK758.out⟩,⟨by repeat(first|(with_reducible first|exact HB.out|apply below_alloc|apply pw_below_drewN|apply below_drew1|refine below_set ?_ GE758.out|refine below_set ?_ GE760.out)|exact HB.out)⟩⟩
end Go.Proofs.Ytkcpanpdipmmmaa.P
namespace Go.Proofs.Ytkcpanpdipmmmaa.P
open Go.RowKit Go.Proofs.YtkcpanpdipmmmaaW.PrintWords Go.Proofs.YtkcpanpdipmmmaaW.PrintLast Go.Proofs.YtkcpanpdipmmmaaW.PrintMore
attribute [local go_sem] max2_int min2_int max_two min_two max_three min_three max_four min_four
def span_Best.f (k:Nat) (a0_0:Int) (a0_1:Bool) (l0_2:List (S74)) (a1:Int) (a2:Int) (a3:Int):Option (List Int × Int × Int):=(span_Asked.f k a0_0 a0_1 l0_2 a1 a2 a3).bind fun t765=>(if t765=0 then((span_Fill.f a0_0 a0_1 l0_2 a1 a2 a3).bind fun bt766=>((maxflow_Value.f k a0_0 a0_1 l0_2 a1 bt766.1).bind fun t778=>((span_paid.f k a0_0 a0_1 l0_2 bt766.1).bind fun t779=>(some (bt766.1,wrap64 ((wrap64 ((wrap64 (a3+1)) * t778)) - t779),0))))) else(some (([]:List Int),0,t765)))
def span_Best.T5:Bool × List (List Nat × List Nat):=(true,[([],[]),([],[]),([1],[1]),([],[]),([],[]),([],[]),([3,4,5],[3,4,5]),([2,6],[2,6]),([],[]),([],[]),([8,9,6],[8,9]),([7,10],[7,10]),([0,10,0,5,9],[0,5,9]),([11,12,0,1,2,3,4,5,6,7,8,9,10,11,12],[11]),([13,0,1,2,3,4,5,6,7,8,9,10,11,12,13],[])])
def span_Best.B5:List Nat:=[0,0,2,0,0,0,56,126,0,0,888,2046,1913,8191,16383]
theorem span_Best.tab5:rtab .any (opsOf Try.f69 5)=span_Best.T5:=by kernel_rfl
theorem span_Best.bits5:waitsOk span_Best.T5.2 span_Best.B5=true:=by kernel_rfl
set_option maxHeartbeats 8000000 in
set_option maxRecDepth 100000 in
theorem span_Best.calls (k:Nat) (a0_0:Int) (a0_1:Bool) (A0_2:Option Addr) (c0_2:Nat) (l0_2:List (S74)) (a1:Int) (a2:Int) (a3:Int) (r1:List Int) (r2:Int) (r3:Int) (w:World) (hr0_2:Kd.C k74 w A0_2 l0_2.length l0_2) (hc0_2:l0_2.length≤c0_2) (h:span_Best.f k a0_0 a0_1 l0_2 a1 a2 a3=some (r1,r2,r3)):
  Calls Try.prog 69 #[.agg #[.int .i64 a0_0, .bool a0_1, .slice A0_2 l0_2.length c0_2], .int .i64 a1, .int .i64 a2, .int .i64 a3] w fun e w'=> ∃ v0_:Value,e= .returned (.tuple #[v0_, .int .i64 r2, .int .i64 r3])∧Kd.R (Kd.int .i64) 3 w' w.heap.size (fun _=>True) v0_ r1∧Below w.heap.size w w':=by
 have hu24:=Try.underlying24
 have HR0_2:=Aside0.mk hr0_2
 have HC0_2:=Aside0.mk hc0_2
 clear hr0_2 hc0_2
 have HB:=Aside0.mk (Below.refl w.heap.size w)
 have H:((span_Asked.f k a0_0 a0_1 l0_2 a1 a2 a3).bind fun t765=>(if t765=0 then((span_Fill.f a0_0 a0_1 l0_2 a1 a2 a3).bind fun bt766=>((maxflow_Value.f k a0_0 a0_1 l0_2 a1 bt766.1).bind fun t778=>((span_paid.f k a0_0 a0_1 l0_2 bt766.1).bind fun t779=>(some (bt766.1,wrap64 ((wrap64 ((wrap64 (a3+1)) * t778)) - t779),0))))) else(some (([]:List Int),0,t765))))=some (r1,r2,r3):=h
 clear h
 replace H:=Option.bind_eq_some_iff.mp H
 obtain⟨t765,A50,H⟩:=H
 replace H:(if t765=0 then((span_Fill.f a0_0 a0_1 l0_2 a1 a2 a3).bind fun bt766=>((maxflow_Value.f k a0_0 a0_1 l0_2 a1 bt766.1).bind fun t778=>((span_paid.f k a0_0 a0_1 l0_2 bt766.1).bind fun t779=>(some (bt766.1,wrap64 ((wrap64 ((wrap64 (a3+1)) * t778)) - t779),0))))) else(some (([]:List Int),0,t765)))=some (r1,r2,r3):=H
 have A5:=Aside0.mk A50
 clear A50
 by_cases c6:t765=0
 rotate_left
 ·rw[if_neg c6] at H
  have c6b0:(t765 == 0)=false:=beq_eq_false_iff_ne.mpr c6
  have c6b1:(t765 != 0)=true:=bne_iff_ne.mpr c6
  simp only[Option.some.injEq,Prod.mk.injEq] at H
  obtain⟨rfl,rfl,rfl⟩:=H
  go_enter Try.func69,Try.ntmps69
  go_wp2_with (first|((with_reducible refine gate_dst (N:=4) rfl ?_);refine box_event ?hg (N:=4) ?hd (cs:= #[.int .i64 a0_0, .bool a0_1, .slice A0_2 l0_2.length c0_2]) (t:=24) ?hr ?_;(case hd=>rfl);(case hg=>rfl);(case hr=>first|(go_simp;done)|(go_simp;rfl));intro gb764 hg w19 hbox hb;have n0_:=Aside0.mk (below_step (by repeat(first|(with_reducible first|exact HB.out|apply below_alloc|apply pw_below_drewN|apply below_drew1)|exact HB.out)) hb);have n1_:=Aside0.mk (hbox);have n2_:=Aside0.mk ((by rw[hg];exact(below_size (by repeat(first|(with_reducible first|exact HB.out|apply below_alloc|apply pw_below_drewN|apply below_drew1)|exact HB.out))):w.heap.size≤gb764));have n3_:=Aside0.mk ((by rw[hg];exact(below_size (by repeat(first|(with_reducible first|exact HB.out|apply below_alloc|apply pw_below_drewN|apply below_drew1)|exact HB.out))):w.heap.size≤gb764));clear HB;have HB:=n0_;have BK764:=n1_;have GW764:=n2_;have GE764:=n3_;clear n0_ n1_ n2_ n3_;clear hb hbox hg;have hcz20_0:w19.cell? ⟨gb764,0,none⟩=some (.int .i64 a0_0):=(blk_cell BK764.out 0).trans rfl;have hcz20_1:w19.cell? ⟨gb764,1,none⟩=some (.bool a0_1):=(blk_cell BK764.out 1).trans rfl;have hcz20_2:w19.cell? ⟨gb764,2,none⟩=some (.slice A0_2 l0_2.length c0_2):=(blk_cell BK764.out 2).trans rfl;have hfz20_0:=blk_frozen BK764.out 0;have hfz20_1:=blk_frozen BK764.out 1;have hfz20_2:=blk_frozen BK764.out 2)|((with_reducible refine gate_callee (f:=114) rfl ?_);refine goesL_ (some 15) rfl rfl Try.func114 (by kernel_rfl) rfl #[.agg #[.int .i64 a0_0, .bool a0_1, .slice A0_2 l0_2.length c0_2], .int .i64 a1, .int .i64 a2, .int .i64 a3] rfl (by(try simp only[List.map_toArray,List.map_cons,List.map_nil]);first|done|rfl|(simp only[List.length_drop,List.length_take];rfl)) ?_;(with_reducible refine(span_Asked.calls k a0_0 a0_1 _ _ l0_2 a1 a2 a3 t765 _ ?side1 ?side2 A5.out).mono ?_);(case side1=>repeat(first|exact(Kd.C_below HR0_2.out HB.out)|(with_reducible refine Kd.C_alloc ?_ _)|(with_reducible refine Kd.C_drewN ?_ _)|(with_reducible refine Kd.C_drew ?_)));(case side2=>exact HC0_2.out);rintro e w21 ⟨rfl,hb⟩;refine⟨_,rfl,?_⟩;have n0_:=Aside0.mk (blk_below (g:=gb764) (o:= .cells #[.int .i64 a0_0, .bool a0_1, .slice A0_2 l0_2.length c0_2] 24 (0,0)) (by(with_reducible repeat(first|refine blk_drewN ?_ _|refine blk_drew ?_|refine blk_alloc ?_ _));exact BK764.out) hb);have n1_:=Aside0.mk (below_step (by repeat(first|(with_reducible first|exact HB.out|apply below_alloc|apply pw_below_drewN|apply below_drew1|refine below_set ?_ GE764.out)|exact HB.out)) hb);clear BK764;clear HB;have BK764:=n0_;have HB:=n1_;clear n0_ n1_;(try clear hb);(try clear hb2);(try clear hk);(try clear hi)))
  go_ret3
  exact⟨_,by first|rfl|(simp[errW_none,errW_some]<;>rfl)|(simp[*,errW_none,errW_some]<;>rfl),by first|exact Kd.R_nil _ _ _ _ _|exact Kd.N_nil _ _ _ _ _|exact Kd.V_nil _ _ _ _ _|exact Kd.Q_nil _ _ _ _ _|exact Kd.S_nil _ _ _ _ _,by repeat(first|(with_reducible first|exact HB.out|apply below_alloc|apply pw_below_drewN|apply below_drew1|refine below_set ?_ GE764.out)|exact HB.out)⟩
 rw[if_pos c6] at H
 have c6b0:(t765 == 0)=true:=beq_iff_eq.mpr c6
 have c6b1:(t765 != 0)=false:=bne_eq_false_iff_eq.mpr c6
 clear c6
 replace H:=Option.bind_eq_some_iff.mp H
 obtain⟨⟨t766,t769,t772,t775⟩,A70,H⟩:=H
 replace H:((maxflow_Value.f k a0_0 a0_1 l0_2 a1 t766).bind fun t778=>((span_paid.f k a0_0 a0_1 l0_2 t766).bind fun t779=>(some (t766,wrap64 ((wrap64 ((wrap64 (a3+1)) * t778)) - t779),0))))=some (r1,r2,r3):=H
 have A7:=Aside0.mk A70
 clear A70
 replace H:=Option.bind_eq_some_iff.mp H
 obtain⟨t778,A80,H⟩:=H
 replace H:((span_paid.f k a0_0 a0_1 l0_2 t766).bind fun t779=>(some (t766,wrap64 ((wrap64 ((wrap64 (a3+1)) * t778)) - t779),0)))=some (r1,r2,r3):=H
 have A8:=Aside0.mk A80
 clear A80
 replace H:=Option.bind_eq_some_iff.mp H
 obtain⟨t779,A90,H⟩:=H
 replace H:(some (t766,wrap64 ((wrap64 ((wrap64 (a3+1)) * t778)) - t779),0))=some (r1,r2,r3):=H
 have A9:=Aside0.mk A90
 clear A90
 simp only[Option.some.injEq,Prod.mk.injEq] at H
 obtain⟨rfl,rfl,rfl⟩:=H
 go_enter Try.func69,Try.ntmps69
 try go_wp2_with (first|((with_reducible refine gate_dst (N:=4) rfl ?_);refine box_event ?hg (N:=4) ?hd (cs:= #[.int .i64 a0_0, .bool a0_1, .slice A0_2 l0_2.length c0_2]) (t:=24) ?hr ?_;(case hd=>rfl);(case hg=>rfl);(case hr=>first|(go_simp;done)|(go_simp;rfl));intro gb764 hg w10 hbox hb;have n0_:=Aside0.mk (below_step (by repeat(first|(with_reducible first|exact HB.out|apply below_alloc|apply pw_below_drewN|apply below_drew1)|exact HB.out)) hb);have n1_:=Aside0.mk (hbox);have n2_:=Aside0.mk ((by rw[hg];exact(below_size (by repeat(first|(with_reducible first|exact HB.out|apply below_alloc|apply pw_below_drewN|apply below_drew1)|exact HB.out))):w.heap.size≤gb764));have n3_:=Aside0.mk ((by rw[hg];exact(below_size (by repeat(first|(with_reducible first|exact HB.out|apply below_alloc|apply pw_below_drewN|apply below_drew1)|exact HB.out))):w.heap.size≤gb764));clear HB;have HB:=n0_;have BK764:=n1_;have GW764:=n2_;have GE764:=n3_;clear n0_ n1_ n2_ n3_;clear hb hbox hg;have hcz11_0:w10.cell? ⟨gb764,0,none⟩=some (.int .i64 a0_0):=(blk_cell BK764.out 0).trans rfl;have hcz11_1:w10.cell? ⟨gb764,1,none⟩=some (.bool a0_1):=(blk_cell BK764.out 1).trans rfl;have hcz11_2:w10.cell? ⟨gb764,2,none⟩=some (.slice A0_2 l0_2.length c0_2):=(blk_cell BK764.out 2).trans rfl;have hfz11_0:=blk_frozen BK764.out 0;have hfz11_1:=blk_frozen BK764.out 1;have hfz11_2:=blk_frozen BK764.out 2)|((with_reducible refine gate_callee (f:=114) rfl ?_);refine goesL_ (some 15) rfl rfl Try.func114 (by kernel_rfl) rfl #[.agg #[.int .i64 a0_0, .bool a0_1, .slice A0_2 l0_2.length c0_2], .int .i64 a1, .int .i64 a2, .int .i64 a3] rfl (by(try simp only[List.map_toArray,List.map_cons,List.map_nil]);first|done|rfl|(simp only[List.length_drop,List.length_take];rfl)) ?_;(with_reducible refine(span_Asked.calls k a0_0 a0_1 _ _ l0_2 a1 a2 a3 t765 _ ?side1 ?side2 A5.out).mono ?_);(case side1=>repeat(first|exact(Kd.C_below HR0_2.out HB.out)|(with_reducible refine Kd.C_alloc ?_ _)|(with_reducible refine Kd.C_drewN ?_ _)|(with_reducible refine Kd.C_drew ?_)));(case side2=>exact HC0_2.out);rintro e w12 ⟨rfl,hb⟩;refine⟨_,rfl,?_⟩;have n0_:=Aside0.mk (blk_below (g:=gb764) (o:= .cells #[.int .i64 a0_0, .bool a0_1, .slice A0_2 l0_2.length c0_2] 24 (0,0)) (by(with_reducible repeat(first|refine blk_drewN ?_ _|refine blk_drew ?_|refine blk_alloc ?_ _));exact BK764.out) hb);have n1_:=Aside0.mk (below_step (by repeat(first|(with_reducible first|exact HB.out|apply below_alloc|apply pw_below_drewN|apply below_drew1|refine below_set ?_ GE764.out)|exact HB.out)) hb);clear BK764;clear HB;have BK764:=n0_;have HB:=n1_;clear n0_ n1_;(try clear hb);(try clear hb2);(try clear hk);(try clear hi);have hcz13_0:w12.cell? ⟨gb764,0,none⟩=some (.int .i64 a0_0):=(blk_cell BK764.out 0).trans rfl;have hcz13_1:w12.cell? ⟨gb764,1,none⟩=some (.bool a0_1):=(blk_cell BK764.out 1).trans rfl;have hcz13_2:w12.cell? ⟨gb764,2,none⟩=some (.slice A0_2 l0_2.length c0_2):=(blk_cell BK764.out 2).trans rfl;have hfz13_0:=blk_frozen BK764.out 0;have hfz13_1:=blk_frozen BK764.out 1;have hfz13_2:=blk_frozen BK764.out 2)|((with_reducible refine gate_callee (f:=118) rfl ?_);refine goesL_ (some 24) rfl rfl Try.func118 (by kernel_rfl) rfl #[.agg #[.int .i64 a0_0, .bool a0_1, .slice A0_2 l0_2.length c0_2], .int .i64 a1, .int .i64 a2, .int .i64 a3] rfl (by(try simp only[List.map_toArray,List.map_cons,List.map_nil]);first|done|rfl|(simp only[List.length_drop,List.length_take];rfl)) ?_;(with_reducible refine(span_Fill.calls a0_0 a0_1 _ _ l0_2 a1 a2 a3 t766 t769 t772 t775 _ ?side1 ?side2 A7.out).mono ?_);(case side1=>repeat(first|exact(Kd.C_below HR0_2.out HB.out)|(with_reducible refine Kd.C_alloc ?_ _)|(with_reducible refine Kd.C_drewN ?_ _)|(with_reducible refine Kd.C_drew ?_)));(case side2=>exact HC0_2.out);rintro e w14 ⟨v767,v770,v773,v776,rfl,ho0,ho1,ho2,ho3,hb⟩;refine⟨_,rfl,?_⟩;have n0_:=Aside0.mk (Kd.R_lower ho0 (below_size (by repeat(first|(with_reducible first|exact HB.out|apply below_alloc|apply pw_below_drewN|apply below_drew1|refine below_set ?_ GE764.out)|exact HB.out))));have n1_:=Aside0.mk (Kd.R_lower ho1 (below_size (by repeat(first|(with_reducible first|exact HB.out|apply below_alloc|apply pw_below_drewN|apply below_drew1|refine below_set ?_ GE764.out)|exact HB.out))));have n2_:=Aside0.mk (Kd.R_lower ho2 (below_size (by repeat(first|(with_reducible first|exact HB.out|apply below_alloc|apply pw_below_drewN|apply below_drew1|refine below_set ?_ GE764.out)|exact HB.out))));have n3_:=Aside0.mk (Kd.R_lower ho3 (below_size (by repeat(first|(with_reducible first|exact HB.out|apply below_alloc|apply pw_below_drewN|apply below_drew1|refine below_set ?_ GE764.out)|exact HB.out))));have n4_:=Aside0.mk (blk_below (g:=gb764) (o:= .cells #[.int .i64 a0_0, .bool a0_1, .slice A0_2 l0_2.length c0_2] 24 (0,0)) (by(with_reducible repeat(first|refine blk_drewN ?_ _|refine blk_drew ?_|refine blk_alloc ?_ _));exact BK764.out) hb);have n5_:=Aside0.mk (below_step (by repeat(first|(with_reducible first|exact HB.out|apply below_alloc|apply pw_below_drewN|apply below_drew1|refine below_set ?_ GE764.out)|exact HB.out)) hb);clear BK764;clear HB;have HO768:=n0_;have HO771:=n1_;have HO774:=n2_;have HO777:=n3_;have BK764:=n4_;have HB:=n5_;clear n0_ n1_ n2_ n3_ n4_ n5_;(try clear hb);(try clear hb2);(try clear hk);(try clear hi);(try clear ho0);(try clear ho1);(try clear ho2);(try clear ho3)))
 have n0_:=Aside0.mk (Kd.R_drew HO768.out)
 have n1_:=Aside0.mk (Kd.R_drew HO771.out)
 have n2_:=Aside0.mk (Kd.R_drew HO774.out)
 have n3_:=Aside0.mk (Kd.R_drew HO777.out)
 have n4_:=Aside0.mk (blk_drew BK764.out)
 have n5_:=Aside0.mk (below_drew1 HB.out)
 clear HO768
 clear HO771
 clear HO774
 clear HO777
 clear BK764
 clear HB
 have HO768:=n0_
 have HO771:=n1_
 have HO774:=n2_
 have HO777:=n3_
 have BK764:=n4_
 have HB:=n5_
 clear n0_ n1_ n2_ n3_ n4_ n5_
 obtain⟨Ao16,co16,eo16⟩:=Kd.R_slice HO768.out
 (first|subst eo16|(injection eo16 with f1_ f2_ f3_;have f4_:=f1_.symm;have f5_:=f3_.symm;clear f1_ f2_ f3_;subst f4_;subst f5_))
 refine start_ (n:=15) (S:=fun w'=>w'.cell? ⟨gb764,0,none⟩=some (.int .i64 a0_0)∧w'.cell? ⟨gb764,1,none⟩=some (.bool a0_1)∧w'.cell? ⟨gb764,2,none⟩=some (.slice A0_2 l0_2.length c0_2)) (ds:=[]) #[false,false,false,false,false,false,false,false,false,false,false,false,false,false,false] (by kernel_rfl) rfl rfl ⟨(blk_cell BK764.out 0).trans rfl,(blk_cell BK764.out 1).trans rfl,(blk_cell BK764.out 2).trans rfl⟩ (fun hHeld=> ?_);refine with_tabW span_Best.tab5 span_Best.bits5 (fun HT_ HW_=> ?_)
 generalize w14.drew=w15 at HO768 HO771 HO774 HO777 BK764 HB hHeld ⊢
 refine pure_ (i:=0) (N:=some 27) (v:= ?_) (a':= ?_) #[true,false,false,false,false,false,false,false,false,false,false,false,false,false,false] rfl rfl (any_of HT_.out (by kernel_rfl)) (fun _ _ _ h=>h) (Or.inl ⟨by rfl,?_⟩) ?_ ?_
 rotate_left
 ·intro w'
  go_simp
  with_reducible rfl
 rotate_left
 ·simp only[Act.put,List.setIfInBounds_toArray,List.set_cons_zero,List.set_cons_succ,i64_w,i32_w]
  rfl
 refine pure_ (i:=1) (N:=some 28) (v:= ?_) (a':= ?_) #[true,true,false,false,false,false,false,false,false,false,false,false,false,false,false] rfl rfl (any_of HT_.out (by kernel_rfl)) (fun _ _ _ h=>h) (Or.inl ⟨by rfl,?_⟩) ?_ ?_
 rotate_left
 ·intro w'
  go_simp
  with_reducible rfl
 rotate_left
 ·simp only[Act.put,List.setIfInBounds_toArray,List.set_cons_zero,List.set_cons_succ,i64_w,i32_w]
  rfl
 refine pure_ (i:=2) (N:=some 29) (v:= ?_) (a':= ?_) #[true,true,true,false,false,false,false,false,false,false,false,false,false,false,false] rfl rfl (any_of HT_.out (by kernel_rfl)) (fun _ _ _ h=>h) (Or.inl ⟨by rfl,?_⟩) ?_ ?_
 rotate_left
 ·intro w'
  go_simp
  with_reducible rfl
 rotate_left
 ·simp only[Act.put,List.setIfInBounds_toArray,List.set_cons_zero,List.set_cons_succ,i64_w,i32_w]
  rfl
 refine pure_ (i:=4) (N:=some 31) (v:= ?_) (a':= ?_) #[true,true,true,false,true,false,false,false,false,false,false,false,false,false,false] rfl rfl (any_of HT_.out (by kernel_rfl)) (fun _ _ _ h=>h) (Or.inl ⟨by rfl,?_⟩) ?_ ?_
 rotate_left
 ·intro w'
  go_simp
  with_reducible rfl
 rotate_left
 ·simp only[Act.put,List.setIfInBounds_toArray,List.set_cons_zero,List.set_cons_succ,i64_w,i32_w]
  rfl
 refine pure_ (i:=5) (N:=some 32) (v:= ?_) (a':= ?_) #[true,true,true,false,true,true,false,false,false,false,false,false,false,false,false] rfl rfl (any_of HT_.out (by kernel_rfl)) (fun _ _ _ h=>h) (Or.inl ⟨by rfl,?_⟩) ?_ ?_
 rotate_left
 ·intro w'
  go_simp
  with_reducible rfl
 rotate_left
 ·simp only[Act.put,List.setIfInBounds_toArray,List.set_cons_zero,List.set_cons_succ,i64_w,i32_w]
  rfl
 refine pure_ (i:=9) (N:=some 36) (v:= ?_) (a':= ?_) #[true,true,true,false,true,true,false,false,false,true,false,false,false,false,false] rfl rfl (any_of HT_.out (by kernel_rfl)) (fun _ _ _ h=>h) (Or.inl ⟨by rfl,?_⟩) ?_ ?_
 rotate_left
 ·intro w'
  go_simp
  with_reducible rfl
 rotate_left
 ·simp only[Act.put,List.setIfInBounds_toArray,List.set_cons_zero,List.set_cons_succ,i64_w,i32_w]
  rfl
 refine take_ (i:=3) (N:=some 30) (v:= ?_) (a':= ?_) #[true,true,true,true,true,true,false,false,false,true,false,false,false,false,false] rfl rfl (take_ofW HT_.out HW_.out (by kernel_rfl)) (fun _ _ _ h=>h) (Or.inl ⟨by rfl,?_⟩) hHeld ?_ ?_
 rotate_left
 ·rintro w' ⟨s0,s1,s2⟩
  go_simp
  with_reducible rfl
 rotate_left
 ·simp only[Act.put,List.setIfInBounds_toArray,List.set_cons_zero,List.set_cons_succ,i64_w,i32_w]
  rfl
 refine take_ (i:=8) (N:=some 35) (v:= ?_) (a':= ?_) #[true,true,true,true,true,true,false,false,true,true,false,false,false,false,false] rfl rfl (take_ofW HT_.out HW_.out (by kernel_rfl)) (fun _ _ _ h=>h) (Or.inl ⟨by rfl,?_⟩) hHeld ?_ ?_
 rotate_left
 ·rintro w' ⟨s0,s1,s2⟩
  go_simp
  with_reducible rfl
 rotate_left
 ·simp only[Act.put,List.setIfInBounds_toArray,List.set_cons_zero,List.set_cons_succ,i64_w,i32_w]
  rfl
 refine one_ (i:=6) (N:=some 33) #[true,true,true,true,true,true,true,false,true,true,false,false,false,false,false] rfl rfl (one_of HT_.out (by kernel_rfl)) (by decide) (fun K hK=> ?_)
 refine goes_ Try.func119 (by kernel_rfl) rfl #[.agg #[.int .i64 a0_0, .bool a0_1, .slice A0_2 l0_2.length c0_2], .int .i64 a1, .slice Ao16 t766.length co16] (by rfl) rfl rfl (by(try simp only[List.map_toArray,List.map_cons,List.map_nil]);first|done|rfl|(simp only[List.length_drop,List.length_take];rfl)) ?_
 with_reducible refine(maxflow_Value.calls k a0_0 a0_1 _ _ l0_2 a1 _ _ t766 t778 _ ?side1 ?side2 ?side3 ?side4 A8.out).mono ?_
 (case side1=>repeat(first|exact(Kd.C_below HR0_2.out HB.out)|(with_reducible refine Kd.C_alloc ?_ _)|(with_reducible refine Kd.C_drewN ?_ _)|(with_reducible refine Kd.C_drew ?_)))
 (case side2=>exact HC0_2.out)
 (case side3=>repeat(first|exact(Kd.R_reads' HO768.out).2.2|(with_reducible refine Kd.C_alloc ?_ _)|(with_reducible refine Kd.C_drewN ?_ _)|(with_reducible refine Kd.C_drew ?_)))
 (case side4=>exact(Kd.R_reads' HO768.out).2.1)
 rintro e w17 ⟨rfl,hb⟩
 refine⟨_,rfl,?_⟩
 have n0_:=Aside0.mk (Kd.R_below (by(with_reducible repeat(first|apply Kd.R_alloc|apply Kd.R_drewN|apply Kd.R_drew));exact HO768.out) hb)
 have n1_:=Aside0.mk (Kd.R_below (by(with_reducible repeat(first|apply Kd.R_alloc|apply Kd.R_drewN|apply Kd.R_drew));exact HO771.out) hb)
 have n2_:=Aside0.mk (Kd.R_below (by(with_reducible repeat(first|apply Kd.R_alloc|apply Kd.R_drewN|apply Kd.R_drew));exact HO774.out) hb)
 have n3_:=Aside0.mk (Kd.R_below (by(with_reducible repeat(first|apply Kd.R_alloc|apply Kd.R_drewN|apply Kd.R_drew));exact HO777.out) hb)
 have n4_:=Aside0.mk (blk_below (g:=gb764) (o:= .cells #[.int .i64 a0_0, .bool a0_1, .slice A0_2 l0_2.length c0_2] 24 (0,0)) (by(with_reducible repeat(first|refine blk_drewN ?_ _|refine blk_drew ?_|refine blk_alloc ?_ _));exact BK764.out) hb)
 have n5_:=Aside0.mk (below_step (by repeat(first|(with_reducible first|exact HB.out|apply below_alloc|apply pw_below_drewN|apply below_drew1|refine below_set ?_ GE764.out)|exact HB.out)) hb)
 clear HO768
 clear HO771
 clear HO774
 clear HO777
 clear BK764
 clear HB
 have HO768:=n0_
 have HO771:=n1_
 have HO774:=n2_
 have HO777:=n3_
 have BK764:=n4_
 have HB:=n5_
 clear n0_ n1_ n2_ n3_ n4_ n5_
 (try clear hb)
 (try clear hb2)
 (try clear hk)
 (try clear hi)
 refine hK.out _ _ ⟨(blk_cell BK764.out 0).trans rfl,(blk_cell BK764.out 1).trans rfl,(blk_cell BK764.out 2).trans rfl⟩ (fun hHeld=> ?_)
 clear hK K
 refine norm_ (a':= ?_) ?_ ?_
 rotate_left
 ·show Act.put _ (some 33) _=_
  simp only[Act.put,List.setIfInBounds_toArray,List.set_cons_zero,List.set_cons_succ,i64_w,i32_w]
  rfl
 refine pure_ (i:=7) (N:=some 34) (v:= ?_) (a':= ?_) #[true,true,true,true,true,true,true,true,true,true,false,false,false,false,false] rfl rfl (any_of HT_.out (by kernel_rfl)) (fun _ _ _ h=>h) (Or.inl ⟨by rfl,?_⟩) ?_ ?_
 rotate_left
 ·intro w'
  go_simp
  with_reducible rfl
 rotate_left
 ·simp only[Act.put,List.setIfInBounds_toArray,List.set_cons_zero,List.set_cons_succ,i64_w,i32_w]
  rfl
 refine one_ (i:=10) (N:=some 37) #[true,true,true,true,true,true,true,true,true,true,true,false,false,false,false] rfl rfl (one_of HT_.out (by kernel_rfl)) (by decide) (fun K hK=> ?_)
 refine goes_ Try.func116 (by kernel_rfl) rfl #[.agg #[.int .i64 a0_0, .bool a0_1, .slice A0_2 l0_2.length c0_2], .slice Ao16 t766.length co16] (by rfl) rfl rfl (by(try simp only[List.map_toArray,List.map_cons,List.map_nil]);first|done|rfl|(simp only[List.length_drop,List.length_take];rfl)) ?_
 with_reducible refine(span_paid.calls k a0_0 a0_1 _ _ l0_2 _ _ t766 t779 _ ?side1 ?side2 ?side3 ?side4 A9.out).mono ?_
 (case side1=>repeat(first|exact(Kd.C_below HR0_2.out HB.out)|(with_reducible refine Kd.C_alloc ?_ _)|(with_reducible refine Kd.C_drewN ?_ _)|(with_reducible refine Kd.C_drew ?_)))
 (case side2=>exact HC0_2.out)
 (case side3=>repeat(first|exact(Kd.R_reads' HO768.out).2.2|(with_reducible refine Kd.C_alloc ?_ _)|(with_reducible refine Kd.C_drewN ?_ _)|(with_reducible refine Kd.C_drew ?_)))
 (case side4=>exact(Kd.R_reads' HO768.out).2.1)
 rintro e w18 ⟨rfl,hb⟩
 refine⟨_,rfl,?_⟩
 have n0_:=Aside0.mk (Kd.R_below (by(with_reducible repeat(first|apply Kd.R_alloc|apply Kd.R_drewN|apply Kd.R_drew));exact HO768.out) hb)
 have n1_:=Aside0.mk (Kd.R_below (by(with_reducible repeat(first|apply Kd.R_alloc|apply Kd.R_drewN|apply Kd.R_drew));exact HO771.out) hb)
 have n2_:=Aside0.mk (Kd.R_below (by(with_reducible repeat(first|apply Kd.R_alloc|apply Kd.R_drewN|apply Kd.R_drew));exact HO774.out) hb)
 have n3_:=Aside0.mk (Kd.R_below (by(with_reducible repeat(first|apply Kd.R_alloc|apply Kd.R_drewN|apply Kd.R_drew));exact HO777.out) hb)
 have n4_:=Aside0.mk (blk_below (g:=gb764) (o:= .cells #[.int .i64 a0_0, .bool a0_1, .slice A0_2 l0_2.length c0_2] 24 (0,0)) (by(with_reducible repeat(first|refine blk_drewN ?_ _|refine blk_drew ?_|refine blk_alloc ?_ _));exact BK764.out) hb)
 have n5_:=Aside0.mk (below_step (by repeat(first|(with_reducible first|exact HB.out|apply below_alloc|apply pw_below_drewN|apply below_drew1|refine below_set ?_ GE764.out)|exact HB.out)) hb)
 clear HO768
 clear HO771
 clear HO774
 clear HO777
 clear BK764
 clear HB
 have HO768:=n0_
 have HO771:=n1_
 have HO774:=n2_
 have HO777:=n3_
 have BK764:=n4_
 have HB:=n5_
 clear n0_ n1_ n2_ n3_ n4_ n5_
 (try clear hb)
 (try clear hb2)
 (try clear hk)
 (try clear hi)
 refine hK.out _ _ ⟨(blk_cell BK764.out 0).trans rfl,(blk_cell BK764.out 1).trans rfl,(blk_cell BK764.out 2).trans rfl⟩ (fun hHeld=> ?_)
 clear hK K
 refine norm_ (a':= ?_) ?_ ?_
 rotate_left
 ·show Act.put _ (some 37) _=_
  simp only[Act.put,List.setIfInBounds_toArray,List.set_cons_zero,List.set_cons_succ,i64_w,i32_w]
  rfl
 refine pure_ (i:=11) (N:=some 38) (v:= ?_) (a':= ?_) #[true,true,true,true,true,true,true,true,true,true,true,true,false,false,false] rfl rfl (any_of HT_.out (by kernel_rfl)) (fun _ _ _ h=>h) (Or.inl ⟨by rfl,?_⟩) ?_ ?_
 rotate_left
 ·intro w'
  go_simp
  with_reducible rfl
 rotate_left
 ·simp only[Act.put,List.setIfInBounds_toArray,List.set_cons_zero,List.set_cons_succ,i64_w,i32_w]
  rfl
 refine pure_ (i:=12) (N:=some 8) (v:= ?_) (a':= ?_) #[true,true,true,true,true,true,true,true,true,true,true,true,true,false,false] rfl rfl (any_of HT_.out (by kernel_rfl)) (fun _ _ _ h=>h) (Or.inl ⟨by rfl,?_⟩) ?_ ?_
 rotate_left
 ·intro w'
  go_simp
  with_reducible rfl
 rotate_left
 ·simp only[Act.put,List.setIfInBounds_toArray,List.set_cons_zero,List.set_cons_succ,i64_w,i32_w]
  rfl
 refine pure_ (i:=13) (N:=some 9) (v:= ?_) (a':= ?_) #[true,true,true,true,true,true,true,true,true,true,true,true,true,true,false] rfl rfl (any_of HT_.out (by kernel_rfl)) (fun _ _ _ h=>h) (Or.inl ⟨by rfl,?_⟩) ?_ ?_
 rotate_left
 ·intro w'
  go_simp
  with_reducible rfl
 rotate_left
 ·simp only[Act.put,List.setIfInBounds_toArray,List.set_cons_zero,List.set_cons_succ,i64_w,i32_w]
  rfl
 refine pure_ (i:=14) (N:=some 10) (v:= ?_) (a':= ?_) #[true,true,true,true,true,true,true,true,true,true,true,true,true,true,true] rfl rfl (any_of HT_.out (by kernel_rfl)) (fun _ _ _ h=>h) (Or.inl ⟨by rfl,?_⟩) ?_ ?_
 rotate_left
 ·intro w'
  go_simp
  with_reducible rfl
 rotate_left
 ·simp only[Act.put,List.setIfInBounds_toArray,List.set_cons_zero,List.set_cons_succ,i64_w,i32_w]
  rfl
 refine done_ (done_of HT_.out (by kernel_rfl)) ?_
 try go_wp2
 go_ret3
 exact⟨_,by first|rfl|(simp[errW_none,errW_some]<;>rfl)|(simp[*,errW_none,errW_some]<;>rfl),by(with_reducible repeat(first|apply Kd.R_alloc|apply Kd.R_drewN|apply Kd.R_drew));exact Kd.R_mono HO768.out (fun _ hk=>trivial),by repeat(first|(with_reducible first|exact HB.out|apply below_alloc|apply pw_below_drewN|apply below_drew1|refine below_set ?_ GE764.out)|exact HB.out)⟩
end Go.Proofs.Ytkcpanpdipmmmaa.P
namespace Go.Proofs.Ytkcpanpdipmmmaa.P
open Go.RowKit Go.Proofs.YtkcpanpdipmmmaaW.PrintWords Go.Proofs.YtkcpanpdipmmmaaW.PrintLast Go.Proofs.YtkcpanpdipmmmaaW.PrintMore
attribute [local go_sem] max2_int min2_int max_two min_two max_three min_three max_four min_four
def span_Most.f (k:Nat) (a0_0:Int) (a0_1:Bool) (l0_2:List (S74)) (a1:Int) (a2:Int) (a3:Int):Option (Int × Int):=(span_Best.f k a0_0 a0_1 l0_2 a1 a2 a3).bind fun bt781=>(some (bt781.2.1,bt781.2.2))
set_option maxHeartbeats 8000000 in
set_option maxRecDepth 100000 in
theorem span_Most.calls (k:Nat) (a0_0:Int) (a0_1:Bool) (A0_2:Option Addr) (c0_2:Nat) (l0_2:List (S74)) (a1:Int) (a2:Int) (a3:Int) (r1:Int) (r2:Int) (w:World) (hr0_2:Kd.C k74 w A0_2 l0_2.length l0_2) (hc0_2:l0_2.length≤c0_2) (h:span_Most.f k a0_0 a0_1 l0_2 a1 a2 a3=some (r1,r2)):
  Calls Try.prog 67 #[.agg #[.int .i64 a0_0, .bool a0_1, .slice A0_2 l0_2.length c0_2], .int .i64 a1, .int .i64 a2, .int .i64 a3] w fun e w'=>e= .returned (.tuple #[.int .i64 r1, .int .i64 r2])∧Below w.heap.size w w':=by
 have hu24:=Try.underlying24
 have HR0_2:=Aside0.mk hr0_2
 have HC0_2:=Aside0.mk hc0_2
 clear hr0_2 hc0_2
 have HB:=Aside0.mk (Below.refl w.heap.size w)
 have H:((span_Best.f k a0_0 a0_1 l0_2 a1 a2 a3).bind fun bt781=>(some (bt781.2.1,bt781.2.2)))=some (r1,r2):=h
 clear h
 replace H:=Option.bind_eq_some_iff.mp H
 obtain⟨⟨t781,t784,t785⟩,A50,H⟩:=H
 replace H:(some (t784,t785))=some (r1,r2):=H
 have A5:=Aside0.mk A50
 clear A50
 simp only[Option.some.injEq,Prod.mk.injEq] at H
 obtain⟨rfl,rfl⟩:=H
 go_enter Try.func67,Try.ntmps67
 go_wp2_with (first|((with_reducible refine gate_dst (N:=4) rfl ?_);refine box_event ?hg (N:=4) ?hd (cs:= #[.int .i64 a0_0, .bool a0_1, .slice A0_2 l0_2.length c0_2]) (t:=24) ?hr ?_;(case hd=>rfl);(case hg=>rfl);(case hr=>first|(go_simp;done)|(go_simp;rfl));intro gb780 hg w6 hbox hb;have n0_:=Aside0.mk (below_step (by repeat(first|(with_reducible first|exact HB.out|apply below_alloc|apply pw_below_drewN|apply below_drew1)|exact HB.out)) hb);have n1_:=Aside0.mk (hbox);have n2_:=Aside0.mk ((by rw[hg];exact(below_size (by repeat(first|(with_reducible first|exact HB.out|apply below_alloc|apply pw_below_drewN|apply below_drew1)|exact HB.out))):w.heap.size≤gb780));have n3_:=Aside0.mk ((by rw[hg];exact(below_size (by repeat(first|(with_reducible first|exact HB.out|apply below_alloc|apply pw_below_drewN|apply below_drew1)|exact HB.out))):w.heap.size≤gb780));clear HB;have HB:=n0_;have BK780:=n1_;have GW780:=n2_;have GE780:=n3_;clear n0_ n1_ n2_ n3_;clear hb hbox hg;have hcz7_0:w6.cell? ⟨gb780,0,none⟩=some (.int .i64 a0_0):=(blk_cell BK780.out 0).trans rfl;have hcz7_1:w6.cell? ⟨gb780,1,none⟩=some (.bool a0_1):=(blk_cell BK780.out 1).trans rfl;have hcz7_2:w6.cell? ⟨gb780,2,none⟩=some (.slice A0_2 l0_2.length c0_2):=(blk_cell BK780.out 2).trans rfl;have hfz7_0:=blk_frozen BK780.out 0;have hfz7_1:=blk_frozen BK780.out 1;have hfz7_2:=blk_frozen BK780.out 2)|((with_reducible refine gate_callee (f:=69) rfl ?_);refine goesL_ (some 15) rfl rfl Try.func69 (by kernel_rfl) rfl #[.agg #[.int .i64 a0_0, .bool a0_1, .slice A0_2 l0_2.length c0_2], .int .i64 a1, .int .i64 a2, .int .i64 a3] rfl (by(try simp only[List.map_toArray,List.map_cons,List.map_nil]);first|done|rfl|(simp only[List.length_drop,List.length_take];rfl)) ?_;(with_reducible refine(span_Best.calls k a0_0 a0_1 _ _ l0_2 a1 a2 a3 t781 t784 t785 _ ?side1 ?side2 A5.out).mono ?_);(case side1=>repeat(first|exact(Kd.C_below HR0_2.out HB.out)|(with_reducible refine Kd.C_alloc ?_ _)|(with_reducible refine Kd.C_drewN ?_ _)|(with_reducible refine Kd.C_drew ?_)));(case side2=>exact HC0_2.out);rintro e w8 ⟨v782,rfl,ho0,hb⟩;refine⟨_,rfl,?_⟩;have n0_:=Aside0.mk (Kd.R_lower ho0 (below_size (by repeat(first|(with_reducible first|exact HB.out|apply below_alloc|apply pw_below_drewN|apply below_drew1|refine below_set ?_ GE780.out)|exact HB.out))));have n1_:=Aside0.mk (blk_below (g:=gb780) (o:= .cells #[.int .i64 a0_0, .bool a0_1, .slice A0_2 l0_2.length c0_2] 24 (0,0)) (by(with_reducible repeat(first|refine blk_drewN ?_ _|refine blk_drew ?_|refine blk_alloc ?_ _));exact BK780.out) hb);have n2_:=Aside0.mk (below_step (by repeat(first|(with_reducible first|exact HB.out|apply below_alloc|apply pw_below_drewN|apply below_drew1|refine below_set ?_ GE780.out)|exact HB.out)) hb);clear BK780;clear HB;have HO783:=n0_;have BK780:=n1_;have HB:=n2_;clear n0_ n1_ n2_;(try clear hb);(try clear hb2);(try clear hk);(try clear hi);(try clear ho0)))
 go_ret2
 exact⟨by first|rfl|(simp[errW_none,errW_some]<;>rfl)|(simp[*,errW_none,errW_some]<;>rfl),by repeat(first|(with_reducible first|exact HB.out|apply below_alloc|apply pw_below_drewN|apply below_drew1|refine below_set ?_ GE780.out)|exact HB.out)⟩
end Go.Proofs.Ytkcpanpdipmmmaa.P
namespace Go.Proofs.Ytkcpanpdipmmmaa.P
open Go.RowKit Go.Proofs.YtkcpanpdipmmmaaW.PrintWords Go.Proofs.YtkcpanpdipmmmaaW.PrintLast Go.Proofs.YtkcpanpdipmmmaaW.PrintMore
attribute [local go_sem] max2_int min2_int max_two min_two max_three min_three max_four min_four
def static_Balance.l0:Nat→List Int→List Int→List (S74)→Int→Int→Option (List Int × Int)
 |0,_,_,_,_,_=>none
 |k+1,x1,x7,x20,x21,x22=>if x22<x21 then(if 0≤x22 then(if x22<(x20.length:Int) then(if 0≤((rd_T74 x20 x22).f0) then(if ((rd_T74 x20 x22).f0)<(x7.length:Int) then(if x22<(x1.length:Int) then((some (x7.set (((rd_T74 x20 x22).f0):Int).toNat (wrap64 ((rd x7 ((rd_T74 x20 x22).f0))+(rd x1 x22))):List Int)).bind fun y714=>(if 0≤((rd_T74 x20 x22).f1) then(if ((rd_T74 x20 x22).f1)<(x7.length:Int) then(static_Balance.l0 k x1 (y714.set (((rd_T74 x20 x22).f1):Int).toNat (wrap64 ((rd y714 ((rd_T74 x20 x22).f1)) - (rd x1 x22)))) x20 x21 (wrap64 (x22+1))) else(none)) else(none))) else(none)) else(none)) else(none)) else(none)) else(none)) else(some (x7,0))
def static_Balance.f (k:Nat) (a0_0:Int) (a0_1:Bool) (l0_2:List (S74)) (l1:List Int):Option (List Int × Int):=(static_Asked.f k a0_0 a0_1 l0_2 l1).bind fun t706=>(if t706=0 then(if 0≤a0_0 then(if (a0_0:Int).toNat≤35184372088832 then(static_Balance.l0 k l1 (List.replicate (a0_0:Int).toNat 0) l0_2 (l0_2.length:Int) 0) else(none)) else(none)) else(some (([]:List Int),t706)))
def static_Balance.T8:Bool × List (List Nat × List Nat):=(true,[([],[]),([],[]),([1],[1]),([0,2],[0,2]),([3],[3]),([],[]),([],[]),([5,6],[5,6]),([7],[7]),([4,8],[4,8]),([0,2,0,1,2,3,4,5,6,7,8,9],[0,2]),([10,9,0,1,2,3,4,5,6,7,8,9],[9,10])])
def static_Balance.B8:List Nat:=[0,0,2,7,15,0,0,96,224,511,1023,2047]
theorem static_Balance.tab8:rtab .any (opsOf Try.f150 8)=static_Balance.T8:=by kernel_rfl
theorem static_Balance.bits8:waitsOk static_Balance.T8.2 static_Balance.B8=true:=by kernel_rfl
def static_Balance.T9:Bool × List (List Nat × List Nat):=(true,[([],[]),([],[]),([1],[1]),([0,2],[0,2]),([3],[3]),([],[]),([],[]),([5,6],[5,6]),([7],[7]),([4,8],[4,8]),([0,2,0,1,2,3,4,5,6,7,8,9],[0,2]),([10,9,0,1,2,3,4,5,6,7,8,9],[9,10])])
def static_Balance.B9:List Nat:=[0,0,2,7,15,0,0,96,224,511,1023,2047]
theorem static_Balance.tab9:rtab .any (opsOf Try.f150 9)=static_Balance.T9:=by kernel_rfl
theorem static_Balance.bits9:waitsOk static_Balance.T9.2 static_Balance.B9=true:=by kernel_rfl
set_option maxHeartbeats 8000000 in
set_option maxRecDepth 100000 in
theorem static_Balance.calls (k:Nat) (a0_0:Int) (a0_1:Bool) (A0_2:Option Addr) (c0_2:Nat) (l0_2:List (S74)) (A1:Option Addr) (c1:Nat) (l1:List Int) (r1:List Int) (r2:Int) (w:World) (hr0_2:Kd.C k74 w A0_2 l0_2.length l0_2) (hc0_2:l0_2.length≤c0_2) (hr1:Kd.C (Kd.int .i64) w A1 l1.length l1) (hc1:l1.length≤c1) (h:static_Balance.f k a0_0 a0_1 l0_2 l1=some (r1,r2)):
  Calls Try.prog 150 #[.agg #[.int .i64 a0_0, .bool a0_1, .slice A0_2 l0_2.length c0_2], .slice A1 l1.length c1] w fun e w'=> ∃ v0_:Value,e= .returned (.tuple #[v0_, .int .i64 r2])∧Kd.R (Kd.int .i64) 3 w' w.heap.size (fun _=>True) v0_ r1∧Below w.heap.size w w':=by
 have hu24:=Try.underlying24
 have hu74:=Try.underlying74
 have HR0_2:=Aside0.mk hr0_2
 have HC0_2:=Aside0.mk hc0_2
 clear hr0_2 hc0_2
 have HR1:=Aside0.mk hr1
 have HC1:=Aside0.mk hc1
 clear hr1 hc1
 have HB:=Aside0.mk (Below.refl w.heap.size w)
 have H:((static_Asked.f k a0_0 a0_1 l0_2 l1).bind fun t706=>(if t706=0 then(if 0≤a0_0 then(if (a0_0:Int).toNat≤35184372088832 then(static_Balance.l0 k l1 (List.replicate (a0_0:Int).toNat 0) l0_2 (l0_2.length:Int) 0) else(none)) else(none)) else(some (([]:List Int),t706))))=some (r1,r2):=h
 clear h
 replace H:=Option.bind_eq_some_iff.mp H
 obtain⟨t706,A30,H⟩:=H
 replace H:(if t706=0 then(if 0≤a0_0 then(if (a0_0:Int).toNat≤35184372088832 then(static_Balance.l0 k l1 (List.replicate (a0_0:Int).toNat 0) l0_2 (l0_2.length:Int) 0) else(none)) else(none)) else(some (([]:List Int),t706)))=some (r1,r2):=H
 have A3:=Aside0.mk A30
 clear A30
 by_cases c4:t706=0
 rotate_left
 ·rw[if_neg c4] at H
  have c4b0:(t706 == 0)=false:=beq_eq_false_iff_ne.mpr c4
  have c4b1:(t706 != 0)=true:=bne_iff_ne.mpr c4
  simp only[Option.some.injEq,Prod.mk.injEq] at H
  obtain⟨rfl,rfl⟩:=H
  go_enter Try.func150,Try.ntmps150
  go_wp2_with (first|((with_reducible refine gate_dst (N:=2) rfl ?_);refine box_event ?hg (N:=2) ?hd (cs:= #[.int .i64 a0_0, .bool a0_1, .slice A0_2 l0_2.length c0_2]) (t:=24) ?hr ?_;(case hd=>rfl);(case hg=>rfl);(case hr=>first|(go_simp;done)|(go_simp;rfl));intro gb705 hg w34 hbox hb;have n0_:=Aside0.mk (below_step (by repeat(first|(with_reducible first|exact HB.out|apply below_alloc|apply pw_below_drewN|apply below_drew1)|exact HB.out)) hb);have n1_:=Aside0.mk (hbox);have n2_:=Aside0.mk ((by rw[hg];exact(below_size (by repeat(first|(with_reducible first|exact HB.out|apply below_alloc|apply pw_below_drewN|apply below_drew1)|exact HB.out))):w.heap.size≤gb705));have n3_:=Aside0.mk ((by rw[hg];exact(below_size (by repeat(first|(with_reducible first|exact HB.out|apply below_alloc|apply pw_below_drewN|apply below_drew1)|exact HB.out))):w.heap.size≤gb705));clear HB;have HB:=n0_;have BK705:=n1_;have GW705:=n2_;have GE705:=n3_;clear n0_ n1_ n2_ n3_;clear hb hbox hg;have hcz35_0:w34.cell? ⟨gb705,0,none⟩=some (.int .i64 a0_0):=(blk_cell BK705.out 0).trans rfl;have hcz35_1:w34.cell? ⟨gb705,1,none⟩=some (.bool a0_1):=(blk_cell BK705.out 1).trans rfl;have hcz35_2:w34.cell? ⟨gb705,2,none⟩=some (.slice A0_2 l0_2.length c0_2):=(blk_cell BK705.out 2).trans rfl;have hfz35_0:=blk_frozen BK705.out 0;have hfz35_1:=blk_frozen BK705.out 1;have hfz35_2:=blk_frozen BK705.out 2)|((with_reducible refine gate_callee (f:=96) rfl ?_);refine goesL_ (some 12) rfl rfl Try.func96 (by kernel_rfl) rfl #[.agg #[.int .i64 a0_0, .bool a0_1, .slice A0_2 l0_2.length c0_2], .slice A1 l1.length c1] rfl (by(try simp only[List.map_toArray,List.map_cons,List.map_nil]);first|done|rfl|(simp only[List.length_drop,List.length_take];rfl)) ?_;(with_reducible refine(static_Asked.calls k a0_0 a0_1 _ _ l0_2 _ _ l1 t706 _ ?side1 ?side2 ?side3 ?side4 A3.out).mono ?_);(case side1=>repeat(first|exact(Kd.C_below HR0_2.out HB.out)|(with_reducible refine Kd.C_alloc ?_ _)|(with_reducible refine Kd.C_drewN ?_ _)|(with_reducible refine Kd.C_drew ?_)));(case side2=>exact HC0_2.out);(case side3=>repeat(first|exact(Kd.C_below HR1.out HB.out)|(with_reducible refine Kd.C_alloc ?_ _)|(with_reducible refine Kd.C_drewN ?_ _)|(with_reducible refine Kd.C_drew ?_)));(case side4=>exact HC1.out);rintro e w36 ⟨rfl,hb⟩;refine⟨_,rfl,?_⟩;have n0_:=Aside0.mk (blk_below (g:=gb705) (o:= .cells #[.int .i64 a0_0, .bool a0_1, .slice A0_2 l0_2.length c0_2] 24 (0,0)) (by(with_reducible repeat(first|refine blk_drewN ?_ _|refine blk_drew ?_|refine blk_alloc ?_ _));exact BK705.out) hb);have n1_:=Aside0.mk (below_step (by repeat(first|(with_reducible first|exact HB.out|apply below_alloc|apply pw_below_drewN|apply below_drew1|refine below_set ?_ GE705.out)|exact HB.out)) hb);clear BK705;clear HB;have BK705:=n0_;have HB:=n1_;clear n0_ n1_;(try clear hb);(try clear hb2);(try clear hk);(try clear hi)))
  go_ret2
  exact⟨_,by first|rfl|(simp[errW_none,errW_some]<;>rfl)|(simp[*,errW_none,errW_some]<;>rfl),by first|exact Kd.R_nil _ _ _ _ _|exact Kd.N_nil _ _ _ _ _|exact Kd.V_nil _ _ _ _ _|exact Kd.Q_nil _ _ _ _ _|exact Kd.S_nil _ _ _ _ _,by repeat(first|(with_reducible first|exact HB.out|apply below_alloc|apply pw_below_drewN|apply below_drew1|refine below_set ?_ GE705.out)|exact HB.out)⟩
 rw[if_pos c4] at H
 have c4b0:(t706 == 0)=true:=beq_iff_eq.mpr c4
 have c4b1:(t706 != 0)=false:=bne_eq_false_iff_eq.mpr c4
 clear c4
 by_cases c5:0≤a0_0
 rotate_left
 ·rw[if_neg c5] at H
  exact absurd H (by simp)
 rw[if_pos c5] at H
 have c5b0:=eq_true c5
 have c5b1:decide (0≤a0_0)=true:=decide_eq_true c5
 clear c5
 by_cases c6:(a0_0:Int).toNat≤35184372088832
 rotate_left
 ·rw[if_neg c6] at H
  exact absurd H (by simp)
 rw[if_pos c6] at H
 have c6b0:=eq_true c6
 have c6b1:decide ((a0_0:Int).toNat≤35184372088832)=true:=decide_eq_true c6
 clear c6
 obtain⟨y707,hy707⟩: ∃ y_:List Int,y_=(List.replicate (a0_0:Int).toNat 0):=⟨_,rfl⟩
 replace H:(static_Balance.l0 k l1 y707 l0_2 (l0_2.length:Int) 0)=some (r1,r2):=by first|(rw[hy707];with_reducible exact H)|(have H2_:=(Option.bind_some _ _).symm.trans H;rw[hy707];with_reducible exact H2_)|(have H2_:=(Option.bind_some _ _).symm.trans H;with_reducible exact H2_)|with_reducible exact H|(rw[hy707];exact H)|exact H
 have Ny707:=Aside0.mk hy707
 clear hy707
 have H':=Aside0.mk H
 clear H
 go_enter Try.func150,Try.ntmps150
 go_wp2_with (first|((with_reducible refine gate_dst (N:=2) rfl ?_);refine box_event ?hg (N:=2) ?hd (cs:= #[.int .i64 a0_0, .bool a0_1, .slice A0_2 l0_2.length c0_2]) (t:=24) ?hr ?_;(case hd=>rfl);(case hg=>rfl);(case hr=>first|(go_simp;done)|(go_simp;rfl));intro gb705 hg w7 hbox hb;have n0_:=Aside0.mk (below_step (by repeat(first|(with_reducible first|exact HB.out|apply below_alloc|apply pw_below_drewN|apply below_drew1)|exact HB.out)) hb);have n1_:=Aside0.mk (hbox);have n2_:=Aside0.mk ((by rw[hg];exact(below_size (by repeat(first|(with_reducible first|exact HB.out|apply below_alloc|apply pw_below_drewN|apply below_drew1)|exact HB.out))):w.heap.size≤gb705));have n3_:=Aside0.mk ((by rw[hg];exact(below_size (by repeat(first|(with_reducible first|exact HB.out|apply below_alloc|apply pw_below_drewN|apply below_drew1)|exact HB.out))):w.heap.size≤gb705));clear HB;have HB:=n0_;have BK705:=n1_;have GW705:=n2_;have GE705:=n3_;clear n0_ n1_ n2_ n3_;clear hb hbox hg;have hcz8_0:w7.cell? ⟨gb705,0,none⟩=some (.int .i64 a0_0):=(blk_cell BK705.out 0).trans rfl;have hcz8_1:w7.cell? ⟨gb705,1,none⟩=some (.bool a0_1):=(blk_cell BK705.out 1).trans rfl;have hcz8_2:w7.cell? ⟨gb705,2,none⟩=some (.slice A0_2 l0_2.length c0_2):=(blk_cell BK705.out 2).trans rfl;have hfz8_0:=blk_frozen BK705.out 0;have hfz8_1:=blk_frozen BK705.out 1;have hfz8_2:=blk_frozen BK705.out 2)|((with_reducible refine gate_callee (f:=96) rfl ?_);refine goesL_ (some 12) rfl rfl Try.func96 (by kernel_rfl) rfl #[.agg #[.int .i64 a0_0, .bool a0_1, .slice A0_2 l0_2.length c0_2], .slice A1 l1.length c1] rfl (by(try simp only[List.map_toArray,List.map_cons,List.map_nil]);first|done|rfl|(simp only[List.length_drop,List.length_take];rfl)) ?_;(with_reducible refine(static_Asked.calls k a0_0 a0_1 _ _ l0_2 _ _ l1 t706 _ ?side1 ?side2 ?side3 ?side4 A3.out).mono ?_);(case side1=>repeat(first|exact(Kd.C_below HR0_2.out HB.out)|(with_reducible refine Kd.C_alloc ?_ _)|(with_reducible refine Kd.C_drewN ?_ _)|(with_reducible refine Kd.C_drew ?_)));(case side2=>exact HC0_2.out);(case side3=>repeat(first|exact(Kd.C_below HR1.out HB.out)|(with_reducible refine Kd.C_alloc ?_ _)|(with_reducible refine Kd.C_drewN ?_ _)|(with_reducible refine Kd.C_drew ?_)));(case side4=>exact HC1.out);rintro e w9 ⟨rfl,hb⟩;refine⟨_,rfl,?_⟩;have n0_:=Aside0.mk (blk_below (g:=gb705) (o:= .cells #[.int .i64 a0_0, .bool a0_1, .slice A0_2 l0_2.length c0_2] 24 (0,0)) (by(with_reducible repeat(first|refine blk_drewN ?_ _|refine blk_drew ?_|refine blk_alloc ?_ _));exact BK705.out) hb);have n1_:=Aside0.mk (below_step (by repeat(first|(with_reducible first|exact HB.out|apply below_alloc|apply pw_below_drewN|apply below_drew1|refine below_set ?_ GE705.out)|exact HB.out)) hb);clear BK705;clear HB;have BK705:=n0_;have HB:=n1_;clear n0_ n1_;(try clear hb);(try clear hb2);(try clear hk);(try clear hi);have hcz10_0:w9.cell? ⟨gb705,0,none⟩=some (.int .i64 a0_0):=(blk_cell BK705.out 0).trans rfl;have hcz10_1:w9.cell? ⟨gb705,1,none⟩=some (.bool a0_1):=(blk_cell BK705.out 1).trans rfl;have hcz10_2:w9.cell? ⟨gb705,2,none⟩=some (.slice A0_2 l0_2.length c0_2):=(blk_cell BK705.out 2).trans rfl;have hfz10_0:=blk_frozen BK705.out 0;have hfz10_1:=blk_frozen BK705.out 1;have hfz10_2:=blk_frozen BK705.out 2)|((with_reducible refine gate_dst (N:=18) rfl ?_);refine Kd.R_make (Kd.int .i64) _ 3 rfl (N:=18) rfl 25 _ _ rfl a0_0 rfl rfl Try.underlying25 (.int .i64 0) 8 info3 rfl (by decide) (by omega) 0 (ok:=fun _=>True) (okp:=fun _=>True) rfl (fun _ hk=>hk) trivial (of_decide_eq_true (by first|(with_reducible assumption)|assumption)) (Nat.le_trans (Nat.mul_le_mul_right _ (of_decide_eq_true (by first|(with_reducible assumption)|assumption):a0_0.toNat≤35184372088832)) (by omega)) (Below.refl _ _) (Nat.le_refl _) ?_;intro v708 w11 ho12 hb hg_ hnew_;clear hg_ hnew_;(first|rw[← Ny707.out] at ho12|(simp only[Int.reduceToNat] at ho12;rw[← Ny707.out] at ho12));have n0_:=Aside0.mk (Kd.R_lower ho12 (below_size (by repeat(first|(with_reducible first|exact HB.out|apply below_alloc|apply pw_below_drewN|apply below_drew1|refine below_set ?_ GE705.out)|exact HB.out))));have n1_:=Aside0.mk (blk_below (g:=gb705) (o:= .cells #[.int .i64 a0_0, .bool a0_1, .slice A0_2 l0_2.length c0_2] 24 (0,0)) (by(with_reducible repeat(first|refine blk_drewN ?_ _|refine blk_drew ?_|refine blk_alloc ?_ _));exact BK705.out) hb);have n2_:=Aside0.mk (below_step (by repeat(first|(with_reducible first|exact HB.out|apply below_alloc|apply pw_below_drewN|apply below_drew1|refine below_set ?_ GE705.out)|exact HB.out)) hb);clear BK705;clear HB;have HO709:=n0_;have BK705:=n1_;have HB:=n2_;clear n0_ n1_ n2_;clear hb ho12;have hcz13_0:w11.cell? ⟨gb705,0,none⟩=some (.int .i64 a0_0):=(blk_cell BK705.out 0).trans rfl;have hcz13_1:w11.cell? ⟨gb705,1,none⟩=some (.bool a0_1):=(blk_cell BK705.out 1).trans rfl;have hcz13_2:w11.cell? ⟨gb705,2,none⟩=some (.slice A0_2 l0_2.length c0_2):=(blk_cell BK705.out 2).trans rfl;have hfz13_0:=blk_frozen BK705.out 0;have hfz13_1:=blk_frozen BK705.out 1;have hfz13_2:=blk_frozen BK705.out 2))
 go_loopg [22] k (fun kq v22 w'=> ∃ (x7_1:List Int) (x22_1:Int),v22= .int .i64 x22_1∧Aside0 (static_Balance.l0 kq l1 x7_1 l0_2 (l0_2.length:Int) x22_1=some (r1,r2))∧Aside0 (kq≤k)∧Aside0 (Kd.R (Kd.int .i64) 3 w' w.heap.size (fun _=>True) v708 x7_1)∧Aside0 (w'.heap[gb705]? =some (.cells #[.int .i64 a0_0, .bool a0_1,(.slice A0_2 l0_2.length c0_2)] 24 (0,0)))∧Aside0 (Below w.heap.size w w'))
 case atStart=>exact⟨(y707),(0),(by first|rfl|(simp;done)|(simp[*];done)),H',⟨Nat.le_refl _⟩,⟨by(with_reducible repeat(first|apply Kd.R_alloc|apply Kd.R_drewN|apply Kd.R_drew));exact HO709.out⟩,⟨by(with_reducible repeat(first|refine blk_drewN ?_ _|refine blk_drew ?_|refine blk_alloc ?_ _));exact BK705.out⟩,⟨by repeat(first|(with_reducible first|exact HB.out|apply below_alloc|apply pw_below_drewN|apply below_drew1|refine below_set ?_ GE705.out)|exact HB.out)⟩⟩
 case round=>
  clear H'
  try clear c1
  try clear p2
  try clear c4
  try clear c4b0
  try clear c4b1
  try clear c5
  try clear c5b0
  try clear c5b1
  try clear c6
  try clear c6b0
  try clear c6b1
  try clear c9
  try clear hcz10_0
  try clear hcz10_1
  try clear hcz10_2
  try clear hcz13_0
  try clear hcz13_1
  try clear hcz13_2
  try clear hcz8_0
  try clear hcz8_1
  try clear hcz8_2
  try clear hfz10_0
  try clear hfz10_1
  try clear hfz10_2
  try clear hfz13_0
  try clear hfz13_1
  try clear hfz13_2
  try clear hfz8_0
  try clear hfz8_1
  try clear hfz8_2
  obtain⟨x7_1,x22_1,rfl,HA,HK1,HO_7,BK705,HB⟩:=hrel
  cases gk with
  |zero=>exact absurd HA.out (by simp[static_Balance.l0])
  |succ k1=>
   have H:=HA.out
   clear HA
   simp only[static_Balance.l0] at H
   by_cases c14:x22_1<(l0_2.length:Int)
   rotate_left
   ·rw[if_neg c14] at H
    have c14b0:decide (x22_1<(l0_2.length:Int))=false:=decide_eq_false c14
    clear c14
    simp only[Option.some.injEq,Prod.mk.injEq] at H
    obtain⟨rfl,rfl⟩:=H
    go_wp2
    go_ret2
    exact⟨_,by first|rfl|(simp[errW_none,errW_some]<;>rfl)|(simp[*,errW_none,errW_some]<;>rfl),by(with_reducible repeat(first|apply Kd.R_alloc|apply Kd.R_drewN|apply Kd.R_drew));exact HO_7.out,by repeat(first|(with_reducible first|exact HB.out|apply below_alloc|apply pw_below_drewN|apply below_drew1|refine below_set ?_ GE705.out)|exact HB.out)⟩
   rw[if_pos c14] at H
   have c14b0:decide (x22_1<(l0_2.length:Int))=true:=decide_eq_true c14
   clear c14
   by_cases c15:0≤x22_1
   rotate_left
   ·rw[if_neg c15] at H
    exact absurd H (by simp)
   rw[if_pos c15] at H
   have c15b0:decide (0≤x22_1)=true:=decide_eq_true c15
   clear c15
   by_cases c16:x22_1<(l0_2.length:Int)
   rotate_left
   ·rw[if_neg c16] at H
    exact absurd H (by simp)
   rw[if_pos c16] at H
   have c16b0:decide (x22_1<(l0_2.length:Int))=true:=decide_eq_true c16
   clear c16
   by_cases c17:0≤((rd_T74 l0_2 x22_1).f0)
   rotate_left
   ·rw[if_neg c17] at H
    exact absurd H (by simp)
   rw[if_pos c17] at H
   have c17b0:decide (0≤((rd_T74 l0_2 x22_1).f0))=true:=decide_eq_true c17
   clear c17
   by_cases c18:((rd_T74 l0_2 x22_1).f0)<(x7_1.length:Int)
   rotate_left
   ·rw[if_neg c18] at H
    exact absurd H (by simp)
   rw[if_pos c18] at H
   have c18b0:decide (((rd_T74 l0_2 x22_1).f0)<(x7_1.length:Int))=true:=decide_eq_true c18
   clear c18
   by_cases c19:x22_1<(l1.length:Int)
   rotate_left
   ·rw[if_neg c19] at H
    exact absurd H (by simp)
   rw[if_pos c19] at H
   have c19b0:decide (x22_1<(l1.length:Int))=true:=decide_eq_true c19
   clear c19
   obtain⟨y714,hy714⟩: ∃ y_:List Int,y_=(x7_1.set (((rd_T74 l0_2 x22_1).f0):Int).toNat (wrap64 ((rd x7_1 ((rd_T74 l0_2 x22_1).f0))+(rd l1 x22_1)))):=⟨_,rfl⟩
   replace H:(if 0≤((rd_T74 l0_2 x22_1).f1) then(if ((rd_T74 l0_2 x22_1).f1)<(x7_1.length:Int) then(static_Balance.l0 k1 l1 (y714.set (((rd_T74 l0_2 x22_1).f1):Int).toNat (wrap64 ((rd y714 ((rd_T74 l0_2 x22_1).f1)) - (rd l1 x22_1)))) l0_2 (l0_2.length:Int) (wrap64 (x22_1+1))) else(none)) else(none))=some (r1,r2):=by first|(rw[hy714];with_reducible exact H)|(have H2_:=(Option.bind_some _ _).symm.trans H;rw[hy714];with_reducible exact H2_)|(have H2_:=(Option.bind_some _ _).symm.trans H;with_reducible exact H2_)|with_reducible exact H|(rw[hy714];exact H)|exact H
   have Ny714:=Aside0.mk hy714
   clear hy714
   by_cases c21:0≤((rd_T74 l0_2 x22_1).f1)
   rotate_left
   ·rw[if_neg c21] at H
    exact absurd H (by simp)
   rw[if_pos c21] at H
   have c21b0:decide (0≤((rd_T74 l0_2 x22_1).f1))=true:=decide_eq_true c21
   clear c21
   by_cases c22:((rd_T74 l0_2 x22_1).f1)<(x7_1.length:Int)
   rotate_left
   ·rw[if_neg c22] at H
    exact absurd H (by simp)
   rw[if_pos c22] at H
   have c22b0:decide (((rd_T74 l0_2 x22_1).f1)<(x7_1.length:Int))=true:=decide_eq_true c22
   clear c22
   obtain⟨y717,hy717⟩: ∃ y_:List Int,y_=(y714.set (((rd_T74 l0_2 x22_1).f1):Int).toNat (wrap64 ((rd y714 ((rd_T74 l0_2 x22_1).f1)) - (rd l1 x22_1)))):=⟨_,rfl⟩
   replace H:(static_Balance.l0 k1 l1 y717 l0_2 (l0_2.length:Int) (wrap64 (x22_1+1)))=some (r1,r2):=by first|(rw[hy717];with_reducible exact H)|(have H2_:=(Option.bind_some _ _).symm.trans H;rw[hy717];with_reducible exact H2_)|(have H2_:=(Option.bind_some _ _).symm.trans H;with_reducible exact H2_)|with_reducible exact H|(rw[hy717];exact H)|exact H
   have Ny717:=Aside0.mk hy717
   clear hy717
   have H':=Aside0.mk H
   clear H
   have p710:0≤(x22_1:Int):=of_decide_eq_true (by first|(with_reducible assumption)|assumption)
   have q710:x22_1<(l0_2.length:Int):=of_decide_eq_true (by first|(with_reducible assumption)|assumption)
   obtain⟨ad710,e710,hx710_0,hx710_1,hx710_2,hx710_3⟩:=at_T74 HR0_2.out x22_1 p710 q710
   cases e710
   replace hx710_0:=(HB.out.cell (World.block_lt_of_cell? w _ hx710_0)).trans hx710_0
   replace hx710_1:=(HB.out.cell (World.block_lt_of_cell? w _ hx710_1)).trans hx710_1
   replace hx710_2:=(HB.out.cell (World.block_lt_of_cell? w _ hx710_2)).trans hx710_2
   replace hx710_3:=(HB.out.cell (World.block_lt_of_cell? w _ hx710_3)).trans hx710_3
   replace p710:=eq_true p710
   replace q710:=eq_true q710
   try go_wp2_with (first|((with_reducible refine gate_dst (N:=9) rfl ?_);refine box_event ?hg (N:=9) ?hd (cs:= #[.int .i64 0, .int .i64 0, .int .i64 0, .int .i64 0]) (t:=74) ?hr ?_;(case hd=>rfl);(case hg=>rfl);(case hr=>first|(go_simp;done)|(go_simp;rfl));intro gb711 hg w24 hbox hb;have n0_:=Aside0.mk (Kd.R_below (by(with_reducible repeat(first|apply Kd.R_alloc|apply Kd.R_drewN|apply Kd.R_drew));exact HO_7.out) hb);have n1_:=Aside0.mk (blk_below (g:=gb705) (o:= .cells #[.int .i64 a0_0, .bool a0_1, .slice (some ad710) l0_2.length c0_2] 24 (0,0)) (by(with_reducible repeat(first|refine blk_drewN ?_ _|refine blk_drew ?_|refine blk_alloc ?_ _));exact BK705.out) hb);have n2_:=Aside0.mk (below_step (by repeat(first|(with_reducible first|exact HB.out|apply below_alloc|apply pw_below_drewN|apply below_drew1|refine below_set ?_ GE705.out)|exact HB.out)) hb);have n3_:=Aside0.mk (hbox);have n4_:=Aside0.mk ((by rw[hg];exact(below_size (by repeat(first|(with_reducible first|exact HB.out|apply below_alloc|apply pw_below_drewN|apply below_drew1|refine below_set ?_ GE705.out)|exact HB.out))):w.heap.size≤gb711));have n5_:=Aside0.mk ((by rw[hg];exact(below_size (by repeat(first|(with_reducible first|exact HB.out|apply below_alloc|apply pw_below_drewN|apply below_drew1|refine below_set ?_ GE705.out)|exact HB.out))):w.heap.size≤gb711));have n6_:=Aside0.mk ((by rw[hg];exact Nat.ne_of_lt (blk_lt (g:=gb705) (o:= .cells #[.int .i64 a0_0, .bool a0_1, .slice (some ad710) l0_2.length c0_2] 24 (0,0)) (by(with_reducible repeat(first|refine blk_drewN ?_ _|refine blk_drew ?_|refine blk_alloc ?_ _));exact BK705.out)):gb705≠gb711));have n7_:=Aside0.mk ((by rw[hg];exact Nat.ne_of_gt (blk_lt (g:=gb705) (o:= .cells #[.int .i64 a0_0, .bool a0_1, .slice (some ad710) l0_2.length c0_2] 24 (0,0)) (by(with_reducible repeat(first|refine blk_drewN ?_ _|refine blk_drew ?_|refine blk_alloc ?_ _));exact BK705.out)):gb711≠gb705));clear HO_7;clear BK705;clear HB;have HO_7:=n0_;have BK705:=n1_;have HB:=n2_;have BK711:=n3_;have GW711:=n4_;have GE711:=n5_;have NB705_711:=n6_;have NB711_705:=n7_;clear n0_ n1_ n2_ n3_ n4_ n5_ n6_ n7_;clear hb hbox hg;have hnb25:=NB711_705.out;have hnc25:=NB705_711.out;have hcz26_0:w24.cell? ⟨gb711,0,none⟩=some (.int .i64 0):=(blk_cell BK711.out 0).trans rfl;have hcz26_1:w24.cell? ⟨gb711,1,none⟩=some (.int .i64 0):=(blk_cell BK711.out 1).trans rfl;have hcz26_2:w24.cell? ⟨gb711,2,none⟩=some (.int .i64 0):=(blk_cell BK711.out 2).trans rfl;have hcz26_3:w24.cell? ⟨gb711,3,none⟩=some (.int .i64 0):=(blk_cell BK711.out 3).trans rfl;have hfz26_0:=blk_frozen BK711.out 0;have hfz26_1:=blk_frozen BK711.out 1;have hfz26_2:=blk_frozen BK711.out 2;have hfz26_3:=blk_frozen BK711.out 3))
   have n0_:Aside0 (Kd.R (Kd.int .i64) 3 ((((w24.setCell ⟨gb711,0,none⟩ (.int .i64 ((rd_T74 l0_2 x22_1).f0))).setCell ⟨gb711,1,none⟩ (.int .i64 ((rd_T74 l0_2 x22_1).f1))).setCell ⟨gb711,2,none⟩ (.int .i64 ((rd_T74 l0_2 x22_1).f2))).setCell ⟨gb711,3,none⟩ (.int .i64 ((rd_T74 l0_2 x22_1).f3))) w.heap.size (fun _=>True) v708 x7_1):=⟨by(with_reducible repeat(first|apply Kd.R_alloc|apply Kd.R_drewN|apply Kd.R_drew));exact Kd.R_mono (Kd.R_far (p:=⟨gb711,3,none⟩) (Kd.R_far (p:=⟨gb711,2,none⟩) (Kd.R_far (p:=⟨gb711,1,none⟩) (Kd.R_far (p:=⟨gb711,0,none⟩) (Kd.R_types HO_7.out BK711.out (by decide)) (fun _ hk=>hk.2) (.int .i64 ((rd_T74 l0_2 x22_1).f0))) (fun _ hk=>hk.2) (.int .i64 ((rd_T74 l0_2 x22_1).f1))) (fun _ hk=>hk.2) (.int .i64 ((rd_T74 l0_2 x22_1).f2))) (fun _ hk=>hk.2) (.int .i64 ((rd_T74 l0_2 x22_1).f3))) (fun _ hk=>trivial)⟩
   have n1_:Aside0 (((((w24.setCell ⟨gb711,0,none⟩ (.int .i64 ((rd_T74 l0_2 x22_1).f0))).setCell ⟨gb711,1,none⟩ (.int .i64 ((rd_T74 l0_2 x22_1).f1))).setCell ⟨gb711,2,none⟩ (.int .i64 ((rd_T74 l0_2 x22_1).f2))).setCell ⟨gb711,3,none⟩ (.int .i64 ((rd_T74 l0_2 x22_1).f3))).heap[gb705]? =some (.cells #[.int .i64 a0_0, .bool a0_1, .slice (some ad710) l0_2.length c0_2] 24 (0,0))):=⟨by(with_reducible repeat(first|refine blk_drewN ?_ _|refine blk_drew ?_|refine blk_alloc ?_ _));refine blk_far ?_ NB705_711.out _;(with_reducible repeat(first|refine blk_drewN ?_ _|refine blk_drew ?_|refine blk_alloc ?_ _));refine blk_far ?_ NB705_711.out _;(with_reducible repeat(first|refine blk_drewN ?_ _|refine blk_drew ?_|refine blk_alloc ?_ _));refine blk_far ?_ NB705_711.out _;(with_reducible repeat(first|refine blk_drewN ?_ _|refine blk_drew ?_|refine blk_alloc ?_ _));refine blk_far ?_ NB705_711.out _;(with_reducible repeat(first|refine blk_drewN ?_ _|refine blk_drew ?_|refine blk_alloc ?_ _));exact BK705.out⟩
   have n2_:Aside0 (((((w24.setCell ⟨gb711,0,none⟩ (.int .i64 ((rd_T74 l0_2 x22_1).f0))).setCell ⟨gb711,1,none⟩ (.int .i64 ((rd_T74 l0_2 x22_1).f1))).setCell ⟨gb711,2,none⟩ (.int .i64 ((rd_T74 l0_2 x22_1).f2))).setCell ⟨gb711,3,none⟩ (.int .i64 ((rd_T74 l0_2 x22_1).f3))).heap[gb711]? =some (.cells #[.int .i64 ((rd_T74 l0_2 x22_1).f0), .int .i64 ((rd_T74 l0_2 x22_1).f1), .int .i64 ((rd_T74 l0_2 x22_1).f2), .int .i64 ((rd_T74 l0_2 x22_1).f3)] 74 (0,0))):=⟨by(with_reducible repeat(first|refine blk_drewN ?_ _|refine blk_drew ?_|refine blk_alloc ?_ _));refine blk_put (cs:= #[.int .i64 ((rd_T74 l0_2 x22_1).f0), .int .i64 ((rd_T74 l0_2 x22_1).f1), .int .i64 ((rd_T74 l0_2 x22_1).f2), .int .i64 0]) ?_ 3 _ rfl;(with_reducible repeat(first|refine blk_drewN ?_ _|refine blk_drew ?_|refine blk_alloc ?_ _));refine blk_put (cs:= #[.int .i64 ((rd_T74 l0_2 x22_1).f0), .int .i64 ((rd_T74 l0_2 x22_1).f1), .int .i64 0, .int .i64 0]) ?_ 2 _ rfl;(with_reducible repeat(first|refine blk_drewN ?_ _|refine blk_drew ?_|refine blk_alloc ?_ _));refine blk_put (cs:= #[.int .i64 ((rd_T74 l0_2 x22_1).f0), .int .i64 0, .int .i64 0, .int .i64 0]) ?_ 1 _ rfl;(with_reducible repeat(first|refine blk_drewN ?_ _|refine blk_drew ?_|refine blk_alloc ?_ _));refine blk_put (cs:= #[.int .i64 0, .int .i64 0, .int .i64 0, .int .i64 0]) ?_ 0 _ rfl;(with_reducible repeat(first|refine blk_drewN ?_ _|refine blk_drew ?_|refine blk_alloc ?_ _));exact BK711.out⟩
   have n3_:Aside0 (Below w.heap.size w ((((w24.setCell ⟨gb711,0,none⟩ (.int .i64 ((rd_T74 l0_2 x22_1).f0))).setCell ⟨gb711,1,none⟩ (.int .i64 ((rd_T74 l0_2 x22_1).f1))).setCell ⟨gb711,2,none⟩ (.int .i64 ((rd_T74 l0_2 x22_1).f2))).setCell ⟨gb711,3,none⟩ (.int .i64 ((rd_T74 l0_2 x22_1).f3)))):=⟨by repeat(first|(with_reducible first|exact HB.out|apply below_alloc|apply pw_below_drewN|apply below_drew1|refine below_set ?_ GE705.out|refine below_set ?_ GE711.out)|exact HB.out)⟩
   (try clear HO_7)
   (try clear BK705)
   (try clear BK711)
   (try clear HB)
   generalize ((((w24.setCell ⟨gb711,0,none⟩ (.int .i64 ((rd_T74 l0_2 x22_1).f0))).setCell ⟨gb711,1,none⟩ (.int .i64 ((rd_T74 l0_2 x22_1).f1))).setCell ⟨gb711,2,none⟩ (.int .i64 ((rd_T74 l0_2 x22_1).f2))).setCell ⟨gb711,3,none⟩ (.int .i64 ((rd_T74 l0_2 x22_1).f3)))=w27 at n0_ n1_ n2_ n3_ ⊢
   have HO_7:=n0_
   have BK705:=n1_
   have BK711:=n2_
   have HB:=n3_
   clear n0_ n1_ n2_ n3_
   have n0_:=Aside0.mk (Kd.R_drew HO_7.out)
   have n1_:=Aside0.mk (blk_drew BK705.out)
   have n2_:=Aside0.mk (blk_drew BK711.out)
   have n3_:=Aside0.mk (below_drew1 HB.out)
   clear HO_7
   clear BK705
   clear BK711
   clear HB
   have HO_7:=n0_
   have BK705:=n1_
   have BK711:=n2_
   have HB:=n3_
   clear n0_ n1_ n2_ n3_
   obtain⟨Ao29,co29,eo29⟩:=Kd.R_slice HO_7.out
   (first|subst eo29|(injection eo29 with f1_ f2_ f3_;have f4_:=f1_.symm;have f5_:=f3_.symm;clear f1_ f2_ f3_;subst f4_;subst f5_))
   have p712:0≤(((rd_T74 l0_2 x22_1).f0):Int):=of_decide_eq_true (by first|(with_reducible assumption)|assumption)
   have q712:((rd_T74 l0_2 x22_1).f0)<(x7_1.length:Int):=of_decide_eq_true (by first|(with_reducible assumption)|assumption)
   obtain⟨ad712,e712,hx712_0⟩:=Kd.at_int (Kd.R_reads' HO_7.out).2.2 ((rd_T74 l0_2 x22_1).f0) p712 q712
   cases e712
   replace p712:=eq_true p712
   replace q712:=eq_true q712
   have p713:0≤(x22_1:Int):=of_decide_eq_true (by first|(with_reducible assumption)|assumption)
   have q713:x22_1<(l1.length:Int):=of_decide_eq_true (by first|(with_reducible assumption)|assumption)
   obtain⟨ad713,e713,hx713_0⟩:=Kd.at_int HR1.out x22_1 p713 q713
   have hw713_0:=hx713_0
   cases e713
   replace hx713_0:=(HB.out.cell (World.block_lt_of_cell? w _ hx713_0)).trans hx713_0
   replace p713:=eq_true p713
   replace q713:=eq_true q713
   have p20:0≤(((rd_T74 l0_2 x22_1).f0):Int):=of_decide_eq_true (by first|(with_reducible assumption)|assumption)
   have q20:(((rd_T74 l0_2 x22_1).f0):Int)<((x7_1.length:Int):Int):=of_decide_eq_true (by first|(with_reducible assumption)|assumption)
   obtain⟨go20,co20,eo20,gb20,gl20,cl20,HG20⟩:=Kd.R_form HO_7.out (by omega)
   (first|cases eo20|(injection eo20 with ea_ en_ ec_;(first|subst ea_|(injection ea_ with ea_;subst ea_));subst ec_;clear en_))
   have GB20:=Aside0.mk gb20
   have GG20:=Aside0.mk HG20
   clear gb20 gl20 HG20
   (first|simp only[add_plain] at hx712_0|skip)
   obtain⟨hx20_0,hf20_0⟩:=Kd.R_celln 0 HO_7.out (((rd_T74 l0_2 x22_1).f0):Int) p20 q20
   replace p20:=eq_true p20
   replace q20:=eq_true q20
   have HP30:=Kd.R_putn HO_7.out (((rd_T74 l0_2 x22_1).f0):Int) (wrap64 ((rd x7_1 ((rd_T74 l0_2 x22_1).f0))+(rd l1 x22_1)))
   rw[← Ny714.out] at HP30
   have HQ30:=Aside0.mk HP30
   clear HP30
   refine start_ (n:=12) (S:=fun w'=>w'.cell? ⟨gb711,0,none⟩=some (.int .i64 ((rd_T74 l0_2 x22_1).f0))∧w'.cell? ⟨gb711,1,none⟩=some (.int .i64 ((rd_T74 l0_2 x22_1).f1))∧w'.cell? ⟨gb711,2,none⟩=some (.int .i64 ((rd_T74 l0_2 x22_1).f2))∧w'.cell? ⟨gb711,3,none⟩=some (.int .i64 ((rd_T74 l0_2 x22_1).f3))∧w'.cell? ⟨go20,(((rd_T74 l0_2 x22_1).f0)).toNat,none⟩=some (.int .i64 (rd x7_1 ((rd_T74 l0_2 x22_1).f0)))∧w'.cell? (ad713.add (x22_1).toNat)=some (.int .i64 (rd l1 x22_1))) (ds:=[11]) #[false,false,false,false,false,false,false,false,false,false,false,false] (by kernel_rfl) rfl rfl ⟨(blk_cell BK711.out 0).trans rfl,(blk_cell BK711.out 1).trans rfl,(blk_cell BK711.out 2).trans rfl,(blk_cell BK711.out 3).trans rfl,hx712_0,((HB.out.cell (World.block_lt_of_cell? w _ hw713_0)).trans hw713_0)⟩ (fun hHeld=> ?_);refine with_tabW static_Balance.tab8 static_Balance.bits8 (fun HT_ HW_=> ?_)
   generalize w27.drew=w28 at HO_7 BK705 BK711 HB GG20 HQ30 hf20_0 hx20_0 hx712_0 hx713_0 hHeld ⊢
   refine pure_ (i:=0) (N:=some 27) (v:= ?_) (a':= ?_) #[true,false,false,false,false,false,false,false,false,false,false,false] rfl rfl (any_of HT_.out (by kernel_rfl)) (fun _ _ _ h=>h) (Or.inl ⟨by rfl,?_⟩) ?_ ?_
   rotate_left
   ·intro w'
    go_simp
    with_reducible rfl
   rotate_left
   ·simp only[Act.put,List.setIfInBounds_toArray,List.set_cons_zero,List.set_cons_succ,i64_w,i32_w]
    rfl
   refine pure_ (i:=1) (N:=some 28) (v:= ?_) (a':= ?_) #[true,true,false,false,false,false,false,false,false,false,false,false] rfl rfl (any_of HT_.out (by kernel_rfl)) (fun _ _ _ h=>h) (Or.inl ⟨by rfl,?_⟩) ?_ ?_
   rotate_left
   ·intro w'
    go_simp
    with_reducible rfl
   rotate_left
   ·simp only[Act.put,List.setIfInBounds_toArray,List.set_cons_zero,List.set_cons_succ,i64_w,i32_w]
    rfl
   refine pure_ (i:=5) (N:=some 32) (v:= ?_) (a':= ?_) #[true,true,false,false,false,true,false,false,false,false,false,false] rfl rfl (any_of HT_.out (by kernel_rfl)) (fun _ _ _ h=>h) (Or.inl ⟨by rfl,?_⟩) ?_ ?_
   rotate_left
   ·intro w'
    go_simp
    with_reducible rfl
   rotate_left
   ·simp only[Act.put,List.setIfInBounds_toArray,List.set_cons_zero,List.set_cons_succ,i64_w,i32_w]
    rfl
   refine pure_ (i:=6) (N:=some 33) (v:= ?_) (a':= ?_) #[true,true,false,false,false,true,true,false,false,false,false,false] rfl rfl (any_of HT_.out (by kernel_rfl)) (fun _ _ _ h=>h) (Or.inl ⟨by rfl,?_⟩) ?_ ?_
   rotate_left
   ·intro w'
    go_simp
    with_reducible rfl
   rotate_left
   ·simp only[Act.put,List.setIfInBounds_toArray,List.set_cons_zero,List.set_cons_succ,i64_w,i32_w]
    rfl
   refine pure_ (i:=7) (N:=some 34) (v:= ?_) (a':= ?_) #[true,true,false,false,false,true,true,true,false,false,false,false] rfl rfl (any_of HT_.out (by kernel_rfl)) (fun _ _ _ h=>h) (Or.inl ⟨by rfl,?_⟩) ?_ ?_
   rotate_left
   ·intro w'
    go_simp
    with_reducible rfl
   rotate_left
   ·simp only[Act.put,List.setIfInBounds_toArray,List.set_cons_zero,List.set_cons_succ,i64_w,i32_w]
    rfl
   refine take_ (i:=2) (N:=some 29) (v:= ?_) (a':= ?_) #[true,true,true,false,false,true,true,true,false,false,false,false] rfl rfl (take_ofW HT_.out HW_.out (by kernel_rfl)) (fun _ _ _ h=>h) (Or.inl ⟨by rfl,?_⟩) hHeld ?_ ?_
   rotate_left
   ·rintro w' ⟨s0,s1,s2,s3,s4,s5⟩
    go_simp
    with_reducible rfl
   rotate_left
   ·simp only[Act.put,List.setIfInBounds_toArray,List.set_cons_zero,List.set_cons_succ,i64_w,i32_w]
    rfl
   refine pure_ (i:=3) (N:=some 30) (v:= ?_) (a':= ?_) #[true,true,true,true,false,true,true,true,false,false,false,false] rfl rfl (any_of HT_.out (by kernel_rfl)) (fun _ _ _ h=>h) (Or.inl ⟨by rfl,?_⟩) ?_ ?_
   rotate_left
   ·intro w'
    go_simp
    with_reducible rfl
   rotate_left
   ·simp only[Act.put,List.setIfInBounds_toArray,List.set_cons_zero,List.set_cons_succ,i64_w,i32_w]
    rfl
   refine take_ (i:=4) (N:=some 31) (v:= ?_) (a':= ?_) #[true,true,true,true,true,true,true,true,false,false,false,false] rfl rfl (take_ofW HT_.out HW_.out (by kernel_rfl)) (fun _ _ _ h=>h) (Or.inl ⟨by rfl,?_⟩) hHeld ?_ ?_
   rotate_left
   ·rintro w' ⟨s0,s1,s2,s3,s4,s5⟩
    go_simp
    with_reducible rfl
   rotate_left
   ·simp only[Act.put,List.setIfInBounds_toArray,List.set_cons_zero,List.set_cons_succ,i64_w,i32_w]
    rfl
   refine take_ (i:=8) (N:=some 35) (v:= ?_) (a':= ?_) #[true,true,true,true,true,true,true,true,true,false,false,false] rfl rfl (take_ofW HT_.out HW_.out (by kernel_rfl)) (fun _ _ _ h=>h) (Or.inl ⟨by rfl,?_⟩) hHeld ?_ ?_
   rotate_left
   ·rintro w' ⟨s0,s1,s2,s3,s4,s5⟩
    go_simp
    with_reducible rfl
   rotate_left
   ·simp only[Act.put,List.setIfInBounds_toArray,List.set_cons_zero,List.set_cons_succ,i64_w,i32_w]
    rfl
   refine pure_ (i:=9) (N:=some 36) (v:= ?_) (a':= ?_) #[true,true,true,true,true,true,true,true,true,true,false,false] rfl rfl (any_of HT_.out (by kernel_rfl)) (fun _ _ _ h=>h) (Or.inl ⟨by rfl,?_⟩) ?_ ?_
   rotate_left
   ·intro w'
    go_simp
    with_reducible rfl
   rotate_left
   ·simp only[Act.put,List.setIfInBounds_toArray,List.set_cons_zero,List.set_cons_succ,i64_w,i32_w]
    rfl
   refine pure_ (i:=10) (N:=some 37) (v:= ?_) (a':= ?_) #[true,true,true,true,true,true,true,true,true,true,true,false] rfl rfl (any_of HT_.out (by kernel_rfl)) (fun _ _ _ h=>h) (Or.inl ⟨by rfl,?_⟩) ?_ ?_
   rotate_left
   ·intro w'
    go_simp
    with_reducible rfl
   rotate_left
   ·simp only[Act.put,List.setIfInBounds_toArray,List.set_cons_zero,List.set_cons_succ,i64_w,i32_w]
    rfl
   refine last_ (i:=11) (N:=none) #[true,true,true,true,true,true,true,true,true,true,true,true] rfl rfl (one_of HT_.out (by kernel_rfl)) (by decide) (fun K hK=> ?_)
   refine skip_ (w1:= ?_) (by rfl) rfl ?_ ?_
   rotate_left
   ·go_simp
    rfl
   refine hK.out _ _ ?_
   clear hK K
   refine done_ (done_of HT_.out (by kernel_rfl)) ?_
   try go_wp2
   have n0_:Aside0 (Kd.R (Kd.int .i64) 3 (w28.setCell ⟨go20,(((rd_T74 l0_2 x22_1).f0):Int).toNat,none⟩ (.int .i64 (wrap64 ((rd x7_1 ((rd_T74 l0_2 x22_1).f0))+(rd l1 x22_1))))) w.heap.size (fun _=>True) (.slice (some ⟨go20,0,none⟩) x7_1.length co29) y714):=⟨by(with_reducible repeat(first|apply Kd.R_alloc|apply Kd.R_drewN|apply Kd.R_drew));exact HQ30.out⟩
   have n1_:Aside0 ((w28.setCell ⟨go20,(((rd_T74 l0_2 x22_1).f0):Int).toNat,none⟩ (.int .i64 (wrap64 ((rd x7_1 ((rd_T74 l0_2 x22_1).f0))+(rd l1 x22_1))))).heap[gb705]? =some (.cells #[.int .i64 a0_0, .bool a0_1, .slice (some ad710) l0_2.length c0_2] 24 (0,0))):=⟨by(with_reducible repeat(first|refine blk_drewN ?_ _|refine blk_drew ?_|refine blk_alloc ?_ _));refine blk_far ?_ (by have h_:=Kd.R_ne HO_7.out BK705.out (by decide);intro e_;exact h_ (by rw[e_];rfl)) _;(with_reducible repeat(first|refine blk_drewN ?_ _|refine blk_drew ?_|refine blk_alloc ?_ _));exact BK705.out⟩
   have n2_:Aside0 ((w28.setCell ⟨go20,(((rd_T74 l0_2 x22_1).f0):Int).toNat,none⟩ (.int .i64 (wrap64 ((rd x7_1 ((rd_T74 l0_2 x22_1).f0))+(rd l1 x22_1))))).heap[gb711]? =some (.cells #[.int .i64 ((rd_T74 l0_2 x22_1).f0), .int .i64 ((rd_T74 l0_2 x22_1).f1), .int .i64 ((rd_T74 l0_2 x22_1).f2), .int .i64 ((rd_T74 l0_2 x22_1).f3)] 74 (0,0))):=⟨by(with_reducible repeat(first|refine blk_drewN ?_ _|refine blk_drew ?_|refine blk_alloc ?_ _));refine blk_far ?_ (by have h_:=Kd.R_ne HO_7.out BK711.out (by decide);intro e_;exact h_ (by rw[e_];rfl)) _;(with_reducible repeat(first|refine blk_drewN ?_ _|refine blk_drew ?_|refine blk_alloc ?_ _));exact BK711.out⟩
   have n3_:Aside0 (Below w.heap.size w (w28.setCell ⟨go20,(((rd_T74 l0_2 x22_1).f0):Int).toNat,none⟩ (.int .i64 (wrap64 ((rd x7_1 ((rd_T74 l0_2 x22_1).f0))+(rd l1 x22_1)))))):=⟨by repeat(first|(with_reducible first|exact HB.out|apply below_alloc|apply pw_below_drewN|apply below_drew1|refine below_set ?_ GB20.out|refine below_set ?_ GE705.out|refine below_set ?_ GE711.out)|exact HB.out)⟩
   (try clear HO_7)
   (try clear BK705)
   (try clear BK711)
   (try clear HB)
   generalize (w28.setCell ⟨go20,(((rd_T74 l0_2 x22_1).f0):Int).toNat,none⟩ (.int .i64 (wrap64 ((rd x7_1 ((rd_T74 l0_2 x22_1).f0))+(rd l1 x22_1)))))=w31 at n0_ n1_ n2_ n3_ ⊢
   have HO_7:=n0_
   have BK705:=n1_
   have BK711:=n2_
   have HB:=n3_
   clear n0_ n1_ n2_ n3_
   have n0_:=Aside0.mk (Kd.R_drew HO_7.out)
   have n1_:=Aside0.mk (blk_drew BK705.out)
   have n2_:=Aside0.mk (blk_drew BK711.out)
   have n3_:=Aside0.mk (below_drew1 HB.out)
   clear HO_7
   clear BK705
   clear BK711
   clear HB
   have HO_7:=n0_
   have BK705:=n1_
   have BK711:=n2_
   have HB:=n3_
   clear n0_ n1_ n2_ n3_
   have p715:0≤(((rd_T74 l0_2 x22_1).f1):Int):=of_decide_eq_true (by first|(with_reducible assumption)|assumption)
   have q715:((rd_T74 l0_2 x22_1).f1)<(y714.length:Int):=(by have h_:(((rd_T74 l0_2 x22_1).f1):Int)<((x7_1.length:Int):Int):=of_decide_eq_true (by first|(with_reducible assumption)|assumption);first|(have e_:=(Kd.R_reads' HO_7.out).1;omega)|simpa only[Ny714.out,List.length_set] using h_)
   have ql715:((((rd_T74 l0_2 x22_1).f1):Int)<((x7_1.length:Int):Int))=True:=eq_true (of_decide_eq_true (by first|(with_reducible assumption)|assumption))
   obtain⟨ad715,e715,hx715_0⟩:=Kd.at_int (Kd.R_reads' HO_7.out).2.2 ((rd_T74 l0_2 x22_1).f1) p715 q715
   obtain rfl:(⟨go20,0,none⟩:Addr)=ad715:=(by injection e715)
   (first|simp only[add_plain] at hx715_0|simp only[add_at] at hx715_0|simp only[Addr.add,Nat.zero_add] at hx715_0|skip)
   replace p715:=eq_true p715
   replace q715:=eq_true q715
   have p716:0≤(x22_1:Int):=of_decide_eq_true (by first|(with_reducible assumption)|assumption)
   have q716:x22_1<(l1.length:Int):=of_decide_eq_true (by first|(with_reducible assumption)|assumption)
   obtain⟨ad716,e716,hx716_0⟩:=Kd.at_int HR1.out x22_1 p716 q716
   have hw716_0:=hx716_0
   obtain rfl:ad713=ad716:=(by injection e716)
   replace hx716_0:=(HB.out.cell (World.block_lt_of_cell? w _ hx716_0)).trans hx716_0
   replace p716:=eq_true p716
   replace q716:=eq_true q716
   have p23:0≤(((rd_T74 l0_2 x22_1).f1):Int):=of_decide_eq_true (by first|(with_reducible assumption)|assumption)
   have q23:(((rd_T74 l0_2 x22_1).f1):Int)<((x7_1.length:Int):Int):=of_decide_eq_true (by first|(with_reducible assumption)|assumption)
   obtain⟨hx23_0,hf23_0⟩:=Kd.R_celln 0 HO_7.out (((rd_T74 l0_2 x22_1).f1):Int) p23 q23
   replace p23:=eq_true p23
   replace q23:=eq_true q23
   have HP33:=Kd.R_putn HO_7.out (((rd_T74 l0_2 x22_1).f1):Int) (wrap64 ((rd y714 ((rd_T74 l0_2 x22_1).f1)) - (rd l1 x22_1)))
   rw[← Ny717.out] at HP33
   have HQ33:=Aside0.mk HP33
   clear HP33
   refine start_ (n:=12) (S:=fun w'=>w'.cell? ⟨gb711,0,none⟩=some (.int .i64 ((rd_T74 l0_2 x22_1).f0))∧w'.cell? ⟨gb711,1,none⟩=some (.int .i64 ((rd_T74 l0_2 x22_1).f1))∧w'.cell? ⟨gb711,2,none⟩=some (.int .i64 ((rd_T74 l0_2 x22_1).f2))∧w'.cell? ⟨gb711,3,none⟩=some (.int .i64 ((rd_T74 l0_2 x22_1).f3))∧w'.cell? ⟨go20,(((rd_T74 l0_2 x22_1).f1)).toNat,none⟩=some (.int .i64 (rd y714 ((rd_T74 l0_2 x22_1).f1)))∧w'.cell? (ad713.add (x22_1).toNat)=some (.int .i64 (rd l1 x22_1))) (ds:=[11]) #[false,false,false,false,false,false,false,false,false,false,false,false] (by kernel_rfl) rfl rfl ⟨(blk_cell BK711.out 0).trans rfl,(blk_cell BK711.out 1).trans rfl,(blk_cell BK711.out 2).trans rfl,(blk_cell BK711.out 3).trans rfl,hx715_0,((HB.out.cell (World.block_lt_of_cell? w _ hw716_0)).trans hw716_0)⟩ (fun hHeld=> ?_);refine with_tabW static_Balance.tab9 static_Balance.bits9 (fun HT_ HW_=> ?_)
   generalize w31.drew=w32 at HO_7 BK705 BK711 HB HQ30 HQ33 hf23_0 hx23_0 hx715_0 hx716_0 hHeld ⊢
   refine pure_ (i:=0) (N:=some 38) (v:= ?_) (a':= ?_) #[true,false,false,false,false,false,false,false,false,false,false,false] rfl rfl (any_of HT_.out (by kernel_rfl)) (fun _ _ _ h=>h) (Or.inl ⟨by rfl,?_⟩) ?_ ?_
   rotate_left
   ·intro w'
    go_simp
    with_reducible rfl
   rotate_left
   ·simp only[Act.put,List.setIfInBounds_toArray,List.set_cons_zero,List.set_cons_succ,i64_w,i32_w]
    rfl
   refine pure_ (i:=1) (N:=some 39) (v:= ?_) (a':= ?_) #[true,true,false,false,false,false,false,false,false,false,false,false] rfl rfl (any_of HT_.out (by kernel_rfl)) (fun _ _ _ h=>h) (Or.inl ⟨by rfl,?_⟩) ?_ ?_
   rotate_left
   ·intro w'
    go_simp
    with_reducible rfl
   rotate_left
   ·simp only[Act.put,List.setIfInBounds_toArray,List.set_cons_zero,List.set_cons_succ,i64_w,i32_w]
    rfl
   refine pure_ (i:=5) (N:=some 43) (v:= ?_) (a':= ?_) #[true,true,false,false,false,true,false,false,false,false,false,false] rfl rfl (any_of HT_.out (by kernel_rfl)) (fun _ _ _ h=>h) (Or.inl ⟨by rfl,?_⟩) ?_ ?_
   rotate_left
   ·intro w'
    go_simp
    with_reducible rfl
   rotate_left
   ·simp only[Act.put,List.setIfInBounds_toArray,List.set_cons_zero,List.set_cons_succ,i64_w,i32_w]
    rfl
   refine pure_ (i:=6) (N:=some 44) (v:= ?_) (a':= ?_) #[true,true,false,false,false,true,true,false,false,false,false,false] rfl rfl (any_of HT_.out (by kernel_rfl)) (fun _ _ _ h=>h) (Or.inl ⟨by rfl,?_⟩) ?_ ?_
   rotate_left
   ·intro w'
    go_simp
    with_reducible rfl
   rotate_left
   ·simp only[Act.put,List.setIfInBounds_toArray,List.set_cons_zero,List.set_cons_succ,i64_w,i32_w]
    rfl
   refine pure_ (i:=7) (N:=some 45) (v:= ?_) (a':= ?_) #[true,true,false,false,false,true,true,true,false,false,false,false] rfl rfl (any_of HT_.out (by kernel_rfl)) (fun _ _ _ h=>h) (Or.inl ⟨by rfl,?_⟩) ?_ ?_
   rotate_left
   ·intro w'
    go_simp
    with_reducible rfl
   rotate_left
   ·simp only[Act.put,List.setIfInBounds_toArray,List.set_cons_zero,List.set_cons_succ,i64_w,i32_w]
    rfl
   refine take_ (i:=2) (N:=some 40) (v:= ?_) (a':= ?_) #[true,true,true,false,false,true,true,true,false,false,false,false] rfl rfl (take_ofW HT_.out HW_.out (by kernel_rfl)) (fun _ _ _ h=>h) (Or.inl ⟨by rfl,?_⟩) hHeld ?_ ?_
   rotate_left
   ·rintro w' ⟨s0,s1,s2,s3,s4,s5⟩
    go_simp
    with_reducible rfl
   rotate_left
   ·simp only[Act.put,List.setIfInBounds_toArray,List.set_cons_zero,List.set_cons_succ,i64_w,i32_w]
    rfl
   refine pure_ (i:=3) (N:=some 41) (v:= ?_) (a':= ?_) #[true,true,true,true,false,true,true,true,false,false,false,false] rfl rfl (any_of HT_.out (by kernel_rfl)) (fun _ _ _ h=>h) (Or.inl ⟨by rfl,?_⟩) ?_ ?_
   rotate_left
   ·intro w'
    go_simp
    with_reducible rfl
   rotate_left
   ·simp only[Act.put,List.setIfInBounds_toArray,List.set_cons_zero,List.set_cons_succ,i64_w,i32_w]
    rfl
   refine take_ (i:=4) (N:=some 42) (v:= ?_) (a':= ?_) #[true,true,true,true,true,true,true,true,false,false,false,false] rfl rfl (take_ofW HT_.out HW_.out (by kernel_rfl)) (fun _ _ _ h=>h) (Or.inl ⟨by rfl,?_⟩) hHeld ?_ ?_
   rotate_left
   ·rintro w' ⟨s0,s1,s2,s3,s4,s5⟩
    go_simp
    with_reducible rfl
   rotate_left
   ·simp only[Act.put,List.setIfInBounds_toArray,List.set_cons_zero,List.set_cons_succ,i64_w,i32_w]
    rfl
   refine take_ (i:=8) (N:=some 46) (v:= ?_) (a':= ?_) #[true,true,true,true,true,true,true,true,true,false,false,false] rfl rfl (take_ofW HT_.out HW_.out (by kernel_rfl)) (fun _ _ _ h=>h) (Or.inl ⟨by rfl,?_⟩) hHeld ?_ ?_
   rotate_left
   ·rintro w' ⟨s0,s1,s2,s3,s4,s5⟩
    go_simp
    with_reducible rfl
   rotate_left
   ·simp only[Act.put,List.setIfInBounds_toArray,List.set_cons_zero,List.set_cons_succ,i64_w,i32_w]
    rfl
   refine pure_ (i:=9) (N:=some 47) (v:= ?_) (a':= ?_) #[true,true,true,true,true,true,true,true,true,true,false,false] rfl rfl (any_of HT_.out (by kernel_rfl)) (fun _ _ _ h=>h) (Or.inl ⟨by rfl,?_⟩) ?_ ?_
   rotate_left
   ·intro w'
    go_simp
    with_reducible rfl
   rotate_left
   ·simp only[Act.put,List.setIfInBounds_toArray,List.set_cons_zero,List.set_cons_succ,i64_w,i32_w]
    rfl
   refine pure_ (i:=10) (N:=some 48) (v:= ?_) (a':= ?_) #[true,true,true,true,true,true,true,true,true,true,true,false] rfl rfl (any_of HT_.out (by kernel_rfl)) (fun _ _ _ h=>h) (Or.inl ⟨by rfl,?_⟩) ?_ ?_
   rotate_left
   ·intro w'
    go_simp
    with_reducible rfl
   rotate_left
   ·simp only[Act.put,List.setIfInBounds_toArray,List.set_cons_zero,List.set_cons_succ,i64_w,i32_w]
    rfl
   refine last_ (i:=11) (N:=none) #[true,true,true,true,true,true,true,true,true,true,true,true] rfl rfl (one_of HT_.out (by kernel_rfl)) (by decide) (fun K hK=> ?_)
   refine skip_ (w1:= ?_) (by rfl) rfl ?_ ?_
   rotate_left
   ·go_simp
    rfl
   refine hK.out _ _ ?_
   clear hK K
   refine done_ (done_of HT_.out (by kernel_rfl)) ?_
   try go_wp2
   go_roundg k1
   case measure=>have:=HK1.out;omega
   case rel=>exact⟨(y717),(wrap64 (x22_1+1)),(by first|rfl|(simp;done)|(simp[*];done)),H',⟨by have:=HK1.out;omega⟩,⟨by(with_reducible repeat(first|apply Kd.R_alloc|apply Kd.R_drewN|apply Kd.R_drew));exact HQ33.out⟩,⟨by(with_reducible repeat(first|refine blk_drewN ?_ _|refine blk_drew ?_|refine blk_alloc ?_ _));refine blk_far ?_ (by have h_:=Kd.R_ne HO_7.out BK705.out (by decide);intro e_;exact h_ (by rw[e_];rfl)) _;(with_reducible repeat(first|refine blk_drewN ?_ _|refine blk_drew ?_|refine blk_alloc ?_ _));exact BK705.out⟩,⟨by repeat(first|(with_reducible first|exact HB.out|apply below_alloc|apply pw_below_drewN|apply below_drew1|refine below_set ?_ GB20.out|refine below_set ?_ GE705.out|refine below_set ?_ GE711.out)|exact HB.out)⟩⟩
end Go.Proofs.Ytkcpanpdipmmmaa.P
namespace Go.Proofs.Ytkcpanpdipmmmaa.P
open Go.RowKit Go.Proofs.YtkcpanpdipmmmaaW.PrintWords Go.Proofs.YtkcpanpdipmmmaaW.PrintLast Go.Proofs.YtkcpanpdipmmmaaW.PrintMore
attribute [local go_sem] max2_int min2_int max_two min_two max_three min_three max_four min_four
def static_Check.l0:Nat→Int→Int→List Int→List Int→Int→Int→Option (Int × Int)
 |0,_,_,_,_,_,_=>none
 |k+1,x1,x2,x10,x29,x30,x31=>if x31<x30 then(if 0≤x31 then(if x31<(x29.length:Int) then(if (rd x29 x31)=0 then(static_Check.l0 k x1 x2 x10 x29 x30 (wrap64 (x31+1))) else(if x31=x1 then(static_Check.l0 k x1 x2 x10 x29 x30 (wrap64 (x31+1))) else(if x31=x2 then(static_Check.l0 k x1 x2 x10 x29 x30 (wrap64 (x31+1))) else(some (0,71))))) else(none)) else(none)) else(if 0≤x1 then(if x1<(x10.length:Int) then(some (rd x10 x1,0)) else(none)) else(none))
def static_Check.f (k:Nat) (a0_0:Int) (a0_1:Bool) (l0_2:List (S74)) (a1:Int) (a2:Int) (l3:List Int):Option (Int × Int):=(static_Ends.f k a0_0 a0_1 l0_2 a1 a2).bind fun t719=>(if t719=0 then((static_Balance.f k a0_0 a0_1 l0_2 l3).bind fun bt720=>(if bt720.2=0 then(static_Check.l0 k a1 a2 bt720.1 bt720.1 (bt720.1.length:Int) 0) else(some (0,bt720.2)))) else(some (0,t719)))
set_option maxHeartbeats 8000000 in
set_option maxRecDepth 100000 in
theorem static_Check.calls (k:Nat) (a0_0:Int) (a0_1:Bool) (A0_2:Option Addr) (c0_2:Nat) (l0_2:List (S74)) (a1:Int) (a2:Int) (A3:Option Addr) (c3:Nat) (l3:List Int) (r1:Int) (r2:Int) (w:World) (hr0_2:Kd.C k74 w A0_2 l0_2.length l0_2) (hc0_2:l0_2.length≤c0_2) (hr3:Kd.C (Kd.int .i64) w A3 l3.length l3) (hc3:l3.length≤c3) (h:static_Check.f k a0_0 a0_1 l0_2 a1 a2 l3=some (r1,r2)):
  Calls Try.prog 115 #[.agg #[.int .i64 a0_0, .bool a0_1, .slice A0_2 l0_2.length c0_2], .int .i64 a1, .int .i64 a2, .slice A3 l3.length c3] w fun e w'=>e= .returned (.tuple #[.int .i64 r1, .int .i64 r2])∧Below w.heap.size w w':=by
 have hu24:=Try.underlying24
 have HR0_2:=Aside0.mk hr0_2
 have HC0_2:=Aside0.mk hc0_2
 clear hr0_2 hc0_2
 have HR3:=Aside0.mk hr3
 have HC3:=Aside0.mk hc3
 clear hr3 hc3
 have HB:=Aside0.mk (Below.refl w.heap.size w)
 have H:((static_Ends.f k a0_0 a0_1 l0_2 a1 a2).bind fun t719=>(if t719=0 then((static_Balance.f k a0_0 a0_1 l0_2 l3).bind fun bt720=>(if bt720.2=0 then(static_Check.l0 k a1 a2 bt720.1 bt720.1 (bt720.1.length:Int) 0) else(some (0,bt720.2)))) else(some (0,t719))))=some (r1,r2):=h
 clear h
 replace H:=Option.bind_eq_some_iff.mp H
 obtain⟨t719,A50,H⟩:=H
 replace H:(if t719=0 then((static_Balance.f k a0_0 a0_1 l0_2 l3).bind fun bt720=>(if bt720.2=0 then(static_Check.l0 k a1 a2 bt720.1 bt720.1 (bt720.1.length:Int) 0) else(some (0,bt720.2)))) else(some (0,t719)))=some (r1,r2):=H
 have A5:=Aside0.mk A50
 clear A50
 by_cases c6:t719=0
 rotate_left
 ·rw[if_neg c6] at H
  have c6b0:(t719 == 0)=false:=beq_eq_false_iff_ne.mpr c6
  have c6b1:(t719 != 0)=true:=bne_iff_ne.mpr c6
  simp only[Option.some.injEq,Prod.mk.injEq] at H
  obtain⟨rfl,rfl⟩:=H
  go_enter Try.func115,Try.ntmps115
  go_wp2_with (first|((with_reducible refine gate_dst (N:=4) rfl ?_);refine box_event ?hg (N:=4) ?hd (cs:= #[.int .i64 a0_0, .bool a0_1, .slice A0_2 l0_2.length c0_2]) (t:=24) ?hr ?_;(case hd=>rfl);(case hg=>rfl);(case hr=>first|(go_simp;done)|(go_simp;rfl));intro gb718 hg w28 hbox hb;have n0_:=Aside0.mk (below_step (by repeat(first|(with_reducible first|exact HB.out|apply below_alloc|apply pw_below_drewN|apply below_drew1)|exact HB.out)) hb);have n1_:=Aside0.mk (hbox);have n2_:=Aside0.mk ((by rw[hg];exact(below_size (by repeat(first|(with_reducible first|exact HB.out|apply below_alloc|apply pw_below_drewN|apply below_drew1)|exact HB.out))):w.heap.size≤gb718));have n3_:=Aside0.mk ((by rw[hg];exact(below_size (by repeat(first|(with_reducible first|exact HB.out|apply below_alloc|apply pw_below_drewN|apply below_drew1)|exact HB.out))):w.heap.size≤gb718));clear HB;have HB:=n0_;have BK718:=n1_;have GW718:=n2_;have GE718:=n3_;clear n0_ n1_ n2_ n3_;clear hb hbox hg;have hcz29_0:w28.cell? ⟨gb718,0,none⟩=some (.int .i64 a0_0):=(blk_cell BK718.out 0).trans rfl;have hcz29_1:w28.cell? ⟨gb718,1,none⟩=some (.bool a0_1):=(blk_cell BK718.out 1).trans rfl;have hcz29_2:w28.cell? ⟨gb718,2,none⟩=some (.slice A0_2 l0_2.length c0_2):=(blk_cell BK718.out 2).trans rfl;have hfz29_0:=blk_frozen BK718.out 0;have hfz29_1:=blk_frozen BK718.out 1;have hfz29_2:=blk_frozen BK718.out 2)|((with_reducible refine gate_callee (f:=111) rfl ?_);refine goesL_ (some 16) rfl rfl Try.func111 (by kernel_rfl) rfl #[.agg #[.int .i64 a0_0, .bool a0_1, .slice A0_2 l0_2.length c0_2], .int .i64 a1, .int .i64 a2] rfl (by(try simp only[List.map_toArray,List.map_cons,List.map_nil]);first|done|rfl|(simp only[List.length_drop,List.length_take];rfl)) ?_;(with_reducible refine(static_Ends.calls k a0_0 a0_1 _ _ l0_2 a1 a2 t719 _ ?side1 ?side2 A5.out).mono ?_);(case side1=>repeat(first|exact(Kd.C_below HR0_2.out HB.out)|(with_reducible refine Kd.C_alloc ?_ _)|(with_reducible refine Kd.C_drewN ?_ _)|(with_reducible refine Kd.C_drew ?_)));(case side2=>exact HC0_2.out);rintro e w30 ⟨rfl,hb⟩;refine⟨_,rfl,?_⟩;have n0_:=Aside0.mk (blk_below (g:=gb718) (o:= .cells #[.int .i64 a0_0, .bool a0_1, .slice A0_2 l0_2.length c0_2] 24 (0,0)) (by(with_reducible repeat(first|refine blk_drewN ?_ _|refine blk_drew ?_|refine blk_alloc ?_ _));exact BK718.out) hb);have n1_:=Aside0.mk (below_step (by repeat(first|(with_reducible first|exact HB.out|apply below_alloc|apply pw_below_drewN|apply below_drew1|refine below_set ?_ GE718.out)|exact HB.out)) hb);clear BK718;clear HB;have BK718:=n0_;have HB:=n1_;clear n0_ n1_;(try clear hb);(try clear hb2);(try clear hk);(try clear hi)))
  go_ret2
  exact⟨by first|rfl|(simp[errW_none,errW_some]<;>rfl)|(simp[*,errW_none,errW_some]<;>rfl),by repeat(first|(with_reducible first|exact HB.out|apply below_alloc|apply pw_below_drewN|apply below_drew1|refine below_set ?_ GE718.out)|exact HB.out)⟩
 rw[if_pos c6] at H
 have c6b0:(t719 == 0)=true:=beq_iff_eq.mpr c6
 have c6b1:(t719 != 0)=false:=bne_eq_false_iff_eq.mpr c6
 clear c6
 replace H:=Option.bind_eq_some_iff.mp H
 obtain⟨⟨t720,t723⟩,A70,H⟩:=H
 replace H:(if t723=0 then(static_Check.l0 k a1 a2 t720 t720 (t720.length:Int) 0) else(some (0,t723)))=some (r1,r2):=H
 have A7:=Aside0.mk A70
 clear A70
 by_cases c8:t723=0
 rotate_left
 ·rw[if_neg c8] at H
  have c8b0:(t723 == 0)=false:=beq_eq_false_iff_ne.mpr c8
  have c8b1:(t723 != 0)=true:=bne_iff_ne.mpr c8
  simp only[Option.some.injEq,Prod.mk.injEq] at H
  obtain⟨rfl,rfl⟩:=H
  go_enter Try.func115,Try.ntmps115
  go_wp2_with (first|((with_reducible refine gate_dst (N:=4) rfl ?_);refine box_event ?hg (N:=4) ?hd (cs:= #[.int .i64 a0_0, .bool a0_1, .slice A0_2 l0_2.length c0_2]) (t:=24) ?hr ?_;(case hd=>rfl);(case hg=>rfl);(case hr=>first|(go_simp;done)|(go_simp;rfl));intro gb718 hg w23 hbox hb;have n0_:=Aside0.mk (below_step (by repeat(first|(with_reducible first|exact HB.out|apply below_alloc|apply pw_below_drewN|apply below_drew1)|exact HB.out)) hb);have n1_:=Aside0.mk (hbox);have n2_:=Aside0.mk ((by rw[hg];exact(below_size (by repeat(first|(with_reducible first|exact HB.out|apply below_alloc|apply pw_below_drewN|apply below_drew1)|exact HB.out))):w.heap.size≤gb718));have n3_:=Aside0.mk ((by rw[hg];exact(below_size (by repeat(first|(with_reducible first|exact HB.out|apply below_alloc|apply pw_below_drewN|apply below_drew1)|exact HB.out))):w.heap.size≤gb718));clear HB;have HB:=n0_;have BK718:=n1_;have GW718:=n2_;have GE718:=n3_;clear n0_ n1_ n2_ n3_;clear hb hbox hg;have hcz24_0:w23.cell? ⟨gb718,0,none⟩=some (.int .i64 a0_0):=(blk_cell BK718.out 0).trans rfl;have hcz24_1:w23.cell? ⟨gb718,1,none⟩=some (.bool a0_1):=(blk_cell BK718.out 1).trans rfl;have hcz24_2:w23.cell? ⟨gb718,2,none⟩=some (.slice A0_2 l0_2.length c0_2):=(blk_cell BK718.out 2).trans rfl;have hfz24_0:=blk_frozen BK718.out 0;have hfz24_1:=blk_frozen BK718.out 1;have hfz24_2:=blk_frozen BK718.out 2)|((with_reducible refine gate_callee (f:=111) rfl ?_);refine goesL_ (some 16) rfl rfl Try.func111 (by kernel_rfl) rfl #[.agg #[.int .i64 a0_0, .bool a0_1, .slice A0_2 l0_2.length c0_2], .int .i64 a1, .int .i64 a2] rfl (by(try simp only[List.map_toArray,List.map_cons,List.map_nil]);first|done|rfl|(simp only[List.length_drop,List.length_take];rfl)) ?_;(with_reducible refine(static_Ends.calls k a0_0 a0_1 _ _ l0_2 a1 a2 t719 _ ?side1 ?side2 A5.out).mono ?_);(case side1=>repeat(first|exact(Kd.C_below HR0_2.out HB.out)|(with_reducible refine Kd.C_alloc ?_ _)|(with_reducible refine Kd.C_drewN ?_ _)|(with_reducible refine Kd.C_drew ?_)));(case side2=>exact HC0_2.out);rintro e w25 ⟨rfl,hb⟩;refine⟨_,rfl,?_⟩;have n0_:=Aside0.mk (blk_below (g:=gb718) (o:= .cells #[.int .i64 a0_0, .bool a0_1, .slice A0_2 l0_2.length c0_2] 24 (0,0)) (by(with_reducible repeat(first|refine blk_drewN ?_ _|refine blk_drew ?_|refine blk_alloc ?_ _));exact BK718.out) hb);have n1_:=Aside0.mk (below_step (by repeat(first|(with_reducible first|exact HB.out|apply below_alloc|apply pw_below_drewN|apply below_drew1|refine below_set ?_ GE718.out)|exact HB.out)) hb);clear BK718;clear HB;have BK718:=n0_;have HB:=n1_;clear n0_ n1_;(try clear hb);(try clear hb2);(try clear hk);(try clear hi);have hcz26_0:w25.cell? ⟨gb718,0,none⟩=some (.int .i64 a0_0):=(blk_cell BK718.out 0).trans rfl;have hcz26_1:w25.cell? ⟨gb718,1,none⟩=some (.bool a0_1):=(blk_cell BK718.out 1).trans rfl;have hcz26_2:w25.cell? ⟨gb718,2,none⟩=some (.slice A0_2 l0_2.length c0_2):=(blk_cell BK718.out 2).trans rfl;have hfz26_0:=blk_frozen BK718.out 0;have hfz26_1:=blk_frozen BK718.out 1;have hfz26_2:=blk_frozen BK718.out 2)|((with_reducible refine gate_callee (f:=150) rfl ?_);refine goesL_ (some 23) rfl rfl Try.func150 (by kernel_rfl) rfl #[.agg #[.int .i64 a0_0, .bool a0_1, .slice A0_2 l0_2.length c0_2], .slice A3 l3.length c3] rfl (by(try simp only[List.map_toArray,List.map_cons,List.map_nil]);first|done|rfl|(simp only[List.length_drop,List.length_take];rfl)) ?_;(with_reducible refine(static_Balance.calls k a0_0 a0_1 _ _ l0_2 _ _ l3 t720 t723 _ ?side1 ?side2 ?side3 ?side4 A7.out).mono ?_);(case side1=>repeat(first|exact(Kd.C_below HR0_2.out HB.out)|(with_reducible refine Kd.C_alloc ?_ _)|(with_reducible refine Kd.C_drewN ?_ _)|(with_reducible refine Kd.C_drew ?_)));(case side2=>exact HC0_2.out);(case side3=>repeat(first|exact(Kd.C_below HR3.out HB.out)|(with_reducible refine Kd.C_alloc ?_ _)|(with_reducible refine Kd.C_drewN ?_ _)|(with_reducible refine Kd.C_drew ?_)));(case side4=>exact HC3.out);rintro e w27 ⟨v721,rfl,ho0,hb⟩;refine⟨_,rfl,?_⟩;have n0_:=Aside0.mk (Kd.R_lower ho0 (below_size (by repeat(first|(with_reducible first|exact HB.out|apply below_alloc|apply pw_below_drewN|apply below_drew1|refine below_set ?_ GE718.out)|exact HB.out))));have n1_:=Aside0.mk (blk_below (g:=gb718) (o:= .cells #[.int .i64 a0_0, .bool a0_1, .slice A0_2 l0_2.length c0_2] 24 (0,0)) (by(with_reducible repeat(first|refine blk_drewN ?_ _|refine blk_drew ?_|refine blk_alloc ?_ _));exact BK718.out) hb);have n2_:=Aside0.mk (below_step (by repeat(first|(with_reducible first|exact HB.out|apply below_alloc|apply pw_below_drewN|apply below_drew1|refine below_set ?_ GE718.out)|exact HB.out)) hb);clear BK718;clear HB;have HO722:=n0_;have BK718:=n1_;have HB:=n2_;clear n0_ n1_ n2_;(try clear hb);(try clear hb2);(try clear hk);(try clear hi);(try clear ho0)))
  go_ret2
  exact⟨by first|rfl|(simp[errW_none,errW_some]<;>rfl)|(simp[*,errW_none,errW_some]<;>rfl),by repeat(first|(with_reducible first|exact HB.out|apply below_alloc|apply pw_below_drewN|apply below_drew1|refine below_set ?_ GE718.out)|exact HB.out)⟩
 rw[if_pos c8] at H
 have c8b0:(t723 == 0)=true:=beq_iff_eq.mpr c8
 have c8b1:(t723 != 0)=false:=bne_eq_false_iff_eq.mpr c8
 clear c8
 have H':=Aside0.mk H
 clear H
 go_enter Try.func115,Try.ntmps115
 go_wp2_with (first|((with_reducible refine gate_dst (N:=4) rfl ?_);refine box_event ?hg (N:=4) ?hd (cs:= #[.int .i64 a0_0, .bool a0_1, .slice A0_2 l0_2.length c0_2]) (t:=24) ?hr ?_;(case hd=>rfl);(case hg=>rfl);(case hr=>first|(go_simp;done)|(go_simp;rfl));intro gb718 hg w9 hbox hb;have n0_:=Aside0.mk (below_step (by repeat(first|(with_reducible first|exact HB.out|apply below_alloc|apply pw_below_drewN|apply below_drew1)|exact HB.out)) hb);have n1_:=Aside0.mk (hbox);have n2_:=Aside0.mk ((by rw[hg];exact(below_size (by repeat(first|(with_reducible first|exact HB.out|apply below_alloc|apply pw_below_drewN|apply below_drew1)|exact HB.out))):w.heap.size≤gb718));have n3_:=Aside0.mk ((by rw[hg];exact(below_size (by repeat(first|(with_reducible first|exact HB.out|apply below_alloc|apply pw_below_drewN|apply below_drew1)|exact HB.out))):w.heap.size≤gb718));clear HB;have HB:=n0_;have BK718:=n1_;have GW718:=n2_;have GE718:=n3_;clear n0_ n1_ n2_ n3_;clear hb hbox hg;have hcz10_0:w9.cell? ⟨gb718,0,none⟩=some (.int .i64 a0_0):=(blk_cell BK718.out 0).trans rfl;have hcz10_1:w9.cell? ⟨gb718,1,none⟩=some (.bool a0_1):=(blk_cell BK718.out 1).trans rfl;have hcz10_2:w9.cell? ⟨gb718,2,none⟩=some (.slice A0_2 l0_2.length c0_2):=(blk_cell BK718.out 2).trans rfl;have hfz10_0:=blk_frozen BK718.out 0;have hfz10_1:=blk_frozen BK718.out 1;have hfz10_2:=blk_frozen BK718.out 2)|((with_reducible refine gate_callee (f:=111) rfl ?_);refine goesL_ (some 16) rfl rfl Try.func111 (by kernel_rfl) rfl #[.agg #[.int .i64 a0_0, .bool a0_1, .slice A0_2 l0_2.length c0_2], .int .i64 a1, .int .i64 a2] rfl (by(try simp only[List.map_toArray,List.map_cons,List.map_nil]);first|done|rfl|(simp only[List.length_drop,List.length_take];rfl)) ?_;(with_reducible refine(static_Ends.calls k a0_0 a0_1 _ _ l0_2 a1 a2 t719 _ ?side1 ?side2 A5.out).mono ?_);(case side1=>repeat(first|exact(Kd.C_below HR0_2.out HB.out)|(with_reducible refine Kd.C_alloc ?_ _)|(with_reducible refine Kd.C_drewN ?_ _)|(with_reducible refine Kd.C_drew ?_)));(case side2=>exact HC0_2.out);rintro e w11 ⟨rfl,hb⟩;refine⟨_,rfl,?_⟩;have n0_:=Aside0.mk (blk_below (g:=gb718) (o:= .cells #[.int .i64 a0_0, .bool a0_1, .slice A0_2 l0_2.length c0_2] 24 (0,0)) (by(with_reducible repeat(first|refine blk_drewN ?_ _|refine blk_drew ?_|refine blk_alloc ?_ _));exact BK718.out) hb);have n1_:=Aside0.mk (below_step (by repeat(first|(with_reducible first|exact HB.out|apply below_alloc|apply pw_below_drewN|apply below_drew1|refine below_set ?_ GE718.out)|exact HB.out)) hb);clear BK718;clear HB;have BK718:=n0_;have HB:=n1_;clear n0_ n1_;(try clear hb);(try clear hb2);(try clear hk);(try clear hi);have hcz12_0:w11.cell? ⟨gb718,0,none⟩=some (.int .i64 a0_0):=(blk_cell BK718.out 0).trans rfl;have hcz12_1:w11.cell? ⟨gb718,1,none⟩=some (.bool a0_1):=(blk_cell BK718.out 1).trans rfl;have hcz12_2:w11.cell? ⟨gb718,2,none⟩=some (.slice A0_2 l0_2.length c0_2):=(blk_cell BK718.out 2).trans rfl;have hfz12_0:=blk_frozen BK718.out 0;have hfz12_1:=blk_frozen BK718.out 1;have hfz12_2:=blk_frozen BK718.out 2)|((with_reducible refine gate_callee (f:=150) rfl ?_);refine goesL_ (some 23) rfl rfl Try.func150 (by kernel_rfl) rfl #[.agg #[.int .i64 a0_0, .bool a0_1, .slice A0_2 l0_2.length c0_2], .slice A3 l3.length c3] rfl (by(try simp only[List.map_toArray,List.map_cons,List.map_nil]);first|done|rfl|(simp only[List.length_drop,List.length_take];rfl)) ?_;(with_reducible refine(static_Balance.calls k a0_0 a0_1 _ _ l0_2 _ _ l3 t720 t723 _ ?side1 ?side2 ?side3 ?side4 A7.out).mono ?_);(case side1=>repeat(first|exact(Kd.C_below HR0_2.out HB.out)|(with_reducible refine Kd.C_alloc ?_ _)|(with_reducible refine Kd.C_drewN ?_ _)|(with_reducible refine Kd.C_drew ?_)));(case side2=>exact HC0_2.out);(case side3=>repeat(first|exact(Kd.C_below HR3.out HB.out)|(with_reducible refine Kd.C_alloc ?_ _)|(with_reducible refine Kd.C_drewN ?_ _)|(with_reducible refine Kd.C_drew ?_)));(case side4=>exact HC3.out);rintro e w13 ⟨v721,rfl,ho0,hb⟩;refine⟨_,rfl,?_⟩;have n0_:=Aside0.mk (Kd.R_lower ho0 (below_size (by repeat(first|(with_reducible first|exact HB.out|apply below_alloc|apply pw_below_drewN|apply below_drew1|refine below_set ?_ GE718.out)|exact HB.out))));have n1_:=Aside0.mk (blk_below (g:=gb718) (o:= .cells #[.int .i64 a0_0, .bool a0_1, .slice A0_2 l0_2.length c0_2] 24 (0,0)) (by(with_reducible repeat(first|refine blk_drewN ?_ _|refine blk_drew ?_|refine blk_alloc ?_ _));exact BK718.out) hb);have n2_:=Aside0.mk (below_step (by repeat(first|(with_reducible first|exact HB.out|apply below_alloc|apply pw_below_drewN|apply below_drew1|refine below_set ?_ GE718.out)|exact HB.out)) hb);clear BK718;clear HB;have HO722:=n0_;have BK718:=n1_;have HB:=n2_;clear n0_ n1_ n2_;(try clear hb);(try clear hb2);(try clear hk);(try clear hi);(try clear ho0);obtain⟨Ao14,co14,eo14⟩:=Kd.R_slice HO722.out;subst eo14))
 go_loopg [31] k (fun kq v31 w'=> ∃ (x31_1:Int),v31= .int .i64 x31_1∧Aside0 (static_Check.l0 kq a1 a2 t720 t720 (t720.length:Int) x31_1=some (r1,r2))∧Aside0 (kq≤k)∧Aside0 (Kd.R (Kd.int .i64) 3 w' w.heap.size (fun _=>True) (.slice Ao14 t720.length co14) t720)∧Aside0 (Kd.R (Kd.int .i64) 3 w' w.heap.size (fun _=>True) (.slice Ao14 t720.length co14) t720)∧Aside0 (w'.heap[gb718]? =some (.cells #[.int .i64 a0_0, .bool a0_1,(.slice A0_2 l0_2.length c0_2)] 24 (0,0)))∧Aside0 (Below w.heap.size w w'))
 case atStart=>exact⟨(0),(by first|rfl|(simp;done)|(simp[*];done)),H',⟨Nat.le_refl _⟩,⟨by(with_reducible repeat(first|apply Kd.R_alloc|apply Kd.R_drewN|apply Kd.R_drew));exact HO722.out⟩,⟨by(with_reducible repeat(first|apply Kd.R_alloc|apply Kd.R_drewN|apply Kd.R_drew));exact HO722.out⟩,⟨by(with_reducible repeat(first|refine blk_drewN ?_ _|refine blk_drew ?_|refine blk_alloc ?_ _));exact BK718.out⟩,⟨by repeat(first|(with_reducible first|exact HB.out|apply below_alloc|apply pw_below_drewN|apply below_drew1|refine below_set ?_ GE718.out)|exact HB.out)⟩⟩
 case round=>
  clear H'
  try clear c1
  try clear p2
  try clear c3
  try clear c6
  try clear c6b0
  try clear c6b1
  try clear c8
  try clear c8b0
  try clear c8b1
  try clear c11
  try clear hcz10_0
  try clear hcz10_1
  try clear hcz10_2
  try clear hcz12_0
  try clear hcz12_1
  try clear hcz12_2
  try clear hfz10_0
  try clear hfz10_1
  try clear hfz10_2
  try clear hfz12_0
  try clear hfz12_1
  try clear hfz12_2
  obtain⟨x31_1,rfl,HA,HK1,HO_10,HO_29,BK718,HB⟩:=hrel
  cases gk with
  |zero=>exact absurd HA.out (by simp[static_Check.l0])
  |succ k1=>
   have H:=HA.out
   clear HA
   simp only[static_Check.l0] at H
   by_cases c15:x31_1<(t720.length:Int)
   rotate_left
   ·rw[if_neg c15] at H
    have c15b0:decide (x31_1<(t720.length:Int))=false:=decide_eq_false c15
    clear c15
    by_cases c21:0≤a1
    rotate_left
    ·rw[if_neg c21] at H
     exact absurd H (by simp)
    rw[if_pos c21] at H
    have c21b0:decide (0≤a1)=true:=decide_eq_true c21
    clear c21
    by_cases c22:a1<(t720.length:Int)
    rotate_left
    ·rw[if_neg c22] at H
     exact absurd H (by simp)
    rw[if_pos c22] at H
    have c22b0:decide (a1<(t720.length:Int))=true:=decide_eq_true c22
    clear c22
    simp only[Option.some.injEq,Prod.mk.injEq] at H
    obtain⟨rfl,rfl⟩:=H
    have p725:0≤(a1:Int):=of_decide_eq_true (by first|(with_reducible assumption)|assumption)
    have q725:a1<(t720.length:Int):=of_decide_eq_true (by first|(with_reducible assumption)|assumption)
    obtain⟨ad725,e725,hx725_0⟩:=Kd.at_int (Kd.R_reads' HO_10.out).2.2 a1 p725 q725
    cases e725
    replace p725:=eq_true p725
    replace q725:=eq_true q725
    go_wp2
    go_ret2
    exact⟨by first|rfl|(simp[errW_none,errW_some]<;>rfl)|(simp[*,errW_none,errW_some]<;>rfl),by repeat(first|(with_reducible first|exact HB.out|apply below_alloc|apply pw_below_drewN|apply below_drew1|refine below_set ?_ GE718.out)|exact HB.out)⟩
   rw[if_pos c15] at H
   have c15b0:decide (x31_1<(t720.length:Int))=true:=decide_eq_true c15
   clear c15
   by_cases c16:0≤x31_1
   rotate_left
   ·rw[if_neg c16] at H
    exact absurd H (by simp)
   rw[if_pos c16] at H
   have c16b0:decide (0≤x31_1)=true:=decide_eq_true c16
   clear c16
   by_cases c17:x31_1<(t720.length:Int)
   rotate_left
   ·rw[if_neg c17] at H
    exact absurd H (by simp)
   rw[if_pos c17] at H
   have c17b0:decide (x31_1<(t720.length:Int))=true:=decide_eq_true c17
   clear c17
   by_cases c18:(rd t720 x31_1)=0
   ·rw[if_pos c18] at H
    have c18b0:((rd t720 x31_1) == 0)=true:=beq_iff_eq.mpr c18
    have c18b1:((rd t720 x31_1) != 0)=false:=bne_eq_false_iff_eq.mpr c18
    clear c18
    have H':=Aside0.mk H
    clear H
    have p724:0≤(x31_1:Int):=of_decide_eq_true (by first|(with_reducible assumption)|assumption)
    have q724:x31_1<(t720.length:Int):=of_decide_eq_true (by first|(with_reducible assumption)|assumption)
    obtain⟨ad724,e724,hx724_0⟩:=Kd.at_int (Kd.R_reads' HO_29.out).2.2 x31_1 p724 q724
    cases e724
    replace p724:=eq_true p724
    replace q724:=eq_true q724
    go_wp2
    go_roundg k1
    case measure=>have:=HK1.out;omega
    case rel=>exact⟨(wrap64 (x31_1+1)),(by first|rfl|(simp;done)|(simp[*];done)),H',⟨by have:=HK1.out;omega⟩,⟨by(with_reducible repeat(first|apply Kd.R_alloc|apply Kd.R_drewN|apply Kd.R_drew));exact HO_10.out⟩,⟨by(with_reducible repeat(first|apply Kd.R_alloc|apply Kd.R_drewN|apply Kd.R_drew));exact HO_29.out⟩,⟨by(with_reducible repeat(first|refine blk_drewN ?_ _|refine blk_drew ?_|refine blk_alloc ?_ _));exact BK718.out⟩,⟨by repeat(first|(with_reducible first|exact HB.out|apply below_alloc|apply pw_below_drewN|apply below_drew1|refine below_set ?_ GE718.out)|exact HB.out)⟩⟩
   rw[if_neg c18] at H
   have c18b0:((rd t720 x31_1) == 0)=false:=beq_eq_false_iff_ne.mpr c18
   have c18b1:((rd t720 x31_1) != 0)=true:=bne_iff_ne.mpr c18
   by_cases c19:x31_1=a1
   ·rw[if_pos c19] at H
    have c19b0:(x31_1 == a1)=true:=beq_iff_eq.mpr c19
    have c19b1:(x31_1 != a1)=false:=bne_eq_false_iff_eq.mpr c19
    clear c19
    have H':=Aside0.mk H
    clear H
    have p724:0≤(x31_1:Int):=of_decide_eq_true (by first|(with_reducible assumption)|assumption)
    have q724:x31_1<(t720.length:Int):=of_decide_eq_true (by first|(with_reducible assumption)|assumption)
    obtain⟨ad724,e724,hx724_0⟩:=Kd.at_int (Kd.R_reads' HO_29.out).2.2 x31_1 p724 q724
    cases e724
    replace p724:=eq_true p724
    replace q724:=eq_true q724
    go_wp2
    go_roundg k1
    case measure=>have:=HK1.out;omega
    case rel=>exact⟨(wrap64 (x31_1+1)),(by first|rfl|(simp;done)|(simp[*];done)),H',⟨by have:=HK1.out;omega⟩,⟨by(with_reducible repeat(first|apply Kd.R_alloc|apply Kd.R_drewN|apply Kd.R_drew));exact HO_10.out⟩,⟨by(with_reducible repeat(first|apply Kd.R_alloc|apply Kd.R_drewN|apply Kd.R_drew));exact HO_29.out⟩,⟨by(with_reducible repeat(first|refine blk_drewN ?_ _|refine blk_drew ?_|refine blk_alloc ?_ _));exact BK718.out⟩,⟨by repeat(first|(with_reducible first|exact HB.out|apply below_alloc|apply pw_below_drewN|apply below_drew1|refine below_set ?_ GE718.out)|exact HB.out)⟩⟩
   rw[if_neg c19] at H
   have c19b0:(x31_1 == a1)=false:=beq_eq_false_iff_ne.mpr c19
   have c19b1:(x31_1 != a1)=true:=bne_iff_ne.mpr c19
   by_cases c20:x31_1=a2
   rotate_left
   ·rw[if_neg c20] at H
    have c20b0:(x31_1 == a2)=false:=beq_eq_false_iff_ne.mpr c20
    have c20b1:(x31_1 != a2)=true:=bne_iff_ne.mpr c20
    simp only[Option.some.injEq,Prod.mk.injEq] at H
    obtain⟨rfl,rfl⟩:=H
    have p724:0≤(x31_1:Int):=of_decide_eq_true (by first|(with_reducible assumption)|assumption)
    have q724:x31_1<(t720.length:Int):=of_decide_eq_true (by first|(with_reducible assumption)|assumption)
    obtain⟨ad724,e724,hx724_0⟩:=Kd.at_int (Kd.R_reads' HO_29.out).2.2 x31_1 p724 q724
    cases e724
    replace p724:=eq_true p724
    replace q724:=eq_true q724
    go_wp2
    go_ret2
    exact⟨by first|rfl|(simp[errW_none,errW_some]<;>rfl)|(simp[*,errW_none,errW_some]<;>rfl),by repeat(first|(with_reducible first|exact HB.out|apply below_alloc|apply pw_below_drewN|apply below_drew1|refine below_set ?_ GE718.out)|exact HB.out)⟩
   rw[if_pos c20] at H
   have c20b0:(x31_1 == a2)=true:=beq_iff_eq.mpr c20
   have c20b1:(x31_1 != a2)=false:=bne_eq_false_iff_eq.mpr c20
   clear c20
   have H':=Aside0.mk H
   clear H
   have p724:0≤(x31_1:Int):=of_decide_eq_true (by first|(with_reducible assumption)|assumption)
   have q724:x31_1<(t720.length:Int):=of_decide_eq_true (by first|(with_reducible assumption)|assumption)
   obtain⟨ad724,e724,hx724_0⟩:=Kd.at_int (Kd.R_reads' HO_29.out).2.2 x31_1 p724 q724
   cases e724
   replace p724:=eq_true p724
   replace q724:=eq_true q724
   go_wp2
   go_roundg k1
   case measure=>have:=HK1.out;omega
   case rel=>exact⟨(wrap64 (x31_1+1)),(by first|rfl|(simp;done)|(simp[*];done)),H',⟨by have:=HK1.out;omega⟩,⟨by(with_reducible repeat(first|apply Kd.R_alloc|apply Kd.R_drewN|apply Kd.R_drew));exact HO_10.out⟩,⟨by(with_reducible repeat(first|apply Kd.R_alloc|apply Kd.R_drewN|apply Kd.R_drew));exact HO_29.out⟩,⟨by(with_reducible repeat(first|refine blk_drewN ?_ _|refine blk_drew ?_|refine blk_alloc ?_ _));exact BK718.out⟩,⟨by repeat(first|(with_reducible first|exact HB.out|apply below_alloc|apply pw_below_drewN|apply below_drew1|refine below_set ?_ GE718.out)|exact HB.out)⟩⟩
end Go.Proofs.Ytkcpanpdipmmmaa.P
namespace Go.Proofs.Ytkcpanpdipmmmaa.P
open Go.RowKit Go.Proofs.YtkcpanpdipmmmaaW.PrintWords Go.Proofs.YtkcpanpdipmmmaaW.PrintLast Go.Proofs.YtkcpanpdipmmmaaW.PrintMore
attribute [local go_sem] max2_int min2_int max_two min_two max_three min_three max_four min_four
def span_Worth.f (k:Nat) (a0_0:Int) (a0_1:Bool) (l0_2:List (S74)) (a1:Int) (a2:Int) (l3:List Int) (a4:Int):Option (Int × Int):=(span_Asked.f k a0_0 a0_1 l0_2 a1 a2 a4).bind fun t731=>(if t731=0 then((static_Check.f k a0_0 a0_1 l0_2 a1 a2 l3).bind fun bt732=>(if bt732.2=0 then((span_paid.f k a0_0 a0_1 l0_2 l3).bind fun t734=>(some (wrap64 ((wrap64 ((wrap64 (a4+1)) * bt732.1)) - t734),0))) else(some (0,bt732.2)))) else(some (0,t731)))
set_option maxHeartbeats 8000000 in
set_option maxRecDepth 100000 in
theorem span_Worth.calls (k:Nat) (a0_0:Int) (a0_1:Bool) (A0_2:Option Addr) (c0_2:Nat) (l0_2:List (S74)) (a1:Int) (a2:Int) (A3:Option Addr) (c3:Nat) (l3:List Int) (a4:Int) (r1:Int) (r2:Int) (w:World) (hr0_2:Kd.C k74 w A0_2 l0_2.length l0_2) (hc0_2:l0_2.length≤c0_2) (hr3:Kd.C (Kd.int .i64) w A3 l3.length l3) (hc3:l3.length≤c3) (h:span_Worth.f k a0_0 a0_1 l0_2 a1 a2 l3 a4=some (r1,r2)):
  Calls Try.prog 63 #[.agg #[.int .i64 a0_0, .bool a0_1, .slice A0_2 l0_2.length c0_2], .int .i64 a1, .int .i64 a2, .slice A3 l3.length c3, .int .i64 a4] w fun e w'=>e= .returned (.tuple #[.int .i64 r1, .int .i64 r2])∧Below w.heap.size w w':=by
 have hu24:=Try.underlying24
 have HR0_2:=Aside0.mk hr0_2
 have HC0_2:=Aside0.mk hc0_2
 clear hr0_2 hc0_2
 have HR3:=Aside0.mk hr3
 have HC3:=Aside0.mk hc3
 clear hr3 hc3
 have HB:=Aside0.mk (Below.refl w.heap.size w)
 have H:((span_Asked.f k a0_0 a0_1 l0_2 a1 a2 a4).bind fun t731=>(if t731=0 then((static_Check.f k a0_0 a0_1 l0_2 a1 a2 l3).bind fun bt732=>(if bt732.2=0 then((span_paid.f k a0_0 a0_1 l0_2 l3).bind fun t734=>(some (wrap64 ((wrap64 ((wrap64 (a4+1)) * bt732.1)) - t734),0))) else(some (0,bt732.2)))) else(some (0,t731))))=some (r1,r2):=h
 clear h
 replace H:=Option.bind_eq_some_iff.mp H
 obtain⟨t731,A60,H⟩:=H
 replace H:(if t731=0 then((static_Check.f k a0_0 a0_1 l0_2 a1 a2 l3).bind fun bt732=>(if bt732.2=0 then((span_paid.f k a0_0 a0_1 l0_2 l3).bind fun t734=>(some (wrap64 ((wrap64 ((wrap64 (a4+1)) * bt732.1)) - t734),0))) else(some (0,bt732.2)))) else(some (0,t731)))=some (r1,r2):=H
 have A6:=Aside0.mk A60
 clear A60
 by_cases c7:t731=0
 rotate_left
 ·rw[if_neg c7] at H
  have c7b0:(t731 == 0)=false:=beq_eq_false_iff_ne.mpr c7
  have c7b1:(t731 != 0)=true:=bne_iff_ne.mpr c7
  simp only[Option.some.injEq,Prod.mk.injEq] at H
  obtain⟨rfl,rfl⟩:=H
  go_enter Try.func63,Try.ntmps63
  go_wp2_with (first|((with_reducible refine gate_dst (N:=5) rfl ?_);refine box_event ?hg (N:=5) ?hd (cs:= #[.int .i64 a0_0, .bool a0_1, .slice A0_2 l0_2.length c0_2]) (t:=24) ?hr ?_;(case hd=>rfl);(case hg=>rfl);(case hr=>first|(go_simp;done)|(go_simp;rfl));intro gb730 hg w23 hbox hb;have n0_:=Aside0.mk (below_step (by repeat(first|(with_reducible first|exact HB.out|apply below_alloc|apply pw_below_drewN|apply below_drew1)|exact HB.out)) hb);have n1_:=Aside0.mk (hbox);have n2_:=Aside0.mk ((by rw[hg];exact(below_size (by repeat(first|(with_reducible first|exact HB.out|apply below_alloc|apply pw_below_drewN|apply below_drew1)|exact HB.out))):w.heap.size≤gb730));have n3_:=Aside0.mk ((by rw[hg];exact(below_size (by repeat(first|(with_reducible first|exact HB.out|apply below_alloc|apply pw_below_drewN|apply below_drew1)|exact HB.out))):w.heap.size≤gb730));clear HB;have HB:=n0_;have BK730:=n1_;have GW730:=n2_;have GE730:=n3_;clear n0_ n1_ n2_ n3_;clear hb hbox hg;have hcz24_0:w23.cell? ⟨gb730,0,none⟩=some (.int .i64 a0_0):=(blk_cell BK730.out 0).trans rfl;have hcz24_1:w23.cell? ⟨gb730,1,none⟩=some (.bool a0_1):=(blk_cell BK730.out 1).trans rfl;have hcz24_2:w23.cell? ⟨gb730,2,none⟩=some (.slice A0_2 l0_2.length c0_2):=(blk_cell BK730.out 2).trans rfl;have hfz24_0:=blk_frozen BK730.out 0;have hfz24_1:=blk_frozen BK730.out 1;have hfz24_2:=blk_frozen BK730.out 2)|((with_reducible refine gate_callee (f:=114) rfl ?_);refine goesL_ (some 19) rfl rfl Try.func114 (by kernel_rfl) rfl #[.agg #[.int .i64 a0_0, .bool a0_1, .slice A0_2 l0_2.length c0_2], .int .i64 a1, .int .i64 a2, .int .i64 a4] rfl (by(try simp only[List.map_toArray,List.map_cons,List.map_nil]);first|done|rfl|(simp only[List.length_drop,List.length_take];rfl)) ?_;(with_reducible refine(span_Asked.calls k a0_0 a0_1 _ _ l0_2 a1 a2 a4 t731 _ ?side1 ?side2 A6.out).mono ?_);(case side1=>repeat(first|exact(Kd.C_below HR0_2.out HB.out)|(with_reducible refine Kd.C_alloc ?_ _)|(with_reducible refine Kd.C_drewN ?_ _)|(with_reducible refine Kd.C_drew ?_)));(case side2=>exact HC0_2.out);rintro e w25 ⟨rfl,hb⟩;refine⟨_,rfl,?_⟩;have n0_:=Aside0.mk (blk_below (g:=gb730) (o:= .cells #[.int .i64 a0_0, .bool a0_1, .slice A0_2 l0_2.length c0_2] 24 (0,0)) (by(with_reducible repeat(first|refine blk_drewN ?_ _|refine blk_drew ?_|refine blk_alloc ?_ _));exact BK730.out) hb);have n1_:=Aside0.mk (below_step (by repeat(first|(with_reducible first|exact HB.out|apply below_alloc|apply pw_below_drewN|apply below_drew1|refine below_set ?_ GE730.out)|exact HB.out)) hb);clear BK730;clear HB;have BK730:=n0_;have HB:=n1_;clear n0_ n1_;(try clear hb);(try clear hb2);(try clear hk);(try clear hi)))
  go_ret2
  exact⟨by first|rfl|(simp[errW_none,errW_some]<;>rfl)|(simp[*,errW_none,errW_some]<;>rfl),by repeat(first|(with_reducible first|exact HB.out|apply below_alloc|apply pw_below_drewN|apply below_drew1|refine below_set ?_ GE730.out)|exact HB.out)⟩
 rw[if_pos c7] at H
 have c7b0:(t731 == 0)=true:=beq_iff_eq.mpr c7
 have c7b1:(t731 != 0)=false:=bne_eq_false_iff_eq.mpr c7
 clear c7
 replace H:=Option.bind_eq_some_iff.mp H
 obtain⟨⟨t732,t733⟩,A80,H⟩:=H
 replace H:(if t733=0 then((span_paid.f k a0_0 a0_1 l0_2 l3).bind fun t734=>(some (wrap64 ((wrap64 ((wrap64 (a4+1)) * t732)) - t734),0))) else(some (0,t733)))=some (r1,r2):=H
 have A8:=Aside0.mk A80
 clear A80
 by_cases c9:t733=0
 rotate_left
 ·rw[if_neg c9] at H
  have c9b0:(t733 == 0)=false:=beq_eq_false_iff_ne.mpr c9
  have c9b1:(t733 != 0)=true:=bne_iff_ne.mpr c9
  simp only[Option.some.injEq,Prod.mk.injEq] at H
  obtain⟨rfl,rfl⟩:=H
  go_enter Try.func63,Try.ntmps63
  go_wp2_with (first|((with_reducible refine gate_dst (N:=5) rfl ?_);refine box_event ?hg (N:=5) ?hd (cs:= #[.int .i64 a0_0, .bool a0_1, .slice A0_2 l0_2.length c0_2]) (t:=24) ?hr ?_;(case hd=>rfl);(case hg=>rfl);(case hr=>first|(go_simp;done)|(go_simp;rfl));intro gb730 hg w18 hbox hb;have n0_:=Aside0.mk (below_step (by repeat(first|(with_reducible first|exact HB.out|apply below_alloc|apply pw_below_drewN|apply below_drew1)|exact HB.out)) hb);have n1_:=Aside0.mk (hbox);have n2_:=Aside0.mk ((by rw[hg];exact(below_size (by repeat(first|(with_reducible first|exact HB.out|apply below_alloc|apply pw_below_drewN|apply below_drew1)|exact HB.out))):w.heap.size≤gb730));have n3_:=Aside0.mk ((by rw[hg];exact(below_size (by repeat(first|(with_reducible first|exact HB.out|apply below_alloc|apply pw_below_drewN|apply below_drew1)|exact HB.out))):w.heap.size≤gb730));clear HB;have HB:=n0_;have BK730:=n1_;have GW730:=n2_;have GE730:=n3_;clear n0_ n1_ n2_ n3_;clear hb hbox hg;have hcz19_0:w18.cell? ⟨gb730,0,none⟩=some (.int .i64 a0_0):=(blk_cell BK730.out 0).trans rfl;have hcz19_1:w18.cell? ⟨gb730,1,none⟩=some (.bool a0_1):=(blk_cell BK730.out 1).trans rfl;have hcz19_2:w18.cell? ⟨gb730,2,none⟩=some (.slice A0_2 l0_2.length c0_2):=(blk_cell BK730.out 2).trans rfl;have hfz19_0:=blk_frozen BK730.out 0;have hfz19_1:=blk_frozen BK730.out 1;have hfz19_2:=blk_frozen BK730.out 2)|((with_reducible refine gate_callee (f:=114) rfl ?_);refine goesL_ (some 19) rfl rfl Try.func114 (by kernel_rfl) rfl #[.agg #[.int .i64 a0_0, .bool a0_1, .slice A0_2 l0_2.length c0_2], .int .i64 a1, .int .i64 a2, .int .i64 a4] rfl (by(try simp only[List.map_toArray,List.map_cons,List.map_nil]);first|done|rfl|(simp only[List.length_drop,List.length_take];rfl)) ?_;(with_reducible refine(span_Asked.calls k a0_0 a0_1 _ _ l0_2 a1 a2 a4 t731 _ ?side1 ?side2 A6.out).mono ?_);(case side1=>repeat(first|exact(Kd.C_below HR0_2.out HB.out)|(with_reducible refine Kd.C_alloc ?_ _)|(with_reducible refine Kd.C_drewN ?_ _)|(with_reducible refine Kd.C_drew ?_)));(case side2=>exact HC0_2.out);rintro e w20 ⟨rfl,hb⟩;refine⟨_,rfl,?_⟩;have n0_:=Aside0.mk (blk_below (g:=gb730) (o:= .cells #[.int .i64 a0_0, .bool a0_1, .slice A0_2 l0_2.length c0_2] 24 (0,0)) (by(with_reducible repeat(first|refine blk_drewN ?_ _|refine blk_drew ?_|refine blk_alloc ?_ _));exact BK730.out) hb);have n1_:=Aside0.mk (below_step (by repeat(first|(with_reducible first|exact HB.out|apply below_alloc|apply pw_below_drewN|apply below_drew1|refine below_set ?_ GE730.out)|exact HB.out)) hb);clear BK730;clear HB;have BK730:=n0_;have HB:=n1_;clear n0_ n1_;(try clear hb);(try clear hb2);(try clear hk);(try clear hi);have hcz21_0:w20.cell? ⟨gb730,0,none⟩=some (.int .i64 a0_0):=(blk_cell BK730.out 0).trans rfl;have hcz21_1:w20.cell? ⟨gb730,1,none⟩=some (.bool a0_1):=(blk_cell BK730.out 1).trans rfl;have hcz21_2:w20.cell? ⟨gb730,2,none⟩=some (.slice A0_2 l0_2.length c0_2):=(blk_cell BK730.out 2).trans rfl;have hfz21_0:=blk_frozen BK730.out 0;have hfz21_1:=blk_frozen BK730.out 1;have hfz21_2:=blk_frozen BK730.out 2)|((with_reducible refine gate_callee (f:=115) rfl ?_);refine goesL_ (some 28) rfl rfl Try.func115 (by kernel_rfl) rfl #[.agg #[.int .i64 a0_0, .bool a0_1, .slice A0_2 l0_2.length c0_2], .int .i64 a1, .int .i64 a2, .slice A3 l3.length c3] rfl (by(try simp only[List.map_toArray,List.map_cons,List.map_nil]);first|done|rfl|(simp only[List.length_drop,List.length_take];rfl)) ?_;(with_reducible refine(static_Check.calls k a0_0 a0_1 _ _ l0_2 a1 a2 _ _ l3 t732 t733 _ ?side1 ?side2 ?side3 ?side4 A8.out).mono ?_);(case side1=>repeat(first|exact(Kd.C_below HR0_2.out HB.out)|(with_reducible refine Kd.C_alloc ?_ _)|(with_reducible refine Kd.C_drewN ?_ _)|(with_reducible refine Kd.C_drew ?_)));(case side2=>exact HC0_2.out);(case side3=>repeat(first|exact(Kd.C_below HR3.out HB.out)|(with_reducible refine Kd.C_alloc ?_ _)|(with_reducible refine Kd.C_drewN ?_ _)|(with_reducible refine Kd.C_drew ?_)));(case side4=>exact HC3.out);rintro e w22 ⟨rfl,hb⟩;refine⟨_,rfl,?_⟩;have n0_:=Aside0.mk (blk_below (g:=gb730) (o:= .cells #[.int .i64 a0_0, .bool a0_1, .slice A0_2 l0_2.length c0_2] 24 (0,0)) (by(with_reducible repeat(first|refine blk_drewN ?_ _|refine blk_drew ?_|refine blk_alloc ?_ _));exact BK730.out) hb);have n1_:=Aside0.mk (below_step (by repeat(first|(with_reducible first|exact HB.out|apply below_alloc|apply pw_below_drewN|apply below_drew1|refine below_set ?_ GE730.out)|exact HB.out)) hb);clear BK730;clear HB;have BK730:=n0_;have HB:=n1_;clear n0_ n1_;(try clear hb);(try clear hb2);(try clear hk);(try clear hi)))
  go_ret2
  exact⟨by first|rfl|(simp[errW_none,errW_some]<;>rfl)|(simp[*,errW_none,errW_some]<;>rfl),by repeat(first|(with_reducible first|exact HB.out|apply below_alloc|apply pw_below_drewN|apply below_drew1|refine below_set ?_ GE730.out)|exact HB.out)⟩
 rw[if_pos c9] at H
 have c9b0:(t733 == 0)=true:=beq_iff_eq.mpr c9
 have c9b1:(t733 != 0)=false:=bne_eq_false_iff_eq.mpr c9
 clear c9
 replace H:=Option.bind_eq_some_iff.mp H
 obtain⟨t734,A100,H⟩:=H
 replace H:(some (wrap64 ((wrap64 ((wrap64 (a4+1)) * t732)) - t734),0))=some (r1,r2):=H
 have A10:=Aside0.mk A100
 clear A100
 simp only[Option.some.injEq,Prod.mk.injEq] at H
 obtain⟨rfl,rfl⟩:=H
 go_enter Try.func63,Try.ntmps63
 go_wp2_with (first|((with_reducible refine gate_dst (N:=5) rfl ?_);refine box_event ?hg (N:=5) ?hd (cs:= #[.int .i64 a0_0, .bool a0_1, .slice A0_2 l0_2.length c0_2]) (t:=24) ?hr ?_;(case hd=>rfl);(case hg=>rfl);(case hr=>first|(go_simp;done)|(go_simp;rfl));intro gb730 hg w11 hbox hb;have n0_:=Aside0.mk (below_step (by repeat(first|(with_reducible first|exact HB.out|apply below_alloc|apply pw_below_drewN|apply below_drew1)|exact HB.out)) hb);have n1_:=Aside0.mk (hbox);have n2_:=Aside0.mk ((by rw[hg];exact(below_size (by repeat(first|(with_reducible first|exact HB.out|apply below_alloc|apply pw_below_drewN|apply below_drew1)|exact HB.out))):w.heap.size≤gb730));have n3_:=Aside0.mk ((by rw[hg];exact(below_size (by repeat(first|(with_reducible first|exact HB.out|apply below_alloc|apply pw_below_drewN|apply below_drew1)|exact HB.out))):w.heap.size≤gb730));clear HB;have HB:=n0_;have BK730:=n1_;have GW730:=n2_;have GE730:=n3_;clear n0_ n1_ n2_ n3_;clear hb hbox hg;have hcz12_0:w11.cell? ⟨gb730,0,none⟩=some (.int .i64 a0_0):=(blk_cell BK730.out 0).trans rfl;have hcz12_1:w11.cell? ⟨gb730,1,none⟩=some (.bool a0_1):=(blk_cell BK730.out 1).trans rfl;have hcz12_2:w11.cell? ⟨gb730,2,none⟩=some (.slice A0_2 l0_2.length c0_2):=(blk_cell BK730.out 2).trans rfl;have hfz12_0:=blk_frozen BK730.out 0;have hfz12_1:=blk_frozen BK730.out 1;have hfz12_2:=blk_frozen BK730.out 2)|((with_reducible refine gate_callee (f:=114) rfl ?_);refine goesL_ (some 19) rfl rfl Try.func114 (by kernel_rfl) rfl #[.agg #[.int .i64 a0_0, .bool a0_1, .slice A0_2 l0_2.length c0_2], .int .i64 a1, .int .i64 a2, .int .i64 a4] rfl (by(try simp only[List.map_toArray,List.map_cons,List.map_nil]);first|done|rfl|(simp only[List.length_drop,List.length_take];rfl)) ?_;(with_reducible refine(span_Asked.calls k a0_0 a0_1 _ _ l0_2 a1 a2 a4 t731 _ ?side1 ?side2 A6.out).mono ?_);(case side1=>repeat(first|exact(Kd.C_below HR0_2.out HB.out)|(with_reducible refine Kd.C_alloc ?_ _)|(with_reducible refine Kd.C_drewN ?_ _)|(with_reducible refine Kd.C_drew ?_)));(case side2=>exact HC0_2.out);rintro e w13 ⟨rfl,hb⟩;refine⟨_,rfl,?_⟩;have n0_:=Aside0.mk (blk_below (g:=gb730) (o:= .cells #[.int .i64 a0_0, .bool a0_1, .slice A0_2 l0_2.length c0_2] 24 (0,0)) (by(with_reducible repeat(first|refine blk_drewN ?_ _|refine blk_drew ?_|refine blk_alloc ?_ _));exact BK730.out) hb);have n1_:=Aside0.mk (below_step (by repeat(first|(with_reducible first|exact HB.out|apply below_alloc|apply pw_below_drewN|apply below_drew1|refine below_set ?_ GE730.out)|exact HB.out)) hb);clear BK730;clear HB;have BK730:=n0_;have HB:=n1_;clear n0_ n1_;(try clear hb);(try clear hb2);(try clear hk);(try clear hi);have hcz14_0:w13.cell? ⟨gb730,0,none⟩=some (.int .i64 a0_0):=(blk_cell BK730.out 0).trans rfl;have hcz14_1:w13.cell? ⟨gb730,1,none⟩=some (.bool a0_1):=(blk_cell BK730.out 1).trans rfl;have hcz14_2:w13.cell? ⟨gb730,2,none⟩=some (.slice A0_2 l0_2.length c0_2):=(blk_cell BK730.out 2).trans rfl;have hfz14_0:=blk_frozen BK730.out 0;have hfz14_1:=blk_frozen BK730.out 1;have hfz14_2:=blk_frozen BK730.out 2)|((with_reducible refine gate_callee (f:=115) rfl ?_);refine goesL_ (some 28) rfl rfl Try.func115 (by kernel_rfl) rfl #[.agg #[.int .i64 a0_0, .bool a0_1, .slice A0_2 l0_2.length c0_2], .int .i64 a1, .int .i64 a2, .slice A3 l3.length c3] rfl (by(try simp only[List.map_toArray,List.map_cons,List.map_nil]);first|done|rfl|(simp only[List.length_drop,List.length_take];rfl)) ?_;(with_reducible refine(static_Check.calls k a0_0 a0_1 _ _ l0_2 a1 a2 _ _ l3 t732 t733 _ ?side1 ?side2 ?side3 ?side4 A8.out).mono ?_);(case side1=>repeat(first|exact(Kd.C_below HR0_2.out HB.out)|(with_reducible refine Kd.C_alloc ?_ _)|(with_reducible refine Kd.C_drewN ?_ _)|(with_reducible refine Kd.C_drew ?_)));(case side2=>exact HC0_2.out);(case side3=>repeat(first|exact(Kd.C_below HR3.out HB.out)|(with_reducible refine Kd.C_alloc ?_ _)|(with_reducible refine Kd.C_drewN ?_ _)|(with_reducible refine Kd.C_drew ?_)));(case side4=>exact HC3.out);rintro e w15 ⟨rfl,hb⟩;refine⟨_,rfl,?_⟩;have n0_:=Aside0.mk (blk_below (g:=gb730) (o:= .cells #[.int .i64 a0_0, .bool a0_1, .slice A0_2 l0_2.length c0_2] 24 (0,0)) (by(with_reducible repeat(first|refine blk_drewN ?_ _|refine blk_drew ?_|refine blk_alloc ?_ _));exact BK730.out) hb);have n1_:=Aside0.mk (below_step (by repeat(first|(with_reducible first|exact HB.out|apply below_alloc|apply pw_below_drewN|apply below_drew1|refine below_set ?_ GE730.out)|exact HB.out)) hb);clear BK730;clear HB;have BK730:=n0_;have HB:=n1_;clear n0_ n1_;(try clear hb);(try clear hb2);(try clear hk);(try clear hi);have hcz16_0:w15.cell? ⟨gb730,0,none⟩=some (.int .i64 a0_0):=(blk_cell BK730.out 0).trans rfl;have hcz16_1:w15.cell? ⟨gb730,1,none⟩=some (.bool a0_1):=(blk_cell BK730.out 1).trans rfl;have hcz16_2:w15.cell? ⟨gb730,2,none⟩=some (.slice A0_2 l0_2.length c0_2):=(blk_cell BK730.out 2).trans rfl;have hfz16_0:=blk_frozen BK730.out 0;have hfz16_1:=blk_frozen BK730.out 1;have hfz16_2:=blk_frozen BK730.out 2)|((with_reducible refine gate_callee (f:=116) rfl ?_);refine goesL_ (some 40) rfl rfl Try.func116 (by kernel_rfl) rfl #[.agg #[.int .i64 a0_0, .bool a0_1, .slice A0_2 l0_2.length c0_2], .slice A3 l3.length c3] rfl (by(try simp only[List.map_toArray,List.map_cons,List.map_nil]);first|done|rfl|(simp only[List.length_drop,List.length_take];rfl)) ?_;(with_reducible refine(span_paid.calls k a0_0 a0_1 _ _ l0_2 _ _ l3 t734 _ ?side1 ?side2 ?side3 ?side4 A10.out).mono ?_);(case side1=>repeat(first|exact(Kd.C_below HR0_2.out HB.out)|(with_reducible refine Kd.C_alloc ?_ _)|(with_reducible refine Kd.C_drewN ?_ _)|(with_reducible refine Kd.C_drew ?_)));(case side2=>exact HC0_2.out);(case side3=>repeat(first|exact(Kd.C_below HR3.out HB.out)|(with_reducible refine Kd.C_alloc ?_ _)|(with_reducible refine Kd.C_drewN ?_ _)|(with_reducible refine Kd.C_drew ?_)));(case side4=>exact HC3.out);rintro e w17 ⟨rfl,hb⟩;refine⟨_,rfl,?_⟩;have n0_:=Aside0.mk (blk_below (g:=gb730) (o:= .cells #[.int .i64 a0_0, .bool a0_1, .slice A0_2 l0_2.length c0_2] 24 (0,0)) (by(with_reducible repeat(first|refine blk_drewN ?_ _|refine blk_drew ?_|refine blk_alloc ?_ _));exact BK730.out) hb);have n1_:=Aside0.mk (below_step (by repeat(first|(with_reducible first|exact HB.out|apply below_alloc|apply pw_below_drewN|apply below_drew1|refine below_set ?_ GE730.out)|exact HB.out)) hb);clear BK730;clear HB;have BK730:=n0_;have HB:=n1_;clear n0_ n1_;(try clear hb);(try clear hb2);(try clear hk);(try clear hi)))
 go_ret2
 exact⟨by first|rfl|(simp[errW_none,errW_some]<;>rfl)|(simp[*,errW_none,errW_some]<;>rfl),by repeat(first|(with_reducible first|exact HB.out|apply below_alloc|apply pw_below_drewN|apply below_drew1|refine below_set ?_ GE730.out)|exact HB.out)⟩
end Go.Proofs.Ytkcpanpdipmmmaa.P
namespace Go.Proofs.Ytkcpanpdipmmmaa.P
open Go.RowKit Go.Proofs.YtkcpanpdipmmmaaW.PrintWords Go.Proofs.YtkcpanpdipmmmaaW.PrintLast Go.Proofs.YtkcpanpdipmmmaaW.PrintMore
attribute [local go_sem] max2_int min2_int max_two min_two max_three min_three max_four min_four
def ebbtidelaw12_awake.f (k:Nat)  :Option (Bool):=(some (([(⟨0,1,2,1⟩:S74),(⟨1,2,2,1⟩:S74)]:List (S74)):List (S74))).bind fun y786=>((span_Most.f k 3 false y786 0 2 1).bind fun bt790=>((span_Most.f k 3 false y786 0 2 5).bind fun bt792=>((span_Worth.f k 3 false y786 0 2 (([1,1]:List Int)) 2).bind fun bt797=>((span_Most.f k 3 false y786 0 2 (-1)).bind fun bt799=>(if bt790.2=0 then(if bt790.1=0 then(if bt792.2=0 then(if bt792.1=8 then(if bt797.2=0 then(if bt797.1=1 then(some (bt799.2 == 1)) else(some false)) else(some false)) else(some false)) else(some false)) else(some false)) else(some false))))))
set_option maxHeartbeats 8000000 in
set_option maxRecDepth 100000 in
theorem ebbtidelaw12_awake.calls (k:Nat)  (r:Bool) (w:World) (h:ebbtidelaw12_awake.f k  =some r) (hrT_:r=true:=by first|rfl|exact Aside0.out (by assumption)):
  Calls Try.prog 65 #[] w fun e w'=>e= .returned (.bool r)∧Below w.heap.size w w':=by
 have HRT:=Aside0.mk hrT_
 clear hrT_
 have hu74:=Try.underlying74
 have hu24:=Try.underlying24
 have HB:=Aside0.mk (Below.refl w.heap.size w)
 have H:((some (([(⟨0,1,2,1⟩:S74),(⟨1,2,2,1⟩:S74)]:List (S74)):List (S74))).bind fun y786=>((span_Most.f k 3 false y786 0 2 1).bind fun bt790=>((span_Most.f k 3 false y786 0 2 5).bind fun bt792=>((span_Worth.f k 3 false y786 0 2 (([1,1]:List Int)) 2).bind fun bt797=>((span_Most.f k 3 false y786 0 2 (-1)).bind fun bt799=>(if bt790.2=0 then(if bt790.1=0 then(if bt792.2=0 then(if bt792.1=8 then(if bt797.2=0 then(if bt797.1=1 then(some (bt799.2 == 1)) else(some false)) else(some false)) else(some false)) else(some false)) else(some false)) else(some false)))))))=some r:=h
 clear h
 obtain⟨y786,hy786⟩: ∃ y_:List (S74),y_=(([(⟨0,1,2,1⟩:S74),(⟨1,2,2,1⟩:S74)]:List (S74))):=⟨_,rfl⟩
 replace H:((span_Most.f k 3 false y786 0 2 1).bind fun bt790=>((span_Most.f k 3 false y786 0 2 5).bind fun bt792=>((span_Worth.f k 3 false y786 0 2 (([1,1]:List Int)) 2).bind fun bt797=>((span_Most.f k 3 false y786 0 2 (-1)).bind fun bt799=>(if bt790.2=0 then(if bt790.1=0 then(if bt792.2=0 then(if bt792.1=8 then(if bt797.2=0 then(if bt797.1=1 then(some (bt799.2 == 1)) else(some false)) else(some false)) else(some false)) else(some false)) else(some false)) else(some false))))))=some r:=by first|(rw[hy786];with_reducible exact H)|(have H2_:=(Option.bind_some _ _).symm.trans H;rw[hy786];with_reducible exact H2_)|(have H2_:=(Option.bind_some _ _).symm.trans H;with_reducible exact H2_)|with_reducible exact H|(rw[hy786];exact H)|exact H
 have Ny786:=Aside0.mk hy786
 clear hy786
 replace H:=Option.bind_eq_some_iff.mp H
 obtain⟨⟨t790,t791⟩,A10,H⟩:=H
 replace H:((span_Most.f k 3 false y786 0 2 5).bind fun bt792=>((span_Worth.f k 3 false y786 0 2 (([1,1]:List Int)) 2).bind fun bt797=>((span_Most.f k 3 false y786 0 2 (-1)).bind fun bt799=>(if t791=0 then(if t790=0 then(if bt792.2=0 then(if bt792.1=8 then(if bt797.2=0 then(if bt797.1=1 then(some (bt799.2 == 1)) else(some false)) else(some false)) else(some false)) else(some false)) else(some false)) else(some false)))))=some r:=H
 have A1:=Aside0.mk A10
 clear A10
 replace H:=Option.bind_eq_some_iff.mp H
 obtain⟨⟨t792,t793⟩,A20,H⟩:=H
 replace H:((span_Worth.f k 3 false y786 0 2 (([1,1]:List Int)) 2).bind fun bt797=>((span_Most.f k 3 false y786 0 2 (-1)).bind fun bt799=>(if t791=0 then(if t790=0 then(if t793=0 then(if t792=8 then(if bt797.2=0 then(if bt797.1=1 then(some (bt799.2 == 1)) else(some false)) else(some false)) else(some false)) else(some false)) else(some false)) else(some false))))=some r:=H
 have A2:=Aside0.mk A20
 clear A20
 obtain⟨y794,hy794⟩: ∃ y_:List Int,y_=(([1,1]:List Int)):=⟨_,rfl⟩
 replace H:((span_Worth.f k 3 false y786 0 2 y794 2).bind fun bt797=>((span_Most.f k 3 false y786 0 2 (-1)).bind fun bt799=>(if t791=0 then(if t790=0 then(if t793=0 then(if t792=8 then(if bt797.2=0 then(if bt797.1=1 then(some (bt799.2 == 1)) else(some false)) else(some false)) else(some false)) else(some false)) else(some false)) else(some false))))=some r:=by first|(rw[hy794];with_reducible exact H)|(have H2_:=(Option.bind_some _ _).symm.trans H;rw[hy794];with_reducible exact H2_)|(have H2_:=(Option.bind_some _ _).symm.trans H;with_reducible exact H2_)|with_reducible exact H|(rw[hy794];exact H)|exact H
 have Ny794:=Aside0.mk hy794
 clear hy794
 replace H:=Option.bind_eq_some_iff.mp H
 obtain⟨⟨t797,t798⟩,A30,H⟩:=H
 replace H:((span_Most.f k 3 false y786 0 2 (-1)).bind fun bt799=>(if t791=0 then(if t790=0 then(if t793=0 then(if t792=8 then(if t798=0 then(if t797=1 then(some (bt799.2 == 1)) else(some false)) else(some false)) else(some false)) else(some false)) else(some false)) else(some false)))=some r:=H
 have A3:=Aside0.mk A30
 clear A30
 replace H:=Option.bind_eq_some_iff.mp H
 obtain⟨⟨t799,t800⟩,A40,H⟩:=H
 replace H:(if t791=0 then(if t790=0 then(if t793=0 then(if t792=8 then(if t798=0 then(if t797=1 then(some (t800 == 1)) else(some false)) else(some false)) else(some false)) else(some false)) else(some false)) else(some false))=some r:=H
 have A4:=Aside0.mk A40
 clear A40
 by_cases c5:t791=0
 rotate_left
 ·rw[if_neg c5] at H
  exact absurd (Option.some.inj H) (by rw[HRT.out];decide)
 rw[if_pos c5] at H
 have c5b0:(t791 == 0)=true:=beq_iff_eq.mpr c5
 have c5b1:(t791 != 0)=false:=bne_eq_false_iff_eq.mpr c5
 clear c5
 by_cases c6:t790=0
 rotate_left
 ·rw[if_neg c6] at H
  exact absurd (Option.some.inj H) (by rw[HRT.out];decide)
 rw[if_pos c6] at H
 have c6b0:(t790 == 0)=true:=beq_iff_eq.mpr c6
 have c6b1:(t790 != 0)=false:=bne_eq_false_iff_eq.mpr c6
 clear c6
 by_cases c7:t793=0
 rotate_left
 ·rw[if_neg c7] at H
  exact absurd (Option.some.inj H) (by rw[HRT.out];decide)
 rw[if_pos c7] at H
 have c7b0:(t793 == 0)=true:=beq_iff_eq.mpr c7
 have c7b1:(t793 != 0)=false:=bne_eq_false_iff_eq.mpr c7
 clear c7
 by_cases c8:t792=8
 rotate_left
 ·rw[if_neg c8] at H
  exact absurd (Option.some.inj H) (by rw[HRT.out];decide)
 rw[if_pos c8] at H
 have c8b0:(t792 == 8)=true:=beq_iff_eq.mpr c8
 have c8b1:(t792 != 8)=false:=bne_eq_false_iff_eq.mpr c8
 clear c8
 by_cases c9:t798=0
 rotate_left
 ·rw[if_neg c9] at H
  exact absurd (Option.some.inj H) (by rw[HRT.out];decide)
 rw[if_pos c9] at H
 have c9b0:(t798 == 0)=true:=beq_iff_eq.mpr c9
 have c9b1:(t798 != 0)=false:=bne_eq_false_iff_eq.mpr c9
 clear c9
 by_cases c10:t797=1
 rotate_left
 ·rw[if_neg c10] at H
  exact absurd (Option.some.inj H) (by rw[HRT.out];decide)
 rw[if_pos c10] at H
 have c10b0:(t797 == 1)=true:=beq_iff_eq.mpr c10
 have c10b1:(t797 != 1)=false:=bne_eq_false_iff_eq.mpr c10
 clear c10
 obtain rfl:=Option.some.inj H
 go_enter Try.func65,Try.ntmps65
 go_wp2_with (first|((with_reducible refine gate_dst (N:=12) rfl ?_);refine Kd.R_lit k74 _ 74 ?hg (N:=12) ?hd (xs:=([(⟨0,1,2,1⟩:S74),(⟨1,2,2,1⟩:S74)]:List (S74))) (inner:=[.int .i64 0, .int .i64 1, .int .i64 2, .int .i64 1, .int .i64 1, .int .i64 2, .int .i64 2, .int .i64 1]) (ok:=fun _=>True) (okp:=fun _=>True) ?hr ?hp (fun _ hk=>hk) trivial (Below.refl _ _) (Nat.le_refl _) (by simp) ?_;(case hd=>rfl);(case hg=>rfl);(case hr=>first|(go_simp;done)|(go_simp;rfl));(case hp=>exact(Reps.c4 (show Kd.M k74 _ _ _ (⟨0,1,2,1⟩:S74) [.int .i64 0, .int .i64 1, .int .i64 2, .int .i64 1] from(k74_mkM _ _ _ (⟨0,1,2,1⟩:S74) )) (Reps.c4 (show Kd.M k74 _ _ _ (⟨1,2,2,1⟩:S74) [.int .i64 1, .int .i64 2, .int .i64 2, .int .i64 1] from(k74_mkM _ _ _ (⟨1,2,2,1⟩:S74) )) (Reps.none _ _))));intro v787 w11 ho12 hb hg_ hnew_;clear hg_ hnew_;(first|rw[← Ny786.out] at ho12|(simp only[Int.reduceToNat] at ho12;rw[← Ny786.out] at ho12));have n0_:=Aside0.mk (Kd.R_lower ho12 (below_size (by repeat(first|(with_reducible first|exact HB.out|apply below_alloc|apply pw_below_drewN|apply below_drew1)|exact HB.out))));have n1_:=Aside0.mk (below_step (by repeat(first|(with_reducible first|exact HB.out|apply below_alloc|apply pw_below_drewN|apply below_drew1)|exact HB.out)) hb);clear HB;have HO788:=n0_;have HB:=n1_;clear n0_ n1_;clear hb ho12;obtain⟨Ao13,co13,eo13⟩:=Kd.R_slice HO788.out;subst eo13)|((with_reducible refine gate_dst (N:=1) rfl ?_);refine box_event ?hg (N:=1) ?hd (cs:= #[.int .i64 0, .bool false, .slice none 0 0]) (t:=24) ?hr ?_;(case hd=>rfl);(case hg=>rfl);(case hr=>first|(go_simp;done)|(go_simp;rfl));intro gb789 hg w14 hbox hb;have n0_:=Aside0.mk (Kd.R_below (by(with_reducible repeat(first|apply Kd.R_alloc|apply Kd.R_drewN|apply Kd.R_drew));exact HO788.out) hb);have n1_:=Aside0.mk (below_step (by repeat(first|(with_reducible first|exact HB.out|apply below_alloc|apply pw_below_drewN|apply below_drew1)|exact HB.out)) hb);have n2_:=Aside0.mk (hbox);have n3_:=Aside0.mk ((by rw[hg];exact(below_size (by repeat(first|(with_reducible first|exact HB.out|apply below_alloc|apply pw_below_drewN|apply below_drew1)|exact HB.out))):w.heap.size≤gb789));have n4_:=Aside0.mk ((by rw[hg];exact(below_size (by repeat(first|(with_reducible first|exact HB.out|apply below_alloc|apply pw_below_drewN|apply below_drew1)|exact HB.out))):w.heap.size≤gb789));clear HO788;clear HB;have HO788:=n0_;have HB:=n1_;have BK789:=n2_;have GW789:=n3_;have GE789:=n4_;clear n0_ n1_ n2_ n3_ n4_;clear hb hbox hg;have hcz15_0:w14.cell? ⟨gb789,0,none⟩=some (.int .i64 0):=(blk_cell BK789.out 0).trans rfl;have hcz15_1:w14.cell? ⟨gb789,1,none⟩=some (.bool false):=(blk_cell BK789.out 1).trans rfl;have hcz15_2:w14.cell? ⟨gb789,2,none⟩=some (.slice none 0 0):=(blk_cell BK789.out 2).trans rfl;have hfz15_0:=blk_frozen BK789.out 0;have hfz15_1:=blk_frozen BK789.out 1;have hfz15_2:=blk_frozen BK789.out 2)|((with_reducible refine gate_callee (f:=67) rfl ?_);refine goesL_ (some 16) rfl rfl Try.func67 (by kernel_rfl) rfl #[.agg #[.int .i64 3, .bool false, .slice Ao13 y786.length co13], .int .i64 0, .int .i64 2, .int .i64 1] rfl (by(try simp only[List.map_toArray,List.map_cons,List.map_nil]);first|done|rfl|(simp only[List.length_drop,List.length_take];rfl)) ?_;(with_reducible refine(span_Most.calls k 3 false _ _ y786 0 2 1 t790 t791 _ ?side1 ?side2 A1.out).mono ?_);(case side1=>refine(Kd.R_reads' (e:=74) (base:=w.heap.size) (ok:=fun k_=>True) (n:=y786.length) (c:=co13) ?_).2.2;exact(by(with_reducible repeat(first|apply Kd.R_alloc|apply Kd.R_drewN|apply Kd.R_drew));exact(Kd.R_mono (Kd.R_far (p:=⟨gb789,2,none⟩) (Kd.R_far (p:=⟨gb789,1,none⟩) (Kd.R_far (p:=⟨gb789,0,none⟩) (Kd.R_types HO788.out BK789.out (by decide)) (fun _ hk=>hk.2) (.int .i64 3)) (fun _ hk=>hk.2) (.bool false)) (fun _ hk=>hk.2) (.slice Ao13 y786.length co13)) (fun _ h_=>h_.1))));(case side2=>exact(Kd.R_reads' HO788.out).2.1);rintro e w16 ⟨rfl,hb⟩;refine⟨_,rfl,?_⟩;have n0_:=Aside0.mk (Kd.R_below (by(with_reducible repeat(first|apply Kd.R_alloc|apply Kd.R_drewN|apply Kd.R_drew));exact(Kd.R_mono (Kd.R_far (p:=⟨gb789,2,none⟩) (Kd.R_far (p:=⟨gb789,1,none⟩) (Kd.R_far (p:=⟨gb789,0,none⟩) (Kd.R_types HO788.out BK789.out (by decide)) (fun _ hk=>hk.2) (.int .i64 3)) (fun _ hk=>hk.2) (.bool false)) (fun _ hk=>hk.2) (.slice Ao13 y786.length co13)) (fun _ h_=>h_.1))) hb);have n1_:=Aside0.mk (blk_below (g:=gb789) (o:= .cells #[.int .i64 3, .bool false, .slice Ao13 y786.length co13] 24 (0,0)) (by(with_reducible repeat(first|refine blk_drewN ?_ _|refine blk_drew ?_|refine blk_alloc ?_ _));refine blk_put (cs:= #[.int .i64 3, .bool false, .slice none 0 0]) ?_ 2 _ rfl;(with_reducible repeat(first|refine blk_drewN ?_ _|refine blk_drew ?_|refine blk_alloc ?_ _));refine blk_put (cs:= #[.int .i64 3, .bool false, .slice none 0 0]) ?_ 1 _ rfl;(with_reducible repeat(first|refine blk_drewN ?_ _|refine blk_drew ?_|refine blk_alloc ?_ _));refine blk_put (cs:= #[.int .i64 0, .bool false, .slice none 0 0]) ?_ 0 _ rfl;(with_reducible repeat(first|refine blk_drewN ?_ _|refine blk_drew ?_|refine blk_alloc ?_ _));exact BK789.out) hb);have n2_:=Aside0.mk (below_step (by repeat(first|(with_reducible first|exact HB.out|apply below_alloc|apply pw_below_drewN|apply below_drew1|refine below_set ?_ GE789.out)|exact HB.out)) hb);clear HO788;clear BK789;clear HB;have HO788:=n0_;have BK789:=n1_;have HB:=n2_;clear n0_ n1_ n2_;(try clear hb);(try clear hb2);(try clear hk);(try clear hi);have hcz17_0:w16.cell? ⟨gb789,0,none⟩=some (.int .i64 3):=(blk_cell BK789.out 0).trans rfl;have hcz17_1:w16.cell? ⟨gb789,1,none⟩=some (.bool false):=(blk_cell BK789.out 1).trans rfl;have hcz17_2:w16.cell? ⟨gb789,2,none⟩=some (.slice Ao13 y786.length co13):=(blk_cell BK789.out 2).trans rfl;have hfz17_0:=blk_frozen BK789.out 0;have hfz17_1:=blk_frozen BK789.out 1;have hfz17_2:=blk_frozen BK789.out 2)|((with_reducible refine gate_callee (f:=67) rfl ?_);refine goesL_ (some 21) rfl rfl Try.func67 (by kernel_rfl) rfl #[.agg #[.int .i64 3, .bool false, .slice Ao13 y786.length co13], .int .i64 0, .int .i64 2, .int .i64 5] rfl (by(try simp only[List.map_toArray,List.map_cons,List.map_nil]);first|done|rfl|(simp only[List.length_drop,List.length_take];rfl)) ?_;(with_reducible refine(span_Most.calls k 3 false _ _ y786 0 2 5 t792 t793 _ ?side1 ?side2 A2.out).mono ?_);(case side1=>repeat(first|exact(Kd.R_reads' HO788.out).2.2|(with_reducible refine Kd.C_alloc ?_ _)|(with_reducible refine Kd.C_drewN ?_ _)|(with_reducible refine Kd.C_drew ?_)));(case side2=>exact(Kd.R_reads' HO788.out).2.1);rintro e w18 ⟨rfl,hb⟩;refine⟨_,rfl,?_⟩;have n0_:=Aside0.mk (Kd.R_below (by(with_reducible repeat(first|apply Kd.R_alloc|apply Kd.R_drewN|apply Kd.R_drew));exact HO788.out) hb);have n1_:=Aside0.mk (blk_below (g:=gb789) (o:= .cells #[.int .i64 3, .bool false, .slice Ao13 y786.length co13] 24 (0,0)) (by(with_reducible repeat(first|refine blk_drewN ?_ _|refine blk_drew ?_|refine blk_alloc ?_ _));exact BK789.out) hb);have n2_:=Aside0.mk (below_step (by repeat(first|(with_reducible first|exact HB.out|apply below_alloc|apply pw_below_drewN|apply below_drew1|refine below_set ?_ GE789.out)|exact HB.out)) hb);clear HO788;clear BK789;clear HB;have HO788:=n0_;have BK789:=n1_;have HB:=n2_;clear n0_ n1_ n2_;(try clear hb);(try clear hb2);(try clear hk);(try clear hi);have hcz19_0:w18.cell? ⟨gb789,0,none⟩=some (.int .i64 3):=(blk_cell BK789.out 0).trans rfl;have hcz19_1:w18.cell? ⟨gb789,1,none⟩=some (.bool false):=(blk_cell BK789.out 1).trans rfl;have hcz19_2:w18.cell? ⟨gb789,2,none⟩=some (.slice Ao13 y786.length co13):=(blk_cell BK789.out 2).trans rfl;have hfz19_0:=blk_frozen BK789.out 0;have hfz19_1:=blk_frozen BK789.out 1;have hfz19_2:=blk_frozen BK789.out 2)|((with_reducible refine gate_dst (N:=26) rfl ?_);refine Kd.R_lit (Kd.int .i64) _ 3 ?hg (N:=26) ?hd (xs:=([1,1]:List Int)) (inner:=[.int .i64 1, .int .i64 1]) (ok:=fun _=>True) (okp:=fun _=>True) ?hr ?hp (fun _ hk=>hk) trivial (Below.refl _ _) (Nat.le_refl _) (by simp) ?_;(case hd=>rfl);(case hg=>rfl);(case hr=>first|(go_simp;done)|(go_simp;rfl));(case hp=>exact(Reps.one (show Kd.M (Kd.int .i64) _ _ _ 1 [.int .i64 1] from rfl) (Reps.one (show Kd.M (Kd.int .i64) _ _ _ 1 [.int .i64 1] from rfl) (Reps.none _ _))));intro v795 w20 ho21 hb hg_ hnew_;clear hg_ hnew_;(first|rw[← Ny794.out] at ho21|(simp only[Int.reduceToNat] at ho21;rw[← Ny794.out] at ho21));have n0_:=Aside0.mk (Kd.R_below (by(with_reducible repeat(first|apply Kd.R_alloc|apply Kd.R_drewN|apply Kd.R_drew));exact HO788.out) hb);have n1_:=Aside0.mk (Kd.R_lower ho21 (below_size (by repeat(first|(with_reducible first|exact HB.out|apply below_alloc|apply pw_below_drewN|apply below_drew1|refine below_set ?_ GE789.out)|exact HB.out))));have n2_:=Aside0.mk (blk_below (g:=gb789) (o:= .cells #[.int .i64 3, .bool false, .slice Ao13 y786.length co13] 24 (0,0)) (by(with_reducible repeat(first|refine blk_drewN ?_ _|refine blk_drew ?_|refine blk_alloc ?_ _));exact BK789.out) hb);have n3_:=Aside0.mk (below_step (by repeat(first|(with_reducible first|exact HB.out|apply below_alloc|apply pw_below_drewN|apply below_drew1|refine below_set ?_ GE789.out)|exact HB.out)) hb);clear HO788;clear BK789;clear HB;have HO788:=n0_;have HO796:=n1_;have BK789:=n2_;have HB:=n3_;clear n0_ n1_ n2_ n3_;clear hb ho21;obtain⟨Ao22,co22,eo22⟩:=Kd.R_slice HO796.out;subst eo22)|((with_reducible refine gate_callee (f:=63) rfl ?_);refine goesL_ (some 27) rfl rfl Try.func63 (by kernel_rfl) rfl #[.agg #[.int .i64 3, .bool false, .slice Ao13 y786.length co13], .int .i64 0, .int .i64 2, .slice Ao22 y794.length co22, .int .i64 2] rfl (by(try simp only[List.map_toArray,List.map_cons,List.map_nil]);first|done|rfl|(simp only[List.length_drop,List.length_take];rfl)) ?_;(with_reducible refine(span_Worth.calls k 3 false _ _ y786 0 2 _ _ y794 2 t797 t798 _ ?side1 ?side2 ?side3 ?side4 A3.out).mono ?_);(case side1=>repeat(first|exact(Kd.R_reads' HO788.out).2.2|(with_reducible refine Kd.C_alloc ?_ _)|(with_reducible refine Kd.C_drewN ?_ _)|(with_reducible refine Kd.C_drew ?_)));(case side2=>exact(Kd.R_reads' HO788.out).2.1);(case side3=>repeat(first|exact(Kd.R_reads' HO796.out).2.2|(with_reducible refine Kd.C_alloc ?_ _)|(with_reducible refine Kd.C_drewN ?_ _)|(with_reducible refine Kd.C_drew ?_)));(case side4=>exact(Kd.R_reads' HO796.out).2.1);rintro e w23 ⟨rfl,hb⟩;refine⟨_,rfl,?_⟩;have n0_:=Aside0.mk (Kd.R_below (by(with_reducible repeat(first|apply Kd.R_alloc|apply Kd.R_drewN|apply Kd.R_drew));exact HO788.out) hb);have n1_:=Aside0.mk (Kd.R_below (by(with_reducible repeat(first|apply Kd.R_alloc|apply Kd.R_drewN|apply Kd.R_drew));exact HO796.out) hb);have n2_:=Aside0.mk (blk_below (g:=gb789) (o:= .cells #[.int .i64 3, .bool false, .slice Ao13 y786.length co13] 24 (0,0)) (by(with_reducible repeat(first|refine blk_drewN ?_ _|refine blk_drew ?_|refine blk_alloc ?_ _));exact BK789.out) hb);have n3_:=Aside0.mk (below_step (by repeat(first|(with_reducible first|exact HB.out|apply below_alloc|apply pw_below_drewN|apply below_drew1|refine below_set ?_ GE789.out)|exact HB.out)) hb);clear HO788;clear HO796;clear BK789;clear HB;have HO788:=n0_;have HO796:=n1_;have BK789:=n2_;have HB:=n3_;clear n0_ n1_ n2_ n3_;(try clear hb);(try clear hb2);(try clear hk);(try clear hi);have hcz24_0:w23.cell? ⟨gb789,0,none⟩=some (.int .i64 3):=(blk_cell BK789.out 0).trans rfl;have hcz24_1:w23.cell? ⟨gb789,1,none⟩=some (.bool false):=(blk_cell BK789.out 1).trans rfl;have hcz24_2:w23.cell? ⟨gb789,2,none⟩=some (.slice Ao13 y786.length co13):=(blk_cell BK789.out 2).trans rfl;have hfz24_0:=blk_frozen BK789.out 0;have hfz24_1:=blk_frozen BK789.out 1;have hfz24_2:=blk_frozen BK789.out 2)|((with_reducible refine gate_callee (f:=67) rfl ?_);refine goesL_ (some 32) rfl rfl Try.func67 (by kernel_rfl) rfl #[.agg #[.int .i64 3, .bool false, .slice Ao13 y786.length co13], .int .i64 0, .int .i64 2, .int .i64 (-1)] rfl (by(try simp only[List.map_toArray,List.map_cons,List.map_nil]);first|done|rfl|(simp only[List.length_drop,List.length_take];rfl)) ?_;(with_reducible refine(span_Most.calls k 3 false _ _ y786 0 2 (-1) t799 t800 _ ?side1 ?side2 A4.out).mono ?_);(case side1=>repeat(first|exact(Kd.R_reads' HO788.out).2.2|(with_reducible refine Kd.C_alloc ?_ _)|(with_reducible refine Kd.C_drewN ?_ _)|(with_reducible refine Kd.C_drew ?_)));(case side2=>exact(Kd.R_reads' HO788.out).2.1);rintro e w25 ⟨rfl,hb⟩;refine⟨_,rfl,?_⟩;have n0_:=Aside0.mk (Kd.R_below (by(with_reducible repeat(first|apply Kd.R_alloc|apply Kd.R_drewN|apply Kd.R_drew));exact HO788.out) hb);have n1_:=Aside0.mk (Kd.R_below (by(with_reducible repeat(first|apply Kd.R_alloc|apply Kd.R_drewN|apply Kd.R_drew));exact HO796.out) hb);have n2_:=Aside0.mk (blk_below (g:=gb789) (o:= .cells #[.int .i64 3, .bool false, .slice Ao13 y786.length co13] 24 (0,0)) (by(with_reducible repeat(first|refine blk_drewN ?_ _|refine blk_drew ?_|refine blk_alloc ?_ _));exact BK789.out) hb);have n3_:=Aside0.mk (below_step (by repeat(first|(with_reducible first|exact HB.out|apply below_alloc|apply pw_below_drewN|apply below_drew1|refine below_set ?_ GE789.out)|exact HB.out)) hb);clear HO788;clear HO796;clear BK789;clear HB;have HO788:=n0_;have HO796:=n1_;have BK789:=n2_;have HB:=n3_;clear n0_ n1_ n2_ n3_;(try clear hb);(try clear hb2);(try clear hk);(try clear hi)))
 go_ret
 exact⟨by first|rfl|(simp[errW_none,errW_some]<;>rfl)|(simp[*,errW_none,errW_some]<;>rfl),by repeat(first|(with_reducible first|exact HB.out|apply below_alloc|apply pw_below_drewN|apply below_drew1|refine below_set ?_ GE789.out)|exact HB.out)⟩
end Go.Proofs.Ytkcpanpdipmmmaa.P
