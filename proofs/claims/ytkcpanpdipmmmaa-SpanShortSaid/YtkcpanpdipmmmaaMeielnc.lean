/- What the law's row needs of these texts, taken out of them by wip/tool/mini.py: P114 P182 QOpen QCheckRef QMostLaw QWorthLaw QSpanMostLaw QGrowLaw QRead12B QLSpanGrows QLSpanShort. -/
import Derived.Test.YtkcpanpdipmmmaaMhbmfmk
import Derived.Test.YtkcpanpdipmmmaaMnlomaa
import Derived.Test.YtkcpanpdipmmmaaVmeldcc
import Derived.Deep.Slices
import Derived.Deep.Fields
import Derived.ChangeSame
import Derived.ChangeArms
import Derived.OpenShut
import Derived.Test.YtkcpanpdipmmmaaMollpmc
import Derived.Test.YtkcpanpdipmmmaaMnhmlfp
import Derived.Deep.RegionHeld3
import Derived.Deep.DeepCutAuto
set_option linter.unusedVariables false
set_option linter.unusedSimpArgs false
namespace Go.Proofs.Ytkcpanpdipmmmaa.P
open Go.RowKit Go.Proofs.YtkcpanpdipmmmaaW.PrintWords Go.Proofs.YtkcpanpdipmmmaaW.PrintLast Go.Proofs.YtkcpanpdipmmmaaW.PrintMore
attribute [local go_sem] max2_int min2_int max_two min_two max_three min_three max_four min_four
def ebbtidelaw12_Read.l0:Nat→Int→Int→Int→Bool→List (S135)→Int→Int→Int→Int→Bool→List (S74)→Option (Int × Bool × (List (S74)) × Int × Int × Int)
 |0,_,_,_,_,_,_,_,_,_,_,_=>none
 |k+1,x1,x9,x884000,x884001,x884002,x884003,x884004,x884005,x886000,x886001,x886002=>if x9<(x884002.length:Int) then(if x9<x1 then(if 0≤x9 then(if x886000=0 then(none) else(if x886002.length<4398046511104 then(ebbtidelaw12_Read.l0 k x1 (wrap64 (x9+1)) x884000 x884001 x884002 x884003 x884004 x884005 x886000 x886001 (x886002 ++ [(⟨Int.tmod (wrap64 ((rd_T135 x884002 x9).f0)) x886000,Int.tmod (wrap64 ((rd_T135 x884002 x9).f1)) x886000,Int.tmod (wrap64 ((rd_T135 x884002 x9).f2)) 6,Int.tmod (wrap64 ((rd_T135 x884002 x9).f3)) 4⟩:S74)])) else(none))) else(none)) else(if x886000=0 then(none) else(if (wrap64 (x886000 - 1))=0 then(none) else(some (x886000,x886001,x886002,Int.tmod (wrap64 (x884003)) x886000,Int.tmod (wrap64 ((wrap64 ((Int.tmod (wrap64 (x884003)) x886000)+1))+(Int.tmod (wrap64 (x884004)) (wrap64 (x886000 - 1))))) x886000,Int.tmod (wrap64 (x884005)) 8))))) else(if x886000=0 then(none) else(if (wrap64 (x886000 - 1))=0 then(none) else(some (x886000,x886001,x886002,Int.tmod (wrap64 (x884003)) x886000,Int.tmod (wrap64 ((wrap64 ((Int.tmod (wrap64 (x884003)) x886000)+1))+(Int.tmod (wrap64 (x884004)) (wrap64 (x886000 - 1))))) x886000,Int.tmod (wrap64 (x884005)) 8))))
def ebbtidelaw12_Read.f (k:Nat) (a0_0:Int) (a0_1:Bool) (l0_2:List (S135)) (a0_3:Int) (a0_4:Int) (a0_5:Int) (a1:Int):Option (Int × Bool × (List (S74)) × Int × Int × Int):=ebbtidelaw12_Read.l0 k a1 0 a0_0 a0_1 l0_2 a0_3 a0_4 a0_5 (wrap64 (2+(Int.tmod (wrap64 (a0_0)) 4))) a0_1 ([]:List (S74))
def ebbtidelaw12_Read.T6:Bool × List (List Nat × List Nat):=(true,[([],[]),([0],[0]),([],[]),([2],[2]),([3],[3]),([],[]),([5],[5]),([4,6],[4,6]),([],[]),([8],[8]),([9],[9]),([],[]),([11],[11]),([10,12],[10,12]),([],[]),([14],[14]),([15],[15]),([16],[16]),([],[]),([18],[18]),([19],[19]),([20],[20]),([7,13,17,21],[7,13,17,21]),([22],[22]),([1,23],[1,23]),([0,1,2,3,4,5,6,7,8,9,10,11,12,13,14,15,16,17,18,19,20,21,22,23,24],[]),([25,24,24,0,1,2,3,4,5,6,7,8,9,10,11,12,13,14,15,16,17,18,19,20,21,22,23,24],[24,25])])
def ebbtidelaw12_Read.B6:List Nat:=[0,1,0,4,12,0,32,124,0,256,768,0,2048,7936,0,16384,49152,114688,0,262144,786432,1835008,4194300,8388604,16777215,33554431,67108863]
theorem ebbtidelaw12_Read.tab6:rtab .any (opsOf Try.f72 6)=ebbtidelaw12_Read.T6:=by kernel_rfl
theorem ebbtidelaw12_Read.bits6:waitsOk ebbtidelaw12_Read.T6.2 ebbtidelaw12_Read.B6=true:=by kernel_rfl
def ebbtidelaw12_Read.T8:Bool × List (List Nat × List Nat):=(true,[([],[]),([0],[0]),([],[]),([2],[2]),([3],[3]),([],[]),([5],[5]),([6],[6]),([4,7],[4,7]),([1,8],[1,8]),([],[]),([10],[10]),([9,11],[9,11]),([12,0,1,2,3,4,5,6,7,8,9,10,11,12],[12])])
def ebbtidelaw12_Read.B8:List Nat:=[0,1,0,4,12,0,32,96,252,511,0,1024,4095,8191]
theorem ebbtidelaw12_Read.tab8:rtab .any (opsOf Try.f72 8)=ebbtidelaw12_Read.T8:=by kernel_rfl
theorem ebbtidelaw12_Read.bits8:waitsOk ebbtidelaw12_Read.T8.2 ebbtidelaw12_Read.B8=true:=by kernel_rfl
def ebbtidelaw12_Read.T9:Bool × List (List Nat × List Nat):=(true,[([],[]),([],[]),([],[]),([],[]),([3],[3]),([4],[4]),([5],[5]),([0,0],[0]),([1,7,0,1,7],[1]),([2,8,0,1,2,7,8],[2]),([6,9,0,1,2,3,4,5,6,7,8,9],[6])])
def ebbtidelaw12_Read.B9:List Nat:=[0,0,0,0,8,24,56,1,131,391,1023]
theorem ebbtidelaw12_Read.tab9:rtab .any (opsOf Try.f72 9)=ebbtidelaw12_Read.T9:=by kernel_rfl
theorem ebbtidelaw12_Read.bits9:waitsOk ebbtidelaw12_Read.T9.2 ebbtidelaw12_Read.B9=true:=by kernel_rfl
set_option maxHeartbeats 8000000 in
set_option maxRecDepth 100000 in
theorem ebbtidelaw12_Read.calls (k:Nat) (a0_0:Int) (a0_1:Bool) (A0_2:Option Addr) (c0_2:Nat) (l0_2:List (S135)) (a0_3:Int) (a0_4:Int) (a0_5:Int) (a1:Int) (r1:Int) (r2:Bool) (r3:List (S74)) (r4:Int) (r5:Int) (r6:Int) (w:World) (hr0_2:Kd.C k135 w A0_2 l0_2.length l0_2) (hc0_2:l0_2.length≤c0_2) (h:ebbtidelaw12_Read.f k a0_0 a0_1 l0_2 a0_3 a0_4 a0_5 a1=some (r1,r2,r3,r4,r5,r6)):
  Calls Try.prog 72 #[.agg #[.int .u8 a0_0, .bool a0_1, .slice A0_2 l0_2.length c0_2, .int .u8 a0_3, .int .u8 a0_4, .int .u8 a0_5], .int .i64 a1] w fun e w'=> ∃ v2_:Value,e= .returned (.tuple #[.agg #[.int .i64 r1, .bool r2,v2_], .int .i64 r4, .int .i64 r5, .int .i64 r6])∧Kd.R k74 74 w' w.heap.size (fun _=>True) v2_ r3∧Below w.heap.size w w':=by
 have hu70:=Try.underlying70
 have hu24:=Try.underlying24
 have hu135:=Try.underlying135
 have hu74:=Try.underlying74
 have HR0_2:=Aside0.mk hr0_2
 have HC0_2:=Aside0.mk hc0_2
 clear hr0_2 hc0_2
 have HB:=Aside0.mk (Below.refl w.heap.size w)
 have H:(ebbtidelaw12_Read.l0 k a1 0 a0_0 a0_1 l0_2 a0_3 a0_4 a0_5 (wrap64 (2+(Int.tmod (wrap64 (a0_0)) 4))) a0_1 ([]:List (S74)))=some (r1,r2,r3,r4,r5,r6):=h
 clear h
 have H':=Aside0.mk H
 clear H
 go_enter Try.func72,Try.ntmps72
 go_wp2_with (first|((with_reducible refine gate_dst (N:=2) rfl ?_);refine box_event ?hg (N:=2) ?hd (cs:= #[.int .u8 a0_0, .bool a0_1, .slice A0_2 l0_2.length c0_2, .int .u8 a0_3, .int .u8 a0_4, .int .u8 a0_5]) (t:=70) ?hr ?_;(case hd=>rfl);(case hg=>rfl);(case hr=>first|(go_simp;done)|(go_simp;rfl));intro gb883 hg w3 hbox hb;have n0_:=Aside0.mk (below_step (by repeat(first|(with_reducible first|exact HB.out|apply below_alloc|apply pw_below_drewN|apply below_drew1)|exact HB.out)) hb);have n1_:=Aside0.mk (hbox);have n2_:=Aside0.mk ((by rw[hg];exact(below_size (by repeat(first|(with_reducible first|exact HB.out|apply below_alloc|apply pw_below_drewN|apply below_drew1)|exact HB.out))):w.heap.size≤gb883));have n3_:=Aside0.mk ((by rw[hg];exact(below_size (by repeat(first|(with_reducible first|exact HB.out|apply below_alloc|apply pw_below_drewN|apply below_drew1)|exact HB.out))):w.heap.size≤gb883));clear HB;have HB:=n0_;have BK883:=n1_;have GW883:=n2_;have GE883:=n3_;clear n0_ n1_ n2_ n3_;clear hb hbox hg)|((with_reducible refine gate_dst (N:=4) rfl ?_);refine box_event ?hg (N:=4) ?hd (cs:= #[.int .i64 0, .bool false, .slice none 0 0]) (t:=24) ?hr ?_;(case hd=>rfl);(case hg=>rfl);(case hr=>first|(go_simp;done)|(go_simp;rfl));intro gb884 hg w4 hbox hb;have n0_:=Aside0.mk (blk_below (g:=gb883) (o:= .cells #[.int .u8 a0_0, .bool a0_1, .slice A0_2 l0_2.length c0_2, .int .u8 a0_3, .int .u8 a0_4, .int .u8 a0_5] 70 (0,0)) (by(with_reducible repeat(first|refine blk_drewN ?_ _|refine blk_drew ?_|refine blk_alloc ?_ _));exact BK883.out) hb);have n1_:=Aside0.mk (below_step (by repeat(first|(with_reducible first|exact HB.out|apply below_alloc|apply pw_below_drewN|apply below_drew1|refine below_set ?_ GE883.out)|exact HB.out)) hb);have n2_:=Aside0.mk (hbox);have n3_:=Aside0.mk ((by rw[hg];exact(below_size (by repeat(first|(with_reducible first|exact HB.out|apply below_alloc|apply pw_below_drewN|apply below_drew1|refine below_set ?_ GE883.out)|exact HB.out))):w.heap.size≤gb884));have n4_:=Aside0.mk ((by rw[hg];exact(below_size (by repeat(first|(with_reducible first|exact HB.out|apply below_alloc|apply pw_below_drewN|apply below_drew1|refine below_set ?_ GE883.out)|exact HB.out))):w.heap.size≤gb884));have n5_:=Aside0.mk ((by rw[hg];exact Nat.ne_of_lt (blk_lt (g:=gb883) (o:= .cells #[.int .u8 a0_0, .bool a0_1, .slice A0_2 l0_2.length c0_2, .int .u8 a0_3, .int .u8 a0_4, .int .u8 a0_5] 70 (0,0)) (by(with_reducible repeat(first|refine blk_drewN ?_ _|refine blk_drew ?_|refine blk_alloc ?_ _));exact BK883.out)):gb883≠gb884));have n6_:=Aside0.mk ((by rw[hg];exact Nat.ne_of_gt (blk_lt (g:=gb883) (o:= .cells #[.int .u8 a0_0, .bool a0_1, .slice A0_2 l0_2.length c0_2, .int .u8 a0_3, .int .u8 a0_4, .int .u8 a0_5] 70 (0,0)) (by(with_reducible repeat(first|refine blk_drewN ?_ _|refine blk_drew ?_|refine blk_alloc ?_ _));exact BK883.out)):gb884≠gb883));clear BK883;clear HB;have BK883:=n0_;have HB:=n1_;have BK884:=n2_;have GW884:=n3_;have GE884:=n4_;have NB883_884:=n5_;have NB884_883:=n6_;clear n0_ n1_ n2_ n3_ n4_ n5_ n6_;clear hb hbox hg;have hnb5:=NB883_884.out;have hnc5:=NB884_883.out;have hcz6_0:w4.cell? ⟨gb883,0,none⟩=some (.int .u8 a0_0):=(blk_cell BK883.out 0).trans rfl;have hcz6_1:w4.cell? ⟨gb883,1,none⟩=some (.bool a0_1):=(blk_cell BK883.out 1).trans rfl;have hcz6_2:w4.cell? ⟨gb883,2,none⟩=some (.slice A0_2 l0_2.length c0_2):=(blk_cell BK883.out 2).trans rfl;have hcz6_3:w4.cell? ⟨gb883,3,none⟩=some (.int .u8 a0_3):=(blk_cell BK883.out 3).trans rfl;have hcz6_4:w4.cell? ⟨gb883,4,none⟩=some (.int .u8 a0_4):=(blk_cell BK883.out 4).trans rfl;have hcz6_5:w4.cell? ⟨gb883,5,none⟩=some (.int .u8 a0_5):=(blk_cell BK883.out 5).trans rfl;have hfz6_0:=blk_frozen BK883.out 0;have hfz6_1:=blk_frozen BK883.out 1;have hfz6_2:=blk_frozen BK883.out 2;have hfz6_3:=blk_frozen BK883.out 3;have hfz6_4:=blk_frozen BK883.out 4;have hfz6_5:=blk_frozen BK883.out 5)|((with_reducible refine gate_dst (N:=8) rfl ?_);refine box_event ?hg (N:=8) ?hd (cs:= #[.int .i64 0, .bool false, .slice none 0 0]) (t:=24) ?hr ?_;(case hd=>rfl);(case hg=>rfl);(case hr=>first|(go_simp;done)|(go_simp;rfl));intro gb885 hg w7 hbox hb;have n0_:=Aside0.mk (blk_below (g:=gb883) (o:= .cells #[.int .u8 a0_0, .bool a0_1, .slice A0_2 l0_2.length c0_2, .int .u8 a0_3, .int .u8 a0_4, .int .u8 a0_5] 70 (0,0)) (by(with_reducible repeat(first|refine blk_drewN ?_ _|refine blk_drew ?_|refine blk_alloc ?_ _));exact BK883.out) hb);have n1_:=Aside0.mk (blk_below (g:=gb884) (o:= .cells #[.int .i64 0, .bool false, .slice none 0 0] 24 (0,0)) (by(with_reducible repeat(first|refine blk_drewN ?_ _|refine blk_drew ?_|refine blk_alloc ?_ _));exact BK884.out) hb);have n2_:=Aside0.mk (below_step (by repeat(first|(with_reducible first|exact HB.out|apply below_alloc|apply pw_below_drewN|apply below_drew1|refine below_set ?_ GE883.out|refine below_set ?_ GE884.out)|exact HB.out)) hb);have n3_:=Aside0.mk (hbox);have n4_:=Aside0.mk ((by rw[hg];exact(below_size (by repeat(first|(with_reducible first|exact HB.out|apply below_alloc|apply pw_below_drewN|apply below_drew1|refine below_set ?_ GE883.out|refine below_set ?_ GE884.out)|exact HB.out))):w.heap.size≤gb885));have n5_:=Aside0.mk ((by rw[hg];exact(below_size (by repeat(first|(with_reducible first|exact HB.out|apply below_alloc|apply pw_below_drewN|apply below_drew1|refine below_set ?_ GE883.out|refine below_set ?_ GE884.out)|exact HB.out))):w.heap.size≤gb885));have n6_:=Aside0.mk ((by rw[hg];exact Nat.ne_of_lt (blk_lt (g:=gb883) (o:= .cells #[.int .u8 a0_0, .bool a0_1, .slice A0_2 l0_2.length c0_2, .int .u8 a0_3, .int .u8 a0_4, .int .u8 a0_5] 70 (0,0)) (by(with_reducible repeat(first|refine blk_drewN ?_ _|refine blk_drew ?_|refine blk_alloc ?_ _));exact BK883.out)):gb883≠gb885));have n7_:=Aside0.mk ((by rw[hg];exact Nat.ne_of_gt (blk_lt (g:=gb883) (o:= .cells #[.int .u8 a0_0, .bool a0_1, .slice A0_2 l0_2.length c0_2, .int .u8 a0_3, .int .u8 a0_4, .int .u8 a0_5] 70 (0,0)) (by(with_reducible repeat(first|refine blk_drewN ?_ _|refine blk_drew ?_|refine blk_alloc ?_ _));exact BK883.out)):gb885≠gb883));have n8_:=Aside0.mk ((by rw[hg];exact Nat.ne_of_lt (blk_lt (g:=gb884) (o:= .cells #[.int .i64 0, .bool false, .slice none 0 0] 24 (0,0)) (by(with_reducible repeat(first|refine blk_drewN ?_ _|refine blk_drew ?_|refine blk_alloc ?_ _));exact BK884.out)):gb884≠gb885));have n9_:=Aside0.mk ((by rw[hg];exact Nat.ne_of_gt (blk_lt (g:=gb884) (o:= .cells #[.int .i64 0, .bool false, .slice none 0 0] 24 (0,0)) (by(with_reducible repeat(first|refine blk_drewN ?_ _|refine blk_drew ?_|refine blk_alloc ?_ _));exact BK884.out)):gb885≠gb884));clear BK883;clear BK884;clear HB;have BK883:=n0_;have BK884:=n1_;have HB:=n2_;have BK885:=n3_;have GW885:=n4_;have GE885:=n5_;have NB883_885:=n6_;have NB885_883:=n7_;have NB884_885:=n8_;have NB885_884:=n9_;clear n0_ n1_ n2_ n3_ n4_ n5_ n6_ n7_ n8_ n9_;clear hb hbox hg;have hnb8:=NB885_883.out;have hnc8:=NB883_885.out;have hnb9:=NB885_884.out;have hnc9:=NB884_885.out;have hcz10_0:w7.cell? ⟨gb885,0,none⟩=some (.int .i64 0):=(blk_cell BK885.out 0).trans rfl;have hcz10_1:w7.cell? ⟨gb885,1,none⟩=some (.bool false):=(blk_cell BK885.out 1).trans rfl;have hcz10_2:w7.cell? ⟨gb885,2,none⟩=some (.slice none 0 0):=(blk_cell BK885.out 2).trans rfl;have hfz10_0:=blk_frozen BK885.out 0;have hfz10_1:=blk_frozen BK885.out 1;have hfz10_2:=blk_frozen BK885.out 2))
 go_loopg [9] k (fun kq v9 w'=> ∃ (x9_1:Int) (x886002_1:List (S74)) (u886002:Value),v9= .int .i64 x9_1∧Aside0 (ebbtidelaw12_Read.l0 kq a1 x9_1 a0_0 a0_1 l0_2 a0_3 a0_4 a0_5 (wrap64 (2+(Int.tmod (wrap64 (a0_0)) 4))) a0_1 x886002_1=some (r1,r2,r3,r4,r5,r6))∧Aside0 (kq≤k)∧Aside0 (Kd.R k74 74 w' w.heap.size (fun _=>True) u886002 x886002_1)∧Aside0 (w'.heap[gb883]? =some (.cells #[.int .u8 a0_0, .bool a0_1,(.slice A0_2 l0_2.length c0_2), .int .u8 a0_3, .int .u8 a0_4, .int .u8 a0_5] 70 (0,0)))∧Aside0 (w'.heap[gb884]? =some (.cells #[.int .i64 0, .bool false,(.slice none 0 0)] 24 (0,0)))∧Aside0 (w'.heap[gb885]? =some (.cells #[.int .i64 (wrap64 (2+(Int.tmod (wrap64 (a0_0)) 4))), .bool a0_1,u886002] 24 (0,0)))∧Aside0 (Below w.heap.size w w'))
 case atStart=>exact⟨(0),(([]:List (S74))),(.slice none 0 0),(by first|rfl|(simp;done)|(simp[*];done)),H',⟨Nat.le_refl _⟩,⟨by first|exact Kd.R_nil _ _ _ _ _|exact Kd.N_nil _ _ _ _ _|exact Kd.V_nil _ _ _ _ _|exact Kd.Q_nil _ _ _ _ _|exact Kd.S_nil _ _ _ _ _⟩,⟨by(with_reducible repeat(first|refine blk_drewN ?_ _|refine blk_drew ?_|refine blk_alloc ?_ _));refine blk_far ?_ NB883_885.out _;(with_reducible repeat(first|refine blk_drewN ?_ _|refine blk_drew ?_|refine blk_alloc ?_ _));refine blk_far ?_ NB883_885.out _;(with_reducible repeat(first|refine blk_drewN ?_ _|refine blk_drew ?_|refine blk_alloc ?_ _));refine blk_far ?_ NB883_885.out _;(with_reducible repeat(first|refine blk_drewN ?_ _|refine blk_drew ?_|refine blk_alloc ?_ _));exact BK883.out⟩,⟨by(with_reducible repeat(first|refine blk_drewN ?_ _|refine blk_drew ?_|refine blk_alloc ?_ _));refine blk_far ?_ NB884_885.out _;(with_reducible repeat(first|refine blk_drewN ?_ _|refine blk_drew ?_|refine blk_alloc ?_ _));refine blk_far ?_ NB884_885.out _;(with_reducible repeat(first|refine blk_drewN ?_ _|refine blk_drew ?_|refine blk_alloc ?_ _));refine blk_far ?_ NB884_885.out _;(with_reducible repeat(first|refine blk_drewN ?_ _|refine blk_drew ?_|refine blk_alloc ?_ _));exact BK884.out⟩,⟨by(with_reducible repeat(first|refine blk_drewN ?_ _|refine blk_drew ?_|refine blk_alloc ?_ _));refine blk_put (cs:= #[.int .i64 (wrap64 (2+(Int.tmod (wrap64 (a0_0)) 4))), .bool a0_1, .slice none 0 0]) ?_ 2 _ rfl;(with_reducible repeat(first|refine blk_drewN ?_ _|refine blk_drew ?_|refine blk_alloc ?_ _));refine blk_put (cs:= #[.int .i64 (wrap64 (2+(Int.tmod (wrap64 (a0_0)) 4))), .bool false, .slice none 0 0]) ?_ 1 _ rfl;(with_reducible repeat(first|refine blk_drewN ?_ _|refine blk_drew ?_|refine blk_alloc ?_ _));refine blk_put (cs:= #[.int .i64 0, .bool false, .slice none 0 0]) ?_ 0 _ rfl;(with_reducible repeat(first|refine blk_drewN ?_ _|refine blk_drew ?_|refine blk_alloc ?_ _));exact BK885.out⟩,⟨by repeat(first|(with_reducible first|exact HB.out|apply below_alloc|apply pw_below_drewN|apply below_drew1|refine below_set ?_ GE883.out|refine below_set ?_ GE884.out|refine below_set ?_ GE885.out)|exact HB.out)⟩⟩
 case round=>
  clear H'
  try clear p2
  try clear c5
  try clear p6
  try clear c7
  try clear c8
  try clear c9
  try clear hcz10_0
  try clear hcz10_1
  try clear hcz10_2
  try clear hcz6_0
  try clear hcz6_1
  try clear hcz6_2
  try clear hcz6_3
  try clear hcz6_4
  try clear hcz6_5
  try clear hfz10_0
  try clear hfz10_1
  try clear hfz10_2
  try clear hfz6_0
  try clear hfz6_1
  try clear hfz6_2
  try clear hfz6_3
  try clear hfz6_4
  try clear hfz6_5
  obtain⟨x9_1,x886002_1,u886002,rfl,HA,HK1,HO_886002,BK883,BK884,BK885,HB⟩:=hrel
  cases gk with
  |zero=>exact absurd HA.out (by simp[ebbtidelaw12_Read.l0])
  |succ k1=>
   have H:=HA.out
   clear HA
   simp only[ebbtidelaw12_Read.l0] at H
   by_cases c11:x9_1<(l0_2.length:Int)
   rotate_left
   ·rw[if_neg c11] at H
    have c11b0:decide (x9_1<(l0_2.length:Int))=false:=decide_eq_false c11
    clear c11
    by_cases c42:(wrap64 (2+(Int.tmod (wrap64 (a0_0)) 4)))=0
    ·rw[if_pos c42] at H
     exact absurd H (by simp)
    rw[if_neg c42] at H
    have c42b0:((wrap64 (2+(Int.tmod (wrap64 (a0_0)) 4))) == 0)=false:=beq_eq_false_iff_ne.mpr c42
    have c42b1:((wrap64 (2+(Int.tmod (wrap64 (a0_0)) 4))) != 0)=true:=bne_iff_ne.mpr c42
    by_cases c43:(wrap64 ((wrap64 (2+(Int.tmod (wrap64 (a0_0)) 4))) - 1))=0
    ·rw[if_pos c43] at H
     exact absurd H (by simp)
    rw[if_neg c43] at H
    have c43b0:((wrap64 ((wrap64 (2+(Int.tmod (wrap64 (a0_0)) 4))) - 1)) == 0)=false:=beq_eq_false_iff_ne.mpr c43
    have c43b1:((wrap64 ((wrap64 (2+(Int.tmod (wrap64 (a0_0)) 4))) - 1)) != 0)=true:=bne_iff_ne.mpr c43
    simp only[Option.some.injEq,Prod.mk.injEq] at H
    obtain⟨rfl,rfl,rfl,rfl,rfl,rfl⟩:=H
    have hnb44:=NB883_884.out
    have hnc44:=NB884_883.out
    have hnb45:=NB883_885.out
    have hnc45:=NB885_883.out
    have hcz46_0:wr.cell? ⟨gb883,0,none⟩=some (.int .u8 a0_0):=(blk_cell BK883.out 0).trans rfl
    have hcz46_1:wr.cell? ⟨gb883,1,none⟩=some (.bool a0_1):=(blk_cell BK883.out 1).trans rfl
    have hcz46_2:wr.cell? ⟨gb883,2,none⟩=some (.slice A0_2 l0_2.length c0_2):=(blk_cell BK883.out 2).trans rfl
    have hcz46_3:wr.cell? ⟨gb883,3,none⟩=some (.int .u8 a0_3):=(blk_cell BK883.out 3).trans rfl
    have hcz46_4:wr.cell? ⟨gb883,4,none⟩=some (.int .u8 a0_4):=(blk_cell BK883.out 4).trans rfl
    have hcz46_5:wr.cell? ⟨gb883,5,none⟩=some (.int .u8 a0_5):=(blk_cell BK883.out 5).trans rfl
    have hfz46_0:=blk_frozen BK883.out 0
    have hfz46_1:=blk_frozen BK883.out 1
    have hfz46_2:=blk_frozen BK883.out 2
    have hfz46_3:=blk_frozen BK883.out 3
    have hfz46_4:=blk_frozen BK883.out 4
    have hfz46_5:=blk_frozen BK883.out 5
    have hnb47:=NB885_884.out
    have hnc47:=NB884_885.out
    have hcz48_0:wr.cell? ⟨gb885,0,none⟩=some (.int .i64 (wrap64 (2+(Int.tmod (wrap64 (a0_0)) 4)))):=(blk_cell BK885.out 0).trans rfl
    have hcz48_1:wr.cell? ⟨gb885,1,none⟩=some (.bool a0_1):=(blk_cell BK885.out 1).trans rfl
    have hcz48_2:wr.cell? ⟨gb885,2,none⟩=some (u886002):=(blk_cell BK885.out 2).trans rfl
    have hfz48_0:=blk_frozen BK885.out 0
    have hfz48_1:=blk_frozen BK885.out 1
    have hfz48_2:=blk_frozen BK885.out 2
    try go_wp2
    have n0_:=Aside0.mk (Kd.R_drew HO_886002.out)
    have n1_:=Aside0.mk (blk_drew BK883.out)
    have n2_:=Aside0.mk (blk_drew BK884.out)
    have n3_:=Aside0.mk (blk_drew BK885.out)
    have n4_:=Aside0.mk (below_drew1 HB.out)
    clear HO_886002
    clear BK883
    clear BK884
    clear BK885
    clear HB
    have HO_886002:=n0_
    have BK883:=n1_
    have BK884:=n2_
    have BK885:=n3_
    have HB:=n4_
    clear n0_ n1_ n2_ n3_ n4_
    refine start_ (n:=14) (S:=fun w'=>w'.cell? ⟨gb883,0,none⟩=some (.int .u8 a0_0)∧w'.cell? ⟨gb883,1,none⟩=some (.bool a0_1)∧w'.cell? ⟨gb883,2,none⟩=some (.slice A0_2 l0_2.length c0_2)∧w'.cell? ⟨gb883,3,none⟩=some (.int .u8 a0_3)∧w'.cell? ⟨gb883,4,none⟩=some (.int .u8 a0_4)∧w'.cell? ⟨gb883,5,none⟩=some (.int .u8 a0_5)∧w'.cell? ⟨gb885,0,none⟩=some (.int .i64 (wrap64 (2+(Int.tmod (wrap64 (a0_0)) 4))))∧w'.cell? ⟨gb885,1,none⟩=some (.bool a0_1)∧w'.cell? ⟨gb885,2,none⟩=some (u886002)) (ds:=[]) #[false,false,false,false,false,false,false,false,false,false,false,false,false,false] (by kernel_rfl) rfl rfl ⟨(blk_cell BK883.out 0).trans rfl,(blk_cell BK883.out 1).trans rfl,(blk_cell BK883.out 2).trans rfl,(blk_cell BK883.out 3).trans rfl,(blk_cell BK883.out 4).trans rfl,(blk_cell BK883.out 5).trans rfl,(blk_cell BK885.out 0).trans rfl,(blk_cell BK885.out 1).trans rfl,(blk_cell BK885.out 2).trans rfl⟩ (fun hHeld=> ?_);refine with_tabW ebbtidelaw12_Read.tab8 ebbtidelaw12_Read.bits8 (fun HT_ HW_=> ?_)
    generalize wr.drew=w49 at HO_886002 BK883 BK884 BK885 HB hHeld ⊢
    refine pure_ (i:=0) (N:=some 70) (v:= ?_) (a':= ?_) #[true,false,false,false,false,false,false,false,false,false,false,false,false,false] rfl rfl (any_of HT_.out (by kernel_rfl)) (fun _ _ _ h=>h) (Or.inl ⟨by rfl,?_⟩) ?_ ?_
    rotate_left
    ·intro w'
     go_simp
     with_reducible rfl
    rotate_left
    ·simp only[Act.put,List.setIfInBounds_toArray,List.set_cons_zero,List.set_cons_succ,i64_w,i32_w]
     rfl
    refine pure_ (i:=1) (N:=some 71) (v:= ?_) (a':= ?_) #[true,true,false,false,false,false,false,false,false,false,false,false,false,false] rfl rfl (any_of HT_.out (by kernel_rfl)) (fun _ _ _ h=>h) (Or.inl ⟨by rfl,?_⟩) ?_ ?_
    rotate_left
    ·intro w'
     go_simp
     with_reducible rfl
    rotate_left
    ·simp only[Act.put,List.setIfInBounds_toArray,List.set_cons_zero,List.set_cons_succ,i64_w,i32_w]
     rfl
    refine pure_ (i:=2) (N:=some 72) (v:= ?_) (a':= ?_) #[true,true,true,false,false,false,false,false,false,false,false,false,false,false] rfl rfl (any_of HT_.out (by kernel_rfl)) (fun _ _ _ h=>h) (Or.inl ⟨by rfl,?_⟩) ?_ ?_
    rotate_left
    ·intro w'
     go_simp
     with_reducible rfl
    rotate_left
    ·simp only[Act.put,List.setIfInBounds_toArray,List.set_cons_zero,List.set_cons_succ,i64_w,i32_w]
     rfl
    refine pure_ (i:=5) (N:=some 75) (v:= ?_) (a':= ?_) #[true,true,true,false,false,true,false,false,false,false,false,false,false,false] rfl rfl (any_of HT_.out (by kernel_rfl)) (fun _ _ _ h=>h) (Or.inl ⟨by rfl,?_⟩) ?_ ?_
    rotate_left
    ·intro w'
     go_simp
     with_reducible rfl
    rotate_left
    ·simp only[Act.put,List.setIfInBounds_toArray,List.set_cons_zero,List.set_cons_succ,i64_w,i32_w]
     rfl
    refine pure_ (i:=10) (N:=some 80) (v:= ?_) (a':= ?_) #[true,true,true,false,false,true,false,false,false,false,true,false,false,false] rfl rfl (any_of HT_.out (by kernel_rfl)) (fun _ _ _ h=>h) (Or.inl ⟨by rfl,?_⟩) ?_ ?_
    rotate_left
    ·intro w'
     go_simp
     with_reducible rfl
    rotate_left
    ·simp only[Act.put,List.setIfInBounds_toArray,List.set_cons_zero,List.set_cons_succ,i64_w,i32_w]
     rfl
    refine take_ (i:=3) (N:=some 73) (v:= ?_) (a':= ?_) #[true,true,true,true,false,true,false,false,false,false,true,false,false,false] rfl rfl (take_ofW HT_.out HW_.out (by kernel_rfl)) (fun _ _ _ h=>h) (Or.inl ⟨by rfl,?_⟩) hHeld ?_ ?_
    rotate_left
    ·rintro w' ⟨s0,s1,s2,s3,s4,s5,s6,s7,s8⟩
     go_simp
     with_reducible rfl
    rotate_left
    ·simp only[Act.put,List.setIfInBounds_toArray,List.set_cons_zero,List.set_cons_succ,i64_w,i32_w]
     rfl
    refine pure_ (i:=4) (N:=some 74) (v:= ?_) (a':= ?_) #[true,true,true,true,true,true,false,false,false,false,true,false,false,false] rfl rfl (any_of HT_.out (by kernel_rfl)) (fun _ _ _ h=>h) (Or.inl ⟨by rfl,?_⟩) ?_ ?_
    rotate_left
    ·intro w'
     go_simp
     with_reducible rfl
    rotate_left
    ·simp only[Act.put,List.setIfInBounds_toArray,List.set_cons_zero,List.set_cons_succ,i64_w,i32_w]
     rfl
    refine take_ (i:=6) (N:=some 76) (v:= ?_) (a':= ?_) #[true,true,true,true,true,true,true,false,false,false,true,false,false,false] rfl rfl (take_ofW HT_.out HW_.out (by kernel_rfl)) (fun _ _ _ h=>h) (Or.inl ⟨by rfl,?_⟩) hHeld ?_ ?_
    rotate_left
    ·rintro w' ⟨s0,s1,s2,s3,s4,s5,s6,s7,s8⟩
     go_simp
     with_reducible rfl
    rotate_left
    ·simp only[Act.put,List.setIfInBounds_toArray,List.set_cons_zero,List.set_cons_succ,i64_w,i32_w]
     rfl
    refine pure_ (i:=7) (N:=some 77) (v:= ?_) (a':= ?_) #[true,true,true,true,true,true,true,true,false,false,true,false,false,false] rfl rfl (any_of HT_.out (by kernel_rfl)) (fun _ _ _ h=>h) (Or.inl ⟨by rfl,?_⟩) ?_ ?_
    rotate_left
    ·intro w'
     go_simp
     with_reducible rfl
    rotate_left
    ·simp only[Act.put,List.setIfInBounds_toArray,List.set_cons_zero,List.set_cons_succ,i64_w,i32_w]
     rfl
    refine pure_ (i:=8) (N:=some 78) (v:= ?_) (a':= ?_) #[true,true,true,true,true,true,true,true,true,false,true,false,false,false] rfl rfl (any_of HT_.out (by kernel_rfl)) (fun _ _ _ h=>h) (Or.inl ⟨by rfl,?_⟩) ?_ ?_
    rotate_left
    ·intro w'
     go_simp
     with_reducible rfl
    rotate_left
    ·simp only[Act.put,List.setIfInBounds_toArray,List.set_cons_zero,List.set_cons_succ,i64_w,i32_w]
     rfl
    refine pure_ (i:=9) (N:=some 79) (v:= ?_) (a':= ?_) #[true,true,true,true,true,true,true,true,true,true,true,false,false,false] rfl rfl (any_of HT_.out (by kernel_rfl)) (fun _ _ _ h=>h) (Or.inl ⟨by rfl,?_⟩) ?_ ?_
    rotate_left
    ·intro w'
     go_simp
     with_reducible rfl
    rotate_left
    ·simp only[Act.put,List.setIfInBounds_toArray,List.set_cons_zero,List.set_cons_succ,i64_w,i32_w]
     rfl
    refine take_ (i:=11) (N:=some 81) (v:= ?_) (a':= ?_) #[true,true,true,true,true,true,true,true,true,true,true,true,false,false] rfl rfl (take_ofW HT_.out HW_.out (by kernel_rfl)) (fun _ _ _ h=>h) (Or.inl ⟨by rfl,?_⟩) hHeld ?_ ?_
    rotate_left
    ·rintro w' ⟨s0,s1,s2,s3,s4,s5,s6,s7,s8⟩
     go_simp
     with_reducible rfl
    rotate_left
    ·simp only[Act.put,List.setIfInBounds_toArray,List.set_cons_zero,List.set_cons_succ,i64_w,i32_w]
     rfl
    refine pure_ (i:=12) (N:=some 82) (v:= ?_) (a':= ?_) #[true,true,true,true,true,true,true,true,true,true,true,true,true,false] rfl rfl (any_of HT_.out (by kernel_rfl)) (fun _ _ _ h=>h) (Or.inl ⟨by rfl,?_⟩) ?_ ?_
    rotate_left
    ·intro w'
     go_simp
     with_reducible rfl
    rotate_left
    ·simp only[Act.put,List.setIfInBounds_toArray,List.set_cons_zero,List.set_cons_succ,i64_w,i32_w]
     rfl
    refine pure_ (i:=13) (N:=some 12) (v:= ?_) (a':= ?_) #[true,true,true,true,true,true,true,true,true,true,true,true,true,true] rfl rfl (any_of HT_.out (by kernel_rfl)) (fun _ _ _ h=>h) (Or.inl ⟨by rfl,?_⟩) ?_ ?_
    rotate_left
    ·intro w'
     go_simp
     with_reducible rfl
    rotate_left
    ·simp only[Act.put,List.setIfInBounds_toArray,List.set_cons_zero,List.set_cons_succ,i64_w,i32_w]
     rfl
    refine done_ (done_of HT_.out (by kernel_rfl)) ?_
    try go_wp2
    have n0_:=Aside0.mk (Kd.R_drew HO_886002.out)
    have n1_:=Aside0.mk (blk_drew BK883.out)
    have n2_:=Aside0.mk (blk_drew BK884.out)
    have n3_:=Aside0.mk (blk_drew BK885.out)
    have n4_:=Aside0.mk (below_drew1 HB.out)
    clear HO_886002
    clear BK883
    clear BK884
    clear BK885
    clear HB
    have HO_886002:=n0_
    have BK883:=n1_
    have BK884:=n2_
    have BK885:=n3_
    have HB:=n4_
    clear n0_ n1_ n2_ n3_ n4_
    obtain⟨Ao53,co53,eo53⟩:=Kd.R_slice HO_886002.out
    (first|subst eo53|(injection eo53 with f1_ f2_ f3_;have f4_:=f1_.symm;have f5_:=f3_.symm;clear f1_ f2_ f3_;subst f4_;subst f5_))
    refine start_ (n:=11) (S:=fun w'=>w'.cell? ⟨gb885,0,none⟩=some (.int .i64 (wrap64 (2+(Int.tmod (wrap64 (a0_0)) 4))))∧w'.cell? ⟨gb885,1,none⟩=some (.bool a0_1)∧w'.cell? ⟨gb885,2,none⟩=some (.slice Ao53 x886002_1.length co53)∧w'.cell? ⟨gb883,0,none⟩=some (.int .u8 a0_0)∧w'.cell? ⟨gb883,1,none⟩=some (.bool a0_1)∧w'.cell? ⟨gb883,2,none⟩=some (.slice A0_2 l0_2.length c0_2)∧w'.cell? ⟨gb883,3,none⟩=some (.int .u8 a0_3)∧w'.cell? ⟨gb883,4,none⟩=some (.int .u8 a0_4)∧w'.cell? ⟨gb883,5,none⟩=some (.int .u8 a0_5)) (ds:=[]) #[false,false,false,false,false,false,false,false,false,false,false] (by kernel_rfl) rfl rfl ⟨(blk_cell BK885.out 0).trans rfl,(blk_cell BK885.out 1).trans rfl,(blk_cell BK885.out 2).trans rfl,(blk_cell BK883.out 0).trans rfl,(blk_cell BK883.out 1).trans rfl,(blk_cell BK883.out 2).trans rfl,(blk_cell BK883.out 3).trans rfl,(blk_cell BK883.out 4).trans rfl,(blk_cell BK883.out 5).trans rfl⟩ (fun hHeld=> ?_);refine with_tabW ebbtidelaw12_Read.tab9 ebbtidelaw12_Read.bits9 (fun HT_ HW_=> ?_)
    generalize w49.drew=w50 at HO_886002 BK883 BK884 BK885 HB hHeld ⊢
    refine pure_ (i:=1) (N:=some 84) (v:= ?_) (a':= ?_) #[false,true,false,false,false,false,false,false,false,false,false] rfl rfl (any_of HT_.out (by kernel_rfl)) (fun _ _ _ h=>h) (Or.inl ⟨by rfl,?_⟩) ?_ ?_
    rotate_left
    ·intro w'
     go_simp
     with_reducible rfl
    rotate_left
    ·simp only[Act.put,List.setIfInBounds_toArray,List.set_cons_zero,List.set_cons_succ,i64_w,i32_w]
     rfl
    refine pure_ (i:=2) (N:=some 85) (v:= ?_) (a':= ?_) #[false,true,true,false,false,false,false,false,false,false,false] rfl rfl (any_of HT_.out (by kernel_rfl)) (fun _ _ _ h=>h) (Or.inl ⟨by rfl,?_⟩) ?_ ?_
    rotate_left
    ·intro w'
     go_simp
     with_reducible rfl
    rotate_left
    ·simp only[Act.put,List.setIfInBounds_toArray,List.set_cons_zero,List.set_cons_succ,i64_w,i32_w]
     rfl
    refine pure_ (i:=3) (N:=some 86) (v:= ?_) (a':= ?_) #[false,true,true,true,false,false,false,false,false,false,false] rfl rfl (any_of HT_.out (by kernel_rfl)) (fun _ _ _ h=>h) (Or.inl ⟨by rfl,?_⟩) ?_ ?_
    rotate_left
    ·intro w'
     go_simp
     with_reducible rfl
    rotate_left
    ·simp only[Act.put,List.setIfInBounds_toArray,List.set_cons_zero,List.set_cons_succ,i64_w,i32_w]
     rfl
    refine take_ (i:=0) (N:=some 83) (v:= ?_) (a':= ?_) #[true,true,true,true,false,false,false,false,false,false,false] rfl rfl (take_ofW HT_.out HW_.out (by kernel_rfl)) (fun _ _ _ h=>h) (Or.inl ⟨by rfl,?_⟩) hHeld ?_ ?_
    rotate_left
    ·rintro w' ⟨s0,s1,s2,s3,s4,s5,s6,s7,s8⟩
     go_simp
     with_reducible rfl
    rotate_left
    ·simp only[Act.put,List.setIfInBounds_toArray,List.set_cons_zero,List.set_cons_succ,i64_w,i32_w]
     rfl
    refine take_ (i:=4) (N:=some 87) (v:= ?_) (a':= ?_) #[true,true,true,true,true,false,false,false,false,false,false] rfl rfl (take_ofW HT_.out HW_.out (by kernel_rfl)) (fun _ _ _ h=>h) (Or.inl ⟨by rfl,?_⟩) hHeld ?_ ?_
    rotate_left
    ·rintro w' ⟨s0,s1,s2,s3,s4,s5,s6,s7,s8⟩
     go_simp
     with_reducible rfl
    rotate_left
    ·simp only[Act.put,List.setIfInBounds_toArray,List.set_cons_zero,List.set_cons_succ,i64_w,i32_w]
     rfl
    refine pure_ (i:=5) (N:=some 88) (v:= ?_) (a':= ?_) #[true,true,true,true,true,true,false,false,false,false,false] rfl rfl (any_of HT_.out (by kernel_rfl)) (fun _ _ _ h=>h) (Or.inl ⟨by rfl,?_⟩) ?_ ?_
    rotate_left
    ·intro w'
     go_simp
     with_reducible rfl
    rotate_left
    ·simp only[Act.put,List.setIfInBounds_toArray,List.set_cons_zero,List.set_cons_succ,i64_w,i32_w]
     rfl
    refine pure_ (i:=6) (N:=some 89) (v:= ?_) (a':= ?_) #[true,true,true,true,true,true,true,false,false,false,false] rfl rfl (any_of HT_.out (by kernel_rfl)) (fun _ _ _ h=>h) (Or.inl ⟨by rfl,?_⟩) ?_ ?_
    rotate_left
    ·intro w'
     go_simp
     with_reducible rfl
    rotate_left
    ·simp only[Act.put,List.setIfInBounds_toArray,List.set_cons_zero,List.set_cons_succ,i64_w,i32_w]
     rfl
    refine one_ (i:=7) (N:=none) #[true,true,true,true,true,true,true,true,false,false,false] rfl rfl (one_of HT_.out (by kernel_rfl)) (by decide) (fun K hK=> ?_)
    have hs51:w50.cell? ⟨gb884,0,none⟩=some (.int .i64 0):=(blk_cell BK884.out 0).trans rfl
    have hfs51:=blk_frozen BK884.out 0
    have hns51_0:=NB883_884.out
    have hns51_2:=NB885_884.out
    have hms51_0:=NB884_883.out
    have hms51_2:=NB884_885.out
    have hs52:w50.cell? ⟨gb884,1,none⟩=some (.bool false):=(blk_cell BK884.out 1).trans rfl
    have hfs52:=blk_frozen BK884.out 1
    have hns52_0:=NB883_884.out
    have hns52_2:=NB885_884.out
    have hms52_0:=NB884_883.out
    have hms52_2:=NB884_885.out
    have hs54:w50.cell? ⟨gb884,2,none⟩=some (.slice none 0 0):=(blk_cell BK884.out 2).trans rfl
    have hfs54:=blk_frozen BK884.out 2
    have hns54_0:=NB883_884.out
    have hns54_2:=NB885_884.out
    have hms54_0:=NB884_883.out
    have hms54_2:=NB884_885.out
    refine skip_ (w1:= ?_) (by rfl) rfl ?_ ?_
    rotate_left
    ·go_simp
     rfl
    refine hK.out _ _ ⟨((cell_far (p:=⟨gb884,_,none⟩) NB885_884.out _).trans (((cell_far (p:=⟨gb884,_,none⟩) NB885_884.out _).trans (((cell_far (p:=⟨gb884,_,none⟩) NB885_884.out _).trans (hHeld.1)))))),((cell_far (p:=⟨gb884,_,none⟩) NB885_884.out _).trans (((cell_far (p:=⟨gb884,_,none⟩) NB885_884.out _).trans (((cell_far (p:=⟨gb884,_,none⟩) NB885_884.out _).trans (hHeld.2.1)))))),((cell_far (p:=⟨gb884,_,none⟩) NB885_884.out _).trans (((cell_far (p:=⟨gb884,_,none⟩) NB885_884.out _).trans (((cell_far (p:=⟨gb884,_,none⟩) NB885_884.out _).trans (hHeld.2.2.1)))))),((cell_far (p:=⟨gb884,_,none⟩) NB883_884.out _).trans (((cell_far (p:=⟨gb884,_,none⟩) NB883_884.out _).trans (((cell_far (p:=⟨gb884,_,none⟩) NB883_884.out _).trans (hHeld.2.2.2.1)))))),((cell_far (p:=⟨gb884,_,none⟩) NB883_884.out _).trans (((cell_far (p:=⟨gb884,_,none⟩) NB883_884.out _).trans (((cell_far (p:=⟨gb884,_,none⟩) NB883_884.out _).trans (hHeld.2.2.2.2.1)))))),((cell_far (p:=⟨gb884,_,none⟩) NB883_884.out _).trans (((cell_far (p:=⟨gb884,_,none⟩) NB883_884.out _).trans (((cell_far (p:=⟨gb884,_,none⟩) NB883_884.out _).trans (hHeld.2.2.2.2.2.1)))))),((cell_far (p:=⟨gb884,_,none⟩) NB883_884.out _).trans (((cell_far (p:=⟨gb884,_,none⟩) NB883_884.out _).trans (((cell_far (p:=⟨gb884,_,none⟩) NB883_884.out _).trans (hHeld.2.2.2.2.2.2.1)))))),((cell_far (p:=⟨gb884,_,none⟩) NB883_884.out _).trans (((cell_far (p:=⟨gb884,_,none⟩) NB883_884.out _).trans (((cell_far (p:=⟨gb884,_,none⟩) NB883_884.out _).trans (hHeld.2.2.2.2.2.2.2.1)))))),((cell_far (p:=⟨gb884,_,none⟩) NB883_884.out _).trans (((cell_far (p:=⟨gb884,_,none⟩) NB883_884.out _).trans (((cell_far (p:=⟨gb884,_,none⟩) NB883_884.out _).trans (hHeld.2.2.2.2.2.2.2.2))))))⟩ (fun hHeld=> ?_)
    clear hK K
    refine pure_ (i:=8) (N:=some 5) (v:= ?_) (a':= ?_) #[true,true,true,true,true,true,true,true,true,false,false] rfl rfl (any_of HT_.out (by kernel_rfl)) (fun _ _ _ h=>h) (Or.inl ⟨by rfl,?_⟩) ?_ ?_
    rotate_left
    ·intro w'
     go_simp
     with_reducible rfl
    rotate_left
    ·simp only[Act.put,List.setIfInBounds_toArray,List.set_cons_zero,List.set_cons_succ,i64_w,i32_w]
     rfl
    refine pure_ (i:=9) (N:=some 6) (v:= ?_) (a':= ?_) #[true,true,true,true,true,true,true,true,true,true,false] rfl rfl (any_of HT_.out (by kernel_rfl)) (fun _ _ _ h=>h) (Or.inl ⟨by rfl,?_⟩) ?_ ?_
    rotate_left
    ·intro w'
     go_simp
     with_reducible rfl
    rotate_left
    ·simp only[Act.put,List.setIfInBounds_toArray,List.set_cons_zero,List.set_cons_succ,i64_w,i32_w]
     rfl
    refine pure_ (i:=10) (N:=some 7) (v:= ?_) (a':= ?_) #[true,true,true,true,true,true,true,true,true,true,true] rfl rfl (any_of HT_.out (by kernel_rfl)) (fun _ _ _ h=>h) (Or.inl ⟨by rfl,?_⟩) ?_ ?_
    rotate_left
    ·intro w'
     go_simp
     with_reducible rfl
    rotate_left
    ·simp only[Act.put,List.setIfInBounds_toArray,List.set_cons_zero,List.set_cons_succ,i64_w,i32_w]
     rfl
    refine done_ (done_of HT_.out (by kernel_rfl)) ?_
    try go_wp2
    refine bodyPost_ret (results_list (rs:=[.cell 4 24, .tmp 5, .tmp 6, .tmp 7]) rfl (by simp) (.cell gb884 24 #[.int .i64 (wrap64 (2+(Int.tmod (wrap64 (a0_0)) 4))), .bool a0_1, .slice Ao53 x886002_1.length co53] (0,0) _ rfl (by(with_reducible repeat(first|refine blk_drewN ?_ _|refine blk_drew ?_|refine blk_alloc ?_ _));refine blk_put (cs:= #[.int .i64 (wrap64 (2+(Int.tmod (wrap64 (a0_0)) 4))), .bool a0_1, .slice none 0 0]) ?_ 2 _ rfl;(with_reducible repeat(first|refine blk_drewN ?_ _|refine blk_drew ?_|refine blk_alloc ?_ _));refine blk_put (cs:= #[.int .i64 (wrap64 (2+(Int.tmod (wrap64 (a0_0)) 4))), .bool false, .slice none 0 0]) ?_ 1 _ rfl;(with_reducible repeat(first|refine blk_drewN ?_ _|refine blk_drew ?_|refine blk_alloc ?_ _));refine blk_put (cs:= #[.int .i64 0, .bool false, .slice none 0 0]) ?_ 0 _ rfl;(with_reducible repeat(first|refine blk_drewN ?_ _|refine blk_drew ?_|refine blk_alloc ?_ _));exact BK884.out) Try.underlying24 rfl (by kernel_rfl) (.tmp (.tmp (.tmp .nil))))) rfl ?_
    exact⟨_,by first|rfl|(simp[errW_none,errW_some]<;>rfl)|(simp[*,errW_none,errW_some]<;>rfl),by(with_reducible repeat(first|apply Kd.R_alloc|apply Kd.R_drewN|apply Kd.R_drew));exact Kd.R_mono (Kd.R_far (p:=⟨gb884,2,none⟩) (Kd.R_far (p:=⟨gb884,1,none⟩) (Kd.R_far (p:=⟨gb884,0,none⟩) (Kd.R_types HO_886002.out BK884.out (by decide)) (fun _ hk=>hk.2) (.int .i64 (wrap64 (2+(Int.tmod (wrap64 (a0_0)) 4))))) (fun _ hk=>hk.2) (.bool a0_1)) (fun _ hk=>hk.2) (.slice Ao53 x886002_1.length co53)) (fun _ hk=>trivial),by repeat(first|(with_reducible first|exact HB.out|apply below_alloc|apply pw_below_drewN|apply below_drew1|refine below_set ?_ GE883.out|refine below_set ?_ GE884.out|refine below_set ?_ GE885.out)|exact HB.out)⟩
   rw[if_pos c11] at H
   have c11b0:decide (x9_1<(l0_2.length:Int))=true:=decide_eq_true c11
   clear c11
   by_cases c12:x9_1<a1
   rotate_left
   ·rw[if_neg c12] at H
    have c12b0:decide (x9_1<a1)=false:=decide_eq_false c12
    clear c12
    by_cases c29:(wrap64 (2+(Int.tmod (wrap64 (a0_0)) 4)))=0
    ·rw[if_pos c29] at H
     exact absurd H (by simp)
    rw[if_neg c29] at H
    have c29b0:((wrap64 (2+(Int.tmod (wrap64 (a0_0)) 4))) == 0)=false:=beq_eq_false_iff_ne.mpr c29
    have c29b1:((wrap64 (2+(Int.tmod (wrap64 (a0_0)) 4))) != 0)=true:=bne_iff_ne.mpr c29
    by_cases c30:(wrap64 ((wrap64 (2+(Int.tmod (wrap64 (a0_0)) 4))) - 1))=0
    ·rw[if_pos c30] at H
     exact absurd H (by simp)
    rw[if_neg c30] at H
    have c30b0:((wrap64 ((wrap64 (2+(Int.tmod (wrap64 (a0_0)) 4))) - 1)) == 0)=false:=beq_eq_false_iff_ne.mpr c30
    have c30b1:((wrap64 ((wrap64 (2+(Int.tmod (wrap64 (a0_0)) 4))) - 1)) != 0)=true:=bne_iff_ne.mpr c30
    simp only[Option.some.injEq,Prod.mk.injEq] at H
    obtain⟨rfl,rfl,rfl,rfl,rfl,rfl⟩:=H
    have hnb31:=NB883_884.out
    have hnc31:=NB884_883.out
    have hnb32:=NB883_885.out
    have hnc32:=NB885_883.out
    have hcz33_0:wr.cell? ⟨gb883,0,none⟩=some (.int .u8 a0_0):=(blk_cell BK883.out 0).trans rfl
    have hcz33_1:wr.cell? ⟨gb883,1,none⟩=some (.bool a0_1):=(blk_cell BK883.out 1).trans rfl
    have hcz33_2:wr.cell? ⟨gb883,2,none⟩=some (.slice A0_2 l0_2.length c0_2):=(blk_cell BK883.out 2).trans rfl
    have hcz33_3:wr.cell? ⟨gb883,3,none⟩=some (.int .u8 a0_3):=(blk_cell BK883.out 3).trans rfl
    have hcz33_4:wr.cell? ⟨gb883,4,none⟩=some (.int .u8 a0_4):=(blk_cell BK883.out 4).trans rfl
    have hcz33_5:wr.cell? ⟨gb883,5,none⟩=some (.int .u8 a0_5):=(blk_cell BK883.out 5).trans rfl
    have hfz33_0:=blk_frozen BK883.out 0
    have hfz33_1:=blk_frozen BK883.out 1
    have hfz33_2:=blk_frozen BK883.out 2
    have hfz33_3:=blk_frozen BK883.out 3
    have hfz33_4:=blk_frozen BK883.out 4
    have hfz33_5:=blk_frozen BK883.out 5
    have hnb34:=NB885_884.out
    have hnc34:=NB884_885.out
    have hcz35_0:wr.cell? ⟨gb885,0,none⟩=some (.int .i64 (wrap64 (2+(Int.tmod (wrap64 (a0_0)) 4)))):=(blk_cell BK885.out 0).trans rfl
    have hcz35_1:wr.cell? ⟨gb885,1,none⟩=some (.bool a0_1):=(blk_cell BK885.out 1).trans rfl
    have hcz35_2:wr.cell? ⟨gb885,2,none⟩=some (u886002):=(blk_cell BK885.out 2).trans rfl
    have hfz35_0:=blk_frozen BK885.out 0
    have hfz35_1:=blk_frozen BK885.out 1
    have hfz35_2:=blk_frozen BK885.out 2
    try go_wp2
    have n0_:=Aside0.mk (Kd.R_drew HO_886002.out)
    have n1_:=Aside0.mk (blk_drew BK883.out)
    have n2_:=Aside0.mk (blk_drew BK884.out)
    have n3_:=Aside0.mk (blk_drew BK885.out)
    have n4_:=Aside0.mk (below_drew1 HB.out)
    clear HO_886002
    clear BK883
    clear BK884
    clear BK885
    clear HB
    have HO_886002:=n0_
    have BK883:=n1_
    have BK884:=n2_
    have BK885:=n3_
    have HB:=n4_
    clear n0_ n1_ n2_ n3_ n4_
    refine start_ (n:=14) (S:=fun w'=>w'.cell? ⟨gb883,0,none⟩=some (.int .u8 a0_0)∧w'.cell? ⟨gb883,1,none⟩=some (.bool a0_1)∧w'.cell? ⟨gb883,2,none⟩=some (.slice A0_2 l0_2.length c0_2)∧w'.cell? ⟨gb883,3,none⟩=some (.int .u8 a0_3)∧w'.cell? ⟨gb883,4,none⟩=some (.int .u8 a0_4)∧w'.cell? ⟨gb883,5,none⟩=some (.int .u8 a0_5)∧w'.cell? ⟨gb885,0,none⟩=some (.int .i64 (wrap64 (2+(Int.tmod (wrap64 (a0_0)) 4))))∧w'.cell? ⟨gb885,1,none⟩=some (.bool a0_1)∧w'.cell? ⟨gb885,2,none⟩=some (u886002)) (ds:=[]) #[false,false,false,false,false,false,false,false,false,false,false,false,false,false] (by kernel_rfl) rfl rfl ⟨(blk_cell BK883.out 0).trans rfl,(blk_cell BK883.out 1).trans rfl,(blk_cell BK883.out 2).trans rfl,(blk_cell BK883.out 3).trans rfl,(blk_cell BK883.out 4).trans rfl,(blk_cell BK883.out 5).trans rfl,(blk_cell BK885.out 0).trans rfl,(blk_cell BK885.out 1).trans rfl,(blk_cell BK885.out 2).trans rfl⟩ (fun hHeld=> ?_);refine with_tabW ebbtidelaw12_Read.tab8 ebbtidelaw12_Read.bits8 (fun HT_ HW_=> ?_)
    generalize wr.drew=w36 at HO_886002 BK883 BK884 BK885 HB hHeld ⊢
    refine pure_ (i:=0) (N:=some 70) (v:= ?_) (a':= ?_) #[true,false,false,false,false,false,false,false,false,false,false,false,false,false] rfl rfl (any_of HT_.out (by kernel_rfl)) (fun _ _ _ h=>h) (Or.inl ⟨by rfl,?_⟩) ?_ ?_
    rotate_left
    ·intro w'
     go_simp
     with_reducible rfl
    rotate_left
    ·simp only[Act.put,List.setIfInBounds_toArray,List.set_cons_zero,List.set_cons_succ,i64_w,i32_w]
     rfl
    refine pure_ (i:=1) (N:=some 71) (v:= ?_) (a':= ?_) #[true,true,false,false,false,false,false,false,false,false,false,false,false,false] rfl rfl (any_of HT_.out (by kernel_rfl)) (fun _ _ _ h=>h) (Or.inl ⟨by rfl,?_⟩) ?_ ?_
    rotate_left
    ·intro w'
     go_simp
     with_reducible rfl
    rotate_left
    ·simp only[Act.put,List.setIfInBounds_toArray,List.set_cons_zero,List.set_cons_succ,i64_w,i32_w]
     rfl
    refine pure_ (i:=2) (N:=some 72) (v:= ?_) (a':= ?_) #[true,true,true,false,false,false,false,false,false,false,false,false,false,false] rfl rfl (any_of HT_.out (by kernel_rfl)) (fun _ _ _ h=>h) (Or.inl ⟨by rfl,?_⟩) ?_ ?_
    rotate_left
    ·intro w'
     go_simp
     with_reducible rfl
    rotate_left
    ·simp only[Act.put,List.setIfInBounds_toArray,List.set_cons_zero,List.set_cons_succ,i64_w,i32_w]
     rfl
    refine pure_ (i:=5) (N:=some 75) (v:= ?_) (a':= ?_) #[true,true,true,false,false,true,false,false,false,false,false,false,false,false] rfl rfl (any_of HT_.out (by kernel_rfl)) (fun _ _ _ h=>h) (Or.inl ⟨by rfl,?_⟩) ?_ ?_
    rotate_left
    ·intro w'
     go_simp
     with_reducible rfl
    rotate_left
    ·simp only[Act.put,List.setIfInBounds_toArray,List.set_cons_zero,List.set_cons_succ,i64_w,i32_w]
     rfl
    refine pure_ (i:=10) (N:=some 80) (v:= ?_) (a':= ?_) #[true,true,true,false,false,true,false,false,false,false,true,false,false,false] rfl rfl (any_of HT_.out (by kernel_rfl)) (fun _ _ _ h=>h) (Or.inl ⟨by rfl,?_⟩) ?_ ?_
    rotate_left
    ·intro w'
     go_simp
     with_reducible rfl
    rotate_left
    ·simp only[Act.put,List.setIfInBounds_toArray,List.set_cons_zero,List.set_cons_succ,i64_w,i32_w]
     rfl
    refine take_ (i:=3) (N:=some 73) (v:= ?_) (a':= ?_) #[true,true,true,true,false,true,false,false,false,false,true,false,false,false] rfl rfl (take_ofW HT_.out HW_.out (by kernel_rfl)) (fun _ _ _ h=>h) (Or.inl ⟨by rfl,?_⟩) hHeld ?_ ?_
    rotate_left
    ·rintro w' ⟨s0,s1,s2,s3,s4,s5,s6,s7,s8⟩
     go_simp
     with_reducible rfl
    rotate_left
    ·simp only[Act.put,List.setIfInBounds_toArray,List.set_cons_zero,List.set_cons_succ,i64_w,i32_w]
     rfl
    refine pure_ (i:=4) (N:=some 74) (v:= ?_) (a':= ?_) #[true,true,true,true,true,true,false,false,false,false,true,false,false,false] rfl rfl (any_of HT_.out (by kernel_rfl)) (fun _ _ _ h=>h) (Or.inl ⟨by rfl,?_⟩) ?_ ?_
    rotate_left
    ·intro w'
     go_simp
     with_reducible rfl
    rotate_left
    ·simp only[Act.put,List.setIfInBounds_toArray,List.set_cons_zero,List.set_cons_succ,i64_w,i32_w]
     rfl
    refine take_ (i:=6) (N:=some 76) (v:= ?_) (a':= ?_) #[true,true,true,true,true,true,true,false,false,false,true,false,false,false] rfl rfl (take_ofW HT_.out HW_.out (by kernel_rfl)) (fun _ _ _ h=>h) (Or.inl ⟨by rfl,?_⟩) hHeld ?_ ?_
    rotate_left
    ·rintro w' ⟨s0,s1,s2,s3,s4,s5,s6,s7,s8⟩
     go_simp
     with_reducible rfl
    rotate_left
    ·simp only[Act.put,List.setIfInBounds_toArray,List.set_cons_zero,List.set_cons_succ,i64_w,i32_w]
     rfl
    refine pure_ (i:=7) (N:=some 77) (v:= ?_) (a':= ?_) #[true,true,true,true,true,true,true,true,false,false,true,false,false,false] rfl rfl (any_of HT_.out (by kernel_rfl)) (fun _ _ _ h=>h) (Or.inl ⟨by rfl,?_⟩) ?_ ?_
    rotate_left
    ·intro w'
     go_simp
     with_reducible rfl
    rotate_left
    ·simp only[Act.put,List.setIfInBounds_toArray,List.set_cons_zero,List.set_cons_succ,i64_w,i32_w]
     rfl
    refine pure_ (i:=8) (N:=some 78) (v:= ?_) (a':= ?_) #[true,true,true,true,true,true,true,true,true,false,true,false,false,false] rfl rfl (any_of HT_.out (by kernel_rfl)) (fun _ _ _ h=>h) (Or.inl ⟨by rfl,?_⟩) ?_ ?_
    rotate_left
    ·intro w'
     go_simp
     with_reducible rfl
    rotate_left
    ·simp only[Act.put,List.setIfInBounds_toArray,List.set_cons_zero,List.set_cons_succ,i64_w,i32_w]
     rfl
    refine pure_ (i:=9) (N:=some 79) (v:= ?_) (a':= ?_) #[true,true,true,true,true,true,true,true,true,true,true,false,false,false] rfl rfl (any_of HT_.out (by kernel_rfl)) (fun _ _ _ h=>h) (Or.inl ⟨by rfl,?_⟩) ?_ ?_
    rotate_left
    ·intro w'
     go_simp
     with_reducible rfl
    rotate_left
    ·simp only[Act.put,List.setIfInBounds_toArray,List.set_cons_zero,List.set_cons_succ,i64_w,i32_w]
     rfl
    refine take_ (i:=11) (N:=some 81) (v:= ?_) (a':= ?_) #[true,true,true,true,true,true,true,true,true,true,true,true,false,false] rfl rfl (take_ofW HT_.out HW_.out (by kernel_rfl)) (fun _ _ _ h=>h) (Or.inl ⟨by rfl,?_⟩) hHeld ?_ ?_
    rotate_left
    ·rintro w' ⟨s0,s1,s2,s3,s4,s5,s6,s7,s8⟩
     go_simp
     with_reducible rfl
    rotate_left
    ·simp only[Act.put,List.setIfInBounds_toArray,List.set_cons_zero,List.set_cons_succ,i64_w,i32_w]
     rfl
    refine pure_ (i:=12) (N:=some 82) (v:= ?_) (a':= ?_) #[true,true,true,true,true,true,true,true,true,true,true,true,true,false] rfl rfl (any_of HT_.out (by kernel_rfl)) (fun _ _ _ h=>h) (Or.inl ⟨by rfl,?_⟩) ?_ ?_
    rotate_left
    ·intro w'
     go_simp
     with_reducible rfl
    rotate_left
    ·simp only[Act.put,List.setIfInBounds_toArray,List.set_cons_zero,List.set_cons_succ,i64_w,i32_w]
     rfl
    refine pure_ (i:=13) (N:=some 12) (v:= ?_) (a':= ?_) #[true,true,true,true,true,true,true,true,true,true,true,true,true,true] rfl rfl (any_of HT_.out (by kernel_rfl)) (fun _ _ _ h=>h) (Or.inl ⟨by rfl,?_⟩) ?_ ?_
    rotate_left
    ·intro w'
     go_simp
     with_reducible rfl
    rotate_left
    ·simp only[Act.put,List.setIfInBounds_toArray,List.set_cons_zero,List.set_cons_succ,i64_w,i32_w]
     rfl
    refine done_ (done_of HT_.out (by kernel_rfl)) ?_
    try go_wp2
    have n0_:=Aside0.mk (Kd.R_drew HO_886002.out)
    have n1_:=Aside0.mk (blk_drew BK883.out)
    have n2_:=Aside0.mk (blk_drew BK884.out)
    have n3_:=Aside0.mk (blk_drew BK885.out)
    have n4_:=Aside0.mk (below_drew1 HB.out)
    clear HO_886002
    clear BK883
    clear BK884
    clear BK885
    clear HB
    have HO_886002:=n0_
    have BK883:=n1_
    have BK884:=n2_
    have BK885:=n3_
    have HB:=n4_
    clear n0_ n1_ n2_ n3_ n4_
    obtain⟨Ao40,co40,eo40⟩:=Kd.R_slice HO_886002.out
    (first|subst eo40|(injection eo40 with f1_ f2_ f3_;have f4_:=f1_.symm;have f5_:=f3_.symm;clear f1_ f2_ f3_;subst f4_;subst f5_))
    refine start_ (n:=11) (S:=fun w'=>w'.cell? ⟨gb885,0,none⟩=some (.int .i64 (wrap64 (2+(Int.tmod (wrap64 (a0_0)) 4))))∧w'.cell? ⟨gb885,1,none⟩=some (.bool a0_1)∧w'.cell? ⟨gb885,2,none⟩=some (.slice Ao40 x886002_1.length co40)∧w'.cell? ⟨gb883,0,none⟩=some (.int .u8 a0_0)∧w'.cell? ⟨gb883,1,none⟩=some (.bool a0_1)∧w'.cell? ⟨gb883,2,none⟩=some (.slice A0_2 l0_2.length c0_2)∧w'.cell? ⟨gb883,3,none⟩=some (.int .u8 a0_3)∧w'.cell? ⟨gb883,4,none⟩=some (.int .u8 a0_4)∧w'.cell? ⟨gb883,5,none⟩=some (.int .u8 a0_5)) (ds:=[]) #[false,false,false,false,false,false,false,false,false,false,false] (by kernel_rfl) rfl rfl ⟨(blk_cell BK885.out 0).trans rfl,(blk_cell BK885.out 1).trans rfl,(blk_cell BK885.out 2).trans rfl,(blk_cell BK883.out 0).trans rfl,(blk_cell BK883.out 1).trans rfl,(blk_cell BK883.out 2).trans rfl,(blk_cell BK883.out 3).trans rfl,(blk_cell BK883.out 4).trans rfl,(blk_cell BK883.out 5).trans rfl⟩ (fun hHeld=> ?_);refine with_tabW ebbtidelaw12_Read.tab9 ebbtidelaw12_Read.bits9 (fun HT_ HW_=> ?_)
    generalize w36.drew=w37 at HO_886002 BK883 BK884 BK885 HB hHeld ⊢
    refine pure_ (i:=1) (N:=some 84) (v:= ?_) (a':= ?_) #[false,true,false,false,false,false,false,false,false,false,false] rfl rfl (any_of HT_.out (by kernel_rfl)) (fun _ _ _ h=>h) (Or.inl ⟨by rfl,?_⟩) ?_ ?_
    rotate_left
    ·intro w'
     go_simp
     with_reducible rfl
    rotate_left
    ·simp only[Act.put,List.setIfInBounds_toArray,List.set_cons_zero,List.set_cons_succ,i64_w,i32_w]
     rfl
    refine pure_ (i:=2) (N:=some 85) (v:= ?_) (a':= ?_) #[false,true,true,false,false,false,false,false,false,false,false] rfl rfl (any_of HT_.out (by kernel_rfl)) (fun _ _ _ h=>h) (Or.inl ⟨by rfl,?_⟩) ?_ ?_
    rotate_left
    ·intro w'
     go_simp
     with_reducible rfl
    rotate_left
    ·simp only[Act.put,List.setIfInBounds_toArray,List.set_cons_zero,List.set_cons_succ,i64_w,i32_w]
     rfl
    refine pure_ (i:=3) (N:=some 86) (v:= ?_) (a':= ?_) #[false,true,true,true,false,false,false,false,false,false,false] rfl rfl (any_of HT_.out (by kernel_rfl)) (fun _ _ _ h=>h) (Or.inl ⟨by rfl,?_⟩) ?_ ?_
    rotate_left
    ·intro w'
     go_simp
     with_reducible rfl
    rotate_left
    ·simp only[Act.put,List.setIfInBounds_toArray,List.set_cons_zero,List.set_cons_succ,i64_w,i32_w]
     rfl
    refine take_ (i:=0) (N:=some 83) (v:= ?_) (a':= ?_) #[true,true,true,true,false,false,false,false,false,false,false] rfl rfl (take_ofW HT_.out HW_.out (by kernel_rfl)) (fun _ _ _ h=>h) (Or.inl ⟨by rfl,?_⟩) hHeld ?_ ?_
    rotate_left
    ·rintro w' ⟨s0,s1,s2,s3,s4,s5,s6,s7,s8⟩
     go_simp
     with_reducible rfl
    rotate_left
    ·simp only[Act.put,List.setIfInBounds_toArray,List.set_cons_zero,List.set_cons_succ,i64_w,i32_w]
     rfl
    refine take_ (i:=4) (N:=some 87) (v:= ?_) (a':= ?_) #[true,true,true,true,true,false,false,false,false,false,false] rfl rfl (take_ofW HT_.out HW_.out (by kernel_rfl)) (fun _ _ _ h=>h) (Or.inl ⟨by rfl,?_⟩) hHeld ?_ ?_
    rotate_left
    ·rintro w' ⟨s0,s1,s2,s3,s4,s5,s6,s7,s8⟩
     go_simp
     with_reducible rfl
    rotate_left
    ·simp only[Act.put,List.setIfInBounds_toArray,List.set_cons_zero,List.set_cons_succ,i64_w,i32_w]
     rfl
    refine pure_ (i:=5) (N:=some 88) (v:= ?_) (a':= ?_) #[true,true,true,true,true,true,false,false,false,false,false] rfl rfl (any_of HT_.out (by kernel_rfl)) (fun _ _ _ h=>h) (Or.inl ⟨by rfl,?_⟩) ?_ ?_
    rotate_left
    ·intro w'
     go_simp
     with_reducible rfl
    rotate_left
    ·simp only[Act.put,List.setIfInBounds_toArray,List.set_cons_zero,List.set_cons_succ,i64_w,i32_w]
     rfl
    refine pure_ (i:=6) (N:=some 89) (v:= ?_) (a':= ?_) #[true,true,true,true,true,true,true,false,false,false,false] rfl rfl (any_of HT_.out (by kernel_rfl)) (fun _ _ _ h=>h) (Or.inl ⟨by rfl,?_⟩) ?_ ?_
    rotate_left
    ·intro w'
     go_simp
     with_reducible rfl
    rotate_left
    ·simp only[Act.put,List.setIfInBounds_toArray,List.set_cons_zero,List.set_cons_succ,i64_w,i32_w]
     rfl
    refine one_ (i:=7) (N:=none) #[true,true,true,true,true,true,true,true,false,false,false] rfl rfl (one_of HT_.out (by kernel_rfl)) (by decide) (fun K hK=> ?_)
    have hs38:w37.cell? ⟨gb884,0,none⟩=some (.int .i64 0):=(blk_cell BK884.out 0).trans rfl
    have hfs38:=blk_frozen BK884.out 0
    have hns38_0:=NB883_884.out
    have hns38_2:=NB885_884.out
    have hms38_0:=NB884_883.out
    have hms38_2:=NB884_885.out
    have hs39:w37.cell? ⟨gb884,1,none⟩=some (.bool false):=(blk_cell BK884.out 1).trans rfl
    have hfs39:=blk_frozen BK884.out 1
    have hns39_0:=NB883_884.out
    have hns39_2:=NB885_884.out
    have hms39_0:=NB884_883.out
    have hms39_2:=NB884_885.out
    have hs41:w37.cell? ⟨gb884,2,none⟩=some (.slice none 0 0):=(blk_cell BK884.out 2).trans rfl
    have hfs41:=blk_frozen BK884.out 2
    have hns41_0:=NB883_884.out
    have hns41_2:=NB885_884.out
    have hms41_0:=NB884_883.out
    have hms41_2:=NB884_885.out
    refine skip_ (w1:= ?_) (by rfl) rfl ?_ ?_
    rotate_left
    ·go_simp
     rfl
    refine hK.out _ _ ⟨((cell_far (p:=⟨gb884,_,none⟩) NB885_884.out _).trans (((cell_far (p:=⟨gb884,_,none⟩) NB885_884.out _).trans (((cell_far (p:=⟨gb884,_,none⟩) NB885_884.out _).trans (hHeld.1)))))),((cell_far (p:=⟨gb884,_,none⟩) NB885_884.out _).trans (((cell_far (p:=⟨gb884,_,none⟩) NB885_884.out _).trans (((cell_far (p:=⟨gb884,_,none⟩) NB885_884.out _).trans (hHeld.2.1)))))),((cell_far (p:=⟨gb884,_,none⟩) NB885_884.out _).trans (((cell_far (p:=⟨gb884,_,none⟩) NB885_884.out _).trans (((cell_far (p:=⟨gb884,_,none⟩) NB885_884.out _).trans (hHeld.2.2.1)))))),((cell_far (p:=⟨gb884,_,none⟩) NB883_884.out _).trans (((cell_far (p:=⟨gb884,_,none⟩) NB883_884.out _).trans (((cell_far (p:=⟨gb884,_,none⟩) NB883_884.out _).trans (hHeld.2.2.2.1)))))),((cell_far (p:=⟨gb884,_,none⟩) NB883_884.out _).trans (((cell_far (p:=⟨gb884,_,none⟩) NB883_884.out _).trans (((cell_far (p:=⟨gb884,_,none⟩) NB883_884.out _).trans (hHeld.2.2.2.2.1)))))),((cell_far (p:=⟨gb884,_,none⟩) NB883_884.out _).trans (((cell_far (p:=⟨gb884,_,none⟩) NB883_884.out _).trans (((cell_far (p:=⟨gb884,_,none⟩) NB883_884.out _).trans (hHeld.2.2.2.2.2.1)))))),((cell_far (p:=⟨gb884,_,none⟩) NB883_884.out _).trans (((cell_far (p:=⟨gb884,_,none⟩) NB883_884.out _).trans (((cell_far (p:=⟨gb884,_,none⟩) NB883_884.out _).trans (hHeld.2.2.2.2.2.2.1)))))),((cell_far (p:=⟨gb884,_,none⟩) NB883_884.out _).trans (((cell_far (p:=⟨gb884,_,none⟩) NB883_884.out _).trans (((cell_far (p:=⟨gb884,_,none⟩) NB883_884.out _).trans (hHeld.2.2.2.2.2.2.2.1)))))),((cell_far (p:=⟨gb884,_,none⟩) NB883_884.out _).trans (((cell_far (p:=⟨gb884,_,none⟩) NB883_884.out _).trans (((cell_far (p:=⟨gb884,_,none⟩) NB883_884.out _).trans (hHeld.2.2.2.2.2.2.2.2))))))⟩ (fun hHeld=> ?_)
    clear hK K
    refine pure_ (i:=8) (N:=some 5) (v:= ?_) (a':= ?_) #[true,true,true,true,true,true,true,true,true,false,false] rfl rfl (any_of HT_.out (by kernel_rfl)) (fun _ _ _ h=>h) (Or.inl ⟨by rfl,?_⟩) ?_ ?_
    rotate_left
    ·intro w'
     go_simp
     with_reducible rfl
    rotate_left
    ·simp only[Act.put,List.setIfInBounds_toArray,List.set_cons_zero,List.set_cons_succ,i64_w,i32_w]
     rfl
    refine pure_ (i:=9) (N:=some 6) (v:= ?_) (a':= ?_) #[true,true,true,true,true,true,true,true,true,true,false] rfl rfl (any_of HT_.out (by kernel_rfl)) (fun _ _ _ h=>h) (Or.inl ⟨by rfl,?_⟩) ?_ ?_
    rotate_left
    ·intro w'
     go_simp
     with_reducible rfl
    rotate_left
    ·simp only[Act.put,List.setIfInBounds_toArray,List.set_cons_zero,List.set_cons_succ,i64_w,i32_w]
     rfl
    refine pure_ (i:=10) (N:=some 7) (v:= ?_) (a':= ?_) #[true,true,true,true,true,true,true,true,true,true,true] rfl rfl (any_of HT_.out (by kernel_rfl)) (fun _ _ _ h=>h) (Or.inl ⟨by rfl,?_⟩) ?_ ?_
    rotate_left
    ·intro w'
     go_simp
     with_reducible rfl
    rotate_left
    ·simp only[Act.put,List.setIfInBounds_toArray,List.set_cons_zero,List.set_cons_succ,i64_w,i32_w]
     rfl
    refine done_ (done_of HT_.out (by kernel_rfl)) ?_
    try go_wp2
    refine bodyPost_ret (results_list (rs:=[.cell 4 24, .tmp 5, .tmp 6, .tmp 7]) rfl (by simp) (.cell gb884 24 #[.int .i64 (wrap64 (2+(Int.tmod (wrap64 (a0_0)) 4))), .bool a0_1, .slice Ao40 x886002_1.length co40] (0,0) _ rfl (by(with_reducible repeat(first|refine blk_drewN ?_ _|refine blk_drew ?_|refine blk_alloc ?_ _));refine blk_put (cs:= #[.int .i64 (wrap64 (2+(Int.tmod (wrap64 (a0_0)) 4))), .bool a0_1, .slice none 0 0]) ?_ 2 _ rfl;(with_reducible repeat(first|refine blk_drewN ?_ _|refine blk_drew ?_|refine blk_alloc ?_ _));refine blk_put (cs:= #[.int .i64 (wrap64 (2+(Int.tmod (wrap64 (a0_0)) 4))), .bool false, .slice none 0 0]) ?_ 1 _ rfl;(with_reducible repeat(first|refine blk_drewN ?_ _|refine blk_drew ?_|refine blk_alloc ?_ _));refine blk_put (cs:= #[.int .i64 0, .bool false, .slice none 0 0]) ?_ 0 _ rfl;(with_reducible repeat(first|refine blk_drewN ?_ _|refine blk_drew ?_|refine blk_alloc ?_ _));exact BK884.out) Try.underlying24 rfl (by kernel_rfl) (.tmp (.tmp (.tmp .nil))))) rfl ?_
    exact⟨_,by first|rfl|(simp[errW_none,errW_some]<;>rfl)|(simp[*,errW_none,errW_some]<;>rfl),by(with_reducible repeat(first|apply Kd.R_alloc|apply Kd.R_drewN|apply Kd.R_drew));exact Kd.R_mono (Kd.R_far (p:=⟨gb884,2,none⟩) (Kd.R_far (p:=⟨gb884,1,none⟩) (Kd.R_far (p:=⟨gb884,0,none⟩) (Kd.R_types HO_886002.out BK884.out (by decide)) (fun _ hk=>hk.2) (.int .i64 (wrap64 (2+(Int.tmod (wrap64 (a0_0)) 4))))) (fun _ hk=>hk.2) (.bool a0_1)) (fun _ hk=>hk.2) (.slice Ao40 x886002_1.length co40)) (fun _ hk=>trivial),by repeat(first|(with_reducible first|exact HB.out|apply below_alloc|apply pw_below_drewN|apply below_drew1|refine below_set ?_ GE883.out|refine below_set ?_ GE884.out|refine below_set ?_ GE885.out)|exact HB.out)⟩
   rw[if_pos c12] at H
   have c12b0:decide (x9_1<a1)=true:=decide_eq_true c12
   clear c12
   by_cases c13:0≤x9_1
   rotate_left
   ·rw[if_neg c13] at H
    exact absurd H (by simp)
   rw[if_pos c13] at H
   have c13b0:decide (0≤x9_1)=true:=decide_eq_true c13
   clear c13
   by_cases c14:(wrap64 (2+(Int.tmod (wrap64 (a0_0)) 4)))=0
   ·rw[if_pos c14] at H
    exact absurd H (by simp)
   rw[if_neg c14] at H
   have c14b0:((wrap64 (2+(Int.tmod (wrap64 (a0_0)) 4))) == 0)=false:=beq_eq_false_iff_ne.mpr c14
   have c14b1:((wrap64 (2+(Int.tmod (wrap64 (a0_0)) 4))) != 0)=true:=bne_iff_ne.mpr c14
   by_cases c15:x886002_1.length<4398046511104
   rotate_left
   ·rw[if_neg c15] at H
    exact absurd H (by simp)
   rw[if_pos c15] at H
   have LMc15:=Aside0.mk c15
   clear c15
   obtain⟨y888,hy888⟩: ∃ y_:List (S74),y_=(x886002_1 ++ [(⟨Int.tmod (wrap64 ((rd_T135 l0_2 x9_1).f0)) (wrap64 (2+(Int.tmod (wrap64 (a0_0)) 4))),Int.tmod (wrap64 ((rd_T135 l0_2 x9_1).f1)) (wrap64 (2+(Int.tmod (wrap64 (a0_0)) 4))),Int.tmod (wrap64 ((rd_T135 l0_2 x9_1).f2)) 6,Int.tmod (wrap64 ((rd_T135 l0_2 x9_1).f3)) 4⟩:S74)]):=⟨_,rfl⟩
   replace H:(ebbtidelaw12_Read.l0 k1 a1 (wrap64 (x9_1+1)) a0_0 a0_1 l0_2 a0_3 a0_4 a0_5 (wrap64 (2+(Int.tmod (wrap64 (a0_0)) 4))) a0_1 y888)=some (r1,r2,r3,r4,r5,r6):=by first|(rw[hy888];with_reducible exact H)|(have H2_:=(Option.bind_some _ _).symm.trans H;rw[hy888];with_reducible exact H2_)|(have H2_:=(Option.bind_some _ _).symm.trans H;with_reducible exact H2_)|with_reducible exact H|(rw[hy888];exact H)|exact H
   have Ny888:=Aside0.mk hy888
   clear hy888
   have H':=Aside0.mk H
   clear H
   have hnb16:=NB883_884.out
   have hnc16:=NB884_883.out
   have hnb17:=NB883_885.out
   have hnc17:=NB885_883.out
   have hcz18_0:wr.cell? ⟨gb883,0,none⟩=some (.int .u8 a0_0):=(blk_cell BK883.out 0).trans rfl
   have hcz18_1:wr.cell? ⟨gb883,1,none⟩=some (.bool a0_1):=(blk_cell BK883.out 1).trans rfl
   have hcz18_2:wr.cell? ⟨gb883,2,none⟩=some (.slice A0_2 l0_2.length c0_2):=(blk_cell BK883.out 2).trans rfl
   have hcz18_3:wr.cell? ⟨gb883,3,none⟩=some (.int .u8 a0_3):=(blk_cell BK883.out 3).trans rfl
   have hcz18_4:wr.cell? ⟨gb883,4,none⟩=some (.int .u8 a0_4):=(blk_cell BK883.out 4).trans rfl
   have hcz18_5:wr.cell? ⟨gb883,5,none⟩=some (.int .u8 a0_5):=(blk_cell BK883.out 5).trans rfl
   have hfz18_0:=blk_frozen BK883.out 0
   have hfz18_1:=blk_frozen BK883.out 1
   have hfz18_2:=blk_frozen BK883.out 2
   have hfz18_3:=blk_frozen BK883.out 3
   have hfz18_4:=blk_frozen BK883.out 4
   have hfz18_5:=blk_frozen BK883.out 5
   have p886:0≤(x9_1:Int):=of_decide_eq_true (by first|(with_reducible assumption)|assumption)
   have q886:x9_1<(l0_2.length:Int):=of_decide_eq_true (by first|(with_reducible assumption)|assumption)
   obtain⟨ad886,e886,hx886_0,hx886_1,hx886_2,hx886_3⟩:=at_T135 HR0_2.out x9_1 p886 q886
   cases e886
   replace hx886_0:=(HB.out.cell (World.block_lt_of_cell? w _ hx886_0)).trans hx886_0
   replace hx886_1:=(HB.out.cell (World.block_lt_of_cell? w _ hx886_1)).trans hx886_1
   replace hx886_2:=(HB.out.cell (World.block_lt_of_cell? w _ hx886_2)).trans hx886_2
   replace hx886_3:=(HB.out.cell (World.block_lt_of_cell? w _ hx886_3)).trans hx886_3
   replace p886:=eq_true p886
   replace q886:=eq_true q886
   try go_wp2_with (first|((with_reducible refine gate_dst (N:=10) rfl ?_);refine box_event ?hg (N:=10) ?hd (cs:= #[.int .u8 0, .int .u8 0, .int .u8 0, .int .u8 0]) (t:=135) ?hr ?_;(case hd=>rfl);(case hg=>rfl);(case hr=>first|(go_simp;done)|(go_simp;rfl));intro gb887 hg w19 hbox hb;have n0_:=Aside0.mk (Kd.R_below (by(with_reducible repeat(first|apply Kd.R_alloc|apply Kd.R_drewN|apply Kd.R_drew));exact HO_886002.out) hb);have n1_:=Aside0.mk (blk_below (g:=gb883) (o:= .cells #[.int .u8 a0_0, .bool a0_1, .slice (some ad886) l0_2.length c0_2, .int .u8 a0_3, .int .u8 a0_4, .int .u8 a0_5] 70 (0,0)) (by(with_reducible repeat(first|refine blk_drewN ?_ _|refine blk_drew ?_|refine blk_alloc ?_ _));exact BK883.out) hb);have n2_:=Aside0.mk (blk_below (g:=gb884) (o:= .cells #[.int .i64 0, .bool false, .slice none 0 0] 24 (0,0)) (by(with_reducible repeat(first|refine blk_drewN ?_ _|refine blk_drew ?_|refine blk_alloc ?_ _));exact BK884.out) hb);have n3_:=Aside0.mk (blk_below (g:=gb885) (o:= .cells #[.int .i64 (wrap64 (2+(Int.tmod (wrap64 (a0_0)) 4))), .bool a0_1,u886002] 24 (0,0)) (by(with_reducible repeat(first|refine blk_drewN ?_ _|refine blk_drew ?_|refine blk_alloc ?_ _));exact BK885.out) hb);have n4_:=Aside0.mk (below_step (by repeat(first|(with_reducible first|exact HB.out|apply below_alloc|apply pw_below_drewN|apply below_drew1|refine below_set ?_ GE883.out|refine below_set ?_ GE884.out|refine below_set ?_ GE885.out)|exact HB.out)) hb);have n5_:=Aside0.mk (hbox);have n6_:=Aside0.mk ((by rw[hg];exact(below_size (by repeat(first|(with_reducible first|exact HB.out|apply below_alloc|apply pw_below_drewN|apply below_drew1|refine below_set ?_ GE883.out|refine below_set ?_ GE884.out|refine below_set ?_ GE885.out)|exact HB.out))):w.heap.size≤gb887));have n7_:=Aside0.mk ((by rw[hg];exact(below_size (by repeat(first|(with_reducible first|exact HB.out|apply below_alloc|apply pw_below_drewN|apply below_drew1|refine below_set ?_ GE883.out|refine below_set ?_ GE884.out|refine below_set ?_ GE885.out)|exact HB.out))):w.heap.size≤gb887));have n8_:=Aside0.mk ((by rw[hg];exact Nat.ne_of_lt (blk_lt (g:=gb883) (o:= .cells #[.int .u8 a0_0, .bool a0_1, .slice (some ad886) l0_2.length c0_2, .int .u8 a0_3, .int .u8 a0_4, .int .u8 a0_5] 70 (0,0)) (by(with_reducible repeat(first|refine blk_drewN ?_ _|refine blk_drew ?_|refine blk_alloc ?_ _));exact BK883.out)):gb883≠gb887));have n9_:=Aside0.mk ((by rw[hg];exact Nat.ne_of_gt (blk_lt (g:=gb883) (o:= .cells #[.int .u8 a0_0, .bool a0_1, .slice (some ad886) l0_2.length c0_2, .int .u8 a0_3, .int .u8 a0_4, .int .u8 a0_5] 70 (0,0)) (by(with_reducible repeat(first|refine blk_drewN ?_ _|refine blk_drew ?_|refine blk_alloc ?_ _));exact BK883.out)):gb887≠gb883));have n10_:=Aside0.mk ((by rw[hg];exact Nat.ne_of_lt (blk_lt (g:=gb884) (o:= .cells #[.int .i64 0, .bool false, .slice none 0 0] 24 (0,0)) (by(with_reducible repeat(first|refine blk_drewN ?_ _|refine blk_drew ?_|refine blk_alloc ?_ _));exact BK884.out)):gb884≠gb887));have n11_:=Aside0.mk ((by rw[hg];exact Nat.ne_of_gt (blk_lt (g:=gb884) (o:= .cells #[.int .i64 0, .bool false, .slice none 0 0] 24 (0,0)) (by(with_reducible repeat(first|refine blk_drewN ?_ _|refine blk_drew ?_|refine blk_alloc ?_ _));exact BK884.out)):gb887≠gb884));have n12_:=Aside0.mk ((by rw[hg];exact Nat.ne_of_lt (blk_lt (g:=gb885) (o:= .cells #[.int .i64 (wrap64 (2+(Int.tmod (wrap64 (a0_0)) 4))), .bool a0_1,u886002] 24 (0,0)) (by(with_reducible repeat(first|refine blk_drewN ?_ _|refine blk_drew ?_|refine blk_alloc ?_ _));exact BK885.out)):gb885≠gb887));have n13_:=Aside0.mk ((by rw[hg];exact Nat.ne_of_gt (blk_lt (g:=gb885) (o:= .cells #[.int .i64 (wrap64 (2+(Int.tmod (wrap64 (a0_0)) 4))), .bool a0_1,u886002] 24 (0,0)) (by(with_reducible repeat(first|refine blk_drewN ?_ _|refine blk_drew ?_|refine blk_alloc ?_ _));exact BK885.out)):gb887≠gb885));clear HO_886002;clear BK883;clear BK884;clear BK885;clear HB;have HO_886002:=n0_;have BK883:=n1_;have BK884:=n2_;have BK885:=n3_;have HB:=n4_;have BK887:=n5_;have GW887:=n6_;have GE887:=n7_;have NB883_887:=n8_;have NB887_883:=n9_;have NB884_887:=n10_;have NB887_884:=n11_;have NB885_887:=n12_;have NB887_885:=n13_;clear n0_ n1_ n2_ n3_ n4_ n5_ n6_ n7_ n8_ n9_ n10_ n11_ n12_ n13_;clear hb hbox hg;have hnb20:=NB887_883.out;have hnc20:=NB883_887.out;have hnb21:=NB887_884.out;have hnc21:=NB884_887.out;have hnb22:=NB887_885.out;have hnc22:=NB885_887.out;have hcz23_0:w19.cell? ⟨gb887,0,none⟩=some (.int .u8 0):=(blk_cell BK887.out 0).trans rfl;have hcz23_1:w19.cell? ⟨gb887,1,none⟩=some (.int .u8 0):=(blk_cell BK887.out 1).trans rfl;have hcz23_2:w19.cell? ⟨gb887,2,none⟩=some (.int .u8 0):=(blk_cell BK887.out 2).trans rfl;have hcz23_3:w19.cell? ⟨gb887,3,none⟩=some (.int .u8 0):=(blk_cell BK887.out 3).trans rfl;have hfz23_0:=blk_frozen BK887.out 0;have hfz23_1:=blk_frozen BK887.out 1;have hfz23_2:=blk_frozen BK887.out 2;have hfz23_3:=blk_frozen BK887.out 3))
   have n0_:Aside0 (Kd.R k74 74 ((((w19.setCell ⟨gb887,0,none⟩ (.int .u8 ((rd_T135 l0_2 x9_1).f0))).setCell ⟨gb887,1,none⟩ (.int .u8 ((rd_T135 l0_2 x9_1).f1))).setCell ⟨gb887,2,none⟩ (.int .u8 ((rd_T135 l0_2 x9_1).f2))).setCell ⟨gb887,3,none⟩ (.int .u8 ((rd_T135 l0_2 x9_1).f3))) w.heap.size (fun _=>True) u886002 x886002_1):=⟨by(with_reducible repeat(first|apply Kd.R_alloc|apply Kd.R_drewN|apply Kd.R_drew));exact Kd.R_mono (Kd.R_far (p:=⟨gb887,3,none⟩) (Kd.R_far (p:=⟨gb887,2,none⟩) (Kd.R_far (p:=⟨gb887,1,none⟩) (Kd.R_far (p:=⟨gb887,0,none⟩) (Kd.R_types HO_886002.out BK887.out (by decide)) (fun _ hk=>hk.2) (.int .u8 ((rd_T135 l0_2 x9_1).f0))) (fun _ hk=>hk.2) (.int .u8 ((rd_T135 l0_2 x9_1).f1))) (fun _ hk=>hk.2) (.int .u8 ((rd_T135 l0_2 x9_1).f2))) (fun _ hk=>hk.2) (.int .u8 ((rd_T135 l0_2 x9_1).f3))) (fun _ hk=>trivial)⟩
   have n1_:Aside0 (((((w19.setCell ⟨gb887,0,none⟩ (.int .u8 ((rd_T135 l0_2 x9_1).f0))).setCell ⟨gb887,1,none⟩ (.int .u8 ((rd_T135 l0_2 x9_1).f1))).setCell ⟨gb887,2,none⟩ (.int .u8 ((rd_T135 l0_2 x9_1).f2))).setCell ⟨gb887,3,none⟩ (.int .u8 ((rd_T135 l0_2 x9_1).f3))).heap[gb883]? =some (.cells #[.int .u8 a0_0, .bool a0_1, .slice (some ad886) l0_2.length c0_2, .int .u8 a0_3, .int .u8 a0_4, .int .u8 a0_5] 70 (0,0))):=⟨by(with_reducible repeat(first|refine blk_drewN ?_ _|refine blk_drew ?_|refine blk_alloc ?_ _));refine blk_far ?_ NB883_887.out _;(with_reducible repeat(first|refine blk_drewN ?_ _|refine blk_drew ?_|refine blk_alloc ?_ _));refine blk_far ?_ NB883_887.out _;(with_reducible repeat(first|refine blk_drewN ?_ _|refine blk_drew ?_|refine blk_alloc ?_ _));refine blk_far ?_ NB883_887.out _;(with_reducible repeat(first|refine blk_drewN ?_ _|refine blk_drew ?_|refine blk_alloc ?_ _));refine blk_far ?_ NB883_887.out _;(with_reducible repeat(first|refine blk_drewN ?_ _|refine blk_drew ?_|refine blk_alloc ?_ _));exact BK883.out⟩
   have n2_:Aside0 (((((w19.setCell ⟨gb887,0,none⟩ (.int .u8 ((rd_T135 l0_2 x9_1).f0))).setCell ⟨gb887,1,none⟩ (.int .u8 ((rd_T135 l0_2 x9_1).f1))).setCell ⟨gb887,2,none⟩ (.int .u8 ((rd_T135 l0_2 x9_1).f2))).setCell ⟨gb887,3,none⟩ (.int .u8 ((rd_T135 l0_2 x9_1).f3))).heap[gb884]? =some (.cells #[.int .i64 0, .bool false, .slice none 0 0] 24 (0,0))):=⟨by(with_reducible repeat(first|refine blk_drewN ?_ _|refine blk_drew ?_|refine blk_alloc ?_ _));refine blk_far ?_ NB884_887.out _;(with_reducible repeat(first|refine blk_drewN ?_ _|refine blk_drew ?_|refine blk_alloc ?_ _));refine blk_far ?_ NB884_887.out _;(with_reducible repeat(first|refine blk_drewN ?_ _|refine blk_drew ?_|refine blk_alloc ?_ _));refine blk_far ?_ NB884_887.out _;(with_reducible repeat(first|refine blk_drewN ?_ _|refine blk_drew ?_|refine blk_alloc ?_ _));refine blk_far ?_ NB884_887.out _;(with_reducible repeat(first|refine blk_drewN ?_ _|refine blk_drew ?_|refine blk_alloc ?_ _));exact BK884.out⟩
   have n3_:Aside0 (((((w19.setCell ⟨gb887,0,none⟩ (.int .u8 ((rd_T135 l0_2 x9_1).f0))).setCell ⟨gb887,1,none⟩ (.int .u8 ((rd_T135 l0_2 x9_1).f1))).setCell ⟨gb887,2,none⟩ (.int .u8 ((rd_T135 l0_2 x9_1).f2))).setCell ⟨gb887,3,none⟩ (.int .u8 ((rd_T135 l0_2 x9_1).f3))).heap[gb885]? =some (.cells #[.int .i64 (wrap64 (2+(Int.tmod (wrap64 (a0_0)) 4))), .bool a0_1,u886002] 24 (0,0))):=⟨by(with_reducible repeat(first|refine blk_drewN ?_ _|refine blk_drew ?_|refine blk_alloc ?_ _));refine blk_far ?_ NB885_887.out _;(with_reducible repeat(first|refine blk_drewN ?_ _|refine blk_drew ?_|refine blk_alloc ?_ _));refine blk_far ?_ NB885_887.out _;(with_reducible repeat(first|refine blk_drewN ?_ _|refine blk_drew ?_|refine blk_alloc ?_ _));refine blk_far ?_ NB885_887.out _;(with_reducible repeat(first|refine blk_drewN ?_ _|refine blk_drew ?_|refine blk_alloc ?_ _));refine blk_far ?_ NB885_887.out _;(with_reducible repeat(first|refine blk_drewN ?_ _|refine blk_drew ?_|refine blk_alloc ?_ _));exact BK885.out⟩
   have n4_:Aside0 (((((w19.setCell ⟨gb887,0,none⟩ (.int .u8 ((rd_T135 l0_2 x9_1).f0))).setCell ⟨gb887,1,none⟩ (.int .u8 ((rd_T135 l0_2 x9_1).f1))).setCell ⟨gb887,2,none⟩ (.int .u8 ((rd_T135 l0_2 x9_1).f2))).setCell ⟨gb887,3,none⟩ (.int .u8 ((rd_T135 l0_2 x9_1).f3))).heap[gb887]? =some (.cells #[.int .u8 ((rd_T135 l0_2 x9_1).f0), .int .u8 ((rd_T135 l0_2 x9_1).f1), .int .u8 ((rd_T135 l0_2 x9_1).f2), .int .u8 ((rd_T135 l0_2 x9_1).f3)] 135 (0,0))):=⟨by(with_reducible repeat(first|refine blk_drewN ?_ _|refine blk_drew ?_|refine blk_alloc ?_ _));refine blk_put (cs:= #[.int .u8 ((rd_T135 l0_2 x9_1).f0), .int .u8 ((rd_T135 l0_2 x9_1).f1), .int .u8 ((rd_T135 l0_2 x9_1).f2), .int .u8 0]) ?_ 3 _ rfl;(with_reducible repeat(first|refine blk_drewN ?_ _|refine blk_drew ?_|refine blk_alloc ?_ _));refine blk_put (cs:= #[.int .u8 ((rd_T135 l0_2 x9_1).f0), .int .u8 ((rd_T135 l0_2 x9_1).f1), .int .u8 0, .int .u8 0]) ?_ 2 _ rfl;(with_reducible repeat(first|refine blk_drewN ?_ _|refine blk_drew ?_|refine blk_alloc ?_ _));refine blk_put (cs:= #[.int .u8 ((rd_T135 l0_2 x9_1).f0), .int .u8 0, .int .u8 0, .int .u8 0]) ?_ 1 _ rfl;(with_reducible repeat(first|refine blk_drewN ?_ _|refine blk_drew ?_|refine blk_alloc ?_ _));refine blk_put (cs:= #[.int .u8 0, .int .u8 0, .int .u8 0, .int .u8 0]) ?_ 0 _ rfl;(with_reducible repeat(first|refine blk_drewN ?_ _|refine blk_drew ?_|refine blk_alloc ?_ _));exact BK887.out⟩
   have n5_:Aside0 (Below w.heap.size w ((((w19.setCell ⟨gb887,0,none⟩ (.int .u8 ((rd_T135 l0_2 x9_1).f0))).setCell ⟨gb887,1,none⟩ (.int .u8 ((rd_T135 l0_2 x9_1).f1))).setCell ⟨gb887,2,none⟩ (.int .u8 ((rd_T135 l0_2 x9_1).f2))).setCell ⟨gb887,3,none⟩ (.int .u8 ((rd_T135 l0_2 x9_1).f3)))):=⟨by repeat(first|(with_reducible first|exact HB.out|apply below_alloc|apply pw_below_drewN|apply below_drew1|refine below_set ?_ GE883.out|refine below_set ?_ GE884.out|refine below_set ?_ GE885.out|refine below_set ?_ GE887.out)|exact HB.out)⟩
   (try clear HO_886002)
   (try clear BK883)
   (try clear BK884)
   (try clear BK885)
   (try clear BK887)
   (try clear HB)
   generalize ((((w19.setCell ⟨gb887,0,none⟩ (.int .u8 ((rd_T135 l0_2 x9_1).f0))).setCell ⟨gb887,1,none⟩ (.int .u8 ((rd_T135 l0_2 x9_1).f1))).setCell ⟨gb887,2,none⟩ (.int .u8 ((rd_T135 l0_2 x9_1).f2))).setCell ⟨gb887,3,none⟩ (.int .u8 ((rd_T135 l0_2 x9_1).f3)))=w24 at n0_ n1_ n2_ n3_ n4_ n5_ ⊢
   have HO_886002:=n0_
   have BK883:=n1_
   have BK884:=n2_
   have BK885:=n3_
   have BK887:=n4_
   have HB:=n5_
   clear n0_ n1_ n2_ n3_ n4_ n5_
   have n0_:=Aside0.mk (Kd.R_drew HO_886002.out)
   have n1_:=Aside0.mk (blk_drew BK883.out)
   have n2_:=Aside0.mk (blk_drew BK884.out)
   have n3_:=Aside0.mk (blk_drew BK885.out)
   have n4_:=Aside0.mk (blk_drew BK887.out)
   have n5_:=Aside0.mk (below_drew1 HB.out)
   clear HO_886002
   clear BK883
   clear BK884
   clear BK885
   clear BK887
   clear HB
   have HO_886002:=n0_
   have BK883:=n1_
   have BK884:=n2_
   have BK885:=n3_
   have BK887:=n4_
   have HB:=n5_
   clear n0_ n1_ n2_ n3_ n4_ n5_
   refine start_ (n:=27) (S:=fun w'=>w'.cell? ⟨gb885,0,none⟩=some (.int .i64 (wrap64 (2+(Int.tmod (wrap64 (a0_0)) 4))))∧w'.cell? ⟨gb885,1,none⟩=some (.bool a0_1)∧w'.cell? ⟨gb885,2,none⟩=some (u886002)∧w'.cell? ⟨gb887,0,none⟩=some (.int .u8 ((rd_T135 l0_2 x9_1).f0))∧w'.cell? ⟨gb887,1,none⟩=some (.int .u8 ((rd_T135 l0_2 x9_1).f1))∧w'.cell? ⟨gb887,2,none⟩=some (.int .u8 ((rd_T135 l0_2 x9_1).f2))∧w'.cell? ⟨gb887,3,none⟩=some (.int .u8 ((rd_T135 l0_2 x9_1).f3))) (ds:=[26]) #[false,false,false,false,false,false,false,false,false,false,false,false,false,false,false,false,false,false,false,false,false,false,false,false,false,false,false] (by kernel_rfl) rfl rfl ⟨(blk_cell BK885.out 0).trans rfl,(blk_cell BK885.out 1).trans rfl,(blk_cell BK885.out 2).trans rfl,(blk_cell BK887.out 0).trans rfl,(blk_cell BK887.out 1).trans rfl,(blk_cell BK887.out 2).trans rfl,(blk_cell BK887.out 3).trans rfl⟩ (fun hHeld=> ?_);refine with_tabW ebbtidelaw12_Read.tab6 ebbtidelaw12_Read.bits6 (fun HT_ HW_=> ?_)
   generalize w24.drew=w25 at HO_886002 BK883 BK884 BK885 BK887 HB hHeld ⊢
   refine pure_ (i:=0) (N:=some 38) (v:= ?_) (a':= ?_) #[true,false,false,false,false,false,false,false,false,false,false,false,false,false,false,false,false,false,false,false,false,false,false,false,false,false,false] rfl rfl (any_of HT_.out (by kernel_rfl)) (fun _ _ _ h=>h) (Or.inl ⟨by rfl,?_⟩) ?_ ?_
   rotate_left
   ·intro w'
    go_simp
    with_reducible rfl
   rotate_left
   ·simp only[Act.put,List.setIfInBounds_toArray,List.set_cons_zero,List.set_cons_succ,i64_w,i32_w]
    rfl
   refine pure_ (i:=2) (N:=some 40) (v:= ?_) (a':= ?_) #[true,false,true,false,false,false,false,false,false,false,false,false,false,false,false,false,false,false,false,false,false,false,false,false,false,false,false] rfl rfl (any_of HT_.out (by kernel_rfl)) (fun _ _ _ h=>h) (Or.inl ⟨by rfl,?_⟩) ?_ ?_
   rotate_left
   ·intro w'
    go_simp
    with_reducible rfl
   rotate_left
   ·simp only[Act.put,List.setIfInBounds_toArray,List.set_cons_zero,List.set_cons_succ,i64_w,i32_w]
    rfl
   refine pure_ (i:=5) (N:=some 43) (v:= ?_) (a':= ?_) #[true,false,true,false,false,true,false,false,false,false,false,false,false,false,false,false,false,false,false,false,false,false,false,false,false,false,false] rfl rfl (any_of HT_.out (by kernel_rfl)) (fun _ _ _ h=>h) (Or.inl ⟨by rfl,?_⟩) ?_ ?_
   rotate_left
   ·intro w'
    go_simp
    with_reducible rfl
   rotate_left
   ·simp only[Act.put,List.setIfInBounds_toArray,List.set_cons_zero,List.set_cons_succ,i64_w,i32_w]
    rfl
   refine pure_ (i:=8) (N:=some 46) (v:= ?_) (a':= ?_) #[true,false,true,false,false,true,false,false,true,false,false,false,false,false,false,false,false,false,false,false,false,false,false,false,false,false,false] rfl rfl (any_of HT_.out (by kernel_rfl)) (fun _ _ _ h=>h) (Or.inl ⟨by rfl,?_⟩) ?_ ?_
   rotate_left
   ·intro w'
    go_simp
    with_reducible rfl
   rotate_left
   ·simp only[Act.put,List.setIfInBounds_toArray,List.set_cons_zero,List.set_cons_succ,i64_w,i32_w]
    rfl
   refine pure_ (i:=11) (N:=some 49) (v:= ?_) (a':= ?_) #[true,false,true,false,false,true,false,false,true,false,false,true,false,false,false,false,false,false,false,false,false,false,false,false,false,false,false] rfl rfl (any_of HT_.out (by kernel_rfl)) (fun _ _ _ h=>h) (Or.inl ⟨by rfl,?_⟩) ?_ ?_
   rotate_left
   ·intro w'
    go_simp
    with_reducible rfl
   rotate_left
   ·simp only[Act.put,List.setIfInBounds_toArray,List.set_cons_zero,List.set_cons_succ,i64_w,i32_w]
    rfl
   refine pure_ (i:=14) (N:=some 52) (v:= ?_) (a':= ?_) #[true,false,true,false,false,true,false,false,true,false,false,true,false,false,true,false,false,false,false,false,false,false,false,false,false,false,false] rfl rfl (any_of HT_.out (by kernel_rfl)) (fun _ _ _ h=>h) (Or.inl ⟨by rfl,?_⟩) ?_ ?_
   rotate_left
   ·intro w'
    go_simp
    with_reducible rfl
   rotate_left
   ·simp only[Act.put,List.setIfInBounds_toArray,List.set_cons_zero,List.set_cons_succ,i64_w,i32_w]
    rfl
   refine pure_ (i:=18) (N:=some 56) (v:= ?_) (a':= ?_) #[true,false,true,false,false,true,false,false,true,false,false,true,false,false,true,false,false,false,true,false,false,false,false,false,false,false,false] rfl rfl (any_of HT_.out (by kernel_rfl)) (fun _ _ _ h=>h) (Or.inl ⟨by rfl,?_⟩) ?_ ?_
   rotate_left
   ·intro w'
    go_simp
    with_reducible rfl
   rotate_left
   ·simp only[Act.put,List.setIfInBounds_toArray,List.set_cons_zero,List.set_cons_succ,i64_w,i32_w]
    rfl
   refine take_ (i:=1) (N:=some 39) (v:= ?_) (a':= ?_) #[true,true,true,false,false,true,false,false,true,false,false,true,false,false,true,false,false,false,true,false,false,false,false,false,false,false,false] rfl rfl (take_ofW HT_.out HW_.out (by kernel_rfl)) (fun _ _ _ h=>h) (Or.inl ⟨by rfl,?_⟩) hHeld ?_ ?_
   rotate_left
   ·rintro w' ⟨s0,s1,s2,s3,s4,s5,s6⟩
    go_simp
    with_reducible rfl
   rotate_left
   ·simp only[Act.put,List.setIfInBounds_toArray,List.set_cons_zero,List.set_cons_succ,i64_w,i32_w]
    rfl
   refine take_ (i:=3) (N:=some 41) (v:= ?_) (a':= ?_) #[true,true,true,true,false,true,false,false,true,false,false,true,false,false,true,false,false,false,true,false,false,false,false,false,false,false,false] rfl rfl (take_ofW HT_.out HW_.out (by kernel_rfl)) (fun _ _ _ h=>h) (Or.inl ⟨by rfl,?_⟩) hHeld ?_ ?_
   rotate_left
   ·rintro w' ⟨s0,s1,s2,s3,s4,s5,s6⟩
    go_simp
    with_reducible rfl
   rotate_left
   ·simp only[Act.put,List.setIfInBounds_toArray,List.set_cons_zero,List.set_cons_succ,i64_w,i32_w]
    rfl
   refine pure_ (i:=4) (N:=some 42) (v:= ?_) (a':= ?_) #[true,true,true,true,true,true,false,false,true,false,false,true,false,false,true,false,false,false,true,false,false,false,false,false,false,false,false] rfl rfl (any_of HT_.out (by kernel_rfl)) (fun _ _ _ h=>h) (Or.inl ⟨by rfl,?_⟩) ?_ ?_
   rotate_left
   ·intro w'
    go_simp
    with_reducible rfl
   rotate_left
   ·simp only[Act.put,List.setIfInBounds_toArray,List.set_cons_zero,List.set_cons_succ,i64_w,i32_w]
    rfl
   refine take_ (i:=6) (N:=some 44) (v:= ?_) (a':= ?_) #[true,true,true,true,true,true,true,false,true,false,false,true,false,false,true,false,false,false,true,false,false,false,false,false,false,false,false] rfl rfl (take_ofW HT_.out HW_.out (by kernel_rfl)) (fun _ _ _ h=>h) (Or.inl ⟨by rfl,?_⟩) hHeld ?_ ?_
   rotate_left
   ·rintro w' ⟨s0,s1,s2,s3,s4,s5,s6⟩
    go_simp
    with_reducible rfl
   rotate_left
   ·simp only[Act.put,List.setIfInBounds_toArray,List.set_cons_zero,List.set_cons_succ,i64_w,i32_w]
    rfl
   refine pure_ (i:=7) (N:=some 45) (v:= ?_) (a':= ?_) #[true,true,true,true,true,true,true,true,true,false,false,true,false,false,true,false,false,false,true,false,false,false,false,false,false,false,false] rfl rfl (any_of HT_.out (by kernel_rfl)) (fun _ _ _ h=>h) (Or.inl ⟨by rfl,?_⟩) ?_ ?_
   rotate_left
   ·intro w'
    go_simp
    with_reducible rfl
   rotate_left
   ·simp only[Act.put,List.setIfInBounds_toArray,List.set_cons_zero,List.set_cons_succ,i64_w,i32_w]
    rfl
   refine take_ (i:=9) (N:=some 47) (v:= ?_) (a':= ?_) #[true,true,true,true,true,true,true,true,true,true,false,true,false,false,true,false,false,false,true,false,false,false,false,false,false,false,false] rfl rfl (take_ofW HT_.out HW_.out (by kernel_rfl)) (fun _ _ _ h=>h) (Or.inl ⟨by rfl,?_⟩) hHeld ?_ ?_
   rotate_left
   ·rintro w' ⟨s0,s1,s2,s3,s4,s5,s6⟩
    go_simp
    with_reducible rfl
   rotate_left
   ·simp only[Act.put,List.setIfInBounds_toArray,List.set_cons_zero,List.set_cons_succ,i64_w,i32_w]
    rfl
   refine pure_ (i:=10) (N:=some 48) (v:= ?_) (a':= ?_) #[true,true,true,true,true,true,true,true,true,true,true,true,false,false,true,false,false,false,true,false,false,false,false,false,false,false,false] rfl rfl (any_of HT_.out (by kernel_rfl)) (fun _ _ _ h=>h) (Or.inl ⟨by rfl,?_⟩) ?_ ?_
   rotate_left
   ·intro w'
    go_simp
    with_reducible rfl
   rotate_left
   ·simp only[Act.put,List.setIfInBounds_toArray,List.set_cons_zero,List.set_cons_succ,i64_w,i32_w]
    rfl
   refine take_ (i:=12) (N:=some 50) (v:= ?_) (a':= ?_) #[true,true,true,true,true,true,true,true,true,true,true,true,true,false,true,false,false,false,true,false,false,false,false,false,false,false,false] rfl rfl (take_ofW HT_.out HW_.out (by kernel_rfl)) (fun _ _ _ h=>h) (Or.inl ⟨by rfl,?_⟩) hHeld ?_ ?_
   rotate_left
   ·rintro w' ⟨s0,s1,s2,s3,s4,s5,s6⟩
    go_simp
    with_reducible rfl
   rotate_left
   ·simp only[Act.put,List.setIfInBounds_toArray,List.set_cons_zero,List.set_cons_succ,i64_w,i32_w]
    rfl
   refine pure_ (i:=13) (N:=some 51) (v:= ?_) (a':= ?_) #[true,true,true,true,true,true,true,true,true,true,true,true,true,true,true,false,false,false,true,false,false,false,false,false,false,false,false] rfl rfl (any_of HT_.out (by kernel_rfl)) (fun _ _ _ h=>h) (Or.inl ⟨by rfl,?_⟩) ?_ ?_
   rotate_left
   ·intro w'
    go_simp
    with_reducible rfl
   rotate_left
   ·simp only[Act.put,List.setIfInBounds_toArray,List.set_cons_zero,List.set_cons_succ,i64_w,i32_w]
    rfl
   refine take_ (i:=15) (N:=some 53) (v:= ?_) (a':= ?_) #[true,true,true,true,true,true,true,true,true,true,true,true,true,true,true,true,false,false,true,false,false,false,false,false,false,false,false] rfl rfl (take_ofW HT_.out HW_.out (by kernel_rfl)) (fun _ _ _ h=>h) (Or.inl ⟨by rfl,?_⟩) hHeld ?_ ?_
   rotate_left
   ·rintro w' ⟨s0,s1,s2,s3,s4,s5,s6⟩
    go_simp
    with_reducible rfl
   rotate_left
   ·simp only[Act.put,List.setIfInBounds_toArray,List.set_cons_zero,List.set_cons_succ,i64_w,i32_w]
    rfl
   refine pure_ (i:=16) (N:=some 54) (v:= ?_) (a':= ?_) #[true,true,true,true,true,true,true,true,true,true,true,true,true,true,true,true,true,false,true,false,false,false,false,false,false,false,false] rfl rfl (any_of HT_.out (by kernel_rfl)) (fun _ _ _ h=>h) (Or.inl ⟨by rfl,?_⟩) ?_ ?_
   rotate_left
   ·intro w'
    go_simp
    with_reducible rfl
   rotate_left
   ·simp only[Act.put,List.setIfInBounds_toArray,List.set_cons_zero,List.set_cons_succ,i64_w,i32_w]
    rfl
   refine pure_ (i:=17) (N:=some 55) (v:= ?_) (a':= ?_) #[true,true,true,true,true,true,true,true,true,true,true,true,true,true,true,true,true,true,true,false,false,false,false,false,false,false,false] rfl rfl (any_of HT_.out (by kernel_rfl)) (fun _ _ _ h=>h) (Or.inl ⟨by rfl,?_⟩) ?_ ?_
   rotate_left
   ·intro w'
    go_simp
    with_reducible rfl
   rotate_left
   ·simp only[Act.put,List.setIfInBounds_toArray,List.set_cons_zero,List.set_cons_succ,i64_w,i32_w]
    rfl
   refine take_ (i:=19) (N:=some 57) (v:= ?_) (a':= ?_) #[true,true,true,true,true,true,true,true,true,true,true,true,true,true,true,true,true,true,true,true,false,false,false,false,false,false,false] rfl rfl (take_ofW HT_.out HW_.out (by kernel_rfl)) (fun _ _ _ h=>h) (Or.inl ⟨by rfl,?_⟩) hHeld ?_ ?_
   rotate_left
   ·rintro w' ⟨s0,s1,s2,s3,s4,s5,s6⟩
    go_simp
    with_reducible rfl
   rotate_left
   ·simp only[Act.put,List.setIfInBounds_toArray,List.set_cons_zero,List.set_cons_succ,i64_w,i32_w]
    rfl
   refine pure_ (i:=20) (N:=some 58) (v:= ?_) (a':= ?_) #[true,true,true,true,true,true,true,true,true,true,true,true,true,true,true,true,true,true,true,true,true,false,false,false,false,false,false] rfl rfl (any_of HT_.out (by kernel_rfl)) (fun _ _ _ h=>h) (Or.inl ⟨by rfl,?_⟩) ?_ ?_
   rotate_left
   ·intro w'
    go_simp
    with_reducible rfl
   rotate_left
   ·simp only[Act.put,List.setIfInBounds_toArray,List.set_cons_zero,List.set_cons_succ,i64_w,i32_w]
    rfl
   refine pure_ (i:=21) (N:=some 59) (v:= ?_) (a':= ?_) #[true,true,true,true,true,true,true,true,true,true,true,true,true,true,true,true,true,true,true,true,true,true,false,false,false,false,false] rfl rfl (any_of HT_.out (by kernel_rfl)) (fun _ _ _ h=>h) (Or.inl ⟨by rfl,?_⟩) ?_ ?_
   rotate_left
   ·intro w'
    go_simp
    with_reducible rfl
   rotate_left
   ·simp only[Act.put,List.setIfInBounds_toArray,List.set_cons_zero,List.set_cons_succ,i64_w,i32_w]
    rfl
   refine pure_ (i:=22) (N:=some 60) (v:= ?_) (a':= ?_) #[true,true,true,true,true,true,true,true,true,true,true,true,true,true,true,true,true,true,true,true,true,true,true,false,false,false,false] rfl rfl (any_of HT_.out (by kernel_rfl)) (fun _ _ _ h=>h) (Or.inl ⟨by rfl,?_⟩) ?_ ?_
   rotate_left
   ·intro w'
    go_simp
    with_reducible rfl
   rotate_left
   ·simp only[Act.put,List.setIfInBounds_toArray,List.set_cons_zero,List.set_cons_succ,i64_w,i32_w]
    rfl
   refine one_ (i:=23) (N:=some 61) #[true,true,true,true,true,true,true,true,true,true,true,true,true,true,true,true,true,true,true,true,true,true,true,true,false,false,false] rfl rfl (one_of HT_.out (by kernel_rfl)) (by decide) (fun K hK=> ?_)
   refine value_ (w1:= ?_) (v:= ?_) (by rfl) rfl ?_ ?_
   rotate_left 2
   ·go_simp
    constructor
    ·rfl
    ·rfl
   refine hK.out _ _ ⟨(blk_cell (blk_alloc BK885.out _) 0).trans rfl,(blk_cell (blk_alloc BK885.out _) 1).trans rfl,(blk_cell (blk_alloc BK885.out _) 2).trans rfl,(blk_cell (blk_alloc BK887.out _) 0).trans rfl,(blk_cell (blk_alloc BK887.out _) 1).trans rfl,(blk_cell (blk_alloc BK887.out _) 2).trans rfl,(blk_cell (blk_alloc BK887.out _) 3).trans rfl⟩ (fun hHeld=> ?_)
   clear hK K
   refine norm_ (a':= ?_) ?_ ?_
   rotate_left
   ·show Act.put _ (some 61) _=_
    simp only[Act.put,List.setIfInBounds_toArray,List.set_cons_zero,List.set_cons_succ,i64_w,i32_w]
    rfl
   refine one_ (i:=24) (N:=some 62) #[true,true,true,true,true,true,true,true,true,true,true,true,true,true,true,true,true,true,true,true,true,true,true,true,true,false,false] rfl rfl (one_of HT_.out (by kernel_rfl)) (by decide) (fun K hK=> ?_)
   refine Kd.R_append_step k74 (w0:=w) w.heap.size (by rfl) (.tmp 39) (.tmp 61) 22 74 (.agg #[(.int .i64 0),(.int .i64 0),(.int .i64 0),(.int .i64 0)]) 32 rfl Try.underlying22 info74 rfl (by decide) (by omega) u886002 x886002_1 (⟨Int.tmod (wrap64 ((rd_T135 l0_2 x9_1).f0)) (wrap64 (2+(Int.tmod (wrap64 (a0_0)) 4))),Int.tmod (wrap64 ((rd_T135 l0_2 x9_1).f1)) (wrap64 (2+(Int.tmod (wrap64 (a0_0)) 4))),Int.tmod (wrap64 ((rd_T135 l0_2 x9_1).f2)) 6,Int.tmod (wrap64 ((rd_T135 l0_2 x9_1).f3)) 4⟩:S74) [.int .i64 (Int.tmod (wrap64 ((rd_T135 l0_2 x9_1).f0)) (wrap64 (2+(Int.tmod (wrap64 (a0_0)) 4)))), .int .i64 (Int.tmod (wrap64 ((rd_T135 l0_2 x9_1).f1)) (wrap64 (2+(Int.tmod (wrap64 (a0_0)) 4)))), .int .i64 (Int.tmod (wrap64 ((rd_T135 l0_2 x9_1).f2)) 6), .int .i64 (Int.tmod (wrap64 ((rd_T135 l0_2 x9_1).f3)) 4)] (fun _=>True) (fun _=>False) rfl rfl ?aP (fun _ hk=>hk.elim) ?aF ?aO ?aB ?aS ?aL ?_
   (case aP=>exact k74_mkM _ _ _ (⟨Int.tmod (wrap64 ((rd_T135 l0_2 x9_1).f0)) (wrap64 (2+(Int.tmod (wrap64 (a0_0)) 4))),Int.tmod (wrap64 ((rd_T135 l0_2 x9_1).f1)) (wrap64 (2+(Int.tmod (wrap64 (a0_0)) 4))),Int.tmod (wrap64 ((rd_T135 l0_2 x9_1).f2)) 6,Int.tmod (wrap64 ((rd_T135 l0_2 x9_1).f3)) 4⟩:S74))
   (case aB=>exact(by repeat(first|(with_reducible first|exact HB.out|apply below_alloc|apply pw_below_drewN|apply below_drew1|refine below_set ?_ GE883.out|refine below_set ?_ GE884.out|refine below_set ?_ GE885.out|refine below_set ?_ GE887.out)|exact HB.out)))
   (case aF=>exact(fun _ _=>trivial))
   (case aO=>exact(by(with_reducible repeat(first|apply Kd.R_alloc|apply Kd.R_drewN|apply Kd.R_drew));exact HO_886002.out))
   (case aS=>exact(below_size (by repeat(first|(with_reducible first|exact HB.out|apply below_alloc|apply pw_below_drewN|apply below_drew1|refine below_set ?_ GE883.out|refine below_set ?_ GE884.out|refine below_set ?_ GE885.out|refine below_set ?_ GE887.out)|exact HB.out))))
   (case aL=>have:=LMc15.out;omega)
   intro v889 w26 ho hb hg hat
   rw[← Ny888.out] at ho
   have n0_:=Aside0.mk (blk_grown (g:=gb883) (o:= .cells #[.int .u8 a0_0, .bool a0_1, .slice (some ad886) l0_2.length c0_2, .int .u8 a0_3, .int .u8 a0_4, .int .u8 a0_5] 70 (0,0)) (by(with_reducible repeat(first|refine blk_drewN ?_ _|refine blk_drew ?_|refine blk_alloc ?_ _));exact BK883.out) hg (Kd.R_ne HO_886002.out BK883.out (by decide)))
   have n1_:=Aside0.mk (blk_grown (g:=gb884) (o:= .cells #[.int .i64 0, .bool false, .slice none 0 0] 24 (0,0)) (by(with_reducible repeat(first|refine blk_drewN ?_ _|refine blk_drew ?_|refine blk_alloc ?_ _));exact BK884.out) hg (Kd.R_ne HO_886002.out BK884.out (by decide)))
   have n2_:=Aside0.mk (blk_grown (g:=gb885) (o:= .cells #[.int .i64 (wrap64 (2+(Int.tmod (wrap64 (a0_0)) 4))), .bool a0_1,u886002] 24 (0,0)) (by(with_reducible repeat(first|refine blk_drewN ?_ _|refine blk_drew ?_|refine blk_alloc ?_ _));exact BK885.out) hg (Kd.R_ne HO_886002.out BK885.out (by decide)))
   have n3_:=Aside0.mk (blk_grown (g:=gb887) (o:= .cells #[.int .u8 ((rd_T135 l0_2 x9_1).f0), .int .u8 ((rd_T135 l0_2 x9_1).f1), .int .u8 ((rd_T135 l0_2 x9_1).f2), .int .u8 ((rd_T135 l0_2 x9_1).f3)] 135 (0,0)) (by(with_reducible repeat(first|refine blk_drewN ?_ _|refine blk_drew ?_|refine blk_alloc ?_ _));exact BK887.out) hg (Kd.R_ne HO_886002.out BK887.out (by decide)))
   have n4_:=Aside0.mk (hb)
   have n5_:=Aside0.mk (ho)
   clear BK883
   clear BK884
   clear BK885
   clear BK887
   clear HB
   clear HO_886002
   have BK883:=n0_
   have BK884:=n1_
   have BK885:=n2_
   have BK887:=n3_
   have HB:=n4_
   have HO890:=n5_
   clear n0_ n1_ n2_ n3_ n4_ n5_
   clear ho hb hg hat
   obtain⟨Ao27,co27,eo27⟩:=Kd.R_slice HO890.out
   (first|subst eo27|(injection eo27 with f1_ f2_ f3_;have f4_:=f1_.symm;have f5_:=f3_.symm;clear f1_ f2_ f3_;subst f4_;subst f5_))
   refine hK.out _ _ ⟨(blk_cell BK885.out 0).trans rfl,(blk_cell BK885.out 1).trans rfl,(blk_cell BK885.out 2).trans rfl,(blk_cell BK887.out 0).trans rfl,(blk_cell BK887.out 1).trans rfl,(blk_cell BK887.out 2).trans rfl,(blk_cell BK887.out 3).trans rfl⟩ (fun hHeld=> ?_)
   clear hK K
   refine norm_ (a':= ?_) ?_ ?_
   rotate_left
   ·show Act.put _ (some 62) _=_
    simp only[Act.put,List.setIfInBounds_toArray,List.set_cons_zero,List.set_cons_succ,i64_w,i32_w]
    rfl
   refine pure_ (i:=25) (N:=some 63) (v:= ?_) (a':= ?_) #[true,true,true,true,true,true,true,true,true,true,true,true,true,true,true,true,true,true,true,true,true,true,true,true,true,true,false] rfl rfl (any_of HT_.out (by kernel_rfl)) (fun _ _ _ h=>h) (Or.inl ⟨by rfl,?_⟩) ?_ ?_
   rotate_left
   ·intro w'
    go_simp
    with_reducible rfl
   rotate_left
   ·simp only[Act.put,List.setIfInBounds_toArray,List.set_cons_zero,List.set_cons_succ,i64_w,i32_w]
    rfl
   refine last_ (i:=26) (N:=none) #[true,true,true,true,true,true,true,true,true,true,true,true,true,true,true,true,true,true,true,true,true,true,true,true,true,true,true] rfl rfl (one_of HT_.out (by kernel_rfl)) (by decide) (fun K hK=> ?_)
   have hs28:w26.cell? ⟨gb885,2,none⟩=some (u886002):=(blk_cell BK885.out 2).trans rfl
   have hfs28:=blk_frozen BK885.out 2
   have hns28_0:=NB883_885.out
   have hns28_1:=NB884_885.out
   have hns28_3:=NB887_885.out
   have hms28_0:=NB885_883.out
   have hms28_1:=NB885_884.out
   have hms28_3:=NB885_887.out
   refine skip_ (w1:= ?_) (by rfl) rfl ?_ ?_
   rotate_left
   ·go_simp
    rfl
   refine hK.out _ _ ?_
   clear hK K
   refine done_ (done_of HT_.out (by kernel_rfl)) ?_
   try go_wp2
   go_roundg k1
   case measure=>have:=HK1.out;omega
   case rel=>exact⟨(wrap64 (x9_1+1)),(y888),(.slice Ao27 y888.length co27),(by first|rfl|(simp;done)|(simp[*];done)),H',⟨by have:=HK1.out;omega⟩,⟨by(with_reducible repeat(first|apply Kd.R_alloc|apply Kd.R_drewN|apply Kd.R_drew));exact Kd.R_mono (Kd.R_far (p:=⟨gb885,2,none⟩) (Kd.R_types HO890.out BK885.out (by decide)) (fun _ hk=>hk.2) (.slice Ao27 y888.length co27)) (fun _ hk=>trivial)⟩,⟨by(with_reducible repeat(first|refine blk_drewN ?_ _|refine blk_drew ?_|refine blk_alloc ?_ _));refine blk_far ?_ NB883_885.out _;(with_reducible repeat(first|refine blk_drewN ?_ _|refine blk_drew ?_|refine blk_alloc ?_ _));exact BK883.out⟩,⟨by(with_reducible repeat(first|refine blk_drewN ?_ _|refine blk_drew ?_|refine blk_alloc ?_ _));refine blk_far ?_ NB884_885.out _;(with_reducible repeat(first|refine blk_drewN ?_ _|refine blk_drew ?_|refine blk_alloc ?_ _));exact BK884.out⟩,⟨by(with_reducible repeat(first|refine blk_drewN ?_ _|refine blk_drew ?_|refine blk_alloc ?_ _));refine blk_put (cs:= #[.int .i64 (wrap64 (2+(Int.tmod (wrap64 (a0_0)) 4))), .bool a0_1,u886002]) ?_ 2 _ rfl;(with_reducible repeat(first|refine blk_drewN ?_ _|refine blk_drew ?_|refine blk_alloc ?_ _));exact BK885.out⟩,⟨by repeat(first|(with_reducible first|exact HB.out|apply below_alloc|apply pw_below_drewN|apply below_drew1|refine below_set ?_ GE883.out|refine below_set ?_ GE884.out|refine below_set ?_ GE885.out|refine below_set ?_ GE887.out)|exact HB.out)⟩⟩
end Go.Proofs.Ytkcpanpdipmmmaa.P
namespace Go.Proofs.Ytkcpanpdipmmmaa.P
open Go.RowKit Go.Proofs.YtkcpanpdipmmmaaW.PrintWords Go.Proofs.YtkcpanpdipmmmaaW.PrintLast Go.Proofs.YtkcpanpdipmmmaaW.PrintMore
attribute [local go_sem] max2_int min2_int max_two min_two max_three min_three max_four min_four
def ebbtidelaw12_SpanShort.l0:Nat→Bool→Int→Int→Int→Int→Int→List (S74)→Int→Int→Bool→List (S74)→Option (Bool)
 |0,_,_,_,_,_,_,_,_,_,_,_=>none
 |k+1,x3,x5,x6,x7,x8,x9,x10,x11,x902000,x902001,x902002=>if x11<(x902002.length:Int) then(if 0≤x11 then(if ((rd_T74 x902002 x11).f3)≤x7 then(if x10.length<4398046511104 then(ebbtidelaw12_SpanShort.l0 k x3 x5 x6 x7 x8 x9 (x10 ++ [(⟨(rd_T74 x902002 x11).f0,(rd_T74 x902002 x11).f1,(rd_T74 x902002 x11).f2,(rd_T74 x902002 x11).f3⟩:S74)]) (wrap64 (x11+1)) x902000 x902001 x902002) else(none)) else(ebbtidelaw12_SpanShort.l0 k x3 x5 x6 x7 x8 x9 x10 (wrap64 (x11+1)) x902000 x902001 x902002)) else(none)) else((span_Most.f k x902000 x902001 x10 x5 x6 x7).bind fun bt909=>(if x3=true then(if x9=0 then(if bt909.2=0 then(some (x8 == bt909.1)) else(some false)) else(some false)) else(some false)))
def ebbtidelaw12_SpanShort.f (k:Nat) (a0_0:Int) (a0_1:Bool) (l0_2:List (S135)) (a0_3:Int) (a0_4:Int) (a0_5:Int):Option (Bool):=(ebbtidelaw12_awake.f k).bind fun t892=>(if t892=true then((ebbtidelaw12_Read.f k a0_0 a0_1 l0_2 a0_3 a0_4 a0_5 10).bind fun bt893=>((span_Most.f k bt893.1 bt893.2.1 bt893.2.2.1 bt893.2.2.2.1 bt893.2.2.2.2.1 bt893.2.2.2.2.2).bind fun bt902=>(ebbtidelaw12_SpanShort.l0 k t892 bt893.2.2.2.1 bt893.2.2.2.2.1 bt893.2.2.2.2.2 bt902.1 bt902.2 ([]:List (S74)) 0 bt893.1 bt893.2.1 bt893.2.2.1))) else(some false))
set_option maxHeartbeats 8000000 in
set_option maxRecDepth 100000 in
theorem ebbtidelaw12_SpanShort.calls (k:Nat) (a0_0:Int) (a0_1:Bool) (A0_2:Option Addr) (c0_2:Nat) (l0_2:List (S135)) (a0_3:Int) (a0_4:Int) (a0_5:Int) (r:Bool) (w:World) (hr0_2:Kd.C k135 w A0_2 l0_2.length l0_2) (hc0_2:l0_2.length≤c0_2) (h:ebbtidelaw12_SpanShort.f k a0_0 a0_1 l0_2 a0_3 a0_4 a0_5=some r) (hrT_:r=true:=by first|rfl|exact Aside0.out (by assumption)):
  Calls Try.prog 18 #[.agg #[.int .u8 a0_0, .bool a0_1, .slice A0_2 l0_2.length c0_2, .int .u8 a0_3, .int .u8 a0_4, .int .u8 a0_5]] w fun e w'=>e= .returned (.bool r)∧Below w.heap.size w w':=by
 have HRT:=Aside0.mk hrT_
 clear hrT_
 have hu70:=Try.underlying70
 have hu24:=Try.underlying24
 have hu74:=Try.underlying74
 have HR0_2:=Aside0.mk hr0_2
 have HC0_2:=Aside0.mk hc0_2
 clear hr0_2 hc0_2
 have HB:=Aside0.mk (Below.refl w.heap.size w)
 have H:((ebbtidelaw12_awake.f k).bind fun t892=>(if t892=true then((ebbtidelaw12_Read.f k a0_0 a0_1 l0_2 a0_3 a0_4 a0_5 10).bind fun bt893=>((span_Most.f k bt893.1 bt893.2.1 bt893.2.2.1 bt893.2.2.2.1 bt893.2.2.2.2.1 bt893.2.2.2.2.2).bind fun bt902=>(ebbtidelaw12_SpanShort.l0 k t892 bt893.2.2.2.1 bt893.2.2.2.2.1 bt893.2.2.2.2.2 bt902.1 bt902.2 ([]:List (S74)) 0 bt893.1 bt893.2.1 bt893.2.2.1))) else(some false)))=some r:=h
 clear h
 replace H:=Option.bind_eq_some_iff.mp H
 obtain⟨t892,A20,H⟩:=H
 replace H:(if t892=true then((ebbtidelaw12_Read.f k a0_0 a0_1 l0_2 a0_3 a0_4 a0_5 10).bind fun bt893=>((span_Most.f k bt893.1 bt893.2.1 bt893.2.2.1 bt893.2.2.2.1 bt893.2.2.2.2.1 bt893.2.2.2.2.2).bind fun bt902=>(ebbtidelaw12_SpanShort.l0 k t892 bt893.2.2.2.1 bt893.2.2.2.2.1 bt893.2.2.2.2.2 bt902.1 bt902.2 ([]:List (S74)) 0 bt893.1 bt893.2.1 bt893.2.2.1))) else(some false))=some r:=H
 have A2:=Aside0.mk A20
 clear A20
 by_cases c3:t892=true
 rotate_left
 ·replace c3:=Bool.eq_false_iff.mpr c3
  subst c3
  have H1:(some false)=some r:=by rw[if_neg (show ¬ (false=true) by decide)] at H;exact H
  exact absurd (Option.some.inj H1) (by rw[HRT.out];decide)
 subst c3
 have H1:((ebbtidelaw12_Read.f k a0_0 a0_1 l0_2 a0_3 a0_4 a0_5 10).bind fun bt893=>((span_Most.f k bt893.1 bt893.2.1 bt893.2.2.1 bt893.2.2.2.1 bt893.2.2.2.2.1 bt893.2.2.2.2.2).bind fun bt902=>(ebbtidelaw12_SpanShort.l0 k true bt893.2.2.2.1 bt893.2.2.2.2.1 bt893.2.2.2.2.2 bt902.1 bt902.2 ([]:List (S74)) 0 bt893.1 bt893.2.1 bt893.2.2.1)))=some r:=by first|(rw[if_pos rfl] at H;exact H)|(rw[if_pos trivial] at H;exact H)
 clear H
 have H:=H1
 clear H1
 replace H:=Option.bind_eq_some_iff.mp H
 obtain⟨⟨t893,t894,t895,t898,t899,t900⟩,A40,H⟩:=H
 replace H:((span_Most.f k t893 t894 t895 t898 t899 t900).bind fun bt902=>(ebbtidelaw12_SpanShort.l0 k true t898 t899 t900 bt902.1 bt902.2 ([]:List (S74)) 0 t893 t894 t895))=some r:=H
 have A4:=Aside0.mk A40
 clear A40
 replace H:=Option.bind_eq_some_iff.mp H
 obtain⟨⟨t902,t903⟩,A50,H⟩:=H
 replace H:(ebbtidelaw12_SpanShort.l0 k true t898 t899 t900 t902 t903 ([]:List (S74)) 0 t893 t894 t895)=some r:=H
 have A5:=Aside0.mk A50
 clear A50
 have H':=Aside0.mk H
 clear H
 go_enter Try.func18,Try.ntmps18
 go_wp2_with (first|((with_reducible refine gate_dst (N:=1) rfl ?_);refine box_event ?hg (N:=1) ?hd (cs:= #[.int .u8 a0_0, .bool a0_1, .slice A0_2 l0_2.length c0_2, .int .u8 a0_3, .int .u8 a0_4, .int .u8 a0_5]) (t:=70) ?hr ?_;(case hd=>rfl);(case hg=>rfl);(case hr=>first|(go_simp;done)|(go_simp;rfl));intro gb891 hg w6 hbox hb;have n0_:=Aside0.mk (below_step (by repeat(first|(with_reducible first|exact HB.out|apply below_alloc|apply pw_below_drewN|apply below_drew1)|exact HB.out)) hb);have n1_:=Aside0.mk (hbox);have n2_:=Aside0.mk ((by rw[hg];exact(below_size (by repeat(first|(with_reducible first|exact HB.out|apply below_alloc|apply pw_below_drewN|apply below_drew1)|exact HB.out))):w.heap.size≤gb891));have n3_:=Aside0.mk ((by rw[hg];exact(below_size (by repeat(first|(with_reducible first|exact HB.out|apply below_alloc|apply pw_below_drewN|apply below_drew1)|exact HB.out))):w.heap.size≤gb891));clear HB;have HB:=n0_;have BK891:=n1_;have GW891:=n2_;have GE891:=n3_;clear n0_ n1_ n2_ n3_;clear hb hbox hg)|((with_reducible refine gate_callee (f:=65) rfl ?_);refine goesL_ (some 14) rfl rfl Try.func65 (by kernel_rfl) rfl #[] rfl (by(try simp only[List.map_toArray,List.map_cons,List.map_nil]);first|done|rfl|(simp only[List.length_drop,List.length_take];rfl)) ?_;(with_reducible refine(ebbtidelaw12_awake.calls k  true _ A2.out).mono ?_);rintro e w7 ⟨rfl,hb⟩;refine⟨_,rfl,?_⟩;have n0_:=Aside0.mk (blk_below (g:=gb891) (o:= .cells #[.int .u8 a0_0, .bool a0_1, .slice A0_2 l0_2.length c0_2, .int .u8 a0_3, .int .u8 a0_4, .int .u8 a0_5] 70 (0,0)) (by(with_reducible repeat(first|refine blk_drewN ?_ _|refine blk_drew ?_|refine blk_alloc ?_ _));exact BK891.out) hb);have n1_:=Aside0.mk (below_step (by repeat(first|(with_reducible first|exact HB.out|apply below_alloc|apply pw_below_drewN|apply below_drew1|refine below_set ?_ GE891.out)|exact HB.out)) hb);clear BK891;clear HB;have BK891:=n0_;have HB:=n1_;clear n0_ n1_;(try clear hb);(try clear hb2);(try clear hk);(try clear hi);have hcz8_0:w7.cell? ⟨gb891,0,none⟩=some (.int .u8 a0_0):=(blk_cell BK891.out 0).trans rfl;have hcz8_1:w7.cell? ⟨gb891,1,none⟩=some (.bool a0_1):=(blk_cell BK891.out 1).trans rfl;have hcz8_2:w7.cell? ⟨gb891,2,none⟩=some (.slice A0_2 l0_2.length c0_2):=(blk_cell BK891.out 2).trans rfl;have hcz8_3:w7.cell? ⟨gb891,3,none⟩=some (.int .u8 a0_3):=(blk_cell BK891.out 3).trans rfl;have hcz8_4:w7.cell? ⟨gb891,4,none⟩=some (.int .u8 a0_4):=(blk_cell BK891.out 4).trans rfl;have hcz8_5:w7.cell? ⟨gb891,5,none⟩=some (.int .u8 a0_5):=(blk_cell BK891.out 5).trans rfl;have hfz8_0:=blk_frozen BK891.out 0;have hfz8_1:=blk_frozen BK891.out 1;have hfz8_2:=blk_frozen BK891.out 2;have hfz8_3:=blk_frozen BK891.out 3;have hfz8_4:=blk_frozen BK891.out 4;have hfz8_5:=blk_frozen BK891.out 5)|((with_reducible refine gate_callee (f:=72) rfl ?_);refine goesL_ (some 19) rfl rfl Try.func72 (by kernel_rfl) rfl #[.agg #[.int .u8 a0_0, .bool a0_1, .slice A0_2 l0_2.length c0_2, .int .u8 a0_3, .int .u8 a0_4, .int .u8 a0_5], .int .i64 10] rfl (by(try simp only[List.map_toArray,List.map_cons,List.map_nil]);first|done|rfl|(simp only[List.length_drop,List.length_take];rfl)) ?_;(with_reducible refine(ebbtidelaw12_Read.calls k a0_0 a0_1 _ _ l0_2 a0_3 a0_4 a0_5 10 t893 t894 t895 t898 t899 t900 _ ?side1 ?side2 A4.out).mono ?_);(case side1=>repeat(first|exact(Kd.C_below HR0_2.out HB.out)|(with_reducible refine Kd.C_alloc ?_ _)|(with_reducible refine Kd.C_drewN ?_ _)|(with_reducible refine Kd.C_drew ?_)));(case side2=>exact HC0_2.out);rintro e w9 ⟨v896,rfl,ho0,hb⟩;refine⟨_,rfl,?_⟩;have n0_:=Aside0.mk (Kd.R_lower ho0 (below_size (by repeat(first|(with_reducible first|exact HB.out|apply below_alloc|apply pw_below_drewN|apply below_drew1|refine below_set ?_ GE891.out)|exact HB.out))));have n1_:=Aside0.mk (blk_below (g:=gb891) (o:= .cells #[.int .u8 a0_0, .bool a0_1, .slice A0_2 l0_2.length c0_2, .int .u8 a0_3, .int .u8 a0_4, .int .u8 a0_5] 70 (0,0)) (by(with_reducible repeat(first|refine blk_drewN ?_ _|refine blk_drew ?_|refine blk_alloc ?_ _));exact BK891.out) hb);have n2_:=Aside0.mk (below_step (by repeat(first|(with_reducible first|exact HB.out|apply below_alloc|apply pw_below_drewN|apply below_drew1|refine below_set ?_ GE891.out)|exact HB.out)) hb);clear BK891;clear HB;have HO897:=n0_;have BK891:=n1_;have HB:=n2_;clear n0_ n1_ n2_;(try clear hb);(try clear hb2);(try clear hk);(try clear hi);(try clear ho0))|((with_reducible refine gate_dst (N:=4) rfl ?_);refine box_event ?hg (N:=4) ?hd (cs:= #[.int .i64 0, .bool false, .slice none 0 0]) (t:=24) ?hr ?_;(case hd=>rfl);(case hg=>rfl);(case hr=>first|(go_simp;done)|(go_simp;rfl));intro gb901 hg w10 hbox hb;have n0_:=Aside0.mk (Kd.R_below (by(with_reducible repeat(first|apply Kd.R_alloc|apply Kd.R_drewN|apply Kd.R_drew));exact HO897.out) hb);have n1_:=Aside0.mk (blk_below (g:=gb891) (o:= .cells #[.int .u8 a0_0, .bool a0_1, .slice A0_2 l0_2.length c0_2, .int .u8 a0_3, .int .u8 a0_4, .int .u8 a0_5] 70 (0,0)) (by(with_reducible repeat(first|refine blk_drewN ?_ _|refine blk_drew ?_|refine blk_alloc ?_ _));exact BK891.out) hb);have n2_:=Aside0.mk (below_step (by repeat(first|(with_reducible first|exact HB.out|apply below_alloc|apply pw_below_drewN|apply below_drew1|refine below_set ?_ GE891.out)|exact HB.out)) hb);have n3_:=Aside0.mk (hbox);have n4_:=Aside0.mk ((by rw[hg];exact(below_size (by repeat(first|(with_reducible first|exact HB.out|apply below_alloc|apply pw_below_drewN|apply below_drew1|refine below_set ?_ GE891.out)|exact HB.out))):w.heap.size≤gb901));have n5_:=Aside0.mk ((by rw[hg];exact(below_size (by repeat(first|(with_reducible first|exact HB.out|apply below_alloc|apply pw_below_drewN|apply below_drew1|refine below_set ?_ GE891.out)|exact HB.out))):w.heap.size≤gb901));have n6_:=Aside0.mk ((by rw[hg];exact Nat.ne_of_lt (blk_lt (g:=gb891) (o:= .cells #[.int .u8 a0_0, .bool a0_1, .slice A0_2 l0_2.length c0_2, .int .u8 a0_3, .int .u8 a0_4, .int .u8 a0_5] 70 (0,0)) (by(with_reducible repeat(first|refine blk_drewN ?_ _|refine blk_drew ?_|refine blk_alloc ?_ _));exact BK891.out)):gb891≠gb901));have n7_:=Aside0.mk ((by rw[hg];exact Nat.ne_of_gt (blk_lt (g:=gb891) (o:= .cells #[.int .u8 a0_0, .bool a0_1, .slice A0_2 l0_2.length c0_2, .int .u8 a0_3, .int .u8 a0_4, .int .u8 a0_5] 70 (0,0)) (by(with_reducible repeat(first|refine blk_drewN ?_ _|refine blk_drew ?_|refine blk_alloc ?_ _));exact BK891.out)):gb901≠gb891));clear HO897;clear BK891;clear HB;have HO897:=n0_;have BK891:=n1_;have HB:=n2_;have BK901:=n3_;have GW901:=n4_;have GE901:=n5_;have NB891_901:=n6_;have NB901_891:=n7_;clear n0_ n1_ n2_ n3_ n4_ n5_ n6_ n7_;clear hb hbox hg;have hnb11:=NB901_891.out;have hnc11:=NB891_901.out;have hcz12_0:w10.cell? ⟨gb901,0,none⟩=some (.int .i64 0):=(blk_cell BK901.out 0).trans rfl;have hcz12_1:w10.cell? ⟨gb901,1,none⟩=some (.bool false):=(blk_cell BK901.out 1).trans rfl;have hcz12_2:w10.cell? ⟨gb901,2,none⟩=some (.slice none 0 0):=(blk_cell BK901.out 2).trans rfl;have hfz12_0:=blk_frozen BK901.out 0;have hfz12_1:=blk_frozen BK901.out 1;have hfz12_2:=blk_frozen BK901.out 2;obtain⟨Ao13,co13,eo13⟩:=Kd.R_slice HO897.out;subst eo13)|((with_reducible refine gate_callee (f:=67) rfl ?_);refine goesL_ (some 29) rfl rfl Try.func67 (by kernel_rfl) rfl #[.agg #[.int .i64 t893, .bool t894, .slice Ao13 t895.length co13], .int .i64 t898, .int .i64 t899, .int .i64 t900] rfl (by(try simp only[List.map_toArray,List.map_cons,List.map_nil]);first|done|rfl|(simp only[List.length_drop,List.length_take];rfl)) ?_;(with_reducible refine(span_Most.calls k t893 t894 _ _ t895 t898 t899 t900 t902 t903 _ ?side1 ?side2 A5.out).mono ?_);(case side1=>refine(Kd.R_reads' (e:=74) (base:=w.heap.size) (ok:=fun k_=>True) (n:=t895.length) (c:=co13) ?_).2.2;exact(by(with_reducible repeat(first|apply Kd.R_alloc|apply Kd.R_drewN|apply Kd.R_drew));exact(Kd.R_mono (Kd.R_far (p:=⟨gb901,2,none⟩) (Kd.R_far (p:=⟨gb901,1,none⟩) (Kd.R_far (p:=⟨gb901,0,none⟩) (Kd.R_types HO897.out BK901.out (by decide)) (fun _ hk=>hk.2) (.int .i64 t893)) (fun _ hk=>hk.2) (.bool t894)) (fun _ hk=>hk.2) (.slice Ao13 t895.length co13)) (fun _ h_=>h_.1))));(case side2=>exact(Kd.R_reads' HO897.out).2.1);rintro e w14 ⟨rfl,hb⟩;refine⟨_,rfl,?_⟩;have n0_:=Aside0.mk (Kd.R_below (by(with_reducible repeat(first|apply Kd.R_alloc|apply Kd.R_drewN|apply Kd.R_drew));exact(Kd.R_mono (Kd.R_far (p:=⟨gb901,2,none⟩) (Kd.R_far (p:=⟨gb901,1,none⟩) (Kd.R_far (p:=⟨gb901,0,none⟩) (Kd.R_types HO897.out BK901.out (by decide)) (fun _ hk=>hk.2) (.int .i64 t893)) (fun _ hk=>hk.2) (.bool t894)) (fun _ hk=>hk.2) (.slice Ao13 t895.length co13)) (fun _ h_=>h_.1))) hb);have n1_:=Aside0.mk (blk_below (g:=gb891) (o:= .cells #[.int .u8 a0_0, .bool a0_1, .slice A0_2 l0_2.length c0_2, .int .u8 a0_3, .int .u8 a0_4, .int .u8 a0_5] 70 (0,0)) (by(with_reducible repeat(first|refine blk_drewN ?_ _|refine blk_drew ?_|refine blk_alloc ?_ _));refine blk_far ?_ NB891_901.out _;(with_reducible repeat(first|refine blk_drewN ?_ _|refine blk_drew ?_|refine blk_alloc ?_ _));refine blk_far ?_ NB891_901.out _;(with_reducible repeat(first|refine blk_drewN ?_ _|refine blk_drew ?_|refine blk_alloc ?_ _));refine blk_far ?_ NB891_901.out _;(with_reducible repeat(first|refine blk_drewN ?_ _|refine blk_drew ?_|refine blk_alloc ?_ _));exact BK891.out) hb);have n2_:=Aside0.mk (blk_below (g:=gb901) (o:= .cells #[.int .i64 t893, .bool t894, .slice Ao13 t895.length co13] 24 (0,0)) (by(with_reducible repeat(first|refine blk_drewN ?_ _|refine blk_drew ?_|refine blk_alloc ?_ _));refine blk_put (cs:= #[.int .i64 t893, .bool t894, .slice none 0 0]) ?_ 2 _ rfl;(with_reducible repeat(first|refine blk_drewN ?_ _|refine blk_drew ?_|refine blk_alloc ?_ _));refine blk_put (cs:= #[.int .i64 t893, .bool false, .slice none 0 0]) ?_ 1 _ rfl;(with_reducible repeat(first|refine blk_drewN ?_ _|refine blk_drew ?_|refine blk_alloc ?_ _));refine blk_put (cs:= #[.int .i64 0, .bool false, .slice none 0 0]) ?_ 0 _ rfl;(with_reducible repeat(first|refine blk_drewN ?_ _|refine blk_drew ?_|refine blk_alloc ?_ _));exact BK901.out) hb);have n3_:=Aside0.mk (below_step (by repeat(first|(with_reducible first|exact HB.out|apply below_alloc|apply pw_below_drewN|apply below_drew1|refine below_set ?_ GE891.out|refine below_set ?_ GE901.out)|exact HB.out)) hb);clear HO897;clear BK891;clear BK901;clear HB;have HO897:=n0_;have BK891:=n1_;have BK901:=n2_;have HB:=n3_;clear n0_ n1_ n2_ n3_;(try clear hb);(try clear hb2);(try clear hk);(try clear hi)))
 go_loopg [10,11] k (fun kq v10 v11 w'=> ∃ (x10_1:List (S74)) (x11_1:Int),v11= .int .i64 x11_1∧Aside0 (ebbtidelaw12_SpanShort.l0 kq true t898 t899 t900 t902 t903 x10_1 x11_1 t893 t894 t895=some r)∧Aside0 (kq≤k)∧Aside0 (Kd.R k74 74 w' w.heap.size (fun k_=>some k_≠((.slice Ao13 t895.length co13):Value).ownBlock) v10 x10_1)∧Aside0 (Kd.R k74 74 w' w.heap.size (fun k_=>some k_≠(v10:Value).ownBlock) (.slice Ao13 t895.length co13) t895)∧Aside0 (w'.heap[gb891]? =some (.cells #[.int .u8 a0_0, .bool a0_1,(.slice A0_2 l0_2.length c0_2), .int .u8 a0_3, .int .u8 a0_4, .int .u8 a0_5] 70 (0,0)))∧Aside0 (w'.heap[gb901]? =some (.cells #[.int .i64 t893, .bool t894,(.slice Ao13 t895.length co13)] 24 (0,0)))∧Aside0 (Below w.heap.size w w'))
 case atStart=>exact⟨(([]:List (S74))),(0),(by first|rfl|(simp;done)|(simp[*];done)),H',⟨Nat.le_refl _⟩,⟨by first|exact Kd.R_nil _ _ _ _ _|exact Kd.N_nil _ _ _ _ _|exact Kd.V_nil _ _ _ _ _|exact Kd.Q_nil _ _ _ _ _|exact Kd.S_nil _ _ _ _ _⟩,⟨by(with_reducible repeat(first|apply Kd.R_alloc|apply Kd.R_drewN|apply Kd.R_drew));exact Kd.R_mono HO897.out (fun _ hk=>(by simp[Value.ownBlock]))⟩,⟨by(with_reducible repeat(first|refine blk_drewN ?_ _|refine blk_drew ?_|refine blk_alloc ?_ _));exact BK891.out⟩,⟨by(with_reducible repeat(first|refine blk_drewN ?_ _|refine blk_drew ?_|refine blk_alloc ?_ _));exact BK901.out⟩,⟨by repeat(first|(with_reducible first|exact HB.out|apply below_alloc|apply pw_below_drewN|apply below_drew1|refine below_set ?_ GE891.out|refine below_set ?_ GE901.out)|exact HB.out)⟩⟩
 case round=>
  clear H'
  try clear c1
  try clear p2
  try clear c3
  try clear c6
  try clear c7
  try clear c11
  try clear hcz12_0
  try clear hcz12_1
  try clear hcz12_2
  try clear hcz8_0
  try clear hcz8_1
  try clear hcz8_2
  try clear hcz8_3
  try clear hcz8_4
  try clear hcz8_5
  try clear hfz12_0
  try clear hfz12_1
  try clear hfz12_2
  try clear hfz8_0
  try clear hfz8_1
  try clear hfz8_2
  try clear hfz8_3
  try clear hfz8_4
  try clear hfz8_5
  obtain⟨x10_1,x11_1,rfl,HA,HK1,HO_10,HO_902002,BK891,BK901,HB⟩:=hrel
  cases gk with
  |zero=>exact absurd HA.out (by simp[ebbtidelaw12_SpanShort.l0])
  |succ k1=>
   have H:=HA.out
   clear HA
   simp only[ebbtidelaw12_SpanShort.l0] at H
   by_cases c15:x11_1<(t895.length:Int)
   rotate_left
   ·rw[if_neg c15] at H
    have c15b0:decide (x11_1<(t895.length:Int))=false:=decide_eq_false c15
    clear c15
    replace H:=Option.bind_eq_some_iff.mp H
    obtain⟨⟨t909,t910⟩,A240,H⟩:=H
    replace H:(if true=true then(if t903=0 then(if t910=0 then(some (t902 == t909)) else(some false)) else(some false)) else(some false))=some r:=H
    have A24:=Aside0.mk A240
    clear A240
    by_cases c25:true=true
    rotate_left
    ·exact absurd rfl c25
    clear c25
    have H1:(if t903=0 then(if t910=0 then(some (t902 == t909)) else(some false)) else(some false))=some r:=by first|(rw[if_pos rfl] at H;exact H)|(rw[if_pos trivial] at H;exact H)
    clear H
    have H:=H1
    clear H1
    by_cases c26:t903=0
    rotate_left
    ·rw[if_neg c26] at H
     exact absurd (Option.some.inj H) (by rw[HRT.out];decide)
    rw[if_pos c26] at H
    have c26b0:(t903 == 0)=true:=beq_iff_eq.mpr c26
    have c26b1:(t903 != 0)=false:=bne_eq_false_iff_eq.mpr c26
    clear c26
    by_cases c27:t910=0
    rotate_left
    ·rw[if_neg c27] at H
     exact absurd (Option.some.inj H) (by rw[HRT.out];decide)
    rw[if_pos c27] at H
    have c27b0:(t910 == 0)=true:=beq_iff_eq.mpr c27
    have c27b1:(t910 != 0)=false:=bne_eq_false_iff_eq.mpr c27
    clear c27
    obtain rfl:=Option.some.inj H
    have hnb28:=NB901_891.out
    have hnc28:=NB891_901.out
    have hcz29_0:wr.cell? ⟨gb901,0,none⟩=some (.int .i64 t893):=(blk_cell BK901.out 0).trans rfl
    have hcz29_1:wr.cell? ⟨gb901,1,none⟩=some (.bool t894):=(blk_cell BK901.out 1).trans rfl
    have hcz29_2:wr.cell? ⟨gb901,2,none⟩=some (.slice Ao13 t895.length co13):=(blk_cell BK901.out 2).trans rfl
    have hfz29_0:=blk_frozen BK901.out 0
    have hfz29_1:=blk_frozen BK901.out 1
    have hfz29_2:=blk_frozen BK901.out 2
    obtain⟨Ao30,co30,eo30⟩:=Kd.R_slice HO_10.out
    subst eo30
    go_wp2_with (first|((with_reducible refine gate_callee (f:=67) rfl ?_);refine goesL_ (some 62) rfl rfl Try.func67 (by kernel_rfl) rfl #[.agg #[.int .i64 t893, .bool t894, .slice Ao30 x10_1.length co30], .int .i64 t898, .int .i64 t899, .int .i64 t900] rfl (by(try simp only[List.map_toArray,List.map_cons,List.map_nil]);first|done|rfl|(simp only[List.length_drop,List.length_take];rfl)) ?_;(with_reducible refine(span_Most.calls k1 t893 t894 _ _ x10_1 t898 t899 t900 t909 t910 _ ?side1 ?side2 A24.out).mono ?_);(case side1=>refine(Kd.R_reads' (e:=74) (base:=w.heap.size) (ok:=fun k_=>some k_≠(.slice Ao13 t895.length co13:Value).ownBlock) (n:=x10_1.length) (c:=co30) ?_).2.2;exact(by(with_reducible repeat(first|apply Kd.R_alloc|apply Kd.R_drewN|apply Kd.R_drew));exact(Kd.R_mono (Kd.R_far (p:=⟨gb901,2,none⟩) (Kd.R_types HO_10.out BK901.out (by decide)) (fun _ hk=>hk.2) (.slice Ao30 x10_1.length co30)) (fun _ h_=>h_.1))));(case side2=>exact(Kd.R_reads' HO_10.out).2.1);rintro e w31 ⟨rfl,hb⟩;refine⟨_,rfl,?_⟩;have n0_:=Aside0.mk (Kd.R_below (by(with_reducible repeat(first|apply Kd.R_alloc|apply Kd.R_drewN|apply Kd.R_drew));exact(Kd.R_mono (Kd.R_far (p:=⟨gb901,2,none⟩) (Kd.R_types HO_10.out BK901.out (by decide)) (fun _ hk=>hk.2) (.slice Ao30 x10_1.length co30)) (fun _ h_=>h_.1))) hb);have n1_:=Aside0.mk (Kd.R_below (by(with_reducible repeat(first|apply Kd.R_alloc|apply Kd.R_drewN|apply Kd.R_drew));exact(Kd.R_mono (Kd.R_far (p:=⟨gb901,2,none⟩) (Kd.R_types HO_902002.out BK901.out (by decide)) (fun _ hk=>hk.2) (.slice Ao30 x10_1.length co30)) (fun _ h_=>h_.1))) hb);have n2_:=Aside0.mk (blk_below (g:=gb891) (o:= .cells #[.int .u8 a0_0, .bool a0_1, .slice A0_2 l0_2.length c0_2, .int .u8 a0_3, .int .u8 a0_4, .int .u8 a0_5] 70 (0,0)) (by(with_reducible repeat(first|refine blk_drewN ?_ _|refine blk_drew ?_|refine blk_alloc ?_ _));refine blk_far ?_ NB891_901.out _;(with_reducible repeat(first|refine blk_drewN ?_ _|refine blk_drew ?_|refine blk_alloc ?_ _));exact BK891.out) hb);have n3_:=Aside0.mk (blk_below (g:=gb901) (o:= .cells #[.int .i64 t893, .bool t894, .slice Ao30 x10_1.length co30] 24 (0,0)) (by(with_reducible repeat(first|refine blk_drewN ?_ _|refine blk_drew ?_|refine blk_alloc ?_ _));refine blk_put (cs:= #[.int .i64 t893, .bool t894, .slice Ao13 t895.length co13]) ?_ 2 _ rfl;(with_reducible repeat(first|refine blk_drewN ?_ _|refine blk_drew ?_|refine blk_alloc ?_ _));exact BK901.out) hb);have n4_:=Aside0.mk (below_step (by repeat(first|(with_reducible first|exact HB.out|apply below_alloc|apply pw_below_drewN|apply below_drew1|refine below_set ?_ GE891.out|refine below_set ?_ GE901.out)|exact HB.out)) hb);clear HO_10;clear HO_902002;clear BK891;clear BK901;clear HB;have HO_10:=n0_;have HO_902002:=n1_;have BK891:=n2_;have BK901:=n3_;have HB:=n4_;clear n0_ n1_ n2_ n3_ n4_;(try clear hb);(try clear hb2);(try clear hk);(try clear hi)))
    go_ret
    exact⟨by first|rfl|(simp[errW_none,errW_some]<;>rfl)|(simp[*,errW_none,errW_some]<;>rfl),by repeat(first|(with_reducible first|exact HB.out|apply below_alloc|apply pw_below_drewN|apply below_drew1|refine below_set ?_ GE891.out|refine below_set ?_ GE901.out)|exact HB.out)⟩
   rw[if_pos c15] at H
   have c15b0:decide (x11_1<(t895.length:Int))=true:=decide_eq_true c15
   clear c15
   by_cases c16:0≤x11_1
   rotate_left
   ·rw[if_neg c16] at H
    exact absurd H (by simp)
   rw[if_pos c16] at H
   have c16b0:decide (0≤x11_1)=true:=decide_eq_true c16
   clear c16
   by_cases c17:((rd_T74 t895 x11_1).f3)≤t900
   rotate_left
   ·rw[if_neg c17] at H
    have c17b0:decide (((rd_T74 t895 x11_1).f3)≤t900)=false:=decide_eq_false c17
    clear c17
    have H':=Aside0.mk H
    clear H
    have hnb22:=NB901_891.out
    have hnc22:=NB891_901.out
    have hcz23_0:wr.cell? ⟨gb901,0,none⟩=some (.int .i64 t893):=(blk_cell BK901.out 0).trans rfl
    have hcz23_1:wr.cell? ⟨gb901,1,none⟩=some (.bool t894):=(blk_cell BK901.out 1).trans rfl
    have hcz23_2:wr.cell? ⟨gb901,2,none⟩=some (.slice Ao13 t895.length co13):=(blk_cell BK901.out 2).trans rfl
    have hfz23_0:=blk_frozen BK901.out 0
    have hfz23_1:=blk_frozen BK901.out 1
    have hfz23_2:=blk_frozen BK901.out 2
    have p904:0≤(x11_1:Int):=of_decide_eq_true (by first|(with_reducible assumption)|assumption)
    have q904:x11_1<(t895.length:Int):=of_decide_eq_true (by first|(with_reducible assumption)|assumption)
    obtain⟨ad904,e904,hx904_0,hx904_1,hx904_2,hx904_3⟩:=at_T74 (Kd.R_reads' HO_902002.out).2.2 x11_1 p904 q904
    cases e904
    replace p904:=eq_true p904
    replace q904:=eq_true q904
    go_wp2
    go_roundg k1
    case measure=>have:=HK1.out;omega
    case rel=>exact⟨(x10_1),(wrap64 (x11_1+1)),(by first|rfl|(simp;done)|(simp[*];done)),H',⟨by have:=HK1.out;omega⟩,⟨by(with_reducible repeat(first|apply Kd.R_alloc|apply Kd.R_drewN|apply Kd.R_drew));exact HO_10.out⟩,⟨by(with_reducible repeat(first|apply Kd.R_alloc|apply Kd.R_drewN|apply Kd.R_drew));exact HO_902002.out⟩,⟨by(with_reducible repeat(first|refine blk_drewN ?_ _|refine blk_drew ?_|refine blk_alloc ?_ _));exact BK891.out⟩,⟨by(with_reducible repeat(first|refine blk_drewN ?_ _|refine blk_drew ?_|refine blk_alloc ?_ _));exact BK901.out⟩,⟨by repeat(first|(with_reducible first|exact HB.out|apply below_alloc|apply pw_below_drewN|apply below_drew1|refine below_set ?_ GE891.out|refine below_set ?_ GE901.out)|exact HB.out)⟩⟩
   rw[if_pos c17] at H
   have c17b0:decide (((rd_T74 t895 x11_1).f3)≤t900)=true:=decide_eq_true c17
   clear c17
   by_cases c18:x10_1.length<4398046511104
   rotate_left
   ·rw[if_neg c18] at H
    exact absurd H (by simp)
   rw[if_pos c18] at H
   have LMc18:=Aside0.mk c18
   clear c18
   obtain⟨y906,hy906⟩: ∃ y_:List (S74),y_=(x10_1 ++ [(⟨(rd_T74 t895 x11_1).f0,(rd_T74 t895 x11_1).f1,(rd_T74 t895 x11_1).f2,(rd_T74 t895 x11_1).f3⟩:S74)]):=⟨_,rfl⟩
   replace H:(ebbtidelaw12_SpanShort.l0 k1 true t898 t899 t900 t902 t903 y906 (wrap64 (x11_1+1)) t893 t894 t895)=some r:=by first|(rw[hy906];with_reducible exact H)|(have H2_:=(Option.bind_some _ _).symm.trans H;rw[hy906];with_reducible exact H2_)|(have H2_:=(Option.bind_some _ _).symm.trans H;with_reducible exact H2_)|with_reducible exact H|(rw[hy906];exact H)|exact H
   have Ny906:=Aside0.mk hy906
   clear hy906
   have H':=Aside0.mk H
   clear H
   have hnb19:=NB901_891.out
   have hnc19:=NB891_901.out
   have hcz20_0:wr.cell? ⟨gb901,0,none⟩=some (.int .i64 t893):=(blk_cell BK901.out 0).trans rfl
   have hcz20_1:wr.cell? ⟨gb901,1,none⟩=some (.bool t894):=(blk_cell BK901.out 1).trans rfl
   have hcz20_2:wr.cell? ⟨gb901,2,none⟩=some (.slice Ao13 t895.length co13):=(blk_cell BK901.out 2).trans rfl
   have hfz20_0:=blk_frozen BK901.out 0
   have hfz20_1:=blk_frozen BK901.out 1
   have hfz20_2:=blk_frozen BK901.out 2
   have p904:0≤(x11_1:Int):=of_decide_eq_true (by first|(with_reducible assumption)|assumption)
   have q904:x11_1<(t895.length:Int):=of_decide_eq_true (by first|(with_reducible assumption)|assumption)
   obtain⟨ad904,e904,hx904_0,hx904_1,hx904_2,hx904_3⟩:=at_T74 (Kd.R_reads' HO_902002.out).2.2 x11_1 p904 q904
   cases e904
   replace p904:=eq_true p904
   replace q904:=eq_true q904
   have p905:0≤(x11_1:Int):=of_decide_eq_true (by first|(with_reducible assumption)|assumption)
   have q905:x11_1<(t895.length:Int):=of_decide_eq_true (by first|(with_reducible assumption)|assumption)
   obtain⟨ad905,e905,hx905_0,hx905_1,hx905_2,hx905_3⟩:=at_T74 (Kd.R_reads' HO_902002.out).2.2 x11_1 p905 q905
   obtain rfl:ad904=ad905:=(by injection e905)
   replace p905:=eq_true p905
   replace q905:=eq_true q905
   go_wp2_with (first|((with_reducible refine gate_builtin (b:= .append) (xs:= #[.tmp 47, .tmp 53]) rfl ?_);at_builtin;refine Kd.R_append k74 (w0:=w) w.heap.size rfl (.tmp 47) (.tmp 53) 22 74 (.agg #[(.int .i64 0),(.int .i64 0),(.int .i64 0),(.int .i64 0)]) 32 rfl Try.underlying22 info74 rfl (by decide) (by omega) u10 x10_1 (⟨(rd_T74 t895 x11_1).f0,(rd_T74 t895 x11_1).f1,(rd_T74 t895 x11_1).f2,(rd_T74 t895 x11_1).f3⟩:S74) [.int .i64 ((rd_T74 t895 x11_1).f0), .int .i64 ((rd_T74 t895 x11_1).f1), .int .i64 ((rd_T74 t895 x11_1).f2), .int .i64 ((rd_T74 t895 x11_1).f3)] (fun k_=>some k_≠(.slice (some ad904) t895.length co13:Value).ownBlock) (fun _=>False) rfl rfl ?aP (fun _ hk=>hk.elim) ?aF ?aO ?aB ?aS ?aL ?_;(case aP=>exact k74_mkM _ _ _ (⟨(rd_T74 t895 x11_1).f0,(rd_T74 t895 x11_1).f1,(rd_T74 t895 x11_1).f2,(rd_T74 t895 x11_1).f3⟩:S74));(case aB=>exact(by repeat(first|(with_reducible first|exact HB.out|apply below_alloc|apply pw_below_drewN|apply below_drew1|refine below_set ?_ GE891.out|refine below_set ?_ GE901.out)|exact HB.out)));(case aF=>exact(fun k_ hk=>Kd.fresh' (Kd.R_lt (by(with_reducible repeat(first|apply Kd.R_alloc|apply Kd.R_drewN|apply Kd.R_drew));exact HO_902002.out)) k_ hk));(case aO=>exact(by(with_reducible repeat(first|apply Kd.R_alloc|apply Kd.R_drewN|apply Kd.R_drew));exact HO_10.out));(case aS=>exact(below_size (by repeat(first|(with_reducible first|exact HB.out|apply below_alloc|apply pw_below_drewN|apply below_drew1|refine below_set ?_ GE891.out|refine below_set ?_ GE901.out)|exact HB.out))));(case aL=>have:=LMc18.out;omega);intro v907 w21 ho hb hg hat;rw[← Ny906.out] at ho;have n0_:=Aside0.mk (Kd.R_after (ok:=(fun _=>True)) (by(with_reducible repeat(first|apply Kd.R_alloc|apply Kd.R_drewN|apply Kd.R_drew));exact Kd.R_mono HO_902002.out (fun _ hk=>⟨trivial,hk⟩)) hg hat);have n1_:=Aside0.mk (blk_grown (g:=gb891) (o:= .cells #[.int .u8 a0_0, .bool a0_1, .slice A0_2 l0_2.length c0_2, .int .u8 a0_3, .int .u8 a0_4, .int .u8 a0_5] 70 (0,0)) (by(with_reducible repeat(first|refine blk_drewN ?_ _|refine blk_drew ?_|refine blk_alloc ?_ _));exact BK891.out) hg (Kd.R_ne HO_10.out BK891.out (by decide)));have n2_:=Aside0.mk (blk_grown (g:=gb901) (o:= .cells #[.int .i64 t893, .bool t894, .slice (some ad904) t895.length co13] 24 (0,0)) (by(with_reducible repeat(first|refine blk_drewN ?_ _|refine blk_drew ?_|refine blk_alloc ?_ _));exact BK901.out) hg (Kd.R_ne HO_10.out BK901.out (by decide)));have n3_:=Aside0.mk (hb);have n4_:=Aside0.mk (ho);clear HO_902002;clear BK891;clear BK901;clear HB;clear HO_10;have HO_902002:=n0_;have BK891:=n1_;have BK901:=n2_;have HB:=n3_;have HO908:=n4_;clear n0_ n1_ n2_ n3_ n4_;clear ho hb hg hat))
   go_roundg k1
   case measure=>have:=HK1.out;omega
   case rel=>exact⟨(y906),(wrap64 (x11_1+1)),(by first|rfl|(simp;done)|(simp[*];done)),H',⟨by have:=HK1.out;omega⟩,⟨by(with_reducible repeat(first|apply Kd.R_alloc|apply Kd.R_drewN|apply Kd.R_drew));exact HO908.out⟩,⟨by(with_reducible repeat(first|apply Kd.R_alloc|apply Kd.R_drewN|apply Kd.R_drew));exact Kd.R_mono HO_902002.out (fun _ hk=>hk.2)⟩,⟨by(with_reducible repeat(first|refine blk_drewN ?_ _|refine blk_drew ?_|refine blk_alloc ?_ _));exact BK891.out⟩,⟨by(with_reducible repeat(first|refine blk_drewN ?_ _|refine blk_drew ?_|refine blk_alloc ?_ _));exact BK901.out⟩,⟨by repeat(first|(with_reducible first|exact HB.out|apply below_alloc|apply pw_below_drewN|apply below_drew1|refine below_set ?_ GE891.out|refine below_set ?_ GE901.out)|exact HB.out)⟩⟩
end Go.Proofs.Ytkcpanpdipmmmaa.P
namespace Go.Proofs.Ytkcpanpdipmmmaa.Opn
open Go.RowKit Go.ChangeShapes Go.WideShapes Go.Deep Go.Proofs.YtkcpanpdipmmmaaW.PrintWords
def Opens (P:Program) (t:TypeId) {α:Type} (d:Kd α) (ok:α→Prop):Prop:=
 ∀ (H:Type) (enc:TypeId × Value→H) (w:World) (base:Nat) (spare:Nat→Bool) (held:Bool) (fuel:Nat) (cs:List Value) (x:DataW H × List MemPlace),
  DataW.trod enc P w base spare held fuel t cs=some x→ ∃ a:α,d.K w a cs∧ok a
theorem opens_int {P:Program} {t:TypeId} {k:IntKind} (ht:P.underlying t=some (.int k)):Opens P t (Kd.int k) (fun n=>(Lit.int k n).wf=true):=by
 intro H enc w base spare held fuel cs x h
 obtain⟨n,rfl,_,hw⟩:=DataW.trod_int ht h
 exact⟨n,rfl,hw⟩
theorem opens_bool {P:Program} {t:TypeId} (ht:P.underlying t=some .bool):Opens P t Kd.bool (fun _=>True):=by
 intro H enc w base spare held fuel cs x h
 obtain⟨b,rfl,_⟩:=DataW.trod_bool ht h
 exact⟨b,rfl,trivial⟩
theorem opens_slice {P:Program} {t e:TypeId} {α:Type} {d:Kd α} {ok:α→Prop} (ht:P.underlying t=some (.slice e)) (hc:P.cellsOf e=d.sz) (h:Opens P e d ok):
  Opens P t (Kd.slice e d) (fun l=>l.length≤9223372036854775807∧ ∀ x∈l,ok x):=by
 intro H enc w base spare held fuel cs x hx
 rcases open_slice ht hx with ⟨rfl,_⟩|⟨a,len,cap,m,n,D,Pl,rfl,hb,hl,hm,hmm,_,hi⟩
 ·exact⟨[],⟨none,0,rfl,Nat.le_refl _,rfl,by simp,fun h=>absurd h (by simp)⟩,by simp,by simp⟩
 ·have hlm:len≤m:=by rw[hmm];split<;>omega
  have hel: ∀ i:Nat,i<len→ ∃ a':α,ok a'∧ ∃ c,c.length=d.sz∧d.K w a' c∧ ∀ j u,c[j]? =some u→w.cell? (a.add (i * d.sz+j))=some u:=by
   intro i hil
   obtain⟨cs',hcs,htr⟩:=hi i (by omega)
   obtain⟨a',hK,hok⟩:=h H enc w base spare held n cs' _ htr
   rw[hc] at hcs
   obtain⟨_,hcl,hat⟩:=World.cells?_some hcs
   refine⟨a',hok,cs',hcl,hK,fun j u hu=> ?_⟩
   have hj:j<d.sz:=by have:=(List.getElem?_eq_some_iff.1 hu).1;omega
   have:=hat j hj
   rw[← Go.Deep.add_add,this,hu]
  have hrow: ∀ k:Nat,k≤len→ ∃ xs:List α,xs.length=k∧(∀ x∈xs,ok x)∧ ∀ j p,xs[j]? =some p→ ∃ c,c.length=d.sz∧d.K w p c∧ ∀ i u,c[i]? =some u→w.cell? (a.add (j * d.sz+i))=some u:=by
   intro k
   induction k with
   |zero=>exact fun _=>⟨[],rfl,by simp,by simp⟩
   |succ k ih=>
    intro hk
    obtain⟨xs,h1,h2,h3⟩:=ih (by omega)
    obtain⟨a',ho,c,hcl,hK,hcell⟩:=hel k (by omega)
    refine⟨xs ++ [a'],by simp[h1],fun x hx=> ?_,fun j p hj=> ?_⟩
    ·rcases List.mem_append.1 hx with h|h
     ·exact h2 x h
     ·rw[List.mem_singleton.1 h];exact ho
    ·by_cases hjk:j<xs.length
     ·rw[List.getElem?_append_left hjk] at hj
      exact h3 j p hj
     ·have hjl:=(List.getElem?_eq_some_iff.1 hj).1
      simp at hjl
      have hje:j=k:=by omega
      subst hje
      rw[← h1,List.getElem?_concat_length] at hj
      obtain rfl:=Option.some.inj hj
      exact⟨c,hcl,hK,hcell⟩
  obtain⟨xs,h1,h2,h3⟩:=hrow len (Nat.le_refl _)
  have hmx:len≤9223372036854775807:=by unfold maxLen at hm;omega
  subst h1
  exact⟨xs,⟨some a,cap,rfl,hl,rfl,hmx,fun _=>⟨a,rfl,h3⟩⟩,hmx,h2⟩
theorem opens_iso {P:Program} {t:TypeId} {α β:Type} {d:Kd α} {ok:α→Prop} (h:Opens P t d ok) (f:β→α) (g:α→β) (hfg: ∀ x,f (g x)=x):Opens P t (Kd.iso d f) (fun y=>ok (f y)):=by
 intro H enc w base spare held fuel cs x hx
 obtain⟨a,hK,hok⟩:=h H enc w base spare held fuel cs x hx
 exact⟨g a,by show d.K w (f (g a)) cs;rw[hfg];exact hK,by show ok (f (g a));rw[hfg];exact hok⟩
def OpensFs (P:Program) (fs:List Field) (off:Nat) {α:Type} (d:Kd α) (ok:α→Prop):Prop:=
 ∀ (H:Type) (enc:TypeId × Value→H) (w:World) (base:Nat) (spare:Nat→Bool) (held:Bool) (n:Nat) (cs:List Value),cs.length=off+d.sz→
  (∀ f∈fs, ∃ y,DataW.trod enc P w base spare held n f.type ((cs.drop f.offset).take (P.cellsOf f.type))=some y)→ ∃ a:α,d.K w a (cs.drop off)∧ok a
theorem fs_one {P:Program} {f:Field} {off:Nat} {α:Type} {d:Kd α} {ok:α→Prop} (ho:f.offset=off) (hc:P.cellsOf f.type=d.sz) (h:Opens P f.type d ok):OpensFs P [f] off d ok:=by
 intro H enc w base spare held n cs hl hf
 obtain⟨y,hy⟩:=hf f (by simp)
 rw[ho,hc,List.take_of_length_le (by simp;omega)] at hy
 exact h H enc w base spare held n _ y hy
theorem fs_cons {P:Program} {f:Field} {fs:List Field} {off:Nat} {α β:Type} {d:Kd α} {d':Kd β} {ok:α→Prop} {ok':β→Prop} (ho:f.offset=off) (hc:P.cellsOf f.type=d.sz) (h:Opens P f.type d ok)
  (hr:OpensFs P fs (off+d.sz) d' ok'):OpensFs P (f::fs) off (Kd.pair d d') (fun x=>ok x.1∧ok' x.2):=by
 intro H enc w base spare held n cs hl hf
 have hsz:(Kd.pair d d').sz=d.sz+d'.sz:=rfl
 rw[hsz] at hl
 obtain⟨y,hy⟩:=hf f (by simp)
 rw[ho,hc] at hy
 obtain⟨a,hK,hok⟩:=h H enc w base spare held n _ y hy
 obtain⟨b,hKb,hokb⟩:=hr H enc w base spare held n cs (by omega) (fun f' hf'=>hf f' (List.mem_cons_of_mem _ hf'))
 refine⟨(a,b),⟨_,_,?_,hK,hKb⟩,hok,hokb⟩
 rw[← List.drop_drop]
 exact(List.take_append_drop _ _).symm
theorem opens_struct {P:Program} {t:TypeId} {fs:Array Field} {α:Type} {d:Kd α} {ok:α→Prop} (hs:P.underlying t=some (.struct fs)) (hC:P.cellsOf t=d.sz) (h:OpensFs P fs.toList 0 d ok):Opens P t d ok:=by
 intro H enc w base spare held fuel cs x hx
 obtain⟨xs,n,_,_,hl,hlen,hf⟩:=DataW.trod_struct hs hx
 obtain⟨a,hK,hok⟩:=h H enc w base spare held n cs (by rw[hl,hC,Nat.zero_add]) (fun f hfm=>by
  obtain⟨j,hj⟩:=List.getElem?_of_mem hfm
  have hj':fs[j]? =some f:=by rw[← hj];simp
  have hjl:j<xs.length:=by rw[hlen];exact(Array.getElem?_eq_some_iff.1 hj').1
  have h1:=hf j f hj'
  rw[List.getElem?_eq_getElem hjl] at h1
  exact⟨_,h1⟩)
 exact⟨a,hK,hok⟩
theorem arg_struct {H:Type} {enc:TypeId × Value→H} {P:Program} {w:World} {base b0:Nat} {spare:Nat→Bool} {held:Bool} {r:Reach} {t:TypeId} {fs:Array Field} {v:Value} {dd:DataW H} {p:List MemPlace} {α:Type} {d:Kd α} {ok:α→Prop}
  (hs:P.underlying t=some (.struct fs)) (ho:Opens P t d ok) (hv:Value.okWide P w r b0 t v) (h:DataW.Trod enc P w base spare held t v dd p): ∃ a cs,v= .agg cs∧d.K w a cs.toList∧ok a:=by
 obtain⟨cs,rfl,hsz⟩:=okWide_struct hs hv
 obtain⟨fuel,hf⟩:=h
 obtain⟨a,hK,hok⟩:=ho H enc w base spare held fuel _ _ hf
 exact⟨a,cs,rfl,by simpa [Value.cells] using hK,hok⟩
end Go.Proofs.Ytkcpanpdipmmmaa.Opn
namespace Go.Proofs.Ytkcpanpdipmmmaa.Q
open Go.RowKit Go.Proofs.YtkcpanpdipmmmaaW.PrintWords Go.Proofs.YtkcpanpdipmmmaaW.PrintLast Go.Proofs.YtkcpanpdipmmmaaW.PrintMore Go.Proofs.Ytkcpanpdipmmmaa.P
open Go.Proofs.Ytkcpanpdipmmmaa.H (endsErr Right right_of StepOf stRoom IsFlow leastR pushW stRoom_in)
theorem endsE_ok {n:Int} {l:List S74} {s t:Int} (h:endsErr n l s t=0):NetOk n l∧0≤s∧s<n∧0≤t∧t<n∧s≠t:=by
 unfold endsErr at h
 by_cases hn:netErr n l=0
 ·rw[if_pos hn] at h
  split at h
  ·rename_i he
   exact⟨netErr_ok hn,he⟩
  ·cases h
 ·rw[if_neg hn] at h;exact absurd h hn
theorem endsE_of {n:Int} {l:List S74} {s t:Int} (hn:NetOk n l) (h:0≤s∧s<n∧0≤t∧t<n∧s≠t):endsErr n l s t=0:=by
 unfold endsErr
 rw[if_pos (netOk_err hn),if_pos h]
def evenB (s t:Int):List Int→Int→Bool
 |[],_=>true
 |x::l,i=>if i=s then evenB s t l (i+1) else if i=t then evenB s t l (i+1) else if x=0 then evenB s t l (i+1) else false
def valRes (n:Int) (l:List S74) (s t:Int) (f:List Int):Int × Int:=
 if endsErr n l s t=0 then(if askErr n l f=0 then(if evenB s t (balOf n l f) 0=true then(bal l f s,0) else(0,71)) else(0,askErr n l f)) else(0,endsErr n l s t)
theorem evenB_iff (s t:Int) (X:List Int): ∀ i:Int,evenB s t X i=true↔ ∀ j:Nat,j<X.length→i+j≠s→i+j≠t→X.getD j 0=0:=by
 induction X with
 |nil=>intro i;simp[evenB]
 |cons x X ih=>
  intro i
  have key:evenB s t X (i+1)=true↔ ∀ j:Nat,j+1<(x::X).length→i+(j+1:Nat)≠s→i+(j+1:Nat)≠t→(x::X).getD (j+1) 0=0:=by
   rw[ih (i+1)]
   constructor
   ·intro h j h1 h2 h3
    rw[List.getD_cons_succ]
    exact h j (by simpa using h1) (by omega) (by omega)
   ·intro h j h1 h2 h3
    have:=h j (by simpa using h1) (by omega) (by omega)
    rwa [List.getD_cons_succ] at this
  have all:(i≠s→i≠t→x=0)→(evenB s t X (i+1)=true↔ ∀ j:Nat,j<(x::X).length→i+j≠s→i+j≠t→(x::X).getD j 0=0):=by
   intro hx
   rw[key]
   constructor
   ·intro h j h1 h2 h3
    cases j with
    |zero=>exact hx (by simpa using h2) (by simpa using h3)
    |succ j=>exact h j h1 h2 h3
   ·intro h j h1 h2 h3
    exact h (j+1) h1 h2 h3
  unfold evenB
  by_cases h1:i=s
  ·rw[if_pos h1];exact all (fun h=>absurd h1 h)
  rw[if_neg h1]
  by_cases h2:i=t
  ·rw[if_pos h2];exact all (fun _ h=>absurd h2 h)
  rw[if_neg h2]
  by_cases h3:x=0
  ·rw[if_pos h3];exact all (fun _ _=>h3)
  ·rw[if_neg h3]
   constructor
   ·intro h;cases h
   ·intro h
    exact absurd (h 0 (by simp) (by simpa using h1) (by simpa using h2)) h3
theorem flowOk_of {l:List S74} {F:List Int} {n:Nat} (hr:Right l F n):FlowOk l F:=by
 refine⟨hr.len,fun i hi=> ?_⟩
 have:=hr.nums i (by rw[← hr.len];exact hi)
 rw[rd_nat]
 exact⟨this.2.2.1,this.2.2.2.1⟩
theorem even_flow {n:Nat} {l:List S74} {F:List Int} {s t:Int} (hr:Right l F n):evenB s t (balOf n l F) 0=true↔IsFlow l F n s t:=by
 rw[evenB_iff]
 have hlen:=balOf_len (n:Int) l F
 rw[Int.toNat_natCast] at hlen
 have hg: ∀ v:Nat,v<n→(balOf n l F).getD v 0=bal l F v:=fun v hv=>by
  have h_:=rd_balOf (n:=(n:Int)) (l:=l) (f:=F) (v:=(v:Int)) (by omega) (by omega)
  rw[rd_nat] at h_
  exact h_
 constructor
 ·intro h
  refine⟨hr,fun v h0 h1 h2 h3=> ?_⟩
  obtain⟨v,rfl⟩: ∃ v':Nat,v=v':=⟨v.toNat,by omega⟩
  rw[← hg v (by omega)]
  exact h v (by omega) (by omega) (by omega)
 ·intro h v hv h2 h3
  rw[hg v (by omega)]
  exact h.keeps v (by omega) (by omega) (by omega) (by omega)
theorem flow_val {n:Int} {l:List S74} {F:List Int} {s t:Int} (h:(valRes n l s t F).2=0):endsErr n l s t=0∧askErr n l F=0∧ ∃ n0:Nat,n=n0∧IsFlow l F n0 s t∧valRes n l s t F=(bal l F s,0):=by
 unfold valRes at h ⊢
 by_cases h1:endsErr n l s t=0
 ·rw[if_pos h1] at h ⊢
  by_cases h2:askErr n l F=0
  ·rw[if_pos h2] at h ⊢
   obtain⟨n0,rfl,hr⟩:=right_of h2
   by_cases h3:evenB s t (balOf n0 l F) 0=true
   ·rw[if_pos h3]
    exact⟨h1,h2,n0,rfl,(even_flow hr).1 h3,rfl⟩
   ·rw[if_neg h3] at h;cases h
  ·rw[if_neg h2] at h;exact absurd h h2
 ·rw[if_neg h1] at h;exact absurd h h1
end Go.Proofs.Ytkcpanpdipmmmaa.Q
namespace Go.Proofs.Ytkcpanpdipmmmaa.Q
open Go.RowKit Go.Proofs.YtkcpanpdipmmmaaW.PrintWords Go.Proofs.YtkcpanpdipmmmaaW.PrintLast Go.Proofs.YtkcpanpdipmmmaaW.PrintMore Go.Proofs.Ytkcpanpdipmmmaa.P
open Go.Proofs.Ytkcpanpdipmmmaa.H (endsErr Right right_of StepOf stRoom IsFlow leastR pushW nodes stepsR frP toP)
theorem value_l0 (m:Int) (l:List S74) (f:List Int) (hn:NetOk m l) (hf:FlowOk l f) (v:Int) (d:Nat): ∀ (i:Nat) (acc:Int),i+d=l.length→ -(i * 2097152)≤acc→acc≤i * 2097152→
  Ev (fun k=>maxflow_Value.l0 k v f acc l (l.length:Int) (i:Int)) (acc+bal (l.drop i) (f.drop i) v):=by
 have hlen:=hf.len
 have hl:=hn.len
 induction d with
 |zero=>
  intro i acc hi h0 h1
  refine Ev.succ ?_;simp only[maxflow_Value.l0]
  repeat(first|exact Ev.now _|with_reducible refine Ev.pos (by first|assumption|omega) ?_|with_reducible refine Ev.neg (by first|assumption|omega) ?_|with_reducible refine Ev.let_ ?_)
  rw[List.drop_of_length_le (by omega)]
  exact Ev.done (by simp[bal])
 |succ d ih=>
  intro i acc hi h0 h1
  have hs:=hf.small hn (i:=(i:Int)) (by omega) (by omega)
  refine Ev.succ ?_;simp only[maxflow_Value.l0]
  repeat(first|exact Ev.now _|with_reducible refine Ev.pos (by first|assumption|omega) ?_|with_reducible refine Ev.neg (by first|assumption|omega) ?_|with_reducible refine Ev.let_ ?_)
  rw[wrap_succ (n:=l.length) (by omega) (by omega),drop_getD l i z74 (by omega),drop_getD f i 0 (by omega), ← rdArc_nat, ← rd_nat,bal_cons]
  refine Ev.ite (fun g=> ?_) (fun g=> ?_)
  ·rw[if_pos g]
   refine Ev.pos (by omega) ?_
   refine Ev.ite (fun g2=> ?_) (fun g2=> ?_)
   ·rw[if_pos g2,wrap_id (x:=acc+rd f (i:Int)) (by omega) (by omega),wrap_id (by omega) (by omega)]
    exact Ev.eq (ih (i+1) _ (by omega) (by omega) (by omega)) (by omega)
   ·rw[if_neg g2,wrap_id (x:=acc+rd f (i:Int)) (by omega) (by omega)]
    exact Ev.eq (ih (i+1) _ (by omega) (by omega) (by omega)) (by omega)
  ·rw[if_neg g]
   refine Ev.ite (fun g2=> ?_) (fun g2=> ?_)
   ·refine Ev.pos (by omega) ?_
    rw[if_pos g2,wrap_id (x:=acc - rd f (i:Int)) (by omega) (by omega)]
    exact Ev.eq (ih (i+1) _ (by omega) (by omega) (by omega)) (by omega)
   ·rw[if_neg g2]
    exact Ev.eq (ih (i+1) _ (by omega) (by omega) (by omega)) (by omega)
theorem value_ev (n m:Int) (b:Bool) (l:List S74) (f:List Int) (hn:NetOk m l) (hf:FlowOk l f) (v:Int):Ev (fun k=>maxflow_Value.f k n b l v f) (bal l f v):=by
 unfold maxflow_Value.f
 exact Ev.eq (value_l0 m l f hn hf v l.length 0 0 (by omega) (by omega) (by omega)) (by rw[List.drop_zero,List.drop_zero];omega)
end Go.Proofs.Ytkcpanpdipmmmaa.Q
namespace Go.Proofs.Ytkcpanpdipmmmaa.Q
open Go.RowKit Go.Proofs.YtkcpanpdipmmmaaW.PrintWords Go.Proofs.YtkcpanpdipmmmaaW.PrintLast Go.Proofs.YtkcpanpdipmmmaaW.PrintMore Go.Proofs.Ytkcpanpdipmmmaa.P
open Go.Proofs.Ytkcpanpdipmmmaa.H (endsErr Right right_of IsFlow payS worthS)
theorem balance_l0 (n:Int) (l:List S74) (f:List Int) (hn:NetOk n l) (hf:FlowOk l f) (d:Nat): ∀ (i:Nat) (x:List Int),i+d=l.length→x.length=n.toNat→(∀ v:Nat,v<x.length→ -(i * 2097152)≤rd x v∧rd x v≤i * 2097152)→
  ∃ r,Ev (fun k=>static_Balance.l0 k f x l (l.length:Int) (i:Int)) (r,0)∧r.length=x.length∧ ∀ v:Nat,v<x.length→rd r v=rd x v+bal (l.drop i) (f.drop i) v:=by
 have hlen:=hf.len
 have hl:=hn.len
 induction d with
 |zero=>
  intro i x hi hx hb
  refine⟨x,?_,rfl,fun v hv=> ?_⟩
  ·refine Ev.succ ?_;simp only[static_Balance.l0]
   repeat(first|exact Ev.now _|with_reducible refine Ev.pos (by first|assumption|omega) ?_|with_reducible refine Ev.neg (by first|assumption|omega) ?_|with_reducible refine Ev.let_ ?_)
  ·rw[List.drop_of_length_le (by omega)]
   simp[bal]
 |succ d ih=>
  intro i x hi hx hb
  have ha:=hn.at_ (i:=(i:Int)) (by omega) (by omega)
  have hs:=hf.small hn (i:=(i:Int)) (by omega) (by omega)
  have h1:=ha.f0
  have h2:=ha.f1
  have h3:=ha.h0
  have h4:=ha.h1
  have hb1:=hb (rd_T74 l (i:Int)).f0.toNat (by omega)
  have e1:(((rd_T74 l (i:Int)).f0.toNat:Nat):Int)=(rd_T74 l (i:Int)).f0:=by omega
  have e2:(((rd_T74 l (i:Int)).f1.toNat:Nat):Int)=(rd_T74 l (i:Int)).f1:=by omega
  rw[e1] at hb1
  have hb2:=hb (rd_T74 l (i:Int)).f1.toNat (by omega)
  rw[e2] at hb2
  obtain⟨r,hr,hrl,hrv⟩:=ih (i+1) ((x.set (rd_T74 l (i:Int)).f0.toNat (wrap64 (rd x (rd_T74 l (i:Int)).f0+rd f (i:Int)))).set (rd_T74 l (i:Int)).f1.toNat
    (wrap64 (rd (x.set (rd_T74 l (i:Int)).f0.toNat (wrap64 (rd x (rd_T74 l (i:Int)).f0+rd f (i:Int)))) (rd_T74 l (i:Int)).f1 - rd f (i:Int)))) (by omega) (by simpa using hx) (by
   intro v hv
   have hv':v<x.length:=by simpa using hv
   have hbv:=hb v hv'
   rw[rd_set _ _ _ _ h2 (by simp;omega) (by omega),rd_set _ _ _ _ h1 (by omega) h2,rd_set _ _ _ _ h1 (by omega) (by omega)]
   have w1:wrap64 (rd x (rd_T74 l (i:Int)).f0+rd f (i:Int))=rd x (rd_T74 l (i:Int)).f0+rd f (i:Int):=wrap_id (by omega) (by omega)
   rw[w1]
   split
   ·split
    ·rename_i h5 h6
     rw[wrap_id (by omega) (by omega)]
     omega
    ·rename_i h5 h6
     rw[wrap_id (by omega) (by omega)]
     omega
   ·split
    ·omega
    ·omega)
  refine⟨r,?_,by simpa using hrl,fun v hv=> ?_⟩
  ·refine Ev.succ ?_;simp only[static_Balance.l0]
   repeat(first|exact Ev.now _|with_reducible refine Ev.pos (by first|assumption|omega) ?_|with_reducible refine Ev.neg (by first|assumption|omega) ?_|with_reducible refine Ev.let_ ?_)
   rw[wrap_succ (n:=l.length) (by omega) (by omega)]
   exact hr
  ·rw[hrv v (by simpa using hv),rd_set _ _ _ _ h2 (by simp;omega) (by omega),rd_set _ _ _ _ h1 (by omega) h2,rd_set _ _ _ _ h1 (by omega) (by omega)]
   have w1:wrap64 (rd x (rd_T74 l (i:Int)).f0+rd f (i:Int))=rd x (rd_T74 l (i:Int)).f0+rd f (i:Int):=wrap_id (by omega) (by omega)
   rw[w1,drop_getD l i z74 (by omega),drop_getD f i 0 (by omega), ← rdArc_nat, ← rd_nat,bal_cons]
   by_cases h5:(rd_T74 l (i:Int)).f1=(v:Int)
   ·rw[if_pos h5,if_pos h5]
    by_cases h6:(rd_T74 l (i:Int)).f0=(v:Int)
    ·rw[if_pos (by omega),if_pos h6,wrap_id (by omega) (by omega),h6]
     omega
    ·rw[if_neg (by omega),if_neg h6,wrap_id (by omega) (by omega),h5]
     omega
   ·rw[if_neg h5,if_neg h5]
    by_cases h6:(rd_T74 l (i:Int)).f0=(v:Int)
    ·rw[if_pos h6,if_pos h6,h6]
     omega
    ·rw[if_neg h6,if_neg h6]
     omega
theorem rd_zeros (m:Nat) (v:Int):rd (List.replicate m 0) v=0:=by
 unfold rd
 rw[List.getD_eq_getElem?_getD,List.getElem?_replicate]
 split<;>rfl
theorem balance_ev (n:Int) (b:Bool) (l:List S74) (f:List Int):Ev (fun k=>static_Balance.f k n b l f) (balRes n l f):=by
 unfold static_Balance.f balRes
 refine Ev.bind (asked_ev n b l f) ?_
 refine Ev.ite (fun h=> ?_) (fun h=> ?_)
 ·rw[if_pos h]
  obtain⟨hn,hf⟩:=askErr_ok h
  have:=hn.lo
  have:=hn.hi
  repeat(first|exact Ev.now _|with_reducible refine Ev.pos (by first|assumption|omega) ?_|with_reducible refine Ev.neg (by first|assumption|omega) ?_|with_reducible refine Ev.let_ ?_)
  obtain⟨r,hr,hrl,hrv⟩:=balance_l0 n l f hn hf l.length 0 (List.replicate n.toNat 0) (by omega) (by simp) (fun v hv=>by rw[rd_zeros];omega)
  refine Ev.eq hr ?_
  rw[List.length_replicate] at hrl hrv
  congr 1
  refine ext_rd (by rw[hrl,balOf_len]) fun v hv=> ?_
  rw[hrv v (by omega),rd_zeros,rd_balOf (by omega) (by omega),List.drop_zero,List.drop_zero]
  omega
 ·rw[if_neg h]
  exact Ev.now _
theorem check2_l0 (s t:Int) (b:List Int) (hb:b.length≤50) (hs:0≤s) (hsn:s<b.length) (d:Nat): ∀ i:Nat,i+d=b.length→
  Ev (fun k=>static_Check.l0 k s t b b (b.length:Int) (i:Int)) (if evenB s t (b.drop i) i=true then(rd b s,0) else(0,71)):=by
 induction d with
 |zero=>
  intro i hi
  refine Ev.succ ?_;simp only[static_Check.l0]
  repeat(first|exact Ev.now _|with_reducible refine Ev.pos (by first|assumption|omega) ?_|with_reducible refine Ev.neg (by first|assumption|omega) ?_|with_reducible refine Ev.let_ ?_)
  rw[List.drop_of_length_le (by omega)]
  exact Ev.now _
 |succ d ih=>
  intro i hi
  refine Ev.succ ?_;simp only[static_Check.l0]
  repeat(first|exact Ev.now _|with_reducible refine Ev.pos (by first|assumption|omega) ?_|with_reducible refine Ev.neg (by first|assumption|omega) ?_|with_reducible refine Ev.let_ ?_)
  rw[drop_getD b i 0 (by omega),rd_nat,wrap_succ (n:=b.length) (by omega) (by omega)]
  unfold evenB
  have:=ih (i+1) (by omega)
  rw[show ((i+1:Nat):Int)=(i:Int)+1 by omega] at this ⊢
  refine Ev.ite (fun g=> ?_) (fun g=> ?_)
  ·rw[if_pos g,ite_self,ite_self];exact this
  refine Ev.ite (fun g2=> ?_) (fun g2=> ?_)
  ·rw[if_pos g2];exact this
  rw[if_neg g2]
  refine Ev.ite (fun g3=> ?_) (fun g3=> ?_)
  ·rw[if_pos g3];exact this
  rw[if_neg g3,if_neg g]
  exact Ev.now _
theorem stat_value_ev (n:Int) (b:Bool) (l:List S74) (s t:Int) (f:List Int):Ev (fun k=>static_Check.f k n b l s t f) (valRes n l s t f):=by
 unfold static_Check.f valRes
 refine Ev.bind (ends_ev n b l s t) ?_
 refine Ev.ite (fun h=> ?_) (fun h=> ?_)
 ·rw[if_pos h]
  obtain⟨hn,he1,he2,he3,he4,he5⟩:=endsE_ok h
  have:=hn.lo;have:=hn.hi
  refine Ev.bind (balance_ev n b l f) ?_
  by_cases g:askErr n l f=0
  ·rw[if_pos g,balRes_ok g]
   refine Ev.pos rfl ?_
   refine Ev.eq (check2_l0 s t (balOf n l f) (by rw[balOf_len];omega) (by omega) (by rw[balOf_len];omega) _ 0 (Nat.zero_add _)) ?_
   rw[rd_balOf (by omega) (by omega),List.drop_zero]
   rfl
  ·rw[if_neg g,balRes_no g]
   exact Ev.neg g (Ev.now _)
 ·rw[if_neg h]
  exact Ev.now _
theorem pay_mul {x t:Int} (h0:0≤x) (h1:x≤1048576) (h2:0≤t) (h3:t≤1048576):0≤x * t∧x * t≤1099511627776:=by
 refine⟨Int.mul_nonneg h0 h2,?_⟩
 have:=Int.mul_le_mul h1 h3 h2 (show (0:Int)≤1048576 by decide)
 omega
theorem pay_bd {l:List S74} {F:List Int} {n:Nat} (hr:Right l F n) (d:Nat): ∀ (i:Nat),i+d=l.length→0≤payS (l.drop i) (F.drop i)∧payS (l.drop i) (F.drop i)≤1099511627776 * (d:Int):=by
 have hl:=hr.len
 induction d with
 |zero=>
  intro i hi
  rw[List.drop_of_length_le (show l.length≤i by omega),List.drop_of_length_le (show F.length≤i by omega)]
  simp[payS]
 |succ d ih=>
  intro i hi
  have hn:=hr.nums i (by omega)
  have hb:=pay_mul hn.2.2.1 (by omega) hn.1 hn.2.1
  have:=ih (i+1) (by omega)
  rw[drop_getD l i z74 (by omega),drop_getD F i 0 (by omega),H.payS_cons, ← rdArc_nat]
  omega
theorem pay_l0 {l:List S74} {F:List Int} {n:Nat} (hr:Right l F n) (d:Nat): ∀ (i:Nat) (k:Int),i+d=l.length→0≤k→k≤1099511627776 * (i:Int)→
  Ev (fun m=>span_paid.l0 m F k l (l.length:Int) (i:Int)) (k+payS (l.drop i) (F.drop i)):=by
 have hl:=hr.len
 have hl2:=hr.arcs
 induction d with
 |zero=>
  intro i k hi h0 h1
  refine Ev.succ ?_;simp only[span_paid.l0]
  refine Ev.neg (by omega) ?_
  rw[List.drop_of_length_le (show l.length≤i by omega),List.drop_of_length_le (show F.length≤i by omega)]
  exact Ev.done (by simp[payS])
 |succ d ih=>
  intro i k hi h0 h1
  have hn:=hr.nums i (by omega)
  have hb:=pay_mul hn.2.2.1 (by omega) hn.1 hn.2.1
  have e1:rd F (i:Int)=F.getD i 0:=rd_nat F i
  refine Ev.succ ?_;simp only[span_paid.l0]
  refine Ev.pos (by omega) ?_
  refine Ev.pos (by omega) ?_
  refine Ev.pos (by omega) ?_
  refine Ev.pos (by omega) ?_
  rw[e1,wrap_succ (n:=200) (by omega) (by omega),wrap_id (x:=F.getD i 0 * (rd_T74 l i).f3) (by omega) (by omega),wrap_id (x:=k+F.getD i 0 * (rd_T74 l i).f3) (by omega) (by omega)]
  refine Ev.eq (ih (i+1) _ (by omega) (by omega) (by omega)) ?_
  rw[drop_getD l i z74 (by omega),drop_getD F i 0 (by omega),H.payS_cons, ← rdArc_nat]
  omega
theorem pay_ev (n m:Int) (n0:Nat) (b:Bool) (l:List S74) (F:List Int) (hr:Right l F n0):Ev (fun m=>span_paid.f m n b l F) (payS l F):=by
 unfold span_paid.f
 have:=pay_l0 hr l.length 0 0 (by omega) (by omega) (by omega)
 exact Ev.eq this (by rw[List.drop_zero,List.drop_zero,Int.zero_add])
def horErr (h:Int):Int:=if h<0 then 1 else if h>1024 then 2 else 0
def spanErr (n:Int) (l:List S74) (s t h:Int):Int:=if endsErr n l s t=0 then horErr h else endsErr n l s t
theorem hor_ok {h:Int} (e:horErr h=0):0≤h∧h≤1024:=by
 unfold horErr at e
 split at e
 ·cases e
 ·split at e
  ·cases e
  ·omega
theorem spanErr_ok {n:Int} {l:List S74} {s t h:Int} (e:spanErr n l s t h=0):endsErr n l s t=0∧0≤h∧h≤1024:=by
 unfold spanErr at e
 by_cases g:endsErr n l s t=0
 ·rw[if_pos g] at e;exact⟨g,hor_ok e⟩
 ·rw[if_neg g] at e;exact absurd e g
theorem span_asked_ev (n:Int) (b:Bool) (l:List S74) (s t h:Int):Ev (fun k=>span_Asked.f k n b l s t h) (spanErr n l s t h):=by
 unfold span_Asked.f spanErr
 refine Ev.bind (ends_ev n b l s t) ?_
 refine Ev.ite (fun g=> ?_) (fun g=> ?_)
 ·rw[if_pos g]
  have e:span_Horizon.f h=some (horErr h):=by
   unfold span_Horizon.f horErr
   split
   ·rfl
   ·split<;>rfl
  rw[e]
  exact Ev.now _
 ·rw[if_neg g];exact Ev.now _
def worthR (n:Int) (l:List S74) (s t:Int) (F:List Int) (h:Int):Int × Int:=
 if spanErr n l s t h=0 then(if (valRes n l s t F).2=0 then(wrap64 (wrap64 (wrap64 (h+1) * (valRes n l s t F).1) - payS l F),0) else(0,(valRes n l s t F).2)) else(0,spanErr n l s t h)
theorem worth_ev (n:Int) (b:Bool) (l:List S74) (s t:Int) (F:List Int) (h:Int):Ev (fun k=>span_Worth.f k n b l s t F h) (worthR n l s t F h):=by
 unfold span_Worth.f worthR
 refine Ev.bind (span_asked_ev n b l s t h) ?_
 refine Ev.ite (fun g=> ?_) (fun g=> ?_)
 ·rw[if_pos g]
  refine Ev.bind (stat_value_ev n b l s t F) ?_
  refine Ev.ite (fun g2=> ?_) (fun g2=> ?_)
  ·rw[if_pos g2]
   obtain⟨h1,h2,_⟩:=flow_val g2
   obtain⟨n0,rfl,hr⟩:=right_of h2
   refine Ev.bind (pay_ev n0 n0 n0 b l F hr) ?_
   exact Ev.now _
  ·rw[if_neg g2];exact Ev.now _
 ·rw[if_neg g];exact Ev.now _
end Go.Proofs.Ytkcpanpdipmmmaa.Q
namespace Go.Proofs.Ytkcpanpdipmmmaa.Q
open Go.RowKit Go.Proofs.YtkcpanpdipmmmaaW.PrintWords Go.Proofs.YtkcpanpdipmmmaaW.PrintLast Go.Proofs.YtkcpanpdipmmmaaW.PrintMore Go.Proofs.Ytkcpanpdipmmmaa.P
open Go.Proofs.Ytkcpanpdipmmmaa.H (endsErr Right right_of IsFlow payS worthS SpanTop fillS fillRes fillS_top)
theorem span_top {l:List S74} {n s t:Nat} {h:Int} (hr:Right l (List.replicate l.length 0) n) (hs:s<n) (ht:t<n) (hst:s≠t) (hH:0≤h):SpanTop l (fillS l n s t h) n s t h:=(fillS_top hr hs ht hst hH).1
theorem bal_bd {l:List S74} {F:List Int} {n s t:Nat} (hf:IsFlow l F n s t) (hs:s<n) (ht:t<n) (hst:s≠t): -209715200≤bal l F s∧bal l F s≤209715200:=by
 have h1:=H.flow_top hf hs hst
 have h2:=H.flow_ends hf hs ht hst
 have h3:=H.flow_top (s:=t) (t:=s) ⟨hf.right,fun v a b c d=>hf.keeps v a b d c⟩ ht (fun e=>hst e.symm)
 omega
theorem times_bd {h v:Int} (h0:0≤h) (h1:h≤1026) (a: -209715200≤v) (b:v≤209715200): -216006656000≤(h+1) * v∧(h+1) * v≤216006656000:=by
 have e1:=Int.mul_le_mul_of_nonneg_left b (show 0≤h+1 by omega)
 have e2:=Int.mul_le_mul_of_nonneg_left a (show 0≤h+1 by omega)
 omega
theorem worth_wrap {l:List S74} {F:List Int} {n s t:Nat} {h:Int} (hf:IsFlow l F n s t) (hs:s<n) (ht:t<n) (hst:s≠t) (h0:0≤h) (h1:h≤1024):wrap64 (wrap64 (wrap64 (h+1) * bal l F s) - payS l F)=worthS l F s (h+1):=by
 obtain⟨b1,b2⟩:=bal_bd hf hs ht hst
 obtain⟨c1,c2⟩:=times_bd h0 (by omega) b1 b2
 have har:=hf.right.arcs
 obtain⟨p1,p2⟩:=pay_bd hf.right l.length 0 (by omega)
 rw[List.drop_zero,List.drop_zero] at p1 p2
 unfold worthS
 rw[wrap_id (x:=h+1) (by omega) (by omega),wrap_id (x:=(h+1) * bal l F s) (by omega) (by omega),wrap_id (by omega) (by omega)]
def sbestR (n:Int) (l:List S74) (s t h:Int):List Int × Int × Int:=
 if spanErr n l s t h=0 then(fillS l n.toNat s.toNat t.toNat h,worthS l (fillS l n.toNat s.toNat t.toNat h) s.toNat (h+1),0) else([],0,spanErr n l s t h)
def smostR (n:Int) (l:List S74) (s t h:Int):Int × Int:=
 if spanErr n l s t h=0 then(worthS l (fillS l n.toNat s.toNat t.toNat h) s.toNat (h+1),0) else(0,spanErr n l s t h)
theorem sbest_ev (n:Int) (b:Bool) (l:List S74) (s t h:Int):Ev (fun k=>span_Best.f k n b l s t h) (sbestR n l s t h):=by
 unfold span_Best.f sbestR
 refine Ev.bind (span_asked_ev n b l s t h) ?_
 by_cases g:spanErr n l s t h=0
 ·rw[if_pos g]
  refine Ev.pos g ?_
  obtain⟨g1,g2,g3⟩:=spanErr_ok g
  refine Ev.call (show span_Fill.f n b l s t h=some (fillRes l n.toNat s.toNat t.toNat h) by unfold span_Fill.f;rw[if_pos ⟨g1,g2⟩]) ?_
  obtain⟨n0,s0,t0,rfl,rfl,rfl,hs,ht,hst,hn,hr⟩:=ends_zero g1
  simp only[Int.toNat_natCast]
  have hf:=(span_top hr hs ht hst g2).ok.flow
  refine Ev.bind (value_ev n0 n0 b l _ hn (flowOk_of hf.right) s0) ?_
  refine Ev.bind (pay_ev n0 n0 n0 b l _ hf.right) ?_
  refine Ev.done ?_
  show (fillS l n0 s0 t0 h,wrap64 (wrap64 (wrap64 (h+1) * bal l (fillS l n0 s0 t0 h) s0) - payS l (fillS l n0 s0 t0 h)),(0:Int))=_
  rw[worth_wrap hf hs ht hst g2 g3]
 ·rw[if_neg g]
  refine Ev.neg g ?_
  exact Ev.now _
theorem smost_ev (n:Int) (b:Bool) (l:List S74) (s t h:Int):Ev (fun k=>span_Most.f k n b l s t h) (smostR n l s t h):=by
 unfold span_Most.f
 refine Ev.bind (sbest_ev n b l s t h) ?_
 refine Ev.done ?_
 unfold sbestR smostR
 split<;>rfl
theorem smostR_nat {l:List S74} {n s t:Nat} {h:Int} (g:spanErr (n:Int) l (s:Int) (t:Int) h=0):smostR n l s t h=(worthS l (fillS l n s t h) s (h+1),0):=by
 unfold smostR;rw[if_pos g];simp only[Int.toNat_natCast]
def line:List S74:=[(⟨0,1,2,1⟩:S74),(⟨1,2,2,1⟩:S74)]
theorem line_right:Right line (List.replicate line.length 0) 3:=by
 obtain⟨n0,h1,h2⟩:=right_of (n:=3) (l:=line) (F:=List.replicate line.length 0) (by decide +kernel)
 obtain rfl:n0=3:=by omega
 exact h2
theorem line_top (h:Int) (h0:0≤h):SpanTop line (fillS line 3 0 2 h) 3 0 2 h:=span_top line_right (by decide) (by decide) (by decide) h0
theorem line_flow:IsFlow line [2,2] 3 0 2:=by
 obtain⟨n0,h1,h2⟩:=right_of (n:=3) (l:=line) (F:=[2,2]) (by decide +kernel)
 obtain rfl:n0=3:=by omega
 refine⟨h2,fun v a b c d=> ?_⟩
 obtain rfl:v=1:=by omega
 decide +kernel
theorem line_worth {F:List Int} (hf:IsFlow line F 3 0 2) (c:Int): ∃ x:Int,0≤x∧x≤2∧worthS line F 0 c=c * x - 2 * x:=by
 have hl:F.length=2:=hf.right.len
 match F,hl with
 |[x,y],_=>
  have n0:=hf.right.nums 0 (by decide)
  have hk:=hf.keeps 1 (by decide) (by decide) (by decide) (by decide)
  have e1:bal line [x,y] 1=(0 - x)+((y - 0)+0):=rfl
  have e0:bal line [x,y] ((0:Nat):Int)=(x - 0)+((0 - 0)+0):=rfl
  have ep:payS line [x,y]=x * 1+(y * 1+0):=rfl
  have q:(0:Int)≤x∧x≤2:=by
   have e2:(rd_T74 line ((0:Nat):Int)).f2=2:=rfl
   have e3:[x,y].getD 0 0=x:=rfl
   rw[e2,e3] at n0
   omega
  refine⟨x,q.1,q.2,?_⟩
  unfold worthS
  rw[e0,ep]
  rw[e1] at hk
  have:x - 0+(0 - 0+0)=x:=by omega
  rw[this]
  omega
theorem awake12_ev:Ev (fun k=>ebbtidelaw12_awake.f k) true:=by
 have e1:spanErr 3 line 0 2 1=0:=by decide +kernel
 have e2:spanErr 3 line 0 2 5=0:=by decide +kernel
 have m1:smostR 3 line 0 2 1=(0,0):=by
  have h_:smostR 3 line 0 2 1=(worthS line (fillS line 3 0 2 1) 0 (1+1),0):=smostR_nat (n:=3) (l:=line) (s:=0) (t:=2) e1
  obtain⟨x,x0,x1,hx⟩:=line_worth (line_top 1 (by decide)).ok.flow (1+1)
  rw[h_,hx]
  have:(1+1) * x - 2 * x=0:=by omega
  rw[this]
 have m2:smostR 3 line 0 2 5=(8,0):=by
  have h_:smostR 3 line 0 2 5=(worthS line (fillS line 3 0 2 5) 0 (5+1),0):=smostR_nat (n:=3) (l:=line) (s:=0) (t:=2) e2
  obtain⟨x,x0,x1,hx⟩:=line_worth (line_top 5 (by decide)).ok.flow (5+1)
  have hle:=(line_top 5 (by decide)).le line_flow (by decide) (by decide) (by decide)
  have e8:worthS line [2,2] 0 (5+1)=8:=by decide +kernel
  rw[e8,hx] at hle
  rw[h_,hx]
  have:(5+1) * x - 2 * x=8:=by omega
  rw[this]
 have m3:worthR 3 line 0 2 [1,1] 2=(1,0):=by decide +kernel
 have m4:smostR 3 line 0 2 (-1)=(0,1):=by
  have e4:spanErr 3 line 0 2 (-1)=1:=by decide +kernel
  unfold smostR
  rw[e4]
  rfl
 unfold ebbtidelaw12_awake.f
 refine Ev.let_ ?_
 refine Ev.bind (smost_ev 3 false line 0 2 1) ?_
 refine Ev.bind (smost_ev 3 false line 0 2 5) ?_
 refine Ev.bind (worth_ev 3 false line 0 2 [1,1] 2) ?_
 refine Ev.bind (smost_ev 3 false line 0 2 (-1)) ?_
 rw[m1,m2,m3,m4]
 refine Ev.pos rfl ?_
 refine Ev.pos rfl ?_
 refine Ev.pos rfl ?_
 refine Ev.pos rfl ?_
 refine Ev.pos rfl ?_
 refine Ev.pos rfl ?_
 exact Ev.now _
end Go.Proofs.Ytkcpanpdipmmmaa.Q
namespace Go.Proofs.Ytkcpanpdipmmmaa.Q
open Go.RowKit Go.Proofs.YtkcpanpdipmmmaaW.PrintWords Go.Proofs.YtkcpanpdipmmmaaW.PrintLast Go.Proofs.YtkcpanpdipmmmaaW.PrintMore Go.Proofs.Ytkcpanpdipmmmaa.P
open Go.Proofs.Ytkcpanpdipmmmaa.H (endsErr Right right_of IsFlow payS worthS SpanTop SpanOk TightP fillS sumR outR StepOf stRoom stTime toP frP)
theorem pay_zeros: ∀ l:List S74,payS l (List.replicate l.length 0)=0
 |[]=>rfl
 |a::l=>by
  show (0:Int) * a.f3+payS l (List.replicate l.length 0)=0
  rw[pay_zeros l,Int.zero_mul];rfl
theorem pay_nonneg {l:List S74} {F:List Int} {n:Nat} (hr:Right l F n):0≤payS l F∧payS l F≤219902325555200:=by
 have h:=pay_bd hr l.length 0 (by omega)
 have:=hr.arcs
 rw[List.drop_zero,List.drop_zero] at h
 omega
theorem span_nonneg {l:List S74} {F:List Int} {n s t:Nat} {h:Int} (hT:SpanTop l F n s t h) (hs:s<n) (ht:t<n) (hst:s≠t) (h0:0≤h):0≤worthS l F s (h+1)∧0≤bal l F s:=by
 obtain⟨z1,z2⟩:=H.zeros_of (s:=s) (t:=t) hT.ok.flow.right
 have hle:=hT.le z1 hs ht hst
 have e0:worthS l (List.replicate l.length 0) s (h+1)=0:=by unfold worthS;rw[z2,pay_zeros,Int.mul_zero];rfl
 rw[e0] at hle
 refine⟨hle,?_⟩
 unfold worthS at hle
 have hp:=pay_nonneg hT.ok.flow.right
 by_cases g:0≤bal l F s
 ·exact g
 ·have:=Int.mul_le_mul_of_nonneg_left (show bal l F s≤ -1 by omega) (show 0≤h+1 by omega)
  omega
theorem sumR_two {R:Int→Bool} {g:Int→Int} {s t:Int} (n:Nat) (hst:s≠t) (s0:0≤s) (s1:s<n) (t0:0≤t) (t1:t<n) (hg: ∀ v:Int,0≤v→v<n→v≠s→v≠t→g v=0):sumR R g n=(if R s then g s else 0)+(if R t then g t else 0):=by
 have aux: ∀ m:Nat,m≤n→sumR R g m=sumR R (fun v=>(if s=v then g s else 0)+(if t=v then g t else 0)) m:=by
  intro m
  induction m with
  |zero=>intro _;rfl
  |succ m ih=>
   intro hm
   unfold sumR
   rw[ih (by omega)]
   have e:g (m:Int)=(if s=(m:Int) then g s else 0)+(if t=(m:Int) then g t else 0):=by
    by_cases e1:s=(m:Int)
    ·rw[if_pos e1,if_neg (by omega),e1];omega
    ·rw[if_neg e1]
     by_cases e2:t=(m:Int)
     ·rw[if_pos e2,e2];omega
     ·rw[if_neg e2,hg m (by omega) (by omega) (Ne.symm e1) (Ne.symm e2)];rfl
   rw[← e]
 rw[aux n (Nat.le_refl _),H.sumR_add,H.sumR_one _ _ _ _ s0 s1,H.sumR_one _ _ _ _ t0 t1]
theorem out_neg (R:Int→Bool): ∀ (l:List S74) (f:List Int),f.length=l.length→(∀ i:Nat,i<l.length→0≤f.getD i 0∧(0<f.getD i 0→R (l.getD i z74).f0=true→R (l.getD i z74).f1=true))→
  outR R l f≤0∧ ∀ i:Nat,i<l.length→R (l.getD i z74).f0=false→R (l.getD i z74).f1=true→outR R l f≤ - f.getD i 0
 |[],[],_,_=>⟨Int.le_refl _,fun i hi=>by simp at hi⟩
 |[],_::_,h,_=>by simp at h
 |_::_,[],h,_=>by simp at h
 |a::l,x::f,h,hk=>by
  obtain⟨i1,i2⟩:=out_neg R l f (by simpa using h) (fun i hi=>by
   have:=hk (i+1) (by simpa using hi)
   simpa only[List.getD_cons_succ] using this)
  have h0:=hk 0 (by simp)
  simp only[List.getD_cons_zero] at h0
  rw[H.outR_cons]
  have key:(if R a.f0 then x else 0) - (if R a.f1 then x else 0)≤0:=by
   by_cases hx:0<x
   ·have:=h0.2 hx
    cases e0:R a.f0<;>cases e1:R a.f1<;>rw[e0,e1] at this<;>simp at this ⊢ <;>omega
   ·have:x=0:=by omega
    subst this
    cases R a.f0<;>cases R a.f1<;>simp
  refine⟨by omega,fun i hi g0 g1=> ?_⟩
  cases i with
  |zero=>
   simp only[List.getD_cons_zero] at g0 g1 ⊢
   rw[g0,g1]
   simp only[Bool.false_eq_true,if_false,if_true]
   omega
  |succ i=>
   simp only[List.getD_cons_succ] at g0 g1 ⊢
   have:=i2 i (by simpa using hi) g0 g1
   omega
theorem no_long {l:List S74} {F:List Int} {n s t:Nat} {h:Int} (hT:SpanTop l F n s t h) (hs:s<n) (ht:t<n) (hst:s≠t) (h0:0≤h) {i:Nat} (hi:i<l.length) (hlong:h<(rd_T74 l i).f3):F.getD i 0=0:=by
 have hf:=hT.ok.flow
 have hr:=hf.right
 obtain⟨q,hq,q0,qt⟩:=hT.ok.nums
 have hv:=(span_nonneg hT hs ht hst h0).2
 have hfe:=H.flow_ends hf hs ht hst
 -- along a used arc the numbers grow by its time
 have used: ∀ j:Nat,j<l.length→0<F.getD j 0→q (rd_T74 l j).f0.toNat+(rd_T74 l j).f3≤q (rd_T74 l j).f1.toNat:=by
  intro j hj hx
  have hn:=hr.nums j hj
  have t2:=hq ⟨j,true⟩ ⟨j,hj,rfl⟩
  unfold stRoom toP frP stTime H.stFrom H.stTo H.eFrom H.eTo at t2
  simp only[Bool.false_eq_true,if_false,if_true,Int.toNat_natCast] at t2
  have:=t2 hx
  omega
 have hni:=hr.nums i hi
 by_cases hz:F.getD i 0=0
 ·exact hz
 exfalso
 have hu:=used i hi (by omega)
 obtain⟨k,k1,k2,k3⟩: ∃ k:Int,q (rd_T74 l i).f0.toNat≤k∧k<q (rd_T74 l i).f1.toNat∧ ¬ (0≤k∧k<q t):=by
  by_cases g:0≤q (rd_T74 l i).f0.toNat∧q (rd_T74 l i).f0.toNat<q t
  ·exact⟨q (rd_T74 l i).f1.toNat - 1,by omega,by omega,by omega⟩
  ·exact⟨q (rd_T74 l i).f0.toNat,by omega,by omega,g⟩
 have ho:=out_neg (fun v=>decide (k<q v.toNat)) l F hr.len (by
  intro j hj
  have hn:=hr.nums j hj
  refine⟨by omega,fun hx hR=> ?_⟩
  have hu2:=used j hj hx
  rw[rdArc_nat] at hu2 hn
  simp only[decide_eq_true_eq] at hR ⊢
  omega)
 have hlt:=ho.2 i hi (by rw[← rdArc_nat];simp only[decide_eq_false_iff_not];omega) (by rw[← rdArc_nat];simp only[decide_eq_true_eq];omega)
 have hsum:=sumR_two (R:=fun v=>decide (k<q v.toNat)) (g:=bal l F) (s:=(s:Int)) (t:=(t:Int)) n (by omega) (by omega) (by omega) (by omega) (by omega) hf.keeps
 rw[H.sum_bal _ n l F (H.ends_arcs hr.ends) hr.len] at hsum
 simp only[Int.toNat_natCast,decide_eq_true_eq] at hsum
 rw[q0] at hsum
 by_cases c1:k<0
 ·rw[if_pos c1] at hsum
  by_cases c2:k<q t
  ·rw[if_pos c2] at hsum;omega
  ·rw[if_neg c2] at hsum;omega
 ·rw[if_neg c1,if_neg (by omega)] at hsum
  omega
end Go.Proofs.Ytkcpanpdipmmmaa.Q
namespace Go.Proofs.Ytkcpanpdipmmmaa.Q
open Go.RowKit Go.Proofs.YtkcpanpdipmmmaaW.PrintWords Go.Proofs.YtkcpanpdipmmmaaW.PrintLast Go.Proofs.YtkcpanpdipmmmaaW.PrintMore Go.Proofs.Ytkcpanpdipmmmaa.P
structure EndsOk (n s t:Int):Prop where
 s0:0≤s
 t0:0≤t
 sn:s<n
 tn:t<n
 ne:s≠t
def U8 (x:Int):Prop:=(Lit.int .u8 x).wf=true
theorem u8_in {x:Int} (h:U8 x):0≤x∧x≤255:=by
 unfold U8 at h
 simp[Lit.wf,IntKind.min,IntKind.max,IntKind.signed,IntKind.bits] at h
 omega
def BitOk (b:S135):Prop:=U8 b.f0∧U8 b.f1∧U8 b.f2∧U8 b.f3
def SmallOk (x:Int × Bool × List S135 × Int × Int × Int):Prop:=
 U8 x.1∧True∧(x.2.2.1.length≤9223372036854775807∧ ∀ b∈x.2.2.1,BitOk b)∧U8 x.2.2.2.1∧U8 x.2.2.2.2.1∧U8 x.2.2.2.2.2
theorem tmod_in {x m:Int} (h0:0≤x) (hm:0<m):0≤Int.tmod x m∧Int.tmod x m<m:=⟨Int.tmod_nonneg _ h0,Int.tmod_lt_of_pos _ hm⟩
structure SmallNet (m:Int) (hold:Bool) (r:Int × Bool × List S74 × Int × Int × Int):Prop where
 lo:2≤r.1
 hi:r.1≤5
 hold:r.2.1=hold
 net:NetOk r.1 r.2.2.1
 ends:EndsOk r.1 r.2.2.2.1 r.2.2.2.2.1
 s0:0≤r.2.2.2.2.2
 s1:r.2.2.2.2.2≤7
 len:(r.2.2.1.length:Int)≤m
 arcs: ∀ a∈r.2.2.1,a.f2≤5∧a.f3≤3
theorem read_l0 (m:Int) (hm0:0≤m) (hm:m≤100) (a0:Int) (hold:Bool) (bits:List S135) (a3 a4 a5 N:Int) (hb: ∀ b∈bits,BitOk b) (h3:U8 a3) (h4:U8 a4) (h5:U8 a5) (hN0:2≤N) (hN1:N≤5) (d:Nat):
  ∀ (i:Nat) (arcs:List S74),(i:Int)+d=m→arcs.length=i→(∀ a∈arcs,ArcOk N a∧a.f2≤5∧a.f3≤3)→
   ∃ r,Ev (fun k=>ebbtidelaw12_Read.l0 k m (i:Int) a0 hold bits a3 a4 a5 N hold arcs) r∧SmallNet m hold r:=by
 have h3:=u8_in h3
 have h4:=u8_in h4
 have h5:=u8_in h5
 have w3:=tmod_in (x:=a3) (m:=N) h3.1 (by omega)
 have w4:=tmod_in (x:=a4) (m:=N - 1) h4.1 (by omega)
 have w5:=tmod_in (x:=a5) (m:=8) h5.1 (by omega)
 have wt:=tmod_in (x:=Int.tmod a3 N+1+Int.tmod a4 (N - 1)) (m:=N) (by omega) (by omega)
 have hne:Int.tmod a3 N≠Int.tmod (Int.tmod a3 N+1+Int.tmod a4 (N - 1)) N:=by
  intro e
  rw[Int.tmod_eq_emod_of_nonneg (a:=Int.tmod a3 N+1+Int.tmod a4 (N - 1)) (by omega)] at e
  generalize Int.tmod a3 N=s at *
  generalize Int.tmod a4 (N - 1)=t at *
  have h1:=Int.emod_add_mul_ediv (s+1+t) N
  rw[← e] at h1
  generalize (s+1+t) / N=q at h1
  have hcase:q≤0∨q=1∨2≤q:=by omega
  rcases hcase with hq|hq|hq
  ·have:N * q≤0:=Int.mul_nonpos_of_nonneg_of_nonpos (by omega) hq
   omega
  ·subst hq;omega
  ·have:N * 2≤N * q:=Int.mul_le_mul_of_nonneg_left hq (by omega)
   omega
 have fin: ∀ arcs:List S74,(arcs.length:Int)≤m→(∀ a∈arcs,ArcOk N a∧a.f2≤5∧a.f3≤3)→
   SmallNet m hold (N,hold,arcs,Int.tmod (wrap64 a3) N,Int.tmod (wrap64 (wrap64 (Int.tmod (wrap64 a3) N+1)+Int.tmod (wrap64 a4) (wrap64 (N - 1)))) N,Int.tmod (wrap64 a5) 8):=by
  intro arcs hl ha
  rw[wrap_id (x:=a3) (by omega) (by omega),wrap_id (x:=a4) (by omega) (by omega),wrap_id (x:=a5) (by omega) (by omega),wrap_id (x:=N - 1) (by omega) (by omega),wrap_id (x:=Int.tmod a3 N+1) (by omega) (by omega),wrap_id (by omega) (by omega)]
  exact⟨hN0,hN1,rfl,⟨by show 1≤N;omega,by show N≤50;omega,by show arcs.length≤200;omega,fun a h=>(ha a h).1⟩,⟨w3.1,wt.1,w3.2,wt.2,hne⟩,w5.1,by show Int.tmod a5 8≤7;omega,hl,fun a h=>(ha a h).2⟩
 have hw:wrap64 (N - 1)=N - 1:=wrap_id (by omega) (by omega)
 induction d with
 |zero=>
  intro i arcs hi hl ha
  refine⟨_,?_,fin arcs (by omega) ha⟩
  refine Ev.succ ?_;simp only[ebbtidelaw12_Read.l0]
  refine Ev.ite (fun g=> ?_) (fun g=> ?_)
  ·exact Ev.neg (by omega) (Ev.neg (by omega) (Ev.neg (by omega) (Ev.now _)))
  ·exact Ev.neg (by omega) (Ev.neg (by omega) (Ev.now _))
 |succ d ih=>
  intro i arcs hi hl ha
  by_cases g:(i:Int)<(bits.length:Int)
  ·have hbit:=hb (rd_T135 bits (i:Int)) (getD_mem (by omega))
   obtain⟨b0,b1,b2,b3⟩:=hbit
   have b0:=u8_in b0;have b1:=u8_in b1;have b2:=u8_in b2;have b3:=u8_in b3
   have v0:=tmod_in (m:=N) b0.1 (by omega)
   have v1:=tmod_in (m:=N) b1.1 (by omega)
   have v2:=tmod_in (m:=6) b2.1 (by omega)
   have v3:=tmod_in (m:=4) b3.1 (by omega)
   obtain⟨r,hr,hp⟩:=ih (i+1) (arcs ++ [(⟨Int.tmod (rd_T135 bits (i:Int)).f0 N,Int.tmod (rd_T135 bits (i:Int)).f1 N,Int.tmod (rd_T135 bits (i:Int)).f2 6,Int.tmod (rd_T135 bits (i:Int)).f3 4⟩:S74)]) (by omega) (by simp[hl]) (by
    intro a h
    rcases List.mem_append.1 h with h|h
    ·exact ha a h
    ·rw[List.mem_singleton.1 h]
     exact⟨⟨v0.1,v1.1,v2.1,v3.1,v0.2,v1.2,by show Int.tmod _ 6≤1048576;omega,by show Int.tmod _ 4≤1048576;omega⟩,by show Int.tmod _ 6≤5;omega,by show Int.tmod _ 4≤3;omega⟩)
   refine⟨r,?_,hp⟩
   refine Ev.succ ?_;simp only[ebbtidelaw12_Read.l0]
   refine Ev.pos g (Ev.pos (by omega) (Ev.pos (by omega) (Ev.neg (by omega) (Ev.pos (by omega) ?_))))
   rw[wrap_succ (n:=101) (by omega) (by omega),wrap_id (x:=(rd_T135 bits (i:Int)).f0) (by omega) (by omega),wrap_id (x:=(rd_T135 bits (i:Int)).f1) (by omega) (by omega),wrap_id (x:=(rd_T135 bits (i:Int)).f2) (by omega) (by omega),wrap_id (x:=(rd_T135 bits (i:Int)).f3) (by omega) (by omega)]
   exact hr
  ·refine⟨_,?_,fin arcs (by omega) ha⟩
   refine Ev.succ ?_;simp only[ebbtidelaw12_Read.l0]
   exact Ev.neg g (Ev.neg (by omega) (Ev.neg (by omega) (Ev.now _)))
theorem read_ev (m:Int) (hm0:0≤m) (hm:m≤100) (a0:Int) (hold:Bool) (bits:List S135) (a3 a4 a5:Int) (h:SmallOk (a0,hold,bits,a3,a4,a5)):
  ∃ r,Ev (fun k=>ebbtidelaw12_Read.f k a0 hold bits a3 a4 a5 m) r∧SmallNet m hold r:=by
 obtain⟨h0,_,⟨_,hb⟩,h3,h4,h5⟩:=h
 have h0':=u8_in h0
 simp only at h0'
 have w0:=tmod_in (x:=a0) (m:=4) h0'.1 (by omega)
 unfold ebbtidelaw12_Read.f
 rw[wrap_id (x:=a0) (by omega) (by omega),wrap_id (by omega) (by omega)]
 exact read_l0 m hm0 hm a0 hold bits a3 a4 a5 _ hb h3 h4 h5 (by omega) (by omega) m.toNat 0 [] (by omega) rfl (by simp)
end Go.Proofs.Ytkcpanpdipmmmaa.Q
namespace Go.Proofs.Ytkcpanpdipmmmaa.Q
open Go.RowKit Go.Proofs.YtkcpanpdipmmmaaW.PrintWords Go.Proofs.YtkcpanpdipmmmaaW.PrintLast Go.Proofs.YtkcpanpdipmmmaaW.PrintMore Go.Proofs.Ytkcpanpdipmmmaa.P
open Go.Proofs.Ytkcpanpdipmmmaa.H (endsErr Right right_of IsFlow payS worthS SpanTop fillS)
theorem spanErr_of {n:Int} {l:List S74} {s t h:Int} (e:endsErr n l s t=0) (h0:0≤h) (h1:h≤1024):spanErr n l s t h=0:=by
 unfold spanErr horErr
 rw[if_pos e,if_neg (by omega),if_neg (by omega)]
end Go.Proofs.Ytkcpanpdipmmmaa.Q
namespace Go.Proofs.Ytkcpanpdipmmmaa.Q
open Go.RowKit Go.Proofs.YtkcpanpdipmmmaaW.PrintWords Go.Proofs.YtkcpanpdipmmmaaW.PrintLast Go.Proofs.YtkcpanpdipmmmaaW.PrintMore Go.Proofs.Ytkcpanpdipmmmaa.P
open Go.Proofs.Ytkcpanpdipmmmaa.H (endsErr Right right_of IsFlow payS worthS SpanTop fillS)
def shL (h:Int) (l:List S74):List S74:=l.filter fun a=>decide (a.f3≤h)
def shF (h:Int):List S74→List Int→List Int
 |a::l,x::f=>if a.f3≤h then x::shF h l f else shF h l f
 |_,_=>[]
def exF (h:Int):List S74→List Int→List Int
 |[],_=>[]
 |a::l,g=>if a.f3≤h then g.headD 0::exF h l g.tail else 0::exF h l g
theorem shL_yes {h:Int} {a:S74} (l:List S74) (g:a.f3≤h):shL h (a::l)=a::shL h l:=by unfold shL;rw[List.filter_cons_of_pos (by simpa using g)]
theorem shL_no {h:Int} {a:S74} (l:List S74) (g: ¬ a.f3≤h):shL h (a::l)=shL h l:=by unfold shL;rw[List.filter_cons_of_neg (by simpa using g)]
theorem sh_all (h:Int) (v:Int): ∀ (l:List S74) (f:List Int),flowB l f=true→(∀ i:Nat,i<l.length→h<(l.getD i z74).f3→f.getD i 0=0)→flowB (shL h l) (shF h l f)=true∧bal (shL h l) (shF h l f) v=bal l f v∧payS (shL h l) (shF h l f)=payS l f
 |[],[],_,_=>⟨rfl,rfl,rfl⟩
 |[],_::_,hb,_=>by simp[flowB] at hb
 |_::_,[],hb,_=>by simp[flowB] at hb
 |a::l,x::f,hb,hz=>by
  have hb0:=hb
  unfold flowB at hb
  split at hb
  ·cases hb
  rename_i g1
  split at hb
  ·cases hb
  rename_i g2
  obtain⟨i1,i2,i3⟩:=sh_all h v l f hb (fun i hi hl=>by
   have:=hz (i+1) (by simpa using hi) (by simpa only[List.getD_cons_succ] using hl)
   simpa only[List.getD_cons_succ] using this)
  by_cases g:a.f3≤h
  ·rw[shL_yes l g]
   have e:shF h (a::l) (x::f)=x::shF h l f:=by rw[shF,if_pos g]
   rw[e,bal_cons,bal_cons,H.payS_cons,H.payS_cons,i2,i3]
   refine⟨?_,rfl,rfl⟩
   unfold flowB
   rw[if_neg g1,if_neg g2]
   exact i1
  ·rw[shL_no l g]
   have e:shF h (a::l) (x::f)=shF h l f:=by rw[shF,if_neg g]
   have hx:x=0:=hz 0 (by simp) (by simp only[List.getD_cons_zero];omega)
   subst hx
   rw[e,bal_cons,H.payS_cons,i2,i3]
   refine⟨i1,?_,?_⟩
   ·rw[ite_self,ite_self];omega
   ·rw[Int.zero_mul];omega
theorem ex_all (h:Int) (v:Int): ∀ (l:List S74) (g:List Int),(∀ a,a∈l→0≤a.f2)→flowB (shL h l) g=true→flowB l (exF h l g)=true∧bal l (exF h l g) v=bal (shL h l) g v∧payS l (exF h l g)=payS (shL h l) g
 |[],[],_,_=>⟨rfl,rfl,rfl⟩
 |[],_::_,_,hb=>by simp[shL,flowB] at hb
 |a::l,g,hp,hb=>by
  by_cases c:a.f3≤h
  ·rw[shL_yes l c] at hb ⊢
   cases g with
   |nil=>simp[flowB] at hb
   |cons x g=>
    unfold flowB at hb
    split at hb
    ·cases hb
    rename_i g1
    split at hb
    ·cases hb
    rename_i g2
    obtain⟨i1,i2,i3⟩:=ex_all h v l g (fun b hb=>hp b (List.mem_cons_of_mem _ hb)) hb
    have e:exF h (a::l) (x::g)=x::exF h l g:=by rw[exF,if_pos c];rfl
    rw[e,bal_cons,bal_cons,H.payS_cons,H.payS_cons,i2,i3]
    refine⟨?_,rfl,rfl⟩
    unfold flowB
    rw[if_neg g1,if_neg g2]
    exact i1
  ·rw[shL_no l c] at hb ⊢
   obtain⟨i1,i2,i3⟩:=ex_all h v l g (fun b hb=>hp b (List.mem_cons_of_mem _ hb)) hb
   have e:exF h (a::l) g=0::exF h l g:=by rw[exF,if_neg c]
   have:=hp a List.mem_cons_self
   rw[e,bal_cons,H.payS_cons,i2,i3]
   refine⟨?_,?_,?_⟩
   ·unfold flowB
    rw[if_neg (by omega),if_neg (by omega)]
    exact i1
   ·rw[ite_self,ite_self];omega
   ·rw[Int.zero_mul];omega
theorem shL_net {n:Int} {l:List S74} (h:Int) (hn:NetOk n l):NetOk n (shL h l):=
 ⟨hn.lo,hn.hi,by have:=hn.len;have:=List.length_filter_le (fun a:S74=>decide (a.f3≤h)) l;show (l.filter _).length≤200;omega,fun a ha=>hn.arcs a (List.mem_filter.1 ha).1⟩
theorem right_mk {n:Nat} {l:List S74} {F:List Int} (hn:NetOk n l) (hb:flowB l F=true):Right l F n:=by
 obtain⟨n0,e,hr⟩:=right_of (ask_of hn (flow_ok hb))
 obtain rfl:n=n0:=by omega
 exact hr
theorem short_same {n s t:Nat} {l:List S74} {h:Int} {A B:List Int} (hn:NetOk n l) (hs:s<n) (ht:t<n) (hst:s≠t) (h0:0≤h) (hA:SpanTop l A n s t h) (hB:SpanTop (shL h l) B n s t h):worthS l A s (h+1)=worthS (shL h l) B s (h+1):=by
 have bA:=(flowOk_of hA.ok.flow.right).b
 have bB:=(flowOk_of hB.ok.flow.right).b
 have hz: ∀ i:Nat,i<l.length→h<(l.getD i z74).f3→A.getD i 0=0:=fun i hi hl=>no_long hA hs ht hst h0 hi (by rw[rdArc_nat];exact hl)
 have fA:IsFlow (shL h l) (shF h l A) n s t:=⟨right_mk (shL_net h hn) (sh_all h 0 l A bA hz).1,fun v a b c d=>by rw[(sh_all h v l A bA hz).2.1];exact hA.ok.flow.keeps v a b c d⟩
 have hcap: ∀ a,a∈l→0≤a.f2:=fun a ha=>(hn.arcs a ha).f2
 have fB:IsFlow l (exF h l B) n s t:=⟨right_mk hn (ex_all h 0 l B hcap bB).1,fun v a b c d=>by rw[(ex_all h v l B hcap bB).2.1];exact hB.ok.flow.keeps v a b c d⟩
 have l1:=hB.le fA hs ht hst
 have l2:=hA.le fB hs ht hst
 have e1:worthS (shL h l) (shF h l A) s (h+1)=worthS l A s (h+1):=by
  unfold worthS
  rw[(sh_all h s l A bA hz).2.1,(sh_all h s l A bA hz).2.2]
 have e2:worthS l (exF h l B) s (h+1)=worthS (shL h l) B s (h+1):=by
  unfold worthS
  rw[(ex_all h s l B hcap bB).2.1,(ex_all h s l B hcap bB).2.2]
 omega
theorem short_l0 (N:Int) (p:Bool) (l:List S74) (s t h:Int) (hn:NetOk N l) (g:endsErr N l s t=0) (h0:0≤h) (h1:h≤7) (d:Nat): ∀ (i:Nat),i+d=l.length→
  Ev (fun k=>ebbtidelaw12_SpanShort.l0 k true s t h (smostR N l s t h).1 (smostR N l s t h).2 (shL h (l.take i)) (i:Int) N p l) true:=by
 have hl:=hn.len
 induction d with
 |zero=>
  intro i hi
  refine Ev.succ ?_;simp only[ebbtidelaw12_SpanShort.l0]
  refine Ev.neg (by omega) ?_
  rw[List.take_of_length_le (by omega)]
  refine Ev.bind (smost_ev N p (shL h l) s t h) ?_
  refine Ev.pos (by first|trivial|rfl) ?_
  have g2:endsErr N (shL h l) s t=0:=by
   obtain⟨_,he⟩:=endsE_ok g
   exact endsE_of (shL_net h hn) he
  obtain⟨n0,s0,t0,rfl,rfl,rfl,hs,ht,hst,hn2,hr2⟩:=ends_zero g
  obtain⟨n1,s1,t1,e0,e1,e2,_,_,_,_,hr3⟩:=ends_zero g2
  obtain rfl:n0=n1:=by omega
  rw[smostR_nat (spanErr_of g h0 (by omega)),smostR_nat (spanErr_of g2 h0 (by omega))]
  refine Ev.pos (by first|trivial|rfl) ?_
  refine Ev.pos (by first|trivial|rfl) ?_
  refine Ev.done ?_
  have:=short_same hn hs ht hst h0 (span_top hr2 hs ht hst h0) (span_top hr3 hs ht hst h0)
  simp only[beq_iff_eq]
  exact this
 |succ d ih=>
  intro i hi
  have hx:=ih (i+1) (by omega)
  have et:l.take (i+1)=l.take i ++ [rd_T74 l (i:Int)]:=by
   rw[rdArc_nat,List.take_add_one,List.getD_eq_getElem?_getD]
   have:i<l.length:=by omega
   simp[List.getElem?_eq_getElem this]
  have hlen:(shL h (l.take i)).length≤200:=by
   have:=List.length_filter_le (fun a:S74=>decide (a.f3≤h)) (l.take i)
   have h2:=List.length_take_le i l
   show ((l.take i).filter _).length≤200
   have h3:(l.take i).length≤l.length:=by rw[List.length_take];omega
   omega
  rw[et] at hx
  refine Ev.succ ?_;simp only[ebbtidelaw12_SpanShort.l0]
  refine Ev.pos (by omega) ?_
  refine Ev.pos (by omega) ?_
  rw[wrap_succ (n:=l.length) (by omega) (by omega)]
  refine Ev.ite (fun c=> ?_) (fun c=> ?_)
  ·refine Ev.pos (by omega) ?_
   have e:shL h (l.take i ++ [rd_T74 l (i:Int)])=shL h (l.take i) ++ [rd_T74 l (i:Int)]:=by
    unfold shL
    rw[List.filter_append,List.filter_cons_of_pos (by simpa using c)]
    rfl
   rw[e] at hx
   exact hx
  ·have e:shL h (l.take i ++ [rd_T74 l (i:Int)])=shL h (l.take i):=by
    unfold shL
    rw[List.filter_append,List.filter_cons_of_neg (by simpa using c),List.filter_nil,List.append_nil]
   rw[e] at hx
   exact hx
theorem spanShort_ev (a0:Int) (hold:Bool) (bits:List S135) (a3 a4 a5:Int) (hs:SmallOk (a0,hold,bits,a3,a4,a5)):Ev (fun k=>ebbtidelaw12_SpanShort.f k a0 hold bits a3 a4 a5) true:=by
 unfold ebbtidelaw12_SpanShort.f
 refine Ev.bind awake12_ev ?_
 refine Ev.pos rfl ?_
 obtain⟨⟨N,p,l,s,t,h⟩,hr,hn⟩:=read_ev 10 (by omega) (by omega) a0 hold bits a3 a4 a5 hs
 refine Ev.bind hr ?_
 have hnet:NetOk N l:=hn.net
 have hE:EndsOk N s t:=hn.ends
 have g:endsErr N l s t=0:=endsE_of hnet ⟨hE.s0,hE.sn,hE.t0,hE.tn,hE.ne⟩
 show Ev (fun k=>(span_Most.f k N p l s t h).bind _) true
 refine Ev.bind (smost_ev N p l s t h) ?_
 exact short_l0 N p l s t h hnet g hn.s0 hn.s1 l.length 0 (by omega)
end Go.Proofs.Ytkcpanpdipmmmaa.Q
