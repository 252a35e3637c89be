/- What the law's row needs of these texts, taken out of them by wip/tool/mini.py: P68 QBfsLaw QWayLaw QDownLaw P47 P48 P46 QBfLaw QSortArr QSortLaw P21 P23. -/
import Derived.Test.YtkcpanpdipmmmaaMkkdfci
import Derived.Test.YtkcpanpdipmmmaaProg
import Derived.RegionTactic
import Derived.ChangeAlike
import Derived.BigRegion
import Derived.LoopTactic
import Derived.WalkKit
import Derived.Laws.AppendOwn
set_option linter.unusedVariables false
set_option linter.unusedSimpArgs false
namespace Go.Proofs.Ytkcpanpdipmmmaa.P
open Go.RowKit Go.Proofs.YtkcpanpdipmmmaaW.PrintWords Go.Proofs.YtkcpanpdipmmmaaW.PrintLast Go.Proofs.YtkcpanpdipmmmaaW.PrintMore
attribute [local go_sem] max2_int min2_int max_two min_two max_three min_three max_four min_four
mutual
def ebbtideref08_sought.l0:Nat→List (S38)→Int→Int→Bool→List (S74)→List Int→List (S38)→Option (List Int × (List (S38)))
 |0,_,_,_,_,_,_,_=>none
 |k+1,x2,x8,x450000,x450001,x450002,x452000,x452001=>if x8<(x452000.length:Int) then(ebbtideref08_sought.l1 k x2 x8 0 x450000 x450001 x450002 x452000 x452001) else(some (x452000,x452001))
def ebbtideref08_sought.l1:Nat→List (S38)→Int→Int→Int→Bool→List (S74)→List Int→List (S38)→Option (List Int × (List (S38)))
 |0,_,_,_,_,_,_,_,_=>none
 |k+1,x2,x8,x9,x450000,x450001,x450002,x452000,x452001=>if x9<(x2.length:Int) then(if 0≤x9 then((ebbtideref07_From.f x450000 x450001 x450002 ((rd_T38 x2 x9).f0) ((rd_T38 x2 x9).f1)).bind fun t459=>(if 0≤x8 then(if x8<(x452000.length:Int) then(if t459=(rd x452000 x8) then((ebbtideref07_To.f x450000 x450001 x450002 ((rd_T38 x2 x9).f0) ((rd_T38 x2 x9).f1)).bind fun t462=>((ebbtideref08_found_has.f k x452000 x452001 t462).bind fun t463=>(if t463<0 then((ebbtideref07_To.f x450000 x450001 x450002 ((rd_T38 x2 x9).f0) ((rd_T38 x2 x9).f1)).bind fun t465=>(if x452000.length<17592186044416 then(if x452001.length<8796093022208 then(ebbtideref08_sought.l1 k x2 x8 (wrap64 (x9+1)) x450000 x450001 x450002 (x452000 ++ [t465]) (x452001 ++ [(⟨(rd_T38 x2 x9).f0,(rd_T38 x2 x9).f1⟩:S38)])) else(none)) else(none))) else(ebbtideref08_sought.l1 k x2 x8 (wrap64 (x9+1)) x450000 x450001 x450002 x452000 x452001)))) else(ebbtideref08_sought.l1 k x2 x8 (wrap64 (x9+1)) x450000 x450001 x450002 x452000 x452001)) else(none)) else(none))) else(none)) else(ebbtideref08_sought.l0 k x2 (wrap64 (x8+1)) x450000 x450001 x450002 x452000 x452001)
end
def ebbtideref08_sought.f (k:Nat) (a0_0:Int) (a0_1:Bool) (l0_2:List (S74)) (a1:Int) (l2:List (S38)):Option (List Int × (List (S38))):=if ([]:List Int).length<17592186044416 then(if ([]:List (S38)).length<8796093022208 then(ebbtideref08_sought.l0 k l2 0 a0_0 a0_1 l0_2 (([]:List Int) ++ [a1]) (([]:List (S38)) ++ [(⟨0,false⟩:S38)])) else(none)) else(none)
def ebbtideref08_sought.T10:Bool × List (List Nat × List Nat):=(true,[([],[]),([],[]),([],[]),([1,2],[1,2]),([3],[3]),([0,4],[0,4]),([],[]),([6],[6]),([],[]),([7,8],[7,8]),([9],[9]),([5,10],[5,10]),([11,5],[11]),([12],[12]),([12],[12]),([12],[12]),([12],[12]),([15,16,12],[12,15,16]),([17,12],[12,17]),([14,18,12,12],[12,14,18]),([13,19,19,12],[12,13,19]),([20,12],[12,20]),([12,21],[12,21])])
def ebbtideref08_sought.B10:List Nat:=[0,0,0,6,14,31,0,64,0,448,960,2047,4095,8191,8191,8191,8191,106495,237567,516095,1048575,2097151,4194303]
theorem ebbtideref08_sought.tab10:rtab .any (opsOf Try.f146 10)=ebbtideref08_sought.T10:=by kernel_rfl
theorem ebbtideref08_sought.bits10:waitsOk ebbtideref08_sought.T10.2 ebbtideref08_sought.B10=true:=by kernel_rfl
def ebbtideref08_sought.T11:Bool × List (List Nat × List Nat):=(true,[([],[]),([0],[0]),([],[]),([],[]),([],[]),([3,4],[3,4]),([5],[5]),([2,6],[2,6]),([7],[7]),([1,8,7],[1,8]),([0,1,2,3,4,5,6,7,8,9],[]),([10,9,9,0,1,2,3,4,5,6,7,8,9],[9,10])])
def ebbtideref08_sought.B11:List Nat:=[0,1,0,0,0,24,56,124,252,511,1023,2047]
theorem ebbtideref08_sought.tab11:rtab .any (opsOf Try.f146 11)=ebbtideref08_sought.T11:=by kernel_rfl
theorem ebbtideref08_sought.bits11:waitsOk ebbtideref08_sought.T11.2 ebbtideref08_sought.B11=true:=by kernel_rfl
def ebbtideref08_sought.T12:Bool × List (List Nat × List Nat):=(true,[([],[]),([0],[0]),([],[]),([],[]),([2,3],[2,3]),([4],[4]),([5],[5]),([1,6],[1,6]),([0,1,2,3,4,5,6,7],[]),([8,7,7,0,1,2,3,4,5,6,7],[7,8])])
def ebbtideref08_sought.B12:List Nat:=[0,1,0,0,12,28,60,127,255,511]
theorem ebbtideref08_sought.tab12:rtab .any (opsOf Try.f146 12)=ebbtideref08_sought.T12:=by kernel_rfl
theorem ebbtideref08_sought.bits12:waitsOk ebbtideref08_sought.T12.2 ebbtideref08_sought.B12=true:=by kernel_rfl
set_option maxHeartbeats 8000000 in
set_option maxRecDepth 100000 in
theorem ebbtideref08_sought.calls (k:Nat) (a0_0:Int) (a0_1:Bool) (A0_2:Option Addr) (c0_2:Nat) (l0_2:List (S74)) (a1:Int) (A2:Option Addr) (c2:Nat) (l2:List (S38)) (r1:List Int) (r2:List (S38)) (w:World) (hr0_2:Kd.C k74 w A0_2 l0_2.length l0_2) (hc0_2:l0_2.length≤c0_2) (hr2:Kd.C k38 w A2 l2.length l2) (hc2:l2.length≤c2) (h:ebbtideref08_sought.f k a0_0 a0_1 l0_2 a1 l2=some (r1,r2)):
  Calls Try.prog 146 #[.agg #[.int .i64 a0_0, .bool a0_1, .slice A0_2 l0_2.length c0_2], .int .i64 a1, .slice A2 l2.length c2] w fun e w'=> ∃ v0_ v1_:Value,e= .returned (.agg #[v0_,v1_])∧Kd.R (Kd.int .i64) 3 w' w.heap.size (fun _=>True) v0_ r1∧Kd.R k38 38 w' w.heap.size (fun _=>True) v1_ r2∧Below w.heap.size w w':=by
 have hu24:=Try.underlying24
 have hu161:=Try.underlying161
 have hu38:=Try.underlying38
 have HR0_2:=Aside0.mk hr0_2
 have HC0_2:=Aside0.mk hc0_2
 clear hr0_2 hc0_2
 have HR2:=Aside0.mk hr2
 have HC2:=Aside0.mk hc2
 clear hr2 hc2
 have HB:=Aside0.mk (Below.refl w.heap.size w)
 have H:(if ([]:List Int).length<17592186044416 then(if ([]:List (S38)).length<8796093022208 then(ebbtideref08_sought.l0 k l2 0 a0_0 a0_1 l0_2 (([]:List Int) ++ [a1]) (([]:List (S38)) ++ [(⟨0,false⟩:S38)])) else(none)) else(none))=some (r1,r2):=h
 clear h
 by_cases c4:([]:List Int).length<17592186044416
 rotate_left
 ·rw[if_neg c4] at H
  exact absurd H (by simp)
 rw[if_pos c4] at H
 have LMc4:=Aside0.mk c4
 clear c4
 obtain⟨y452,hy452⟩: ∃ y_:List Int,y_=(([]:List Int) ++ [a1]):=⟨_,rfl⟩
 replace H:(if ([]:List (S38)).length<8796093022208 then(ebbtideref08_sought.l0 k l2 0 a0_0 a0_1 l0_2 y452 (([]:List (S38)) ++ [(⟨0,false⟩:S38)])) else(none))=some (r1,r2):=by first|(rw[hy452];with_reducible exact H)|(have H2_:=(Option.bind_some _ _).symm.trans H;rw[hy452];with_reducible exact H2_)|(have H2_:=(Option.bind_some _ _).symm.trans H;with_reducible exact H2_)|with_reducible exact H|(rw[hy452];exact H)|exact H
 have Ny452:=Aside0.mk hy452
 clear hy452
 by_cases c5:([]:List (S38)).length<8796093022208
 rotate_left
 ·rw[if_neg c5] at H
  exact absurd H (by simp)
 rw[if_pos c5] at H
 have LMc5:=Aside0.mk c5
 clear c5
 obtain⟨y455,hy455⟩: ∃ y_:List (S38),y_=(([]:List (S38)) ++ [(⟨0,false⟩:S38)]):=⟨_,rfl⟩
 replace H:(ebbtideref08_sought.l0 k l2 0 a0_0 a0_1 l0_2 y452 y455)=some (r1,r2):=by first|(rw[hy455];with_reducible exact H)|(have H2_:=(Option.bind_some _ _).symm.trans H;rw[hy455];with_reducible exact H2_)|(have H2_:=(Option.bind_some _ _).symm.trans H;with_reducible exact H2_)|with_reducible exact H|(rw[hy455];exact H)|exact H
 have Ny455:=Aside0.mk hy455
 clear hy455
 have H':=Aside0.mk H
 clear H
 go_enter Try.func146,Try.ntmps146
 go_wp2_with (first|((with_reducible refine gate_dst (N:=3) rfl ?_);refine box_event ?hg (N:=3) ?hd (cs:= #[.int .i64 a0_0, .bool a0_1, .slice A0_2 l0_2.length c0_2]) (t:=24) ?hr ?_;(case hd=>rfl);(case hg=>rfl);(case hr=>first|(go_simp;done)|(go_simp;rfl));intro gb449 hg w6 hbox hb;have n0_:=Aside0.mk (below_step (by repeat(first|(with_reducible first|exact HB.out|apply below_alloc|apply pw_below_drewN|apply below_drew1)|exact HB.out)) hb);have n1_:=Aside0.mk (hbox);have n2_:=Aside0.mk ((by rw[hg];exact(below_size (by repeat(first|(with_reducible first|exact HB.out|apply below_alloc|apply pw_below_drewN|apply below_drew1)|exact HB.out))):w.heap.size≤gb449));have n3_:=Aside0.mk ((by rw[hg];exact(below_size (by repeat(first|(with_reducible first|exact HB.out|apply below_alloc|apply pw_below_drewN|apply below_drew1)|exact HB.out))):w.heap.size≤gb449));clear HB;have HB:=n0_;have BK449:=n1_;have GW449:=n2_;have GE449:=n3_;clear n0_ n1_ n2_ n3_;clear hb hbox hg)|((with_reducible refine gate_dst (N:=6) rfl ?_);refine box_event ?hg (N:=6) ?hd (cs:= #[.slice none 0 0, .slice none 0 0]) (t:=161) ?hr ?_;(case hd=>rfl);(case hg=>rfl);(case hr=>first|(go_simp;done)|(go_simp;rfl));intro gb450 hg w7 hbox hb;have n0_:=Aside0.mk (blk_below (g:=gb449) (o:= .cells #[.int .i64 a0_0, .bool a0_1, .slice A0_2 l0_2.length c0_2] 24 (0,0)) (by(with_reducible repeat(first|refine blk_drewN ?_ _|refine blk_drew ?_|refine blk_alloc ?_ _));exact BK449.out) hb);have n1_:=Aside0.mk (below_step (by repeat(first|(with_reducible first|exact HB.out|apply below_alloc|apply pw_below_drewN|apply below_drew1|refine below_set ?_ GE449.out)|exact HB.out)) hb);have n2_:=Aside0.mk (hbox);have n3_:=Aside0.mk ((by rw[hg];exact(below_size (by repeat(first|(with_reducible first|exact HB.out|apply below_alloc|apply pw_below_drewN|apply below_drew1|refine below_set ?_ GE449.out)|exact HB.out))):w.heap.size≤gb450));have n4_:=Aside0.mk ((by rw[hg];exact(below_size (by repeat(first|(with_reducible first|exact HB.out|apply below_alloc|apply pw_below_drewN|apply below_drew1|refine below_set ?_ GE449.out)|exact HB.out))):w.heap.size≤gb450));have n5_:=Aside0.mk ((by rw[hg];exact Nat.ne_of_lt (blk_lt (g:=gb449) (o:= .cells #[.int .i64 a0_0, .bool a0_1, .slice A0_2 l0_2.length c0_2] 24 (0,0)) (by(with_reducible repeat(first|refine blk_drewN ?_ _|refine blk_drew ?_|refine blk_alloc ?_ _));exact BK449.out)):gb449≠gb450));have n6_:=Aside0.mk ((by rw[hg];exact Nat.ne_of_gt (blk_lt (g:=gb449) (o:= .cells #[.int .i64 a0_0, .bool a0_1, .slice A0_2 l0_2.length c0_2] 24 (0,0)) (by(with_reducible repeat(first|refine blk_drewN ?_ _|refine blk_drew ?_|refine blk_alloc ?_ _));exact BK449.out)):gb450≠gb449));clear BK449;clear HB;have BK449:=n0_;have HB:=n1_;have BK450:=n2_;have GW450:=n3_;have GE450:=n4_;have NB449_450:=n5_;have NB450_449:=n6_;clear n0_ n1_ n2_ n3_ n4_ n5_ n6_;clear hb hbox hg)|((with_reducible refine gate_dst (N:=7) rfl ?_);refine box_event ?hg (N:=7) ?hd (cs:= #[.slice none 0 0, .slice none 0 0]) (t:=161) ?hr ?_;(case hd=>rfl);(case hg=>rfl);(case hr=>first|(go_simp;done)|(go_simp;rfl));intro gb451 hg w8 hbox hb;have n0_:=Aside0.mk (blk_below (g:=gb449) (o:= .cells #[.int .i64 a0_0, .bool a0_1, .slice A0_2 l0_2.length c0_2] 24 (0,0)) (by(with_reducible repeat(first|refine blk_drewN ?_ _|refine blk_drew ?_|refine blk_alloc ?_ _));exact BK449.out) hb);have n1_:=Aside0.mk (blk_below (g:=gb450) (o:= .cells #[.slice none 0 0, .slice none 0 0] 161 (0,0)) (by(with_reducible repeat(first|refine blk_drewN ?_ _|refine blk_drew ?_|refine blk_alloc ?_ _));exact BK450.out) hb);have n2_:=Aside0.mk (below_step (by repeat(first|(with_reducible first|exact HB.out|apply below_alloc|apply pw_below_drewN|apply below_drew1|refine below_set ?_ GE449.out|refine below_set ?_ GE450.out)|exact HB.out)) hb);have n3_:=Aside0.mk (hbox);have n4_:=Aside0.mk ((by rw[hg];exact(below_size (by repeat(first|(with_reducible first|exact HB.out|apply below_alloc|apply pw_below_drewN|apply below_drew1|refine below_set ?_ GE449.out|refine below_set ?_ GE450.out)|exact HB.out))):w.heap.size≤gb451));have n5_:=Aside0.mk ((by rw[hg];exact(below_size (by repeat(first|(with_reducible first|exact HB.out|apply below_alloc|apply pw_below_drewN|apply below_drew1|refine below_set ?_ GE449.out|refine below_set ?_ GE450.out)|exact HB.out))):w.heap.size≤gb451));have n6_:=Aside0.mk ((by rw[hg];exact Nat.ne_of_lt (blk_lt (g:=gb449) (o:= .cells #[.int .i64 a0_0, .bool a0_1, .slice A0_2 l0_2.length c0_2] 24 (0,0)) (by(with_reducible repeat(first|refine blk_drewN ?_ _|refine blk_drew ?_|refine blk_alloc ?_ _));exact BK449.out)):gb449≠gb451));have n7_:=Aside0.mk ((by rw[hg];exact Nat.ne_of_gt (blk_lt (g:=gb449) (o:= .cells #[.int .i64 a0_0, .bool a0_1, .slice A0_2 l0_2.length c0_2] 24 (0,0)) (by(with_reducible repeat(first|refine blk_drewN ?_ _|refine blk_drew ?_|refine blk_alloc ?_ _));exact BK449.out)):gb451≠gb449));have n8_:=Aside0.mk ((by rw[hg];exact Nat.ne_of_lt (blk_lt (g:=gb450) (o:= .cells #[.slice none 0 0, .slice none 0 0] 161 (0,0)) (by(with_reducible repeat(first|refine blk_drewN ?_ _|refine blk_drew ?_|refine blk_alloc ?_ _));exact BK450.out)):gb450≠gb451));have n9_:=Aside0.mk ((by rw[hg];exact Nat.ne_of_gt (blk_lt (g:=gb450) (o:= .cells #[.slice none 0 0, .slice none 0 0] 161 (0,0)) (by(with_reducible repeat(first|refine blk_drewN ?_ _|refine blk_drew ?_|refine blk_alloc ?_ _));exact BK450.out)):gb451≠gb450));clear BK449;clear BK450;clear HB;have BK449:=n0_;have BK450:=n1_;have HB:=n2_;have BK451:=n3_;have GW451:=n4_;have GE451:=n5_;have NB449_451:=n6_;have NB451_449:=n7_;have NB450_451:=n8_;have NB451_450:=n9_;clear n0_ n1_ n2_ n3_ n4_ n5_ n6_ n7_ n8_ n9_;clear hb hbox hg;have hnb9:=NB451_449.out;have hnc9:=NB449_451.out;have hnb10:=NB451_450.out;have hnc10:=NB450_451.out;have hcz11_0:w8.cell? ⟨gb451,0,none⟩=some (.slice none 0 0):=(blk_cell BK451.out 0).trans rfl;have hcz11_1:w8.cell? ⟨gb451,1,none⟩=some (.slice none 0 0):=(blk_cell BK451.out 1).trans rfl;have hfz11_0:=blk_frozen BK451.out 0;have hfz11_1:=blk_frozen BK451.out 1)|((with_reducible refine gate_builtin (b:= .append) (xs:= #[.tmp 11, .tmp 13]) rfl ?_);at_builtin;refine Kd.R_append (Kd.int .i64) (w0:=w) w.heap.size rfl (.tmp 11) (.tmp 13) 25 3 (.int .i64 0) 8 rfl Try.underlying25 info3 rfl (by decide) (by omega) (.slice none 0 0) ([]:List Int) a1 [.int .i64 a1] (fun _=>True) (fun _=>False) rfl rfl ?aP (fun _ hk=>hk.elim) ?aF ?aO ?aB ?aS ?aL ?_;(case aP=>exact rfl);(case aB=>exact(by repeat(first|(with_reducible first|exact HB.out|apply below_alloc|apply pw_below_drewN|apply below_drew1|refine below_set ?_ GE449.out|refine below_set ?_ GE450.out|refine below_set ?_ GE451.out)|exact HB.out)));(case aF=>exact(fun _ _=>trivial));(case aO=>exact((Kd.R_nil _ _ _ _ (fun _=>True))));(case aS=>exact(below_size (by repeat(first|(with_reducible first|exact HB.out|apply below_alloc|apply pw_below_drewN|apply below_drew1|refine below_set ?_ GE449.out|refine below_set ?_ GE450.out|refine below_set ?_ GE451.out)|exact HB.out))));(case aL=>have:=LMc4.out;omega);intro v453 w12 ho hb hg hat;rw[← Ny452.out] at ho;have n0_:=Aside0.mk (blk_grown (g:=gb449) (o:= .cells #[.int .i64 a0_0, .bool a0_1, .slice A0_2 l0_2.length c0_2] 24 (0,0)) (by(with_reducible repeat(first|refine blk_drewN ?_ _|refine blk_drew ?_|refine blk_alloc ?_ _));exact BK449.out) hg (by simp[Value.ownBlock]));have n1_:=Aside0.mk (blk_grown (g:=gb450) (o:= .cells #[.slice none 0 0, .slice none 0 0] 161 (0,0)) (by(with_reducible repeat(first|refine blk_drewN ?_ _|refine blk_drew ?_|refine blk_alloc ?_ _));exact BK450.out) hg (by simp[Value.ownBlock]));have n2_:=Aside0.mk (blk_grown (g:=gb451) (o:= .cells #[.slice none 0 0, .slice none 0 0] 161 (0,0)) (by(with_reducible repeat(first|refine blk_drewN ?_ _|refine blk_drew ?_|refine blk_alloc ?_ _));exact BK451.out) hg (by simp[Value.ownBlock]));have n3_:=Aside0.mk (hb);have n4_:=Aside0.mk (ho);clear BK449;clear BK450;clear BK451;clear HB;have BK449:=n0_;have BK450:=n1_;have BK451:=n2_;have HB:=n3_;have HO454:=n4_;clear n0_ n1_ n2_ n3_ n4_;clear ho hb hg hat;obtain⟨Ao13,co13,eo13⟩:=Kd.R_slice HO454.out;subst eo13;have hcz14_0:w12.cell? ⟨gb451,0,none⟩=some (.slice none 0 0):=(blk_cell BK451.out 0).trans rfl;have hcz14_1:w12.cell? ⟨gb451,1,none⟩=some (.slice none 0 0):=(blk_cell BK451.out 1).trans rfl;have hfz14_0:=blk_frozen BK451.out 0;have hfz14_1:=blk_frozen BK451.out 1)|((with_reducible refine gate_builtin (b:= .append) (xs:= #[.tmp 17, .tmp 19]) rfl ?_);at_builtin;refine Kd.R_append k38 (w0:=w) w.heap.size rfl (.tmp 17) (.tmp 19) 34 38 (.agg #[(.int .i64 0),(.bool false)]) 16 rfl Try.underlying34 info38 rfl (by decide) (by omega) (.slice none 0 0) ([]:List (S38)) (⟨0,false⟩:S38) [.int .i64 0, .bool false] (fun _=>True) (fun _=>False) rfl (by first|(go_simp;done)|(go_simp;rfl)) ?aP (fun _ hk=>hk.elim) ?aF ?aO ?aB ?aS ?aL ?_;(case aP=>exact k38_mkM _ _ _ (⟨0,false⟩:S38));(case aB=>exact(by repeat(first|(with_reducible first|exact HB.out|apply below_alloc|apply pw_below_drewN|apply below_drew1|refine below_set ?_ GE449.out|refine below_set ?_ GE450.out|refine below_set ?_ GE451.out)|exact HB.out)));(case aF=>exact(fun _ _=>trivial));(case aO=>exact((Kd.R_nil _ _ _ _ (fun _=>True))));(case aS=>exact(below_size (by repeat(first|(with_reducible first|exact HB.out|apply below_alloc|apply pw_below_drewN|apply below_drew1|refine below_set ?_ GE449.out|refine below_set ?_ GE450.out|refine below_set ?_ GE451.out)|exact HB.out))));(case aL=>have:=LMc5.out;omega);intro v456 w15 ho hb hg hat;rw[← Ny455.out] at ho;have n0_:=Aside0.mk (blk_grown (g:=gb449) (o:= .cells #[.int .i64 a0_0, .bool a0_1, .slice A0_2 l0_2.length c0_2] 24 (0,0)) (by(with_reducible repeat(first|refine blk_drewN ?_ _|refine blk_drew ?_|refine blk_alloc ?_ _));refine blk_far ?_ NB449_451.out _;(with_reducible repeat(first|refine blk_drewN ?_ _|refine blk_drew ?_|refine blk_alloc ?_ _));exact BK449.out) hg (by simp[Value.ownBlock]));have n1_:=Aside0.mk (blk_grown (g:=gb450) (o:= .cells #[.slice none 0 0, .slice none 0 0] 161 (0,0)) (by(with_reducible repeat(first|refine blk_drewN ?_ _|refine blk_drew ?_|refine blk_alloc ?_ _));refine blk_far ?_ NB450_451.out _;(with_reducible repeat(first|refine blk_drewN ?_ _|refine blk_drew ?_|refine blk_alloc ?_ _));exact BK450.out) hg (by simp[Value.ownBlock]));have n2_:=Aside0.mk (blk_grown (g:=gb451) (o:= .cells #[.slice Ao13 y452.length co13, .slice none 0 0] 161 (0,0)) (by(with_reducible repeat(first|refine blk_drewN ?_ _|refine blk_drew ?_|refine blk_alloc ?_ _));refine blk_put (cs:= #[.slice none 0 0, .slice none 0 0]) ?_ 0 _ rfl;(with_reducible repeat(first|refine blk_drewN ?_ _|refine blk_drew ?_|refine blk_alloc ?_ _));exact BK451.out) hg (by simp[Value.ownBlock]));have n3_:=Aside0.mk (Kd.R_grown (by(with_reducible repeat(first|apply Kd.R_alloc|apply Kd.R_drewN|apply Kd.R_drew));exact(Kd.R_mono (Kd.R_far (p:=⟨gb451,0,none⟩) (Kd.R_types HO454.out BK451.out (by decide)) (fun _ hk=>hk.2) (.slice Ao13 y452.length co13)) (fun _ h_=>h_.1))) hg (fun _ _=>by simp[Value.ownBlock]));have n4_:=Aside0.mk (hb);have n5_:=Aside0.mk (ho);clear BK449;clear BK450;clear BK451;clear HO454;clear HB;have BK449:=n0_;have BK450:=n1_;have BK451:=n2_;have HO454:=n3_;have HB:=n4_;have HO457:=n5_;clear n0_ n1_ n2_ n3_ n4_ n5_;clear ho hb hg hat;obtain⟨Ao16,co16,eo16⟩:=Kd.R_slice HO457.out;subst eo16;have hcz17_0:w15.cell? ⟨gb451,0,none⟩=some (.slice Ao13 y452.length co13):=(blk_cell BK451.out 0).trans rfl;have hcz17_1:w15.cell? ⟨gb451,1,none⟩=some (.slice none 0 0):=(blk_cell BK451.out 1).trans rfl;have hfz17_0:=blk_frozen BK451.out 0;have hfz17_1:=blk_frozen BK451.out 1))
 go_loopg [8] k (fun kq v8 w'=> ∃ (x8_1:Int) (x452000_1:List Int) (x452001_1:List (S38)) (u452000:Value) (u452001:Value),v8= .int .i64 x8_1∧Aside0 (ebbtideref08_sought.l0 kq l2 x8_1 a0_0 a0_1 l0_2 x452000_1 x452001_1=some (r1,r2))∧Aside0 (kq≤k)∧Aside0 (Kd.R (Kd.int .i64) 3 w' w.heap.size (fun _=>True) u452000 x452000_1)∧Aside0 (Kd.R k38 38 w' w.heap.size (fun _=>True) u452001 x452001_1)∧Aside0 (w'.heap[gb449]? =some (.cells #[.int .i64 a0_0, .bool a0_1,(.slice A0_2 l0_2.length c0_2)] 24 (0,0)))∧Aside0 (w'.heap[gb450]? =some (.cells #[(.slice none 0 0),(.slice none 0 0)] 161 (0,0)))∧Aside0 (w'.heap[gb451]? =some (.cells #[u452000,u452001] 161 (0,0)))∧Aside0 (Below w.heap.size w w'))
 case atStart=>exact⟨(0),(y452),(y455),(.slice Ao13 y452.length co13),(.slice Ao16 y455.length co16),(by first|rfl|(simp;done)|(simp[*];done)),H',⟨Nat.le_refl _⟩,⟨by(with_reducible repeat(first|apply Kd.R_alloc|apply Kd.R_drewN|apply Kd.R_drew));exact Kd.R_mono (Kd.R_far (p:=⟨gb451,1,none⟩) (Kd.R_types HO454.out BK451.out (by decide)) (fun _ hk=>hk.2) (.slice Ao16 y455.length co16)) (fun _ hk=>trivial)⟩,⟨by(with_reducible repeat(first|apply Kd.R_alloc|apply Kd.R_drewN|apply Kd.R_drew));exact Kd.R_mono (Kd.R_far (p:=⟨gb451,1,none⟩) (Kd.R_types HO457.out BK451.out (by decide)) (fun _ hk=>hk.2) (.slice Ao16 y455.length co16)) (fun _ hk=>trivial)⟩,⟨by(with_reducible repeat(first|refine blk_drewN ?_ _|refine blk_drew ?_|refine blk_alloc ?_ _));refine blk_far ?_ NB449_451.out _;(with_reducible repeat(first|refine blk_drewN ?_ _|refine blk_drew ?_|refine blk_alloc ?_ _));exact BK449.out⟩,⟨by(with_reducible repeat(first|refine blk_drewN ?_ _|refine blk_drew ?_|refine blk_alloc ?_ _));refine blk_far ?_ NB450_451.out _;(with_reducible repeat(first|refine blk_drewN ?_ _|refine blk_drew ?_|refine blk_alloc ?_ _));exact BK450.out⟩,⟨by(with_reducible repeat(first|refine blk_drewN ?_ _|refine blk_drew ?_|refine blk_alloc ?_ _));refine blk_put (cs:= #[.slice Ao13 y452.length co13, .slice none 0 0]) ?_ 1 _ rfl;(with_reducible repeat(first|refine blk_drewN ?_ _|refine blk_drew ?_|refine blk_alloc ?_ _));exact BK451.out⟩,⟨by repeat(first|(with_reducible first|exact HB.out|apply below_alloc|apply pw_below_drewN|apply below_drew1|refine below_set ?_ GE449.out|refine below_set ?_ GE450.out|refine below_set ?_ GE451.out)|exact HB.out)⟩⟩
 case round=>
  clear H'
  try clear c1
  try clear c2
  try clear p2
  try clear c4
  try clear c5
  try clear c9
  try clear c10
  try clear c14
  try clear hcz11_0
  try clear hcz11_1
  try clear hcz14_0
  try clear hcz14_1
  try clear hcz17_0
  try clear hcz17_1
  try clear hfz11_0
  try clear hfz11_1
  try clear hfz14_0
  try clear hfz14_1
  try clear hfz17_0
  try clear hfz17_1
  obtain⟨x8_1,x452000_1,x452001_1,u452000,u452001,rfl,HA,HK1,HO_452000,HO_452001,BK449,BK450,BK451,HB⟩:=hrel
  cases gk with
  |zero=>exact absurd HA.out (by simp[ebbtideref08_sought.l0])
  |succ k1=>
   have H:=HA.out
   clear HA
   simp only[ebbtideref08_sought.l0] at H
   by_cases c18:x8_1<(x452000_1.length:Int)
   rotate_left
   ·rw[if_neg c18] at H
    have c18b0:decide (x8_1<(x452000_1.length:Int))=false:=decide_eq_false c18
    clear c18
    simp only[Option.some.injEq,Prod.mk.injEq] at H
    obtain⟨rfl,rfl⟩:=H
    have hnb60:=NB451_449.out
    have hnc60:=NB449_451.out
    have hnb61:=NB451_450.out
    have hnc61:=NB450_451.out
    have hcz62_0:wr.cell? ⟨gb451,0,none⟩=some (u452000):=(blk_cell BK451.out 0).trans rfl
    have hcz62_1:wr.cell? ⟨gb451,1,none⟩=some (u452001):=(blk_cell BK451.out 1).trans rfl
    have hfz62_0:=blk_frozen BK451.out 0
    have hfz62_1:=blk_frozen BK451.out 1
    obtain⟨Ao63,co63,eo63⟩:=Kd.R_slice HO_452000.out
    subst eo63
    have hnb64:=NB450_449.out
    have hnc64:=NB449_450.out
    have hcz65_0:wr.cell? ⟨gb450,0,none⟩=some (.slice none 0 0):=(blk_cell BK450.out 0).trans rfl
    have hcz65_1:wr.cell? ⟨gb450,1,none⟩=some (.slice none 0 0):=(blk_cell BK450.out 1).trans rfl
    have hfz65_0:=blk_frozen BK450.out 0
    have hfz65_1:=blk_frozen BK450.out 1
    obtain⟨Ao66,co66,eo66⟩:=Kd.R_slice HO_452001.out
    subst eo66
    go_wp2
    refine bodyPost_ret (results_cell_row rfl _ _ gb450 161 #[.slice Ao63 x452000_1.length co63, .slice Ao66 x452001_1.length co66] (0,0) _ rfl (by(with_reducible repeat(first|refine blk_drewN ?_ _|refine blk_drew ?_|refine blk_alloc ?_ _));refine blk_put (cs:= #[.slice Ao63 x452000_1.length co63, .slice none 0 0]) ?_ 1 _ rfl;(with_reducible repeat(first|refine blk_drewN ?_ _|refine blk_drew ?_|refine blk_alloc ?_ _));refine blk_put (cs:= #[.slice none 0 0, .slice none 0 0]) ?_ 0 _ rfl;(with_reducible repeat(first|refine blk_drewN ?_ _|refine blk_drew ?_|refine blk_alloc ?_ _));exact BK450.out) Try.underlying161 rfl (by kernel_rfl)) rfl ?_
    exact⟨_,_,by first|rfl|(simp[errW_none,errW_some]<;>rfl)|(simp[*,errW_none,errW_some]<;>rfl),by(with_reducible repeat(first|apply Kd.R_alloc|apply Kd.R_drewN|apply Kd.R_drew));exact Kd.R_mono (Kd.R_far (p:=⟨gb450,1,none⟩) (Kd.R_far (p:=⟨gb450,0,none⟩) (Kd.R_types HO_452000.out BK450.out (by decide)) (fun _ hk=>hk.2) (.slice Ao63 x452000_1.length co63)) (fun _ hk=>hk.2) (.slice Ao66 x452001_1.length co66)) (fun _ hk=>trivial),by(with_reducible repeat(first|apply Kd.R_alloc|apply Kd.R_drewN|apply Kd.R_drew));exact Kd.R_mono (Kd.R_far (p:=⟨gb450,1,none⟩) (Kd.R_far (p:=⟨gb450,0,none⟩) (Kd.R_types HO_452001.out BK450.out (by decide)) (fun _ hk=>hk.2) (.slice Ao63 x452000_1.length co63)) (fun _ hk=>hk.2) (.slice Ao66 x452001_1.length co66)) (fun _ hk=>trivial),by repeat(first|(with_reducible first|exact HB.out|apply below_alloc|apply pw_below_drewN|apply below_drew1|refine below_set ?_ GE449.out|refine below_set ?_ GE450.out|refine below_set ?_ GE451.out)|exact HB.out)⟩
   rw[if_pos c18] at H
   have c18b0:decide (x8_1<(x452000_1.length:Int))=true:=decide_eq_true c18
   clear c18
   have H':=Aside0.mk H
   clear H
   have hnb19:=NB451_449.out
   have hnc19:=NB449_451.out
   have hnb20:=NB451_450.out
   have hnc20:=NB450_451.out
   have hcz21_0:wr.cell? ⟨gb451,0,none⟩=some (u452000):=(blk_cell BK451.out 0).trans rfl
   have hcz21_1:wr.cell? ⟨gb451,1,none⟩=some (u452001):=(blk_cell BK451.out 1).trans rfl
   have hfz21_0:=blk_frozen BK451.out 0
   have hfz21_1:=blk_frozen BK451.out 1
   obtain⟨Ao22,co22,eo22⟩:=Kd.R_slice HO_452000.out
   subst eo22
   go_wp2
   go_loopg [9] k1 (fun kq v9 w'=> ∃ (x9_2:Int) (x452000_2:List Int) (x452001_2:List (S38)) (u452000:Value) (u452001:Value),v9= .int .i64 x9_2∧Aside0 (ebbtideref08_sought.l1 kq l2 x8_1 x9_2 a0_0 a0_1 l0_2 x452000_2 x452001_2=some (r1,r2))∧Aside0 (kq≤k1)∧Aside0 (Kd.R (Kd.int .i64) 3 w' w.heap.size (fun _=>True) u452000 x452000_2)∧Aside0 (Kd.R k38 38 w' w.heap.size (fun _=>True) u452001 x452001_2)∧Aside0 (w'.heap[gb449]? =some (.cells #[.int .i64 a0_0, .bool a0_1,(.slice A0_2 l0_2.length c0_2)] 24 (0,0)))∧Aside0 (w'.heap[gb450]? =some (.cells #[(.slice none 0 0),(.slice none 0 0)] 161 (0,0)))∧Aside0 (w'.heap[gb451]? =some (.cells #[u452000,u452001] 161 (0,0)))∧Aside0 (Below w.heap.size w w'))
   case atStart=>exact⟨(0),(x452000_1),(x452001_1),(.slice Ao22 x452000_1.length co22),(u452001),(by first|rfl|(simp;done)|(simp[*];done)),H',⟨Nat.le_refl _⟩,⟨HO_452000.out⟩,⟨HO_452001.out⟩,⟨BK449.out⟩,⟨BK450.out⟩,⟨BK451.out⟩,⟨HB.out⟩⟩
   case round=>
    clear H'
    try clear c1
    try clear c2
    try clear p2
    try clear c4
    try clear c5
    try clear c9
    try clear c10
    try clear c14
    try clear c18
    try clear c18b0
    try clear c19
    try clear c20
    try clear hcz11_0
    try clear hcz11_1
    try clear hcz14_0
    try clear hcz14_1
    try clear hcz17_0
    try clear hcz17_1
    try clear hcz21_0
    try clear hcz21_1
    try clear hfz11_0
    try clear hfz11_1
    try clear hfz14_0
    try clear hfz14_1
    try clear hfz17_0
    try clear hfz17_1
    try clear hfz21_0
    try clear hfz21_1
    try clear p2
    obtain⟨x9_2,x452000_2,x452001_2,u452000,u452001,rfl,HA,HK2,HO_452000,HO_452001,BK449,BK450,BK451,HB⟩:=hrel
    cases gk with
    |zero=>exact absurd HA.out (by simp[ebbtideref08_sought.l1])
    |succ k2=>
     have H:=HA.out
     clear HA
     simp only[ebbtideref08_sought.l1] at H
     by_cases c23:x9_2<(l2.length:Int)
     rotate_left
     ·rw[if_neg c23] at H
      have c23b0:decide (x9_2<(l2.length:Int))=false:=decide_eq_false c23
      clear c23
      have H':=Aside0.mk H
      clear H
      go_wp2
      go_roundg k2
      case measure=>have:=HK1.out;have:=HK2.out;omega
      case rel=>exact⟨(wrap64 (x8_1+1)),(x452000_2),(x452001_2),(u452000),(u452001),(by first|rfl|(simp;done)|(simp[*];done)),H',⟨by have:=HK1.out;have:=HK2.out;omega⟩,⟨HO_452000.out⟩,⟨HO_452001.out⟩,⟨BK449.out⟩,⟨BK450.out⟩,⟨BK451.out⟩,⟨HB.out⟩⟩
     rw[if_pos c23] at H
     have c23b0:decide (x9_2<(l2.length:Int))=true:=decide_eq_true c23
     clear c23
     by_cases c24:0≤x9_2
     rotate_left
     ·rw[if_neg c24] at H
      exact absurd H (by simp)
     rw[if_pos c24] at H
     have c24b0:decide (0≤x9_2)=true:=decide_eq_true c24
     clear c24
     replace H:=Option.bind_eq_some_iff.mp H
     obtain⟨t459,A250,H⟩:=H
     replace H:(if 0≤x8_1 then(if x8_1<(x452000_2.length:Int) then(if t459=(rd x452000_2 x8_1) then((ebbtideref07_To.f a0_0 a0_1 l0_2 ((rd_T38 l2 x9_2).f0) ((rd_T38 l2 x9_2).f1)).bind fun t462=>((ebbtideref08_found_has.f k2 x452000_2 x452001_2 t462).bind fun t463=>(if t463<0 then((ebbtideref07_To.f a0_0 a0_1 l0_2 ((rd_T38 l2 x9_2).f0) ((rd_T38 l2 x9_2).f1)).bind fun t465=>(if x452000_2.length<17592186044416 then(if x452001_2.length<8796093022208 then(ebbtideref08_sought.l1 k2 l2 x8_1 (wrap64 (x9_2+1)) a0_0 a0_1 l0_2 (x452000_2 ++ [t465]) (x452001_2 ++ [(⟨(rd_T38 l2 x9_2).f0,(rd_T38 l2 x9_2).f1⟩:S38)])) else(none)) else(none))) else(ebbtideref08_sought.l1 k2 l2 x8_1 (wrap64 (x9_2+1)) a0_0 a0_1 l0_2 x452000_2 x452001_2)))) else(ebbtideref08_sought.l1 k2 l2 x8_1 (wrap64 (x9_2+1)) a0_0 a0_1 l0_2 x452000_2 x452001_2)) else(none)) else(none))=some (r1,r2):=H
     have A25:=Aside0.mk A250
     clear A250
     by_cases c26:0≤x8_1
     rotate_left
     ·rw[if_neg c26] at H
      exact absurd H (by simp)
     rw[if_pos c26] at H
     have c26b0:decide (0≤x8_1)=true:=decide_eq_true c26
     clear c26
     by_cases c27:x8_1<(x452000_2.length:Int)
     rotate_left
     ·rw[if_neg c27] at H
      exact absurd H (by simp)
     rw[if_pos c27] at H
     have c27b0:decide (x8_1<(x452000_2.length:Int))=true:=decide_eq_true c27
     clear c27
     by_cases c28:t459=(rd x452000_2 x8_1)
     rotate_left
     ·rw[if_neg c28] at H
      have c28b0:(t459 == (rd x452000_2 x8_1))=false:=beq_eq_false_iff_ne.mpr c28
      have c28b1:(t459 != (rd x452000_2 x8_1))=true:=bne_iff_ne.mpr c28
      have H':=Aside0.mk H
      clear H
      try go_wp2
      have n0_:=Aside0.mk (Kd.R_drew HO_452000.out)
      have n1_:=Aside0.mk (Kd.R_drew HO_452001.out)
      have n2_:=Aside0.mk (blk_drew BK449.out)
      have n3_:=Aside0.mk (blk_drew BK450.out)
      have n4_:=Aside0.mk (blk_drew BK451.out)
      have n5_:=Aside0.mk (below_drew1 HB.out)
      clear HO_452000
      clear HO_452001
      clear BK449
      clear BK450
      clear BK451
      clear HB
      have HO_452000:=n0_
      have HO_452001:=n1_
      have BK449:=n2_
      have BK450:=n3_
      have BK451:=n4_
      have HB:=n5_
      clear n0_ n1_ n2_ n3_ n4_ n5_
      have p458:0≤(x9_2:Int):=of_decide_eq_true (by first|(with_reducible assumption)|assumption)
      have q458:x9_2<(l2.length:Int):=of_decide_eq_true (by first|(with_reducible assumption)|assumption)
      obtain⟨ad458,e458,hx458_0,hx458_1⟩:=at_T38 HR2.out x9_2 p458 q458
      have hw458_1:=hx458_1
      have hw458_0:=hx458_0
      cases e458
      replace hx458_0:=(HB.out.cell (World.block_lt_of_cell? w _ hx458_0)).trans hx458_0
      replace hx458_1:=(HB.out.cell (World.block_lt_of_cell? w _ hx458_1)).trans hx458_1
      replace p458:=eq_true p458
      replace q458:=eq_true q458
      obtain⟨Ao58,co58,eo58⟩:=Kd.R_slice HO_452000.out
      (first|subst eo58|(injection eo58 with f1_ f2_ f3_;have f4_:=f1_.symm;have f5_:=f3_.symm;clear f1_ f2_ f3_;subst f4_;subst f5_))
      have p460:0≤(x8_1:Int):=of_decide_eq_true (by first|(with_reducible assumption)|assumption)
      have q460:x8_1<(x452000_2.length:Int):=of_decide_eq_true (by first|(with_reducible assumption)|assumption)
      obtain⟨ad460,e460,hx460_0⟩:=Kd.at_int (Kd.R_reads' HO_452000.out).2.2 x8_1 p460 q460
      cases e460
      replace p460:=eq_true p460
      replace q460:=eq_true q460
      refine start_ (n:=23) (S:=fun w'=>w'.cell? ⟨gb449,0,none⟩=some (.int .i64 a0_0)∧w'.cell? ⟨gb449,1,none⟩=some (.bool a0_1)∧w'.cell? ⟨gb449,2,none⟩=some (.slice A0_2 l0_2.length c0_2)∧w'.cell? ⟨gb451,0,none⟩=some (.slice (some ad460) x452000_2.length co58)∧w'.cell? ⟨gb451,1,none⟩=some (u452001)∧w'.cell? (ad458.add ((x9_2).toNat * 2))=some (.int .i64 ((rd_T38 l2 x9_2).f0))∧w'.cell? ⟨(ad458.add ((x9_2).toNat * 2)).block,(ad458.add ((x9_2).toNat * 2)).off+1,none⟩=some (.bool ((rd_T38 l2 x9_2).f1))∧w'.cell? (ad460.add (x8_1).toNat)=some (.int .i64 (rd x452000_2 x8_1))) (ds:=[]) #[false,false,false,false,false,false,false,false,false,false,false,false,false,false,false,false,false,false,false,false,false,false,false] (by kernel_rfl) rfl rfl ⟨(blk_cell BK449.out 0).trans rfl,(blk_cell BK449.out 1).trans rfl,(blk_cell BK449.out 2).trans rfl,(blk_cell BK451.out 0).trans rfl,(blk_cell BK451.out 1).trans rfl,((HB.out.cell (World.block_lt_of_cell? w _ hw458_0)).trans hw458_0),((HB.out.cell (World.block_lt_of_cell? w _ hw458_1)).trans hw458_1),hx460_0⟩ (fun hHeld=> ?_);refine with_tabW ebbtideref08_sought.tab10 ebbtideref08_sought.bits10 (fun HT_ HW_=> ?_)
      generalize wr.drew=w57 at HO_452000 HO_452001 BK449 BK450 BK451 HB hx458_0 hx458_1 hx460_0 hHeld ⊢
      refine pure_ (i:=1) (N:=some 36) (v:= ?_) (a':= ?_) #[false,true,false,false,false,false,false,false,false,false,false,false,false,false,false,false,false,false,false,false,false,false,false] rfl rfl (any_of HT_.out (by kernel_rfl)) (fun _ _ _ h=>h) (Or.inl ⟨by rfl,?_⟩) ?_ ?_
      rotate_left
      ·intro w'
       go_simp
       with_reducible rfl
      rotate_left
      ·simp only[Act.put,List.setIfInBounds_toArray,List.set_cons_zero,List.set_cons_succ,i64_w,i32_w]
       rfl
      refine pure_ (i:=2) (N:=some 37) (v:= ?_) (a':= ?_) #[false,true,true,false,false,false,false,false,false,false,false,false,false,false,false,false,false,false,false,false,false,false,false] rfl rfl (any_of HT_.out (by kernel_rfl)) (fun _ _ _ h=>h) (Or.inl ⟨by rfl,?_⟩) ?_ ?_
      rotate_left
      ·intro w'
       go_simp
       with_reducible rfl
      rotate_left
      ·simp only[Act.put,List.setIfInBounds_toArray,List.set_cons_zero,List.set_cons_succ,i64_w,i32_w]
       rfl
      refine pure_ (i:=3) (N:=some 38) (v:= ?_) (a':= ?_) #[false,true,true,true,false,false,false,false,false,false,false,false,false,false,false,false,false,false,false,false,false,false,false] rfl rfl (any_of HT_.out (by kernel_rfl)) (fun _ _ _ h=>h) (Or.inl ⟨by rfl,?_⟩) ?_ ?_
      rotate_left
      ·intro w'
       go_simp
       with_reducible rfl
      rotate_left
      ·simp only[Act.put,List.setIfInBounds_toArray,List.set_cons_zero,List.set_cons_succ,i64_w,i32_w]
       rfl
      refine pure_ (i:=6) (N:=some 41) (v:= ?_) (a':= ?_) #[false,true,true,true,false,false,true,false,false,false,false,false,false,false,false,false,false,false,false,false,false,false,false] rfl rfl (any_of HT_.out (by kernel_rfl)) (fun _ _ _ h=>h) (Or.inl ⟨by rfl,?_⟩) ?_ ?_
      rotate_left
      ·intro w'
       go_simp
       with_reducible rfl
      rotate_left
      ·simp only[Act.put,List.setIfInBounds_toArray,List.set_cons_zero,List.set_cons_succ,i64_w,i32_w]
       rfl
      refine pure_ (i:=8) (N:=some 43) (v:= ?_) (a':= ?_) #[false,true,true,true,false,false,true,false,true,false,false,false,false,false,false,false,false,false,false,false,false,false,false] rfl rfl (any_of HT_.out (by kernel_rfl)) (fun _ _ _ h=>h) (Or.inl ⟨by rfl,?_⟩) ?_ ?_
      rotate_left
      ·intro w'
       go_simp
       with_reducible rfl
      rotate_left
      ·simp only[Act.put,List.setIfInBounds_toArray,List.set_cons_zero,List.set_cons_succ,i64_w,i32_w]
       rfl
      refine take_ (i:=0) (N:=some 35) (v:= ?_) (a':= ?_) #[true,true,true,true,false,false,true,false,true,false,false,false,false,false,false,false,false,false,false,false,false,false,false] rfl rfl (take_ofW HT_.out HW_.out (by kernel_rfl)) (fun _ _ _ h=>h) (Or.inl ⟨by rfl,?_⟩) hHeld ?_ ?_
      rotate_left
      ·rintro w' ⟨s0,s1,s2,s3,s4,s5,s6,s7⟩
       go_simp
       with_reducible rfl
      rotate_left
      ·simp only[Act.put,List.setIfInBounds_toArray,List.set_cons_zero,List.set_cons_succ,i64_w,i32_w]
       rfl
      refine take_ (i:=4) (N:=some 39) (v:= ?_) (a':= ?_) #[true,true,true,true,true,false,true,false,true,false,false,false,false,false,false,false,false,false,false,false,false,false,false] rfl rfl (take_ofW HT_.out HW_.out (by kernel_rfl)) (fun _ _ _ h=>h) (Or.inl ⟨by rfl,?_⟩) hHeld ?_ ?_
      rotate_left
      ·rintro w' ⟨s0,s1,s2,s3,s4,s5,s6,s7⟩
       go_simp
       with_reducible rfl
      rotate_left
      ·simp only[Act.put,List.setIfInBounds_toArray,List.set_cons_zero,List.set_cons_succ,i64_w,i32_w]
       rfl
      refine take_ (i:=7) (N:=some 42) (v:= ?_) (a':= ?_) #[true,true,true,true,true,false,true,true,true,false,false,false,false,false,false,false,false,false,false,false,false,false,false] rfl rfl (take_ofW HT_.out HW_.out (by kernel_rfl)) (fun _ _ _ h=>h) (Or.inl ⟨by rfl,?_⟩) hHeld ?_ ?_
      rotate_left
      ·rintro w' ⟨s0,s1,s2,s3,s4,s5,s6,s7⟩
       go_simp
       with_reducible rfl
      rotate_left
      ·simp only[Act.put,List.setIfInBounds_toArray,List.set_cons_zero,List.set_cons_succ,i64_w,i32_w]
       rfl
      refine pure_ (i:=9) (N:=some 44) (v:= ?_) (a':= ?_) #[true,true,true,true,true,false,true,true,true,true,false,false,false,false,false,false,false,false,false,false,false,false,false] rfl rfl (any_of HT_.out (by kernel_rfl)) (fun _ _ _ h=>h) (Or.inl ⟨by rfl,?_⟩) ?_ ?_
      rotate_left
      ·intro w'
       go_simp
       with_reducible rfl
      rotate_left
      ·simp only[Act.put,List.setIfInBounds_toArray,List.set_cons_zero,List.set_cons_succ,i64_w,i32_w]
       rfl
      refine take_ (i:=10) (N:=some 45) (v:= ?_) (a':= ?_) #[true,true,true,true,true,false,true,true,true,true,true,false,false,false,false,false,false,false,false,false,false,false,false] rfl rfl (take_ofW HT_.out HW_.out (by kernel_rfl)) (fun _ _ _ h=>h) (Or.inl ⟨by rfl,?_⟩) hHeld ?_ ?_
      rotate_left
      ·rintro w' ⟨s0,s1,s2,s3,s4,s5,s6,s7⟩
       go_simp
       with_reducible rfl
      rotate_left
      ·simp only[Act.put,List.setIfInBounds_toArray,List.set_cons_zero,List.set_cons_succ,i64_w,i32_w]
       rfl
      refine one_ (i:=5) (N:=some 40) #[true,true,true,true,true,true,true,true,true,true,true,false,false,false,false,false,false,false,false,false,false,false,false] rfl rfl (one_of HT_.out (by kernel_rfl)) (by decide) (fun K hK=> ?_)
      refine goes_ Try.func44 (by kernel_rfl) rfl #[.agg #[.int .i64 a0_0, .bool a0_1, .slice A0_2 l0_2.length c0_2], .agg #[.int .i64 ((rd_T38 l2 x9_2).f0), .bool ((rd_T38 l2 x9_2).f1)]] (by rfl) rfl rfl (by(try simp only[List.map_toArray,List.map_cons,List.map_nil]);first|done|rfl|(simp only[List.length_drop,List.length_take];rfl)) ?_
      with_reducible refine(ebbtideref07_From.calls a0_0 a0_1 _ _ l0_2 ((rd_T38 l2 x9_2).f0) ((rd_T38 l2 x9_2).f1) t459 _ ?side1 ?side2 A25.out).mono ?_
      (case side1=>repeat(first|exact(Kd.C_below HR0_2.out HB.out)|(with_reducible refine Kd.C_alloc ?_ _)|(with_reducible refine Kd.C_drewN ?_ _)|(with_reducible refine Kd.C_drew ?_)))
      (case side2=>exact HC0_2.out)
      rintro e w59 ⟨rfl,hb⟩
      have HS7_:=(hb.cell (World.block_lt_of_cell? _ _ (hHeld.2.2.2.2.2.2.2))).trans (hHeld.2.2.2.2.2.2.2)
      refine⟨_,rfl,?_⟩
      have n0_:=Aside0.mk (Kd.R_below HO_452000.out hb)
      have n1_:=Aside0.mk (Kd.R_below HO_452001.out hb)
      have n2_:=Aside0.mk (blk_below BK449.out hb)
      have n3_:=Aside0.mk (blk_below BK450.out hb)
      have n4_:=Aside0.mk (blk_below BK451.out hb)
      have n5_:=Aside0.mk (below_step HB.out hb)
      clear HO_452000
      clear HO_452001
      clear BK449
      clear BK450
      clear BK451
      clear HB
      have HO_452000:=n0_
      have HO_452001:=n1_
      have BK449:=n2_
      have BK450:=n3_
      have BK451:=n4_
      have HB:=n5_
      clear n0_ n1_ n2_ n3_ n4_ n5_
      (try clear hb)
      (try clear hb2)
      (try clear hk)
      (try clear hi)
      refine hK.out _ _ ⟨(blk_cell BK449.out 0).trans rfl,(blk_cell BK449.out 1).trans rfl,(blk_cell BK449.out 2).trans rfl,(blk_cell BK451.out 0).trans rfl,(blk_cell BK451.out 1).trans rfl,((HB.out.cell (World.block_lt_of_cell? w _ hw458_0)).trans hw458_0),((HB.out.cell (World.block_lt_of_cell? w _ hw458_1)).trans hw458_1),HS7_⟩ (fun hHeld=> ?_)
      clear hK K
      refine norm_ (a':= ?_) ?_ ?_
      rotate_left
      ·show Act.put _ (some 40) _=_
       simp only[Act.put,List.setIfInBounds_toArray,List.set_cons_zero,List.set_cons_succ,i64_w,i32_w]
       rfl
      refine pure_ (i:=11) (N:=some 46) (v:= ?_) (a':= ?_) #[true,true,true,true,true,true,true,true,true,true,true,true,false,false,false,false,false,false,false,false,false,false,false] rfl rfl (any_of HT_.out (by kernel_rfl)) (fun _ _ _ h=>h) (Or.inl ⟨by rfl,?_⟩) ?_ ?_
      rotate_left
      ·intro w'
       go_simp
       with_reducible rfl
      rotate_left
      ·simp only[Act.put,List.setIfInBounds_toArray,List.set_cons_zero,List.set_cons_succ,i64_w,i32_w]
       rfl
      refine pure_ (i:=12) (N:=some 47) (v:= ?_) (a':= ?_) #[true,true,true,true,true,true,true,true,true,true,true,true,true,false,false,false,false,false,false,false,false,false,false] rfl rfl (any_of HT_.out (by kernel_rfl)) (fun _ _ _ h=>h) (Or.inl ⟨by rfl,?_⟩) ?_ ?_
      rotate_left
      ·intro w'
       go_simp
       with_reducible rfl
      rotate_left
      ·simp only[Act.put,List.setIfInBounds_toArray,List.set_cons_zero,List.set_cons_succ,i64_w,i32_w]
       rfl
      refine pure_ (i:=13) (N:=some 48) (v:=undef) (a':= ?_) #[true,true,true,true,true,true,true,true,true,true,true,true,true,true,false,false,false,false,false,false,false,false,false] rfl rfl (any_of HT_.out (by kernel_rfl)) (fun _ _ _ h=>h) (Or.inr ⟨by rfl,rfl⟩) ?_ ?_
      rotate_left
      ·simp only[Act.put,List.setIfInBounds_toArray,List.set_cons_zero,List.set_cons_succ,i64_w,i32_w]
       rfl
      refine pure_ (i:=14) (N:=some 49) (v:=undef) (a':= ?_) #[true,true,true,true,true,true,true,true,true,true,true,true,true,true,true,false,false,false,false,false,false,false,false] rfl rfl (any_of HT_.out (by kernel_rfl)) (fun _ _ _ h=>h) (Or.inr ⟨by rfl,rfl⟩) ?_ ?_
      rotate_left
      ·simp only[Act.put,List.setIfInBounds_toArray,List.set_cons_zero,List.set_cons_succ,i64_w,i32_w]
       rfl
      refine pure_ (i:=15) (N:=some 50) (v:=undef) (a':= ?_) #[true,true,true,true,true,true,true,true,true,true,true,true,true,true,true,true,false,false,false,false,false,false,false] rfl rfl (any_of HT_.out (by kernel_rfl)) (fun _ _ _ h=>h) (Or.inr ⟨by rfl,rfl⟩) ?_ ?_
      rotate_left
      ·simp only[Act.put,List.setIfInBounds_toArray,List.set_cons_zero,List.set_cons_succ,i64_w,i32_w]
       rfl
      refine pure_ (i:=16) (N:=some 51) (v:=undef) (a':= ?_) #[true,true,true,true,true,true,true,true,true,true,true,true,true,true,true,true,true,false,false,false,false,false,false] rfl rfl (any_of HT_.out (by kernel_rfl)) (fun _ _ _ h=>h) (Or.inr ⟨by rfl,rfl⟩) ?_ ?_
      rotate_left
      ·simp only[Act.put,List.setIfInBounds_toArray,List.set_cons_zero,List.set_cons_succ,i64_w,i32_w]
       rfl
      refine pure_ (i:=17) (N:=some 52) (v:=undef) (a':= ?_) #[true,true,true,true,true,true,true,true,true,true,true,true,true,true,true,true,true,true,false,false,false,false,false] rfl rfl (any_of HT_.out (by kernel_rfl)) (fun _ _ _ h=>h) (Or.inr ⟨by rfl,rfl⟩) ?_ ?_
      rotate_left
      ·simp only[Act.put,List.setIfInBounds_toArray,List.set_cons_zero,List.set_cons_succ,i64_w,i32_w]
       rfl
      refine pure_ (i:=18) (N:=some 53) (v:=undef) (a':= ?_) #[true,true,true,true,true,true,true,true,true,true,true,true,true,true,true,true,true,true,true,false,false,false,false] rfl rfl (any_of HT_.out (by kernel_rfl)) (fun _ _ _ h=>h) (Or.inr ⟨by rfl,rfl⟩) ?_ ?_
      rotate_left
      ·simp only[Act.put,List.setIfInBounds_toArray,List.set_cons_zero,List.set_cons_succ,i64_w,i32_w]
       rfl
      refine pure_ (i:=19) (N:=some 54) (v:=undef) (a':= ?_) #[true,true,true,true,true,true,true,true,true,true,true,true,true,true,true,true,true,true,true,true,false,false,false] rfl rfl (any_of HT_.out (by kernel_rfl)) (fun _ _ _ h=>h) (Or.inr ⟨by rfl,rfl⟩) ?_ ?_
      rotate_left
      ·simp only[Act.put,List.setIfInBounds_toArray,List.set_cons_zero,List.set_cons_succ,i64_w,i32_w]
       rfl
      refine pure_ (i:=20) (N:=some 55) (v:=undef) (a':= ?_) #[true,true,true,true,true,true,true,true,true,true,true,true,true,true,true,true,true,true,true,true,true,false,false] rfl rfl (any_of HT_.out (by kernel_rfl)) (fun _ _ _ h=>h) (Or.inr ⟨by rfl,rfl⟩) ?_ ?_
      rotate_left
      ·simp only[Act.put,List.setIfInBounds_toArray,List.set_cons_zero,List.set_cons_succ,i64_w,i32_w]
       rfl
      refine pure_ (i:=21) (N:=some 56) (v:=undef) (a':= ?_) #[true,true,true,true,true,true,true,true,true,true,true,true,true,true,true,true,true,true,true,true,true,true,false] rfl rfl (any_of HT_.out (by kernel_rfl)) (fun _ _ _ h=>h) (Or.inr ⟨by rfl,rfl⟩) ?_ ?_
      rotate_left
      ·simp only[Act.put,List.setIfInBounds_toArray,List.set_cons_zero,List.set_cons_succ,i64_w,i32_w]
       rfl
      refine pure_ (i:=22) (N:=some 57) (v:= ?_) (a':= ?_) #[true,true,true,true,true,true,true,true,true,true,true,true,true,true,true,true,true,true,true,true,true,true,true] rfl rfl (any_of HT_.out (by kernel_rfl)) (fun _ _ _ h=>h) (Or.inl ⟨by rfl,?_⟩) ?_ ?_
      rotate_left
      ·intro w'
       go_simp
       with_reducible rfl
      rotate_left
      ·simp only[Act.put,List.setIfInBounds_toArray,List.set_cons_zero,List.set_cons_succ,i64_w,i32_w]
       rfl
      refine done_ (done_of HT_.out (by kernel_rfl)) ?_
      try go_wp2
      go_roundg k2
      case measure=>have:=HK1.out;have:=HK2.out;omega
      case rel=>exact⟨(wrap64 (x9_2+1)),(x452000_2),(x452001_2),(.slice (some ad460) x452000_2.length co58),(u452001),(by first|rfl|(simp;done)|(simp[*];done)),H',⟨by have:=HK1.out;have:=HK2.out;omega⟩,⟨HO_452000.out⟩,⟨HO_452001.out⟩,⟨BK449.out⟩,⟨BK450.out⟩,⟨BK451.out⟩,⟨HB.out⟩⟩
     rw[if_pos c28] at H
     have c28b0:(t459 == (rd x452000_2 x8_1))=true:=beq_iff_eq.mpr c28
     have c28b1:(t459 != (rd x452000_2 x8_1))=false:=bne_eq_false_iff_eq.mpr c28
     clear c28
     replace H:=Option.bind_eq_some_iff.mp H
     obtain⟨t462,A290,H⟩:=H
     replace H:((ebbtideref08_found_has.f k2 x452000_2 x452001_2 t462).bind fun t463=>(if t463<0 then((ebbtideref07_To.f a0_0 a0_1 l0_2 ((rd_T38 l2 x9_2).f0) ((rd_T38 l2 x9_2).f1)).bind fun t465=>(if x452000_2.length<17592186044416 then(if x452001_2.length<8796093022208 then(ebbtideref08_sought.l1 k2 l2 x8_1 (wrap64 (x9_2+1)) a0_0 a0_1 l0_2 (x452000_2 ++ [t465]) (x452001_2 ++ [(⟨(rd_T38 l2 x9_2).f0,(rd_T38 l2 x9_2).f1⟩:S38)])) else(none)) else(none))) else(ebbtideref08_sought.l1 k2 l2 x8_1 (wrap64 (x9_2+1)) a0_0 a0_1 l0_2 x452000_2 x452001_2)))=some (r1,r2):=H
     have A29:=Aside0.mk A290
     clear A290
     replace H:=Option.bind_eq_some_iff.mp H
     obtain⟨t463,A300,H⟩:=H
     replace H:(if t463<0 then((ebbtideref07_To.f a0_0 a0_1 l0_2 ((rd_T38 l2 x9_2).f0) ((rd_T38 l2 x9_2).f1)).bind fun t465=>(if x452000_2.length<17592186044416 then(if x452001_2.length<8796093022208 then(ebbtideref08_sought.l1 k2 l2 x8_1 (wrap64 (x9_2+1)) a0_0 a0_1 l0_2 (x452000_2 ++ [t465]) (x452001_2 ++ [(⟨(rd_T38 l2 x9_2).f0,(rd_T38 l2 x9_2).f1⟩:S38)])) else(none)) else(none))) else(ebbtideref08_sought.l1 k2 l2 x8_1 (wrap64 (x9_2+1)) a0_0 a0_1 l0_2 x452000_2 x452001_2))=some (r1,r2):=H
     have A30:=Aside0.mk A300
     clear A300
     by_cases c31:t463<0
     rotate_left
     ·rw[if_neg c31] at H
      have c31b0:decide (t463<0)=false:=decide_eq_false c31
      clear c31
      have H':=Aside0.mk H
      clear H
      try go_wp2
      have n0_:=Aside0.mk (Kd.R_drew HO_452000.out)
      have n1_:=Aside0.mk (Kd.R_drew HO_452001.out)
      have n2_:=Aside0.mk (blk_drew BK449.out)
      have n3_:=Aside0.mk (blk_drew BK450.out)
      have n4_:=Aside0.mk (blk_drew BK451.out)
      have n5_:=Aside0.mk (below_drew1 HB.out)
      clear HO_452000
      clear HO_452001
      clear BK449
      clear BK450
      clear BK451
      clear HB
      have HO_452000:=n0_
      have HO_452001:=n1_
      have BK449:=n2_
      have BK450:=n3_
      have BK451:=n4_
      have HB:=n5_
      clear n0_ n1_ n2_ n3_ n4_ n5_
      have p458:0≤(x9_2:Int):=of_decide_eq_true (by first|(with_reducible assumption)|assumption)
      have q458:x9_2<(l2.length:Int):=of_decide_eq_true (by first|(with_reducible assumption)|assumption)
      obtain⟨ad458,e458,hx458_0,hx458_1⟩:=at_T38 HR2.out x9_2 p458 q458
      have hw458_1:=hx458_1
      have hw458_0:=hx458_0
      cases e458
      replace hx458_0:=(HB.out.cell (World.block_lt_of_cell? w _ hx458_0)).trans hx458_0
      replace hx458_1:=(HB.out.cell (World.block_lt_of_cell? w _ hx458_1)).trans hx458_1
      replace p458:=eq_true p458
      replace q458:=eq_true q458
      obtain⟨Ao52,co52,eo52⟩:=Kd.R_slice HO_452000.out
      (first|subst eo52|(injection eo52 with f1_ f2_ f3_;have f4_:=f1_.symm;have f5_:=f3_.symm;clear f1_ f2_ f3_;subst f4_;subst f5_))
      have p460:0≤(x8_1:Int):=of_decide_eq_true (by first|(with_reducible assumption)|assumption)
      have q460:x8_1<(x452000_2.length:Int):=of_decide_eq_true (by first|(with_reducible assumption)|assumption)
      obtain⟨ad460,e460,hx460_0⟩:=Kd.at_int (Kd.R_reads' HO_452000.out).2.2 x8_1 p460 q460
      cases e460
      replace p460:=eq_true p460
      replace q460:=eq_true q460
      have p461:0≤(x9_2:Int):=of_decide_eq_true (by first|(with_reducible assumption)|assumption)
      have q461:x9_2<(l2.length:Int):=of_decide_eq_true (by first|(with_reducible assumption)|assumption)
      obtain⟨ad461,e461,hx461_0,hx461_1⟩:=at_T38 HR2.out x9_2 p461 q461
      have hw461_1:=hx461_1
      have hw461_0:=hx461_0
      obtain rfl:ad458=ad461:=(by injection e461)
      replace hx461_0:=(HB.out.cell (World.block_lt_of_cell? w _ hx461_0)).trans hx461_0
      replace hx461_1:=(HB.out.cell (World.block_lt_of_cell? w _ hx461_1)).trans hx461_1
      replace p461:=eq_true p461
      replace q461:=eq_true q461
      refine start_ (n:=23) (S:=fun w'=>w'.cell? ⟨gb449,0,none⟩=some (.int .i64 a0_0)∧w'.cell? ⟨gb449,1,none⟩=some (.bool a0_1)∧w'.cell? ⟨gb449,2,none⟩=some (.slice A0_2 l0_2.length c0_2)∧w'.cell? ⟨gb451,0,none⟩=some (.slice (some ad460) x452000_2.length co52)∧w'.cell? ⟨gb451,1,none⟩=some (u452001)∧w'.cell? (ad458.add ((x9_2).toNat * 2))=some (.int .i64 ((rd_T38 l2 x9_2).f0))∧w'.cell? ⟨(ad458.add ((x9_2).toNat * 2)).block,(ad458.add ((x9_2).toNat * 2)).off+1,none⟩=some (.bool ((rd_T38 l2 x9_2).f1))∧w'.cell? (ad460.add (x8_1).toNat)=some (.int .i64 (rd x452000_2 x8_1))∧w'.cell? (ad458.add ((x9_2).toNat * 2))=some (.int .i64 ((rd_T38 l2 x9_2).f0))∧w'.cell? ⟨(ad458.add ((x9_2).toNat * 2)).block,(ad458.add ((x9_2).toNat * 2)).off+1,none⟩=some (.bool ((rd_T38 l2 x9_2).f1))) (ds:=[]) #[false,false,false,false,false,false,false,false,false,false,false,false,false,false,false,false,false,false,false,false,false,false,false] (by kernel_rfl) rfl rfl ⟨(blk_cell BK449.out 0).trans rfl,(blk_cell BK449.out 1).trans rfl,(blk_cell BK449.out 2).trans rfl,(blk_cell BK451.out 0).trans rfl,(blk_cell BK451.out 1).trans rfl,((HB.out.cell (World.block_lt_of_cell? w _ hw458_0)).trans hw458_0),((HB.out.cell (World.block_lt_of_cell? w _ hw458_1)).trans hw458_1),hx460_0,((HB.out.cell (World.block_lt_of_cell? w _ hw461_0)).trans hw461_0),((HB.out.cell (World.block_lt_of_cell? w _ hw461_1)).trans hw461_1)⟩ (fun hHeld=> ?_);refine with_tabW ebbtideref08_sought.tab10 ebbtideref08_sought.bits10 (fun HT_ HW_=> ?_)
      generalize wr.drew=w51 at HO_452000 HO_452001 BK449 BK450 BK451 HB hx458_0 hx458_1 hx460_0 hx461_0 hx461_1 hHeld ⊢
      refine pure_ (i:=1) (N:=some 36) (v:= ?_) (a':= ?_) #[false,true,false,false,false,false,false,false,false,false,false,false,false,false,false,false,false,false,false,false,false,false,false] rfl rfl (any_of HT_.out (by kernel_rfl)) (fun _ _ _ h=>h) (Or.inl ⟨by rfl,?_⟩) ?_ ?_
      rotate_left
      ·intro w'
       go_simp
       with_reducible rfl
      rotate_left
      ·simp only[Act.put,List.setIfInBounds_toArray,List.set_cons_zero,List.set_cons_succ,i64_w,i32_w]
       rfl
      refine pure_ (i:=2) (N:=some 37) (v:= ?_) (a':= ?_) #[false,true,true,false,false,false,false,false,false,false,false,false,false,false,false,false,false,false,false,false,false,false,false] rfl rfl (any_of HT_.out (by kernel_rfl)) (fun _ _ _ h=>h) (Or.inl ⟨by rfl,?_⟩) ?_ ?_
      rotate_left
      ·intro w'
       go_simp
       with_reducible rfl
      rotate_left
      ·simp only[Act.put,List.setIfInBounds_toArray,List.set_cons_zero,List.set_cons_succ,i64_w,i32_w]
       rfl
      refine pure_ (i:=3) (N:=some 38) (v:= ?_) (a':= ?_) #[false,true,true,true,false,false,false,false,false,false,false,false,false,false,false,false,false,false,false,false,false,false,false] rfl rfl (any_of HT_.out (by kernel_rfl)) (fun _ _ _ h=>h) (Or.inl ⟨by rfl,?_⟩) ?_ ?_
      rotate_left
      ·intro w'
       go_simp
       with_reducible rfl
      rotate_left
      ·simp only[Act.put,List.setIfInBounds_toArray,List.set_cons_zero,List.set_cons_succ,i64_w,i32_w]
       rfl
      refine pure_ (i:=6) (N:=some 41) (v:= ?_) (a':= ?_) #[false,true,true,true,false,false,true,false,false,false,false,false,false,false,false,false,false,false,false,false,false,false,false] rfl rfl (any_of HT_.out (by kernel_rfl)) (fun _ _ _ h=>h) (Or.inl ⟨by rfl,?_⟩) ?_ ?_
      rotate_left
      ·intro w'
       go_simp
       with_reducible rfl
      rotate_left
      ·simp only[Act.put,List.setIfInBounds_toArray,List.set_cons_zero,List.set_cons_succ,i64_w,i32_w]
       rfl
      refine pure_ (i:=8) (N:=some 43) (v:= ?_) (a':= ?_) #[false,true,true,true,false,false,true,false,true,false,false,false,false,false,false,false,false,false,false,false,false,false,false] rfl rfl (any_of HT_.out (by kernel_rfl)) (fun _ _ _ h=>h) (Or.inl ⟨by rfl,?_⟩) ?_ ?_
      rotate_left
      ·intro w'
       go_simp
       with_reducible rfl
      rotate_left
      ·simp only[Act.put,List.setIfInBounds_toArray,List.set_cons_zero,List.set_cons_succ,i64_w,i32_w]
       rfl
      refine take_ (i:=0) (N:=some 35) (v:= ?_) (a':= ?_) #[true,true,true,true,false,false,true,false,true,false,false,false,false,false,false,false,false,false,false,false,false,false,false] rfl rfl (take_ofW HT_.out HW_.out (by kernel_rfl)) (fun _ _ _ h=>h) (Or.inl ⟨by rfl,?_⟩) hHeld ?_ ?_
      rotate_left
      ·rintro w' ⟨s0,s1,s2,s3,s4,s5,s6,s7,s8,s9⟩
       go_simp
       with_reducible rfl
      rotate_left
      ·simp only[Act.put,List.setIfInBounds_toArray,List.set_cons_zero,List.set_cons_succ,i64_w,i32_w]
       rfl
      refine take_ (i:=4) (N:=some 39) (v:= ?_) (a':= ?_) #[true,true,true,true,true,false,true,false,true,false,false,false,false,false,false,false,false,false,false,false,false,false,false] rfl rfl (take_ofW HT_.out HW_.out (by kernel_rfl)) (fun _ _ _ h=>h) (Or.inl ⟨by rfl,?_⟩) hHeld ?_ ?_
      rotate_left
      ·rintro w' ⟨s0,s1,s2,s3,s4,s5,s6,s7,s8,s9⟩
       go_simp
       with_reducible rfl
      rotate_left
      ·simp only[Act.put,List.setIfInBounds_toArray,List.set_cons_zero,List.set_cons_succ,i64_w,i32_w]
       rfl
      refine take_ (i:=7) (N:=some 42) (v:= ?_) (a':= ?_) #[true,true,true,true,true,false,true,true,true,false,false,false,false,false,false,false,false,false,false,false,false,false,false] rfl rfl (take_ofW HT_.out HW_.out (by kernel_rfl)) (fun _ _ _ h=>h) (Or.inl ⟨by rfl,?_⟩) hHeld ?_ ?_
      rotate_left
      ·rintro w' ⟨s0,s1,s2,s3,s4,s5,s6,s7,s8,s9⟩
       go_simp
       with_reducible rfl
      rotate_left
      ·simp only[Act.put,List.setIfInBounds_toArray,List.set_cons_zero,List.set_cons_succ,i64_w,i32_w]
       rfl
      refine pure_ (i:=9) (N:=some 44) (v:= ?_) (a':= ?_) #[true,true,true,true,true,false,true,true,true,true,false,false,false,false,false,false,false,false,false,false,false,false,false] rfl rfl (any_of HT_.out (by kernel_rfl)) (fun _ _ _ h=>h) (Or.inl ⟨by rfl,?_⟩) ?_ ?_
      rotate_left
      ·intro w'
       go_simp
       with_reducible rfl
      rotate_left
      ·simp only[Act.put,List.setIfInBounds_toArray,List.set_cons_zero,List.set_cons_succ,i64_w,i32_w]
       rfl
      refine take_ (i:=10) (N:=some 45) (v:= ?_) (a':= ?_) #[true,true,true,true,true,false,true,true,true,true,true,false,false,false,false,false,false,false,false,false,false,false,false] rfl rfl (take_ofW HT_.out HW_.out (by kernel_rfl)) (fun _ _ _ h=>h) (Or.inl ⟨by rfl,?_⟩) hHeld ?_ ?_
      rotate_left
      ·rintro w' ⟨s0,s1,s2,s3,s4,s5,s6,s7,s8,s9⟩
       go_simp
       with_reducible rfl
      rotate_left
      ·simp only[Act.put,List.setIfInBounds_toArray,List.set_cons_zero,List.set_cons_succ,i64_w,i32_w]
       rfl
      refine one_ (i:=5) (N:=some 40) #[true,true,true,true,true,true,true,true,true,true,true,false,false,false,false,false,false,false,false,false,false,false,false] rfl rfl (one_of HT_.out (by kernel_rfl)) (by decide) (fun K hK=> ?_)
      refine goes_ Try.func44 (by kernel_rfl) rfl #[.agg #[.int .i64 a0_0, .bool a0_1, .slice A0_2 l0_2.length c0_2], .agg #[.int .i64 ((rd_T38 l2 x9_2).f0), .bool ((rd_T38 l2 x9_2).f1)]] (by rfl) rfl rfl (by(try simp only[List.map_toArray,List.map_cons,List.map_nil]);first|done|rfl|(simp only[List.length_drop,List.length_take];rfl)) ?_
      with_reducible refine(ebbtideref07_From.calls a0_0 a0_1 _ _ l0_2 ((rd_T38 l2 x9_2).f0) ((rd_T38 l2 x9_2).f1) t459 _ ?side1 ?side2 A25.out).mono ?_
      (case side1=>repeat(first|exact(Kd.C_below HR0_2.out HB.out)|(with_reducible refine Kd.C_alloc ?_ _)|(with_reducible refine Kd.C_drewN ?_ _)|(with_reducible refine Kd.C_drew ?_)))
      (case side2=>exact HC0_2.out)
      rintro e w53 ⟨rfl,hb⟩
      have HS7_:=(hb.cell (World.block_lt_of_cell? _ _ (hHeld.2.2.2.2.2.2.2.1))).trans (hHeld.2.2.2.2.2.2.2.1)
      refine⟨_,rfl,?_⟩
      have n0_:=Aside0.mk (Kd.R_below HO_452000.out hb)
      have n1_:=Aside0.mk (Kd.R_below HO_452001.out hb)
      have n2_:=Aside0.mk (blk_below BK449.out hb)
      have n3_:=Aside0.mk (blk_below BK450.out hb)
      have n4_:=Aside0.mk (blk_below BK451.out hb)
      have n5_:=Aside0.mk (below_step HB.out hb)
      clear HO_452000
      clear HO_452001
      clear BK449
      clear BK450
      clear BK451
      clear HB
      have HO_452000:=n0_
      have HO_452001:=n1_
      have BK449:=n2_
      have BK450:=n3_
      have BK451:=n4_
      have HB:=n5_
      clear n0_ n1_ n2_ n3_ n4_ n5_
      (try clear hb)
      (try clear hb2)
      (try clear hk)
      (try clear hi)
      refine hK.out _ _ ⟨(blk_cell BK449.out 0).trans rfl,(blk_cell BK449.out 1).trans rfl,(blk_cell BK449.out 2).trans rfl,(blk_cell BK451.out 0).trans rfl,(blk_cell BK451.out 1).trans rfl,((HB.out.cell (World.block_lt_of_cell? w _ hw458_0)).trans hw458_0),((HB.out.cell (World.block_lt_of_cell? w _ hw458_1)).trans hw458_1),HS7_,((HB.out.cell (World.block_lt_of_cell? w _ hw461_0)).trans hw461_0),((HB.out.cell (World.block_lt_of_cell? w _ hw461_1)).trans hw461_1)⟩ (fun hHeld=> ?_)
      clear hK K
      refine norm_ (a':= ?_) ?_ ?_
      rotate_left
      ·show Act.put _ (some 40) _=_
       simp only[Act.put,List.setIfInBounds_toArray,List.set_cons_zero,List.set_cons_succ,i64_w,i32_w]
       rfl
      refine pure_ (i:=11) (N:=some 46) (v:= ?_) (a':= ?_) #[true,true,true,true,true,true,true,true,true,true,true,true,false,false,false,false,false,false,false,false,false,false,false] rfl rfl (any_of HT_.out (by kernel_rfl)) (fun _ _ _ h=>h) (Or.inl ⟨by rfl,?_⟩) ?_ ?_
      rotate_left
      ·intro w'
       go_simp
       with_reducible rfl
      rotate_left
      ·simp only[Act.put,List.setIfInBounds_toArray,List.set_cons_zero,List.set_cons_succ,i64_w,i32_w]
       rfl
      refine pure_ (i:=12) (N:=some 47) (v:= ?_) (a':= ?_) #[true,true,true,true,true,true,true,true,true,true,true,true,true,false,false,false,false,false,false,false,false,false,false] rfl rfl (any_of HT_.out (by kernel_rfl)) (fun _ _ _ h=>h) (Or.inl ⟨by rfl,?_⟩) ?_ ?_
      rotate_left
      ·intro w'
       go_simp
       with_reducible rfl
      rotate_left
      ·simp only[Act.put,List.setIfInBounds_toArray,List.set_cons_zero,List.set_cons_succ,i64_w,i32_w]
       rfl
      refine pure_ (i:=15) (N:=some 50) (v:= ?_) (a':= ?_) #[true,true,true,true,true,true,true,true,true,true,true,true,true,false,false,true,false,false,false,false,false,false,false] rfl rfl (any_of HT_.out (by kernel_rfl)) (fun _ _ _ h=>h) (Or.inl ⟨by rfl,?_⟩) ?_ ?_
      rotate_left
      ·intro w'
       go_simp
       with_reducible rfl
      rotate_left
      ·simp only[Act.put,List.setIfInBounds_toArray,List.set_cons_zero,List.set_cons_succ,i64_w,i32_w]
       rfl
      refine pure_ (i:=16) (N:=some 51) (v:= ?_) (a':= ?_) #[true,true,true,true,true,true,true,true,true,true,true,true,true,false,false,true,true,false,false,false,false,false,false] rfl rfl (any_of HT_.out (by kernel_rfl)) (fun _ _ _ h=>h) (Or.inl ⟨by rfl,?_⟩) ?_ ?_
      rotate_left
      ·intro w'
       go_simp
       with_reducible rfl
      rotate_left
      ·simp only[Act.put,List.setIfInBounds_toArray,List.set_cons_zero,List.set_cons_succ,i64_w,i32_w]
       rfl
      refine pure_ (i:=17) (N:=some 52) (v:= ?_) (a':= ?_) #[true,true,true,true,true,true,true,true,true,true,true,true,true,false,false,true,true,true,false,false,false,false,false] rfl rfl (any_of HT_.out (by kernel_rfl)) (fun _ _ _ h=>h) (Or.inl ⟨by rfl,?_⟩) ?_ ?_
      rotate_left
      ·intro w'
       go_simp
       with_reducible rfl
      rotate_left
      ·simp only[Act.put,List.setIfInBounds_toArray,List.set_cons_zero,List.set_cons_succ,i64_w,i32_w]
       rfl
      refine take_ (i:=13) (N:=some 48) (v:= ?_) (a':= ?_) #[true,true,true,true,true,true,true,true,true,true,true,true,true,true,false,true,true,true,false,false,false,false,false] rfl rfl (take_ofW HT_.out HW_.out (by kernel_rfl)) (fun _ _ _ h=>h) (Or.inl ⟨by rfl,?_⟩) hHeld ?_ ?_
      rotate_left
      ·rintro w' ⟨s0,s1,s2,s3,s4,s5,s6,s7,s8,s9⟩
       go_simp
       with_reducible rfl
      rotate_left
      ·simp only[Act.put,List.setIfInBounds_toArray,List.set_cons_zero,List.set_cons_succ,i64_w,i32_w]
       rfl
      refine take_ (i:=14) (N:=some 49) (v:= ?_) (a':= ?_) #[true,true,true,true,true,true,true,true,true,true,true,true,true,true,true,true,true,true,false,false,false,false,false] rfl rfl (take_ofW HT_.out HW_.out (by kernel_rfl)) (fun _ _ _ h=>h) (Or.inl ⟨by rfl,?_⟩) hHeld ?_ ?_
      rotate_left
      ·rintro w' ⟨s0,s1,s2,s3,s4,s5,s6,s7,s8,s9⟩
       go_simp
       with_reducible rfl
      rotate_left
      ·simp only[Act.put,List.setIfInBounds_toArray,List.set_cons_zero,List.set_cons_succ,i64_w,i32_w]
       rfl
      refine take_ (i:=18) (N:=some 53) (v:= ?_) (a':= ?_) #[true,true,true,true,true,true,true,true,true,true,true,true,true,true,true,true,true,true,true,false,false,false,false] rfl rfl (take_ofW HT_.out HW_.out (by kernel_rfl)) (fun _ _ _ h=>h) (Or.inl ⟨by rfl,?_⟩) hHeld ?_ ?_
      rotate_left
      ·rintro w' ⟨s0,s1,s2,s3,s4,s5,s6,s7,s8,s9⟩
       go_simp
       with_reducible rfl
      rotate_left
      ·simp only[Act.put,List.setIfInBounds_toArray,List.set_cons_zero,List.set_cons_succ,i64_w,i32_w]
       rfl
      refine one_ (i:=19) (N:=some 54) #[true,true,true,true,true,true,true,true,true,true,true,true,true,true,true,true,true,true,true,true,false,false,false] rfl rfl (one_of HT_.out (by kernel_rfl)) (by decide) (fun K hK=> ?_)
      refine goes_ Try.func45 (by kernel_rfl) rfl #[.agg #[.int .i64 a0_0, .bool a0_1, .slice A0_2 l0_2.length c0_2], .agg #[.int .i64 ((rd_T38 l2 x9_2).f0), .bool ((rd_T38 l2 x9_2).f1)]] (by rfl) rfl rfl (by(try simp only[List.map_toArray,List.map_cons,List.map_nil]);first|done|rfl|(simp only[List.length_drop,List.length_take];rfl)) ?_
      with_reducible refine(ebbtideref07_To.calls a0_0 a0_1 _ _ l0_2 ((rd_T38 l2 x9_2).f0) ((rd_T38 l2 x9_2).f1) t462 _ ?side1 ?side2 A29.out).mono ?_
      (case side1=>repeat(first|exact(Kd.C_below HR0_2.out HB.out)|(with_reducible refine Kd.C_alloc ?_ _)|(with_reducible refine Kd.C_drewN ?_ _)|(with_reducible refine Kd.C_drew ?_)))
      (case side2=>exact HC0_2.out)
      rintro e w54 ⟨rfl,hb⟩
      have HS7_:=(hb.cell (World.block_lt_of_cell? _ _ (hHeld.2.2.2.2.2.2.2.1))).trans (hHeld.2.2.2.2.2.2.2.1)
      refine⟨_,rfl,?_⟩
      have n0_:=Aside0.mk (Kd.R_below HO_452000.out hb)
      have n1_:=Aside0.mk (Kd.R_below HO_452001.out hb)
      have n2_:=Aside0.mk (blk_below BK449.out hb)
      have n3_:=Aside0.mk (blk_below BK450.out hb)
      have n4_:=Aside0.mk (blk_below BK451.out hb)
      have n5_:=Aside0.mk (below_step HB.out hb)
      clear HO_452000
      clear HO_452001
      clear BK449
      clear BK450
      clear BK451
      clear HB
      have HO_452000:=n0_
      have HO_452001:=n1_
      have BK449:=n2_
      have BK450:=n3_
      have BK451:=n4_
      have HB:=n5_
      clear n0_ n1_ n2_ n3_ n4_ n5_
      (try clear hb)
      (try clear hb2)
      (try clear hk)
      (try clear hi)
      obtain⟨Ao55,co55,eo55⟩:=Kd.R_slice HO_452001.out
      (first|subst eo55|(injection eo55 with f1_ f2_ f3_;have f4_:=f1_.symm;have f5_:=f3_.symm;clear f1_ f2_ f3_;subst f4_;subst f5_))
      refine hK.out _ _ ⟨(blk_cell BK449.out 0).trans rfl,(blk_cell BK449.out 1).trans rfl,(blk_cell BK449.out 2).trans rfl,(blk_cell BK451.out 0).trans rfl,(blk_cell BK451.out 1).trans rfl,((HB.out.cell (World.block_lt_of_cell? w _ hw458_0)).trans hw458_0),((HB.out.cell (World.block_lt_of_cell? w _ hw458_1)).trans hw458_1),HS7_,((HB.out.cell (World.block_lt_of_cell? w _ hw461_0)).trans hw461_0),((HB.out.cell (World.block_lt_of_cell? w _ hw461_1)).trans hw461_1)⟩ (fun hHeld=> ?_)
      clear hK K
      refine norm_ (a':= ?_) ?_ ?_
      rotate_left
      ·show Act.put _ (some 54) _=_
       simp only[Act.put,List.setIfInBounds_toArray,List.set_cons_zero,List.set_cons_succ,i64_w,i32_w]
       rfl
      refine one_ (i:=20) (N:=some 55) #[true,true,true,true,true,true,true,true,true,true,true,true,true,true,true,true,true,true,true,true,true,false,false] rfl rfl (one_of HT_.out (by kernel_rfl)) (by decide) (fun K hK=> ?_)
      refine goes_ Try.func147 (by kernel_rfl) rfl #[.agg #[.slice (some ad460) x452000_2.length co52, .slice Ao55 x452001_2.length co55], .int .i64 t462] (by rfl) rfl rfl (by(try simp only[List.map_toArray,List.map_cons,List.map_nil]);first|done|rfl|(simp only[List.length_drop,List.length_take];rfl)) ?_
      with_reducible refine(ebbtideref08_found_has.calls k2 _ _ x452000_2 _ _ x452001_2 t462 t463 _ ?side1 ?side2 ?side3 ?side4 A30.out).mono ?_
      (case side1=>repeat(first|exact(Kd.R_reads' HO_452000.out).2.2|(with_reducible refine Kd.C_alloc ?_ _)|(with_reducible refine Kd.C_drewN ?_ _)|(with_reducible refine Kd.C_drew ?_)))
      (case side2=>exact(Kd.R_reads' HO_452000.out).2.1)
      (case side3=>repeat(first|exact(Kd.R_reads' HO_452001.out).2.2|(with_reducible refine Kd.C_alloc ?_ _)|(with_reducible refine Kd.C_drewN ?_ _)|(with_reducible refine Kd.C_drew ?_)))
      (case side4=>exact(Kd.R_reads' HO_452001.out).2.1)
      rintro e w56 ⟨rfl,hb⟩
      have HS7_:=(hb.cell (World.block_lt_of_cell? _ _ (hHeld.2.2.2.2.2.2.2.1))).trans (hHeld.2.2.2.2.2.2.2.1)
      refine⟨_,rfl,?_⟩
      have n0_:=Aside0.mk (Kd.R_below HO_452000.out hb)
      have n1_:=Aside0.mk (Kd.R_below HO_452001.out hb)
      have n2_:=Aside0.mk (blk_below BK449.out hb)
      have n3_:=Aside0.mk (blk_below BK450.out hb)
      have n4_:=Aside0.mk (blk_below BK451.out hb)
      have n5_:=Aside0.mk (below_step HB.out hb)
      clear HO_452000
      clear HO_452001
      clear BK449
      clear BK450
      clear BK451
      clear HB
      have HO_452000:=n0_
      have HO_452001:=n1_
      have BK449:=n2_
      have BK450:=n3_
      have BK451:=n4_
      have HB:=n5_
      clear n0_ n1_ n2_ n3_ n4_ n5_
      (try clear hb)
      (try clear hb2)
      (try clear hk)
      (try clear hi)
      refine hK.out _ _ ⟨(blk_cell BK449.out 0).trans rfl,(blk_cell BK449.out 1).trans rfl,(blk_cell BK449.out 2).trans rfl,(blk_cell BK451.out 0).trans rfl,(blk_cell BK451.out 1).trans rfl,((HB.out.cell (World.block_lt_of_cell? w _ hw458_0)).trans hw458_0),((HB.out.cell (World.block_lt_of_cell? w _ hw458_1)).trans hw458_1),HS7_,((HB.out.cell (World.block_lt_of_cell? w _ hw461_0)).trans hw461_0),((HB.out.cell (World.block_lt_of_cell? w _ hw461_1)).trans hw461_1)⟩ (fun hHeld=> ?_)
      clear hK K
      refine norm_ (a':= ?_) ?_ ?_
      rotate_left
      ·show Act.put _ (some 55) _=_
       simp only[Act.put,List.setIfInBounds_toArray,List.set_cons_zero,List.set_cons_succ,i64_w,i32_w]
       rfl
      refine pure_ (i:=21) (N:=some 56) (v:= ?_) (a':= ?_) #[true,true,true,true,true,true,true,true,true,true,true,true,true,true,true,true,true,true,true,true,true,true,false] rfl rfl (any_of HT_.out (by kernel_rfl)) (fun _ _ _ h=>h) (Or.inl ⟨by rfl,?_⟩) ?_ ?_
      rotate_left
      ·intro w'
       go_simp
       with_reducible rfl
      rotate_left
      ·simp only[Act.put,List.setIfInBounds_toArray,List.set_cons_zero,List.set_cons_succ,i64_w,i32_w]
       rfl
      refine pure_ (i:=22) (N:=some 57) (v:= ?_) (a':= ?_) #[true,true,true,true,true,true,true,true,true,true,true,true,true,true,true,true,true,true,true,true,true,true,true] rfl rfl (any_of HT_.out (by kernel_rfl)) (fun _ _ _ h=>h) (Or.inl ⟨by rfl,?_⟩) ?_ ?_
      rotate_left
      ·intro w'
       go_simp
       with_reducible rfl
      rotate_left
      ·simp only[Act.put,List.setIfInBounds_toArray,List.set_cons_zero,List.set_cons_succ,i64_w,i32_w]
       rfl
      refine done_ (done_of HT_.out (by kernel_rfl)) ?_
      try go_wp2
      go_roundg k2
      case measure=>have:=HK1.out;have:=HK2.out;omega
      case rel=>exact⟨(wrap64 (x9_2+1)),(x452000_2),(x452001_2),(.slice (some ad460) x452000_2.length co52),(.slice Ao55 x452001_2.length co55),(by first|rfl|(simp;done)|(simp[*];done)),H',⟨by have:=HK1.out;have:=HK2.out;omega⟩,⟨HO_452000.out⟩,⟨HO_452001.out⟩,⟨BK449.out⟩,⟨BK450.out⟩,⟨BK451.out⟩,⟨HB.out⟩⟩
     rw[if_pos c31] at H
     have c31b0:decide (t463<0)=true:=decide_eq_true c31
     clear c31
     replace H:=Option.bind_eq_some_iff.mp H
     obtain⟨t465,A320,H⟩:=H
     replace H:(if x452000_2.length<17592186044416 then(if x452001_2.length<8796093022208 then(ebbtideref08_sought.l1 k2 l2 x8_1 (wrap64 (x9_2+1)) a0_0 a0_1 l0_2 (x452000_2 ++ [t465]) (x452001_2 ++ [(⟨(rd_T38 l2 x9_2).f0,(rd_T38 l2 x9_2).f1⟩:S38)])) else(none)) else(none))=some (r1,r2):=H
     have A32:=Aside0.mk A320
     clear A320
     by_cases c33:x452000_2.length<17592186044416
     rotate_left
     ·rw[if_neg c33] at H
      exact absurd H (by simp)
     rw[if_pos c33] at H
     have LMc33:=Aside0.mk c33
     clear c33
     obtain⟨y466,hy466⟩: ∃ y_:List Int,y_=(x452000_2 ++ [t465]):=⟨_,rfl⟩
     replace H:(if x452001_2.length<8796093022208 then(ebbtideref08_sought.l1 k2 l2 x8_1 (wrap64 (x9_2+1)) a0_0 a0_1 l0_2 y466 (x452001_2 ++ [(⟨(rd_T38 l2 x9_2).f0,(rd_T38 l2 x9_2).f1⟩:S38)])) else(none))=some (r1,r2):=by first|(rw[hy466];with_reducible exact H)|(have H2_:=(Option.bind_some _ _).symm.trans H;rw[hy466];with_reducible exact H2_)|(have H2_:=(Option.bind_some _ _).symm.trans H;with_reducible exact H2_)|with_reducible exact H|(rw[hy466];exact H)|exact H
     have Ny466:=Aside0.mk hy466
     clear hy466
     by_cases c34:x452001_2.length<8796093022208
     rotate_left
     ·rw[if_neg c34] at H
      exact absurd H (by simp)
     rw[if_pos c34] at H
     have LMc34:=Aside0.mk c34
     clear c34
     obtain⟨y470,hy470⟩: ∃ y_:List (S38),y_=(x452001_2 ++ [(⟨(rd_T38 l2 x9_2).f0,(rd_T38 l2 x9_2).f1⟩:S38)]):=⟨_,rfl⟩
     replace H:(ebbtideref08_sought.l1 k2 l2 x8_1 (wrap64 (x9_2+1)) a0_0 a0_1 l0_2 y466 y470)=some (r1,r2):=by first|(rw[hy470];with_reducible exact H)|(have H2_:=(Option.bind_some _ _).symm.trans H;rw[hy470];with_reducible exact H2_)|(have H2_:=(Option.bind_some _ _).symm.trans H;with_reducible exact H2_)|with_reducible exact H|(rw[hy470];exact H)|exact H
     have Ny470:=Aside0.mk hy470
     clear hy470
     have H':=Aside0.mk H
     clear H
     try go_wp2
     have n0_:=Aside0.mk (Kd.R_drew HO_452000.out)
     have n1_:=Aside0.mk (Kd.R_drew HO_452001.out)
     have n2_:=Aside0.mk (blk_drew BK449.out)
     have n3_:=Aside0.mk (blk_drew BK450.out)
     have n4_:=Aside0.mk (blk_drew BK451.out)
     have n5_:=Aside0.mk (below_drew1 HB.out)
     clear HO_452000
     clear HO_452001
     clear BK449
     clear BK450
     clear BK451
     clear HB
     have HO_452000:=n0_
     have HO_452001:=n1_
     have BK449:=n2_
     have BK450:=n3_
     have BK451:=n4_
     have HB:=n5_
     clear n0_ n1_ n2_ n3_ n4_ n5_
     have p458:0≤(x9_2:Int):=of_decide_eq_true (by first|(with_reducible assumption)|assumption)
     have q458:x9_2<(l2.length:Int):=of_decide_eq_true (by first|(with_reducible assumption)|assumption)
     obtain⟨ad458,e458,hx458_0,hx458_1⟩:=at_T38 HR2.out x9_2 p458 q458
     have hw458_1:=hx458_1
     have hw458_0:=hx458_0
     cases e458
     replace hx458_0:=(HB.out.cell (World.block_lt_of_cell? w _ hx458_0)).trans hx458_0
     replace hx458_1:=(HB.out.cell (World.block_lt_of_cell? w _ hx458_1)).trans hx458_1
     replace p458:=eq_true p458
     replace q458:=eq_true q458
     obtain⟨Ao36,co36,eo36⟩:=Kd.R_slice HO_452000.out
     (first|subst eo36|(injection eo36 with f1_ f2_ f3_;have f4_:=f1_.symm;have f5_:=f3_.symm;clear f1_ f2_ f3_;subst f4_;subst f5_))
     have p460:0≤(x8_1:Int):=of_decide_eq_true (by first|(with_reducible assumption)|assumption)
     have q460:x8_1<(x452000_2.length:Int):=of_decide_eq_true (by first|(with_reducible assumption)|assumption)
     obtain⟨ad460,e460,hx460_0⟩:=Kd.at_int (Kd.R_reads' HO_452000.out).2.2 x8_1 p460 q460
     cases e460
     replace p460:=eq_true p460
     replace q460:=eq_true q460
     have p461:0≤(x9_2:Int):=of_decide_eq_true (by first|(with_reducible assumption)|assumption)
     have q461:x9_2<(l2.length:Int):=of_decide_eq_true (by first|(with_reducible assumption)|assumption)
     obtain⟨ad461,e461,hx461_0,hx461_1⟩:=at_T38 HR2.out x9_2 p461 q461
     have hw461_1:=hx461_1
     have hw461_0:=hx461_0
     obtain rfl:ad458=ad461:=(by injection e461)
     replace hx461_0:=(HB.out.cell (World.block_lt_of_cell? w _ hx461_0)).trans hx461_0
     replace hx461_1:=(HB.out.cell (World.block_lt_of_cell? w _ hx461_1)).trans hx461_1
     replace p461:=eq_true p461
     replace q461:=eq_true q461
     refine start_ (n:=23) (S:=fun w'=>w'.cell? ⟨gb449,0,none⟩=some (.int .i64 a0_0)∧w'.cell? ⟨gb449,1,none⟩=some (.bool a0_1)∧w'.cell? ⟨gb449,2,none⟩=some (.slice A0_2 l0_2.length c0_2)∧w'.cell? ⟨gb451,0,none⟩=some (.slice (some ad460) x452000_2.length co36)∧w'.cell? ⟨gb451,1,none⟩=some (u452001)∧w'.cell? (ad458.add ((x9_2).toNat * 2))=some (.int .i64 ((rd_T38 l2 x9_2).f0))∧w'.cell? ⟨(ad458.add ((x9_2).toNat * 2)).block,(ad458.add ((x9_2).toNat * 2)).off+1,none⟩=some (.bool ((rd_T38 l2 x9_2).f1))∧w'.cell? (ad460.add (x8_1).toNat)=some (.int .i64 (rd x452000_2 x8_1))∧w'.cell? (ad458.add ((x9_2).toNat * 2))=some (.int .i64 ((rd_T38 l2 x9_2).f0))∧w'.cell? ⟨(ad458.add ((x9_2).toNat * 2)).block,(ad458.add ((x9_2).toNat * 2)).off+1,none⟩=some (.bool ((rd_T38 l2 x9_2).f1))) (ds:=[]) #[false,false,false,false,false,false,false,false,false,false,false,false,false,false,false,false,false,false,false,false,false,false,false] (by kernel_rfl) rfl rfl ⟨(blk_cell BK449.out 0).trans rfl,(blk_cell BK449.out 1).trans rfl,(blk_cell BK449.out 2).trans rfl,(blk_cell BK451.out 0).trans rfl,(blk_cell BK451.out 1).trans rfl,((HB.out.cell (World.block_lt_of_cell? w _ hw458_0)).trans hw458_0),((HB.out.cell (World.block_lt_of_cell? w _ hw458_1)).trans hw458_1),hx460_0,((HB.out.cell (World.block_lt_of_cell? w _ hw461_0)).trans hw461_0),((HB.out.cell (World.block_lt_of_cell? w _ hw461_1)).trans hw461_1)⟩ (fun hHeld=> ?_);refine with_tabW ebbtideref08_sought.tab10 ebbtideref08_sought.bits10 (fun HT_ HW_=> ?_)
     generalize wr.drew=w35 at HO_452000 HO_452001 BK449 BK450 BK451 HB hx458_0 hx458_1 hx460_0 hx461_0 hx461_1 hHeld ⊢
     refine pure_ (i:=1) (N:=some 36) (v:= ?_) (a':= ?_) #[false,true,false,false,false,false,false,false,false,false,false,false,false,false,false,false,false,false,false,false,false,false,false] rfl rfl (any_of HT_.out (by kernel_rfl)) (fun _ _ _ h=>h) (Or.inl ⟨by rfl,?_⟩) ?_ ?_
     rotate_left
     ·intro w'
      go_simp
      with_reducible rfl
     rotate_left
     ·simp only[Act.put,List.setIfInBounds_toArray,List.set_cons_zero,List.set_cons_succ,i64_w,i32_w]
      rfl
     refine pure_ (i:=2) (N:=some 37) (v:= ?_) (a':= ?_) #[false,true,true,false,false,false,false,false,false,false,false,false,false,false,false,false,false,false,false,false,false,false,false] rfl rfl (any_of HT_.out (by kernel_rfl)) (fun _ _ _ h=>h) (Or.inl ⟨by rfl,?_⟩) ?_ ?_
     rotate_left
     ·intro w'
      go_simp
      with_reducible rfl
     rotate_left
     ·simp only[Act.put,List.setIfInBounds_toArray,List.set_cons_zero,List.set_cons_succ,i64_w,i32_w]
      rfl
     refine pure_ (i:=3) (N:=some 38) (v:= ?_) (a':= ?_) #[false,true,true,true,false,false,false,false,false,false,false,false,false,false,false,false,false,false,false,false,false,false,false] rfl rfl (any_of HT_.out (by kernel_rfl)) (fun _ _ _ h=>h) (Or.inl ⟨by rfl,?_⟩) ?_ ?_
     rotate_left
     ·intro w'
      go_simp
      with_reducible rfl
     rotate_left
     ·simp only[Act.put,List.setIfInBounds_toArray,List.set_cons_zero,List.set_cons_succ,i64_w,i32_w]
      rfl
     refine pure_ (i:=6) (N:=some 41) (v:= ?_) (a':= ?_) #[false,true,true,true,false,false,true,false,false,false,false,false,false,false,false,false,false,false,false,false,false,false,false] rfl rfl (any_of HT_.out (by kernel_rfl)) (fun _ _ _ h=>h) (Or.inl ⟨by rfl,?_⟩) ?_ ?_
     rotate_left
     ·intro w'
      go_simp
      with_reducible rfl
     rotate_left
     ·simp only[Act.put,List.setIfInBounds_toArray,List.set_cons_zero,List.set_cons_succ,i64_w,i32_w]
      rfl
     refine pure_ (i:=8) (N:=some 43) (v:= ?_) (a':= ?_) #[false,true,true,true,false,false,true,false,true,false,false,false,false,false,false,false,false,false,false,false,false,false,false] rfl rfl (any_of HT_.out (by kernel_rfl)) (fun _ _ _ h=>h) (Or.inl ⟨by rfl,?_⟩) ?_ ?_
     rotate_left
     ·intro w'
      go_simp
      with_reducible rfl
     rotate_left
     ·simp only[Act.put,List.setIfInBounds_toArray,List.set_cons_zero,List.set_cons_succ,i64_w,i32_w]
      rfl
     refine take_ (i:=0) (N:=some 35) (v:= ?_) (a':= ?_) #[true,true,true,true,false,false,true,false,true,false,false,false,false,false,false,false,false,false,false,false,false,false,false] rfl rfl (take_ofW HT_.out HW_.out (by kernel_rfl)) (fun _ _ _ h=>h) (Or.inl ⟨by rfl,?_⟩) hHeld ?_ ?_
     rotate_left
     ·rintro w' ⟨s0,s1,s2,s3,s4,s5,s6,s7,s8,s9⟩
      go_simp
      with_reducible rfl
     rotate_left
     ·simp only[Act.put,List.setIfInBounds_toArray,List.set_cons_zero,List.set_cons_succ,i64_w,i32_w]
      rfl
     refine take_ (i:=4) (N:=some 39) (v:= ?_) (a':= ?_) #[true,true,true,true,true,false,true,false,true,false,false,false,false,false,false,false,false,false,false,false,false,false,false] rfl rfl (take_ofW HT_.out HW_.out (by kernel_rfl)) (fun _ _ _ h=>h) (Or.inl ⟨by rfl,?_⟩) hHeld ?_ ?_
     rotate_left
     ·rintro w' ⟨s0,s1,s2,s3,s4,s5,s6,s7,s8,s9⟩
      go_simp
      with_reducible rfl
     rotate_left
     ·simp only[Act.put,List.setIfInBounds_toArray,List.set_cons_zero,List.set_cons_succ,i64_w,i32_w]
      rfl
     refine take_ (i:=7) (N:=some 42) (v:= ?_) (a':= ?_) #[true,true,true,true,true,false,true,true,true,false,false,false,false,false,false,false,false,false,false,false,false,false,false] rfl rfl (take_ofW HT_.out HW_.out (by kernel_rfl)) (fun _ _ _ h=>h) (Or.inl ⟨by rfl,?_⟩) hHeld ?_ ?_
     rotate_left
     ·rintro w' ⟨s0,s1,s2,s3,s4,s5,s6,s7,s8,s9⟩
      go_simp
      with_reducible rfl
     rotate_left
     ·simp only[Act.put,List.setIfInBounds_toArray,List.set_cons_zero,List.set_cons_succ,i64_w,i32_w]
      rfl
     refine pure_ (i:=9) (N:=some 44) (v:= ?_) (a':= ?_) #[true,true,true,true,true,false,true,true,true,true,false,false,false,false,false,false,false,false,false,false,false,false,false] rfl rfl (any_of HT_.out (by kernel_rfl)) (fun _ _ _ h=>h) (Or.inl ⟨by rfl,?_⟩) ?_ ?_
     rotate_left
     ·intro w'
      go_simp
      with_reducible rfl
     rotate_left
     ·simp only[Act.put,List.setIfInBounds_toArray,List.set_cons_zero,List.set_cons_succ,i64_w,i32_w]
      rfl
     refine take_ (i:=10) (N:=some 45) (v:= ?_) (a':= ?_) #[true,true,true,true,true,false,true,true,true,true,true,false,false,false,false,false,false,false,false,false,false,false,false] rfl rfl (take_ofW HT_.out HW_.out (by kernel_rfl)) (fun _ _ _ h=>h) (Or.inl ⟨by rfl,?_⟩) hHeld ?_ ?_
     rotate_left
     ·rintro w' ⟨s0,s1,s2,s3,s4,s5,s6,s7,s8,s9⟩
      go_simp
      with_reducible rfl
     rotate_left
     ·simp only[Act.put,List.setIfInBounds_toArray,List.set_cons_zero,List.set_cons_succ,i64_w,i32_w]
      rfl
     refine one_ (i:=5) (N:=some 40) #[true,true,true,true,true,true,true,true,true,true,true,false,false,false,false,false,false,false,false,false,false,false,false] rfl rfl (one_of HT_.out (by kernel_rfl)) (by decide) (fun K hK=> ?_)
     refine goes_ Try.func44 (by kernel_rfl) rfl #[.agg #[.int .i64 a0_0, .bool a0_1, .slice A0_2 l0_2.length c0_2], .agg #[.int .i64 ((rd_T38 l2 x9_2).f0), .bool ((rd_T38 l2 x9_2).f1)]] (by rfl) rfl rfl (by(try simp only[List.map_toArray,List.map_cons,List.map_nil]);first|done|rfl|(simp only[List.length_drop,List.length_take];rfl)) ?_
     with_reducible refine(ebbtideref07_From.calls a0_0 a0_1 _ _ l0_2 ((rd_T38 l2 x9_2).f0) ((rd_T38 l2 x9_2).f1) t459 _ ?side1 ?side2 A25.out).mono ?_
     (case side1=>repeat(first|exact(Kd.C_below HR0_2.out HB.out)|(with_reducible refine Kd.C_alloc ?_ _)|(with_reducible refine Kd.C_drewN ?_ _)|(with_reducible refine Kd.C_drew ?_)))
     (case side2=>exact HC0_2.out)
     rintro e w37 ⟨rfl,hb⟩
     have HS7_:=(hb.cell (World.block_lt_of_cell? _ _ (hHeld.2.2.2.2.2.2.2.1))).trans (hHeld.2.2.2.2.2.2.2.1)
     refine⟨_,rfl,?_⟩
     have n0_:=Aside0.mk (Kd.R_below HO_452000.out hb)
     have n1_:=Aside0.mk (Kd.R_below HO_452001.out hb)
     have n2_:=Aside0.mk (blk_below BK449.out hb)
     have n3_:=Aside0.mk (blk_below BK450.out hb)
     have n4_:=Aside0.mk (blk_below BK451.out hb)
     have n5_:=Aside0.mk (below_step HB.out hb)
     clear HO_452000
     clear HO_452001
     clear BK449
     clear BK450
     clear BK451
     clear HB
     have HO_452000:=n0_
     have HO_452001:=n1_
     have BK449:=n2_
     have BK450:=n3_
     have BK451:=n4_
     have HB:=n5_
     clear n0_ n1_ n2_ n3_ n4_ n5_
     (try clear hb)
     (try clear hb2)
     (try clear hk)
     (try clear hi)
     refine hK.out _ _ ⟨(blk_cell BK449.out 0).trans rfl,(blk_cell BK449.out 1).trans rfl,(blk_cell BK449.out 2).trans rfl,(blk_cell BK451.out 0).trans rfl,(blk_cell BK451.out 1).trans rfl,((HB.out.cell (World.block_lt_of_cell? w _ hw458_0)).trans hw458_0),((HB.out.cell (World.block_lt_of_cell? w _ hw458_1)).trans hw458_1),HS7_,((HB.out.cell (World.block_lt_of_cell? w _ hw461_0)).trans hw461_0),((HB.out.cell (World.block_lt_of_cell? w _ hw461_1)).trans hw461_1)⟩ (fun hHeld=> ?_)
     clear hK K
     refine norm_ (a':= ?_) ?_ ?_
     rotate_left
     ·show Act.put _ (some 40) _=_
      simp only[Act.put,List.setIfInBounds_toArray,List.set_cons_zero,List.set_cons_succ,i64_w,i32_w]
      rfl
     refine pure_ (i:=11) (N:=some 46) (v:= ?_) (a':= ?_) #[true,true,true,true,true,true,true,true,true,true,true,true,false,false,false,false,false,false,false,false,false,false,false] rfl rfl (any_of HT_.out (by kernel_rfl)) (fun _ _ _ h=>h) (Or.inl ⟨by rfl,?_⟩) ?_ ?_
     rotate_left
     ·intro w'
      go_simp
      with_reducible rfl
     rotate_left
     ·simp only[Act.put,List.setIfInBounds_toArray,List.set_cons_zero,List.set_cons_succ,i64_w,i32_w]
      rfl
     refine pure_ (i:=12) (N:=some 47) (v:= ?_) (a':= ?_) #[true,true,true,true,true,true,true,true,true,true,true,true,true,false,false,false,false,false,false,false,false,false,false] rfl rfl (any_of HT_.out (by kernel_rfl)) (fun _ _ _ h=>h) (Or.inl ⟨by rfl,?_⟩) ?_ ?_
     rotate_left
     ·intro w'
      go_simp
      with_reducible rfl
     rotate_left
     ·simp only[Act.put,List.setIfInBounds_toArray,List.set_cons_zero,List.set_cons_succ,i64_w,i32_w]
      rfl
     refine pure_ (i:=15) (N:=some 50) (v:= ?_) (a':= ?_) #[true,true,true,true,true,true,true,true,true,true,true,true,true,false,false,true,false,false,false,false,false,false,false] rfl rfl (any_of HT_.out (by kernel_rfl)) (fun _ _ _ h=>h) (Or.inl ⟨by rfl,?_⟩) ?_ ?_
     rotate_left
     ·intro w'
      go_simp
      with_reducible rfl
     rotate_left
     ·simp only[Act.put,List.setIfInBounds_toArray,List.set_cons_zero,List.set_cons_succ,i64_w,i32_w]
      rfl
     refine pure_ (i:=16) (N:=some 51) (v:= ?_) (a':= ?_) #[true,true,true,true,true,true,true,true,true,true,true,true,true,false,false,true,true,false,false,false,false,false,false] rfl rfl (any_of HT_.out (by kernel_rfl)) (fun _ _ _ h=>h) (Or.inl ⟨by rfl,?_⟩) ?_ ?_
     rotate_left
     ·intro w'
      go_simp
      with_reducible rfl
     rotate_left
     ·simp only[Act.put,List.setIfInBounds_toArray,List.set_cons_zero,List.set_cons_succ,i64_w,i32_w]
      rfl
     refine pure_ (i:=17) (N:=some 52) (v:= ?_) (a':= ?_) #[true,true,true,true,true,true,true,true,true,true,true,true,true,false,false,true,true,true,false,false,false,false,false] rfl rfl (any_of HT_.out (by kernel_rfl)) (fun _ _ _ h=>h) (Or.inl ⟨by rfl,?_⟩) ?_ ?_
     rotate_left
     ·intro w'
      go_simp
      with_reducible rfl
     rotate_left
     ·simp only[Act.put,List.setIfInBounds_toArray,List.set_cons_zero,List.set_cons_succ,i64_w,i32_w]
      rfl
     refine take_ (i:=13) (N:=some 48) (v:= ?_) (a':= ?_) #[true,true,true,true,true,true,true,true,true,true,true,true,true,true,false,true,true,true,false,false,false,false,false] rfl rfl (take_ofW HT_.out HW_.out (by kernel_rfl)) (fun _ _ _ h=>h) (Or.inl ⟨by rfl,?_⟩) hHeld ?_ ?_
     rotate_left
     ·rintro w' ⟨s0,s1,s2,s3,s4,s5,s6,s7,s8,s9⟩
      go_simp
      with_reducible rfl
     rotate_left
     ·simp only[Act.put,List.setIfInBounds_toArray,List.set_cons_zero,List.set_cons_succ,i64_w,i32_w]
      rfl
     refine take_ (i:=14) (N:=some 49) (v:= ?_) (a':= ?_) #[true,true,true,true,true,true,true,true,true,true,true,true,true,true,true,true,true,true,false,false,false,false,false] rfl rfl (take_ofW HT_.out HW_.out (by kernel_rfl)) (fun _ _ _ h=>h) (Or.inl ⟨by rfl,?_⟩) hHeld ?_ ?_
     rotate_left
     ·rintro w' ⟨s0,s1,s2,s3,s4,s5,s6,s7,s8,s9⟩
      go_simp
      with_reducible rfl
     rotate_left
     ·simp only[Act.put,List.setIfInBounds_toArray,List.set_cons_zero,List.set_cons_succ,i64_w,i32_w]
      rfl
     refine take_ (i:=18) (N:=some 53) (v:= ?_) (a':= ?_) #[true,true,true,true,true,true,true,true,true,true,true,true,true,true,true,true,true,true,true,false,false,false,false] rfl rfl (take_ofW HT_.out HW_.out (by kernel_rfl)) (fun _ _ _ h=>h) (Or.inl ⟨by rfl,?_⟩) hHeld ?_ ?_
     rotate_left
     ·rintro w' ⟨s0,s1,s2,s3,s4,s5,s6,s7,s8,s9⟩
      go_simp
      with_reducible rfl
     rotate_left
     ·simp only[Act.put,List.setIfInBounds_toArray,List.set_cons_zero,List.set_cons_succ,i64_w,i32_w]
      rfl
     refine one_ (i:=19) (N:=some 54) #[true,true,true,true,true,true,true,true,true,true,true,true,true,true,true,true,true,true,true,true,false,false,false] rfl rfl (one_of HT_.out (by kernel_rfl)) (by decide) (fun K hK=> ?_)
     refine goes_ Try.func45 (by kernel_rfl) rfl #[.agg #[.int .i64 a0_0, .bool a0_1, .slice A0_2 l0_2.length c0_2], .agg #[.int .i64 ((rd_T38 l2 x9_2).f0), .bool ((rd_T38 l2 x9_2).f1)]] (by rfl) rfl rfl (by(try simp only[List.map_toArray,List.map_cons,List.map_nil]);first|done|rfl|(simp only[List.length_drop,List.length_take];rfl)) ?_
     with_reducible refine(ebbtideref07_To.calls a0_0 a0_1 _ _ l0_2 ((rd_T38 l2 x9_2).f0) ((rd_T38 l2 x9_2).f1) t462 _ ?side1 ?side2 A29.out).mono ?_
     (case side1=>repeat(first|exact(Kd.C_below HR0_2.out HB.out)|(with_reducible refine Kd.C_alloc ?_ _)|(with_reducible refine Kd.C_drewN ?_ _)|(with_reducible refine Kd.C_drew ?_)))
     (case side2=>exact HC0_2.out)
     rintro e w38 ⟨rfl,hb⟩
     have HS7_:=(hb.cell (World.block_lt_of_cell? _ _ (hHeld.2.2.2.2.2.2.2.1))).trans (hHeld.2.2.2.2.2.2.2.1)
     refine⟨_,rfl,?_⟩
     have n0_:=Aside0.mk (Kd.R_below HO_452000.out hb)
     have n1_:=Aside0.mk (Kd.R_below HO_452001.out hb)
     have n2_:=Aside0.mk (blk_below BK449.out hb)
     have n3_:=Aside0.mk (blk_below BK450.out hb)
     have n4_:=Aside0.mk (blk_below BK451.out hb)
     have n5_:=Aside0.mk (below_step HB.out hb)
     clear HO_452000
     clear HO_452001
     clear BK449
     clear BK450
     clear BK451
     clear HB
     have HO_452000:=n0_
     have HO_452001:=n1_
     have BK449:=n2_
     have BK450:=n3_
     have BK451:=n4_
     have HB:=n5_
     clear n0_ n1_ n2_ n3_ n4_ n5_
     (try clear hb)
     (try clear hb2)
     (try clear hk)
     (try clear hi)
     obtain⟨Ao39,co39,eo39⟩:=Kd.R_slice HO_452001.out
     (first|subst eo39|(injection eo39 with f1_ f2_ f3_;have f4_:=f1_.symm;have f5_:=f3_.symm;clear f1_ f2_ f3_;subst f4_;subst f5_))
     refine hK.out _ _ ⟨(blk_cell BK449.out 0).trans rfl,(blk_cell BK449.out 1).trans rfl,(blk_cell BK449.out 2).trans rfl,(blk_cell BK451.out 0).trans rfl,(blk_cell BK451.out 1).trans rfl,((HB.out.cell (World.block_lt_of_cell? w _ hw458_0)).trans hw458_0),((HB.out.cell (World.block_lt_of_cell? w _ hw458_1)).trans hw458_1),HS7_,((HB.out.cell (World.block_lt_of_cell? w _ hw461_0)).trans hw461_0),((HB.out.cell (World.block_lt_of_cell? w _ hw461_1)).trans hw461_1)⟩ (fun hHeld=> ?_)
     clear hK K
     refine norm_ (a':= ?_) ?_ ?_
     rotate_left
     ·show Act.put _ (some 54) _=_
      simp only[Act.put,List.setIfInBounds_toArray,List.set_cons_zero,List.set_cons_succ,i64_w,i32_w]
      rfl
     refine one_ (i:=20) (N:=some 55) #[true,true,true,true,true,true,true,true,true,true,true,true,true,true,true,true,true,true,true,true,true,false,false] rfl rfl (one_of HT_.out (by kernel_rfl)) (by decide) (fun K hK=> ?_)
     refine goes_ Try.func147 (by kernel_rfl) rfl #[.agg #[.slice (some ad460) x452000_2.length co36, .slice Ao39 x452001_2.length co39], .int .i64 t462] (by rfl) rfl rfl (by(try simp only[List.map_toArray,List.map_cons,List.map_nil]);first|done|rfl|(simp only[List.length_drop,List.length_take];rfl)) ?_
     with_reducible refine(ebbtideref08_found_has.calls k2 _ _ x452000_2 _ _ x452001_2 t462 t463 _ ?side1 ?side2 ?side3 ?side4 A30.out).mono ?_
     (case side1=>repeat(first|exact(Kd.R_reads' HO_452000.out).2.2|(with_reducible refine Kd.C_alloc ?_ _)|(with_reducible refine Kd.C_drewN ?_ _)|(with_reducible refine Kd.C_drew ?_)))
     (case side2=>exact(Kd.R_reads' HO_452000.out).2.1)
     (case side3=>repeat(first|exact(Kd.R_reads' HO_452001.out).2.2|(with_reducible refine Kd.C_alloc ?_ _)|(with_reducible refine Kd.C_drewN ?_ _)|(with_reducible refine Kd.C_drew ?_)))
     (case side4=>exact(Kd.R_reads' HO_452001.out).2.1)
     rintro e w40 ⟨rfl,hb⟩
     have HS7_:=(hb.cell (World.block_lt_of_cell? _ _ (hHeld.2.2.2.2.2.2.2.1))).trans (hHeld.2.2.2.2.2.2.2.1)
     refine⟨_,rfl,?_⟩
     have n0_:=Aside0.mk (Kd.R_below HO_452000.out hb)
     have n1_:=Aside0.mk (Kd.R_below HO_452001.out hb)
     have n2_:=Aside0.mk (blk_below BK449.out hb)
     have n3_:=Aside0.mk (blk_below BK450.out hb)
     have n4_:=Aside0.mk (blk_below BK451.out hb)
     have n5_:=Aside0.mk (below_step HB.out hb)
     clear HO_452000
     clear HO_452001
     clear BK449
     clear BK450
     clear BK451
     clear HB
     have HO_452000:=n0_
     have HO_452001:=n1_
     have BK449:=n2_
     have BK450:=n3_
     have BK451:=n4_
     have HB:=n5_
     clear n0_ n1_ n2_ n3_ n4_ n5_
     (try clear hb)
     (try clear hb2)
     (try clear hk)
     (try clear hi)
     refine hK.out _ _ ⟨(blk_cell BK449.out 0).trans rfl,(blk_cell BK449.out 1).trans rfl,(blk_cell BK449.out 2).trans rfl,(blk_cell BK451.out 0).trans rfl,(blk_cell BK451.out 1).trans rfl,((HB.out.cell (World.block_lt_of_cell? w _ hw458_0)).trans hw458_0),((HB.out.cell (World.block_lt_of_cell? w _ hw458_1)).trans hw458_1),HS7_,((HB.out.cell (World.block_lt_of_cell? w _ hw461_0)).trans hw461_0),((HB.out.cell (World.block_lt_of_cell? w _ hw461_1)).trans hw461_1)⟩ (fun hHeld=> ?_)
     clear hK K
     refine norm_ (a':= ?_) ?_ ?_
     rotate_left
     ·show Act.put _ (some 55) _=_
      simp only[Act.put,List.setIfInBounds_toArray,List.set_cons_zero,List.set_cons_succ,i64_w,i32_w]
      rfl
     refine pure_ (i:=21) (N:=some 56) (v:= ?_) (a':= ?_) #[true,true,true,true,true,true,true,true,true,true,true,true,true,true,true,true,true,true,true,true,true,true,false] rfl rfl (any_of HT_.out (by kernel_rfl)) (fun _ _ _ h=>h) (Or.inl ⟨by rfl,?_⟩) ?_ ?_
     rotate_left
     ·intro w'
      go_simp
      with_reducible rfl
     rotate_left
     ·simp only[Act.put,List.setIfInBounds_toArray,List.set_cons_zero,List.set_cons_succ,i64_w,i32_w]
      rfl
     refine pure_ (i:=22) (N:=some 57) (v:= ?_) (a':= ?_) #[true,true,true,true,true,true,true,true,true,true,true,true,true,true,true,true,true,true,true,true,true,true,true] rfl rfl (any_of HT_.out (by kernel_rfl)) (fun _ _ _ h=>h) (Or.inl ⟨by rfl,?_⟩) ?_ ?_
     rotate_left
     ·intro w'
      go_simp
      with_reducible rfl
     rotate_left
     ·simp only[Act.put,List.setIfInBounds_toArray,List.set_cons_zero,List.set_cons_succ,i64_w,i32_w]
      rfl
     refine done_ (done_of HT_.out (by kernel_rfl)) ?_
     try go_wp2
     have n0_:=Aside0.mk (Kd.R_drew HO_452000.out)
     have n1_:=Aside0.mk (Kd.R_drew HO_452001.out)
     have n2_:=Aside0.mk (blk_drew BK449.out)
     have n3_:=Aside0.mk (blk_drew BK450.out)
     have n4_:=Aside0.mk (blk_drew BK451.out)
     have n5_:=Aside0.mk (below_drew1 HB.out)
     clear HO_452000
     clear HO_452001
     clear BK449
     clear BK450
     clear BK451
     clear HB
     have HO_452000:=n0_
     have HO_452001:=n1_
     have BK449:=n2_
     have BK450:=n3_
     have BK451:=n4_
     have HB:=n5_
     clear n0_ n1_ n2_ n3_ n4_ n5_
     have p464:0≤(x9_2:Int):=of_decide_eq_true (by first|(with_reducible assumption)|assumption)
     have q464:x9_2<(l2.length:Int):=of_decide_eq_true (by first|(with_reducible assumption)|assumption)
     obtain⟨ad464,e464,hx464_0,hx464_1⟩:=at_T38 HR2.out x9_2 p464 q464
     have hw464_1:=hx464_1
     have hw464_0:=hx464_0
     obtain rfl:ad458=ad464:=(by injection e464)
     replace hx464_0:=(HB.out.cell (World.block_lt_of_cell? w _ hx464_0)).trans hx464_0
     replace hx464_1:=(HB.out.cell (World.block_lt_of_cell? w _ hx464_1)).trans hx464_1
     replace p464:=eq_true p464
     replace q464:=eq_true q464
     refine start_ (n:=12) (S:=fun w'=>w'.cell? ⟨gb451,0,none⟩=some (.slice (some ad460) x452000_2.length co36)∧w'.cell? ⟨gb451,1,none⟩=some (.slice Ao39 x452001_2.length co39)∧w'.cell? ⟨gb449,0,none⟩=some (.int .i64 a0_0)∧w'.cell? ⟨gb449,1,none⟩=some (.bool a0_1)∧w'.cell? ⟨gb449,2,none⟩=some (.slice A0_2 l0_2.length c0_2)∧w'.cell? (ad458.add ((x9_2).toNat * 2))=some (.int .i64 ((rd_T38 l2 x9_2).f0))∧w'.cell? ⟨(ad458.add ((x9_2).toNat * 2)).block,(ad458.add ((x9_2).toNat * 2)).off+1,none⟩=some (.bool ((rd_T38 l2 x9_2).f1))) (ds:=[11]) #[false,false,false,false,false,false,false,false,false,false,false,false] (by kernel_rfl) rfl rfl ⟨(blk_cell BK451.out 0).trans rfl,(blk_cell BK451.out 1).trans rfl,(blk_cell BK449.out 0).trans rfl,(blk_cell BK449.out 1).trans rfl,(blk_cell BK449.out 2).trans rfl,((HB.out.cell (World.block_lt_of_cell? w _ hw464_0)).trans hw464_0),((HB.out.cell (World.block_lt_of_cell? w _ hw464_1)).trans hw464_1)⟩ (fun hHeld=> ?_);refine with_tabW ebbtideref08_sought.tab11 ebbtideref08_sought.bits11 (fun HT_ HW_=> ?_)
     generalize w40.drew=w41 at HO_452000 HO_452001 BK449 BK450 BK451 HB hx464_0 hx464_1 hHeld ⊢
     refine pure_ (i:=0) (N:=some 58) (v:= ?_) (a':= ?_) #[true,false,false,false,false,false,false,false,false,false,false,false] rfl rfl (any_of HT_.out (by kernel_rfl)) (fun _ _ _ h=>h) (Or.inl ⟨by rfl,?_⟩) ?_ ?_
     rotate_left
     ·intro w'
      go_simp
      with_reducible rfl
     rotate_left
     ·simp only[Act.put,List.setIfInBounds_toArray,List.set_cons_zero,List.set_cons_succ,i64_w,i32_w]
      rfl
     refine pure_ (i:=3) (N:=some 61) (v:= ?_) (a':= ?_) #[true,false,false,true,false,false,false,false,false,false,false,false] rfl rfl (any_of HT_.out (by kernel_rfl)) (fun _ _ _ h=>h) (Or.inl ⟨by rfl,?_⟩) ?_ ?_
     rotate_left
     ·intro w'
      go_simp
      with_reducible rfl
     rotate_left
     ·simp only[Act.put,List.setIfInBounds_toArray,List.set_cons_zero,List.set_cons_succ,i64_w,i32_w]
      rfl
     refine pure_ (i:=4) (N:=some 62) (v:= ?_) (a':= ?_) #[true,false,false,true,true,false,false,false,false,false,false,false] rfl rfl (any_of HT_.out (by kernel_rfl)) (fun _ _ _ h=>h) (Or.inl ⟨by rfl,?_⟩) ?_ ?_
     rotate_left
     ·intro w'
      go_simp
      with_reducible rfl
     rotate_left
     ·simp only[Act.put,List.setIfInBounds_toArray,List.set_cons_zero,List.set_cons_succ,i64_w,i32_w]
      rfl
     refine pure_ (i:=5) (N:=some 63) (v:= ?_) (a':= ?_) #[true,false,false,true,true,true,false,false,false,false,false,false] rfl rfl (any_of HT_.out (by kernel_rfl)) (fun _ _ _ h=>h) (Or.inl ⟨by rfl,?_⟩) ?_ ?_
     rotate_left
     ·intro w'
      go_simp
      with_reducible rfl
     rotate_left
     ·simp only[Act.put,List.setIfInBounds_toArray,List.set_cons_zero,List.set_cons_succ,i64_w,i32_w]
      rfl
     refine take_ (i:=1) (N:=some 59) (v:= ?_) (a':= ?_) #[true,true,false,true,true,true,false,false,false,false,false,false] rfl rfl (take_ofW HT_.out HW_.out (by kernel_rfl)) (fun _ _ _ h=>h) (Or.inl ⟨by rfl,?_⟩) hHeld ?_ ?_
     rotate_left
     ·rintro w' ⟨s0,s1,s2,s3,s4,s5,s6⟩
      go_simp
      with_reducible rfl
     rotate_left
     ·simp only[Act.put,List.setIfInBounds_toArray,List.set_cons_zero,List.set_cons_succ,i64_w,i32_w]
      rfl
     refine take_ (i:=2) (N:=some 60) (v:= ?_) (a':= ?_) #[true,true,true,true,true,true,false,false,false,false,false,false] rfl rfl (take_ofW HT_.out HW_.out (by kernel_rfl)) (fun _ _ _ h=>h) (Or.inl ⟨by rfl,?_⟩) hHeld ?_ ?_
     rotate_left
     ·rintro w' ⟨s0,s1,s2,s3,s4,s5,s6⟩
      go_simp
      with_reducible rfl
     rotate_left
     ·simp only[Act.put,List.setIfInBounds_toArray,List.set_cons_zero,List.set_cons_succ,i64_w,i32_w]
      rfl
     refine take_ (i:=6) (N:=some 64) (v:= ?_) (a':= ?_) #[true,true,true,true,true,true,true,false,false,false,false,false] rfl rfl (take_ofW HT_.out HW_.out (by kernel_rfl)) (fun _ _ _ h=>h) (Or.inl ⟨by rfl,?_⟩) hHeld ?_ ?_
     rotate_left
     ·rintro w' ⟨s0,s1,s2,s3,s4,s5,s6⟩
      go_simp
      with_reducible rfl
     rotate_left
     ·simp only[Act.put,List.setIfInBounds_toArray,List.set_cons_zero,List.set_cons_succ,i64_w,i32_w]
      rfl
     refine one_ (i:=7) (N:=some 65) #[true,true,true,true,true,true,true,true,false,false,false,false] rfl rfl (one_of HT_.out (by kernel_rfl)) (by decide) (fun K hK=> ?_)
     refine goes_ Try.func45 (by kernel_rfl) rfl #[.agg #[.int .i64 a0_0, .bool a0_1, .slice A0_2 l0_2.length c0_2], .agg #[.int .i64 ((rd_T38 l2 x9_2).f0), .bool ((rd_T38 l2 x9_2).f1)]] (by rfl) rfl rfl (by(try simp only[List.map_toArray,List.map_cons,List.map_nil]);first|done|rfl|(simp only[List.length_drop,List.length_take];rfl)) ?_
     with_reducible refine(ebbtideref07_To.calls a0_0 a0_1 _ _ l0_2 ((rd_T38 l2 x9_2).f0) ((rd_T38 l2 x9_2).f1) t465 _ ?side1 ?side2 A32.out).mono ?_
     (case side1=>repeat(first|exact(Kd.C_below HR0_2.out HB.out)|(with_reducible refine Kd.C_alloc ?_ _)|(with_reducible refine Kd.C_drewN ?_ _)|(with_reducible refine Kd.C_drew ?_)))
     (case side2=>exact HC0_2.out)
     rintro e w42 ⟨rfl,hb⟩
     refine⟨_,rfl,?_⟩
     have n0_:=Aside0.mk (Kd.R_below HO_452000.out hb)
     have n1_:=Aside0.mk (Kd.R_below HO_452001.out hb)
     have n2_:=Aside0.mk (blk_below BK449.out hb)
     have n3_:=Aside0.mk (blk_below BK450.out hb)
     have n4_:=Aside0.mk (blk_below BK451.out hb)
     have n5_:=Aside0.mk (below_step HB.out hb)
     clear HO_452000
     clear HO_452001
     clear BK449
     clear BK450
     clear BK451
     clear HB
     have HO_452000:=n0_
     have HO_452001:=n1_
     have BK449:=n2_
     have BK450:=n3_
     have BK451:=n4_
     have HB:=n5_
     clear n0_ n1_ n2_ n3_ n4_ n5_
     (try clear hb)
     (try clear hb2)
     (try clear hk)
     (try clear hi)
     refine hK.out _ _ ⟨(blk_cell BK451.out 0).trans rfl,(blk_cell BK451.out 1).trans rfl,(blk_cell BK449.out 0).trans rfl,(blk_cell BK449.out 1).trans rfl,(blk_cell BK449.out 2).trans rfl,((HB.out.cell (World.block_lt_of_cell? w _ hw464_0)).trans hw464_0),((HB.out.cell (World.block_lt_of_cell? w _ hw464_1)).trans hw464_1)⟩ (fun hHeld=> ?_)
     clear hK K
     refine norm_ (a':= ?_) ?_ ?_
     rotate_left
     ·show Act.put _ (some 65) _=_
      simp only[Act.put,List.setIfInBounds_toArray,List.set_cons_zero,List.set_cons_succ,i64_w,i32_w]
      rfl
     refine one_ (i:=8) (N:=some 66) #[true,true,true,true,true,true,true,true,true,false,false,false] rfl rfl (one_of HT_.out (by kernel_rfl)) (by decide) (fun K hK=> ?_)
     refine value_ (w1:= ?_) (v:= ?_) (by rfl) rfl ?_ ?_
     rotate_left 2
     ·go_simp
      constructor
      ·rfl
      ·rfl
     refine hK.out _ _ ⟨(blk_cell (blk_alloc BK451.out _) 0).trans rfl,(blk_cell (blk_alloc BK451.out _) 1).trans rfl,(blk_cell (blk_alloc BK449.out _) 0).trans rfl,(blk_cell (blk_alloc BK449.out _) 1).trans rfl,(blk_cell (blk_alloc BK449.out _) 2).trans rfl,(World.cell?_alloc_lt _ _ _ (World.block_lt_of_cell? _ _ (((HB.out.cell (World.block_lt_of_cell? w _ hw464_0)).trans hw464_0)))).trans (((HB.out.cell (World.block_lt_of_cell? w _ hw464_0)).trans hw464_0)),(World.cell?_alloc_lt _ _ _ (World.block_lt_of_cell? _ _ (((HB.out.cell (World.block_lt_of_cell? w _ hw464_1)).trans hw464_1)))).trans (((HB.out.cell (World.block_lt_of_cell? w _ hw464_1)).trans hw464_1))⟩ (fun hHeld=> ?_)
     clear hK K
     refine norm_ (a':= ?_) ?_ ?_
     rotate_left
     ·show Act.put _ (some 66) _=_
      simp only[Act.put,List.setIfInBounds_toArray,List.set_cons_zero,List.set_cons_succ,i64_w,i32_w]
      rfl
     refine one_ (i:=9) (N:=some 67) #[true,true,true,true,true,true,true,true,true,true,false,false] rfl rfl (one_of HT_.out (by kernel_rfl)) (by decide) (fun K hK=> ?_)
     refine Kd.R_append_step (Kd.int .i64) (w0:=w) w.heap.size (by rfl) (.tmp 59) (.tmp 66) 25 3 (.int .i64 0) 8 rfl Try.underlying25 info3 rfl (by decide) (by omega) (.slice (some ad460) x452000_2.length co36) x452000_2 t465 [.int .i64 t465] (fun _=>True) (fun _=>False) rfl rfl ?aP (fun _ hk=>hk.elim) ?aF ?aO ?aB ?aS ?aL ?_
     (case aP=>exact rfl)
     (case aB=>exact HB.out)
     (case aF=>exact(fun _ _=>trivial))
     (case aO=>exact HO_452000.out)
     (case aS=>exact(below_size HB.out))
     (case aL=>have:=LMc33.out;omega)
     intro v467 w43 ho hb hg hat
     rw[← Ny466.out] at ho
     have n0_:=Aside0.mk (Kd.R_over' HO_452001.out (Kd.R_typed HO_452000.out) (by decide) hg)
     have n1_:=Aside0.mk (blk_grown BK449.out hg (Kd.R_ne HO_452000.out BK449.out (by decide)))
     have n2_:=Aside0.mk (blk_grown BK450.out hg (Kd.R_ne HO_452000.out BK450.out (by decide)))
     have n3_:=Aside0.mk (blk_grown BK451.out hg (Kd.R_ne HO_452000.out BK451.out (by decide)))
     have n4_:=Aside0.mk (hb)
     have n5_:=Aside0.mk (ho)
     clear HO_452001
     clear BK449
     clear BK450
     clear BK451
     clear HB
     clear HO_452000
     have HO_452001:=n0_
     have BK449:=n1_
     have BK450:=n2_
     have BK451:=n3_
     have HB:=n4_
     have HO468:=n5_
     clear n0_ n1_ n2_ n3_ n4_ n5_
     clear ho hb hg hat
     obtain⟨Ao44,co44,eo44⟩:=Kd.R_slice HO468.out
     (first|subst eo44|(injection eo44 with f1_ f2_ f3_;have f4_:=f1_.symm;have f5_:=f3_.symm;clear f1_ f2_ f3_;subst f4_;subst f5_))
     refine hK.out _ _ ⟨(blk_cell BK451.out 0).trans rfl,(blk_cell BK451.out 1).trans rfl,(blk_cell BK449.out 0).trans rfl,(blk_cell BK449.out 1).trans rfl,(blk_cell BK449.out 2).trans rfl,((HB.out.cell (World.block_lt_of_cell? w _ hw464_0)).trans hw464_0),((HB.out.cell (World.block_lt_of_cell? w _ hw464_1)).trans hw464_1)⟩ (fun hHeld=> ?_)
     clear hK K
     refine norm_ (a':= ?_) ?_ ?_
     rotate_left
     ·show Act.put _ (some 67) _=_
      simp only[Act.put,List.setIfInBounds_toArray,List.set_cons_zero,List.set_cons_succ,i64_w,i32_w]
      rfl
     refine pure_ (i:=10) (N:=some 68) (v:= ?_) (a':= ?_) #[true,true,true,true,true,true,true,true,true,true,true,false] rfl rfl (any_of HT_.out (by kernel_rfl)) (fun _ _ _ h=>h) (Or.inl ⟨by rfl,?_⟩) ?_ ?_
     rotate_left
     ·intro w'
      go_simp
      with_reducible rfl
     rotate_left
     ·simp only[Act.put,List.setIfInBounds_toArray,List.set_cons_zero,List.set_cons_succ,i64_w,i32_w]
      rfl
     refine last_ (i:=11) (N:=none) #[true,true,true,true,true,true,true,true,true,true,true,true] rfl rfl (one_of HT_.out (by kernel_rfl)) (by decide) (fun K hK=> ?_)
     have hs45:w43.cell? ⟨gb451,0,none⟩=some (.slice (some ad460) x452000_2.length co36):=(blk_cell BK451.out 0).trans rfl
     have hfs45:=blk_frozen BK451.out 0
     have hns45_0:=NB449_451.out
     have hns45_1:=NB450_451.out
     have hms45_0:=NB451_449.out
     have hms45_1:=NB451_450.out
     refine skip_ (w1:= ?_) (by rfl) rfl ?_ ?_
     rotate_left
     ·go_simp
      rfl
     refine hK.out _ _ ?_
     clear hK K
     refine done_ (done_of HT_.out (by kernel_rfl)) ?_
     try go_wp2
     have n0_:Aside0 (Kd.R k38 38 (w43.setCell ⟨gb451,0,none⟩ (.slice Ao44 y466.length co44)) w.heap.size (fun _=>True) (.slice Ao39 x452001_2.length co39) x452001_2):=⟨by(with_reducible repeat(first|apply Kd.R_alloc|apply Kd.R_drewN|apply Kd.R_drew));exact Kd.R_mono (Kd.R_far (p:=⟨gb451,0,none⟩) (Kd.R_types HO_452001.out BK451.out (by decide)) (fun _ hk=>hk.2) (.slice Ao44 y466.length co44)) (fun _ hk=>trivial)⟩
     have n1_:Aside0 (Kd.R (Kd.int .i64) 3 (w43.setCell ⟨gb451,0,none⟩ (.slice Ao44 y466.length co44)) w.heap.size (fun _=>True) (.slice Ao44 y466.length co44) y466):=⟨by(with_reducible repeat(first|apply Kd.R_alloc|apply Kd.R_drewN|apply Kd.R_drew));exact Kd.R_mono (Kd.R_far (p:=⟨gb451,0,none⟩) (Kd.R_types HO468.out BK451.out (by decide)) (fun _ hk=>hk.2) (.slice Ao44 y466.length co44)) (fun _ hk=>trivial)⟩
     have n2_:Aside0 ((w43.setCell ⟨gb451,0,none⟩ (.slice Ao44 y466.length co44)).heap[gb449]? =some (.cells #[.int .i64 a0_0, .bool a0_1, .slice A0_2 l0_2.length c0_2] 24 (0,0))):=⟨by(with_reducible repeat(first|refine blk_drewN ?_ _|refine blk_drew ?_|refine blk_alloc ?_ _));refine blk_far ?_ NB449_451.out _;(with_reducible repeat(first|refine blk_drewN ?_ _|refine blk_drew ?_|refine blk_alloc ?_ _));exact BK449.out⟩
     have n3_:Aside0 ((w43.setCell ⟨gb451,0,none⟩ (.slice Ao44 y466.length co44)).heap[gb450]? =some (.cells #[.slice none 0 0, .slice none 0 0] 161 (0,0))):=⟨by(with_reducible repeat(first|refine blk_drewN ?_ _|refine blk_drew ?_|refine blk_alloc ?_ _));refine blk_far ?_ NB450_451.out _;(with_reducible repeat(first|refine blk_drewN ?_ _|refine blk_drew ?_|refine blk_alloc ?_ _));exact BK450.out⟩
     have n4_:Aside0 ((w43.setCell ⟨gb451,0,none⟩ (.slice Ao44 y466.length co44)).heap[gb451]? =some (.cells #[.slice Ao44 y466.length co44, .slice Ao39 x452001_2.length co39] 161 (0,0))):=⟨by(with_reducible repeat(first|refine blk_drewN ?_ _|refine blk_drew ?_|refine blk_alloc ?_ _));refine blk_put (cs:= #[.slice (some ad460) x452000_2.length co36, .slice Ao39 x452001_2.length co39]) ?_ 0 _ rfl;(with_reducible repeat(first|refine blk_drewN ?_ _|refine blk_drew ?_|refine blk_alloc ?_ _));exact BK451.out⟩
     have n5_:Aside0 (Below w.heap.size w (w43.setCell ⟨gb451,0,none⟩ (.slice Ao44 y466.length co44))):=⟨by repeat(first|(with_reducible first|exact HB.out|apply below_alloc|apply pw_below_drewN|apply below_drew1|refine below_set ?_ GE449.out|refine below_set ?_ GE450.out|refine below_set ?_ GE451.out)|exact HB.out)⟩
     (try clear HO_452001)
     (try clear HO468)
     (try clear BK449)
     (try clear BK450)
     (try clear BK451)
     (try clear HB)
     generalize (w43.setCell ⟨gb451,0,none⟩ (.slice Ao44 y466.length co44))=w46 at n0_ n1_ n2_ n3_ n4_ n5_ ⊢
     have HO_452001:=n0_
     have HO468:=n1_
     have BK449:=n2_
     have BK450:=n3_
     have BK451:=n4_
     have HB:=n5_
     clear n0_ n1_ n2_ n3_ n4_ n5_
     have n0_:=Aside0.mk (Kd.R_drew HO_452001.out)
     have n1_:=Aside0.mk (Kd.R_drew HO468.out)
     have n2_:=Aside0.mk (blk_drew BK449.out)
     have n3_:=Aside0.mk (blk_drew BK450.out)
     have n4_:=Aside0.mk (blk_drew BK451.out)
     have n5_:=Aside0.mk (below_drew1 HB.out)
     clear HO_452001
     clear HO468
     clear BK449
     clear BK450
     clear BK451
     clear HB
     have HO_452001:=n0_
     have HO468:=n1_
     have BK449:=n2_
     have BK450:=n3_
     have BK451:=n4_
     have HB:=n5_
     clear n0_ n1_ n2_ n3_ n4_ n5_
     have p469:0≤(x9_2:Int):=of_decide_eq_true (by first|(with_reducible assumption)|assumption)
     have q469:x9_2<(l2.length:Int):=of_decide_eq_true (by first|(with_reducible assumption)|assumption)
     obtain⟨ad469,e469,hx469_0,hx469_1⟩:=at_T38 HR2.out x9_2 p469 q469
     have hw469_1:=hx469_1
     have hw469_0:=hx469_0
     obtain rfl:ad458=ad469:=(by injection e469)
     replace hx469_0:=(HB.out.cell (World.block_lt_of_cell? w _ hx469_0)).trans hx469_0
     replace hx469_1:=(HB.out.cell (World.block_lt_of_cell? w _ hx469_1)).trans hx469_1
     replace p469:=eq_true p469
     replace q469:=eq_true q469
     refine start_ (n:=10) (S:=fun w'=>w'.cell? ⟨gb451,0,none⟩=some (.slice Ao44 y466.length co44)∧w'.cell? ⟨gb451,1,none⟩=some (.slice Ao39 x452001_2.length co39)∧w'.cell? (ad458.add ((x9_2).toNat * 2))=some (.int .i64 ((rd_T38 l2 x9_2).f0))∧w'.cell? ⟨(ad458.add ((x9_2).toNat * 2)).block,(ad458.add ((x9_2).toNat * 2)).off+1,none⟩=some (.bool ((rd_T38 l2 x9_2).f1))) (ds:=[9]) #[false,false,false,false,false,false,false,false,false,false] (by kernel_rfl) rfl rfl ⟨(blk_cell BK451.out 0).trans rfl,(blk_cell BK451.out 1).trans rfl,((HB.out.cell (World.block_lt_of_cell? w _ hw469_0)).trans hw469_0),((HB.out.cell (World.block_lt_of_cell? w _ hw469_1)).trans hw469_1)⟩ (fun hHeld=> ?_);refine with_tabW ebbtideref08_sought.tab12 ebbtideref08_sought.bits12 (fun HT_ HW_=> ?_)
     generalize w46.drew=w47 at HO_452001 HO468 BK449 BK450 BK451 HB hx469_0 hx469_1 hHeld ⊢
     refine pure_ (i:=0) (N:=some 69) (v:= ?_) (a':= ?_) #[true,false,false,false,false,false,false,false,false,false] rfl rfl (any_of HT_.out (by kernel_rfl)) (fun _ _ _ h=>h) (Or.inl ⟨by rfl,?_⟩) ?_ ?_
     rotate_left
     ·intro w'
      go_simp
      with_reducible rfl
     rotate_left
     ·simp only[Act.put,List.setIfInBounds_toArray,List.set_cons_zero,List.set_cons_succ,i64_w,i32_w]
      rfl
     refine pure_ (i:=2) (N:=some 71) (v:= ?_) (a':= ?_) #[true,false,true,false,false,false,false,false,false,false] rfl rfl (any_of HT_.out (by kernel_rfl)) (fun _ _ _ h=>h) (Or.inl ⟨by rfl,?_⟩) ?_ ?_
     rotate_left
     ·intro w'
      go_simp
      with_reducible rfl
     rotate_left
     ·simp only[Act.put,List.setIfInBounds_toArray,List.set_cons_zero,List.set_cons_succ,i64_w,i32_w]
      rfl
     refine pure_ (i:=3) (N:=some 72) (v:= ?_) (a':= ?_) #[true,false,true,true,false,false,false,false,false,false] rfl rfl (any_of HT_.out (by kernel_rfl)) (fun _ _ _ h=>h) (Or.inl ⟨by rfl,?_⟩) ?_ ?_
     rotate_left
     ·intro w'
      go_simp
      with_reducible rfl
     rotate_left
     ·simp only[Act.put,List.setIfInBounds_toArray,List.set_cons_zero,List.set_cons_succ,i64_w,i32_w]
      rfl
     refine pure_ (i:=4) (N:=some 73) (v:= ?_) (a':= ?_) #[true,false,true,true,true,false,false,false,false,false] rfl rfl (any_of HT_.out (by kernel_rfl)) (fun _ _ _ h=>h) (Or.inl ⟨by rfl,?_⟩) ?_ ?_
     rotate_left
     ·intro w'
      go_simp
      with_reducible rfl
     rotate_left
     ·simp only[Act.put,List.setIfInBounds_toArray,List.set_cons_zero,List.set_cons_succ,i64_w,i32_w]
      rfl
     refine take_ (i:=1) (N:=some 70) (v:= ?_) (a':= ?_) #[true,true,true,true,true,false,false,false,false,false] rfl rfl (take_ofW HT_.out HW_.out (by kernel_rfl)) (fun _ _ _ h=>h) (Or.inl ⟨by rfl,?_⟩) hHeld ?_ ?_
     rotate_left
     ·rintro w' ⟨s0,s1,s2,s3⟩
      go_simp
      with_reducible rfl
     rotate_left
     ·simp only[Act.put,List.setIfInBounds_toArray,List.set_cons_zero,List.set_cons_succ,i64_w,i32_w]
      rfl
     refine take_ (i:=5) (N:=some 74) (v:= ?_) (a':= ?_) #[true,true,true,true,true,true,false,false,false,false] rfl rfl (take_ofW HT_.out HW_.out (by kernel_rfl)) (fun _ _ _ h=>h) (Or.inl ⟨by rfl,?_⟩) hHeld ?_ ?_
     rotate_left
     ·rintro w' ⟨s0,s1,s2,s3⟩
      go_simp
      with_reducible rfl
     rotate_left
     ·simp only[Act.put,List.setIfInBounds_toArray,List.set_cons_zero,List.set_cons_succ,i64_w,i32_w]
      rfl
     refine one_ (i:=6) (N:=some 75) #[true,true,true,true,true,true,true,false,false,false] rfl rfl (one_of HT_.out (by kernel_rfl)) (by decide) (fun K hK=> ?_)
     refine value_ (w1:= ?_) (v:= ?_) (by rfl) rfl ?_ ?_
     rotate_left 2
     ·go_simp
      constructor
      ·rfl
      ·rfl
     refine hK.out _ _ ⟨(blk_cell (blk_alloc BK451.out _) 0).trans rfl,(blk_cell (blk_alloc BK451.out _) 1).trans rfl,(World.cell?_alloc_lt _ _ _ (World.block_lt_of_cell? _ _ (((HB.out.cell (World.block_lt_of_cell? w _ hw469_0)).trans hw469_0)))).trans (((HB.out.cell (World.block_lt_of_cell? w _ hw469_0)).trans hw469_0)),(World.cell?_alloc_lt _ _ _ (World.block_lt_of_cell? _ _ (((HB.out.cell (World.block_lt_of_cell? w _ hw469_1)).trans hw469_1)))).trans (((HB.out.cell (World.block_lt_of_cell? w _ hw469_1)).trans hw469_1))⟩ (fun hHeld=> ?_)
     clear hK K
     refine norm_ (a':= ?_) ?_ ?_
     rotate_left
     ·show Act.put _ (some 75) _=_
      simp only[Act.put,List.setIfInBounds_toArray,List.set_cons_zero,List.set_cons_succ,i64_w,i32_w]
      rfl
     refine one_ (i:=7) (N:=some 76) #[true,true,true,true,true,true,true,true,false,false] rfl rfl (one_of HT_.out (by kernel_rfl)) (by decide) (fun K hK=> ?_)
     refine Kd.R_append_step k38 (w0:=w) w.heap.size (by rfl) (.tmp 70) (.tmp 75) 34 38 (.agg #[(.int .i64 0),(.bool false)]) 16 rfl Try.underlying34 info38 rfl (by decide) (by omega) (.slice Ao39 x452001_2.length co39) x452001_2 (⟨(rd_T38 l2 x9_2).f0,(rd_T38 l2 x9_2).f1⟩:S38) [.int .i64 ((rd_T38 l2 x9_2).f0), .bool ((rd_T38 l2 x9_2).f1)] (fun _=>True) (fun _=>False) rfl rfl ?aP (fun _ hk=>hk.elim) ?aF ?aO ?aB ?aS ?aL ?_
     (case aP=>exact k38_mkM _ _ _ (⟨(rd_T38 l2 x9_2).f0,(rd_T38 l2 x9_2).f1⟩:S38))
     (case aB=>exact HB.out)
     (case aF=>exact(fun _ _=>trivial))
     (case aO=>exact HO_452001.out)
     (case aS=>exact(below_size HB.out))
     (case aL=>have:=LMc34.out;omega)
     intro v471 w48 ho hb hg hat
     rw[← Ny470.out] at ho
     have n0_:=Aside0.mk (blk_grown BK449.out hg (Kd.R_ne HO_452001.out BK449.out (by decide)))
     have n1_:=Aside0.mk (blk_grown BK450.out hg (Kd.R_ne HO_452001.out BK450.out (by decide)))
     have n2_:=Aside0.mk (blk_grown BK451.out hg (Kd.R_ne HO_452001.out BK451.out (by decide)))
     have n3_:=Aside0.mk (Kd.R_over' HO468.out (Kd.R_typed HO_452001.out) (by decide) hg)
     have n4_:=Aside0.mk (hb)
     have n5_:=Aside0.mk (ho)
     clear BK449
     clear BK450
     clear BK451
     clear HO468
     clear HB
     clear HO_452001
     have BK449:=n0_
     have BK450:=n1_
     have BK451:=n2_
     have HO468:=n3_
     have HB:=n4_
     have HO472:=n5_
     clear n0_ n1_ n2_ n3_ n4_ n5_
     clear ho hb hg hat
     obtain⟨Ao49,co49,eo49⟩:=Kd.R_slice HO472.out
     (first|subst eo49|(injection eo49 with f1_ f2_ f3_;have f4_:=f1_.symm;have f5_:=f3_.symm;clear f1_ f2_ f3_;subst f4_;subst f5_))
     refine hK.out _ _ ⟨(blk_cell BK451.out 0).trans rfl,(blk_cell BK451.out 1).trans rfl,((HB.out.cell (World.block_lt_of_cell? w _ hw469_0)).trans hw469_0),((HB.out.cell (World.block_lt_of_cell? w _ hw469_1)).trans hw469_1)⟩ (fun hHeld=> ?_)
     clear hK K
     refine norm_ (a':= ?_) ?_ ?_
     rotate_left
     ·show Act.put _ (some 76) _=_
      simp only[Act.put,List.setIfInBounds_toArray,List.set_cons_zero,List.set_cons_succ,i64_w,i32_w]
      rfl
     refine pure_ (i:=8) (N:=some 77) (v:= ?_) (a':= ?_) #[true,true,true,true,true,true,true,true,true,false] rfl rfl (any_of HT_.out (by kernel_rfl)) (fun _ _ _ h=>h) (Or.inl ⟨by rfl,?_⟩) ?_ ?_
     rotate_left
     ·intro w'
      go_simp
      with_reducible rfl
     rotate_left
     ·simp only[Act.put,List.setIfInBounds_toArray,List.set_cons_zero,List.set_cons_succ,i64_w,i32_w]
      rfl
     refine last_ (i:=9) (N:=none) #[true,true,true,true,true,true,true,true,true,true] rfl rfl (one_of HT_.out (by kernel_rfl)) (by decide) (fun K hK=> ?_)
     have hs50:w48.cell? ⟨gb451,1,none⟩=some (.slice Ao39 x452001_2.length co39):=(blk_cell BK451.out 1).trans rfl
     have hfs50:=blk_frozen BK451.out 1
     have hns50_0:=NB449_451.out
     have hns50_1:=NB450_451.out
     have hms50_0:=NB451_449.out
     have hms50_1:=NB451_450.out
     refine skip_ (w1:= ?_) (by rfl) rfl ?_ ?_
     rotate_left
     ·go_simp
      rfl
     refine hK.out _ _ ?_
     clear hK K
     refine done_ (done_of HT_.out (by kernel_rfl)) ?_
     try go_wp2
     go_roundg k2
     case measure=>have:=HK1.out;have:=HK2.out;omega
     case rel=>exact⟨(wrap64 (x9_2+1)),(y466),(y470),(.slice Ao44 y466.length co44),(.slice Ao49 y470.length co49),(by first|rfl|(simp;done)|(simp[*];done)),H',⟨by have:=HK1.out;have:=HK2.out;omega⟩,⟨by(with_reducible repeat(first|apply Kd.R_alloc|apply Kd.R_drewN|apply Kd.R_drew));exact Kd.R_mono (Kd.R_far (p:=⟨gb451,1,none⟩) (Kd.R_types HO468.out BK451.out (by decide)) (fun _ hk=>hk.2) (.slice Ao49 y470.length co49)) (fun _ hk=>trivial)⟩,⟨by(with_reducible repeat(first|apply Kd.R_alloc|apply Kd.R_drewN|apply Kd.R_drew));exact Kd.R_mono (Kd.R_far (p:=⟨gb451,1,none⟩) (Kd.R_types HO472.out BK451.out (by decide)) (fun _ hk=>hk.2) (.slice Ao49 y470.length co49)) (fun _ hk=>trivial)⟩,⟨by(with_reducible repeat(first|refine blk_drewN ?_ _|refine blk_drew ?_|refine blk_alloc ?_ _));refine blk_far ?_ NB449_451.out _;(with_reducible repeat(first|refine blk_drewN ?_ _|refine blk_drew ?_|refine blk_alloc ?_ _));exact BK449.out⟩,⟨by(with_reducible repeat(first|refine blk_drewN ?_ _|refine blk_drew ?_|refine blk_alloc ?_ _));refine blk_far ?_ NB450_451.out _;(with_reducible repeat(first|refine blk_drewN ?_ _|refine blk_drew ?_|refine blk_alloc ?_ _));exact BK450.out⟩,⟨by(with_reducible repeat(first|refine blk_drewN ?_ _|refine blk_drew ?_|refine blk_alloc ?_ _));refine blk_put (cs:= #[.slice Ao44 y466.length co44, .slice Ao39 x452001_2.length co39]) ?_ 1 _ rfl;(with_reducible repeat(first|refine blk_drewN ?_ _|refine blk_drew ?_|refine blk_alloc ?_ _));exact BK451.out⟩,⟨by repeat(first|(with_reducible first|exact HB.out|apply below_alloc|apply pw_below_drewN|apply below_drew1|refine below_set ?_ GE449.out|refine below_set ?_ GE450.out|refine below_set ?_ GE451.out)|exact HB.out)⟩⟩
end Go.Proofs.Ytkcpanpdipmmmaa.P
namespace Go.Proofs.Ytkcpanpdipmmmaa.H
theorem pigeonN (n:Nat): ∀ L:List Nat,L.Nodup→(∀ x,x∈L→x<n)→L.length≤n:=by
 induction n with
 |zero=>
  intro L _ h
  cases L with
  |nil=>simp
  |cons x L=>exact absurd (h x List.mem_cons_self) (Nat.not_lt_zero _)
 |succ n ih=>
  intro L hn h
  by_cases hm:n∈L
  ·have h1:=ih (L.erase n) (hn.erase n) (fun x hx=>by
    have h2:=(hn.mem_erase_iff).1 hx
    have:=h x h2.2
    have:=h2.1
    omega)
   rw[List.length_erase_of_mem hm] at h1
   omega
  ·have:=ih L hn (fun x hx=>by
    have h1:=h x hx
    have:x≠n:=fun e=>hm (e▸hx)
    omega)
   omega
section
variable {α:Type}
structure Fd (α:Type) where
 v:Nat
 by_:α
 lv:Nat
def nodes (st:List (Fd α)):List Nat:=st.map Fd.v
def vis (to_:α→Nat) (lv:Nat) (st:List (Fd α)) (e:α):List (Fd α):=if to_ e∈nodes st then st else st ++ [⟨to_ e,e,lv+1⟩]
def proc (to_:α→Nat) (es:Nat→List α) (st:List (Fd α)) (x:Fd α):List (Fd α):=(es x.v).foldl (vis to_ x.lv) st
def bfs (to_:α→Nat) (es:Nat→List α):Nat→Nat→List (Fd α)→List (Fd α)
 |0,_,st=>st
 |n+1,i,st=>match st[i]? with
  |none=>st
  |some x=>bfs to_ es n (i+1) (proc to_ es st x)
theorem vis_pre (to_:α→Nat) (lv:Nat) (st:List (Fd α)) (e:α): ∃ r,vis to_ lv st e=st ++ r:=by
 unfold vis
 split
 ·exact⟨[],(List.append_nil _).symm⟩
 ·exact⟨_,rfl⟩
theorem fold_pre (to_:α→Nat) (lv:Nat) (l:List α) (st:List (Fd α)): ∃ r,l.foldl (vis to_ lv) st=st ++ r:=by
 induction l generalizing st with
 |nil=>exact⟨[],(List.append_nil _).symm⟩
 |cons e l ih=>
  obtain⟨r,hr⟩:=vis_pre to_ lv st e
  obtain⟨q,hq⟩:=ih (vis to_ lv st e)
  exact⟨r ++ q,by rw[List.foldl_cons,hq,hr,List.append_assoc]⟩
theorem bfs_pre (to_:α→Nat) (es:Nat→List α) (n i:Nat) (st:List (Fd α)): ∃ r,bfs to_ es n i st=st ++ r:=by
 induction n generalizing i st with
 |zero=>exact⟨[],(List.append_nil _).symm⟩
 |succ n ih=>
  unfold bfs
  cases st[i]? with
  |none=>exact⟨[],(List.append_nil _).symm⟩
  |some x=>
   obtain⟨r,hr⟩:=fold_pre to_ x.lv (es x.v) st
   obtain⟨q,hq⟩:=ih (i+1) (proc to_ es st x)
   exact⟨r ++ q,by show bfs to_ es n (i+1) (proc to_ es st x)=_;rw[hq];unfold proc;rw[hr,List.append_assoc]⟩
structure Fds (from_ to_:α→Nat) (es:Nat→List α) (s:Nat) (st:List (Fd α)):Prop where
 nodup:(nodes st).Nodup
 head: ∃ x r,st=x::r∧x.v=s∧x.lv=0
 by_ok: ∀ (j:Nat) (x:Fd α),st[j+1]? =some x→to_ x.by_=x.v∧ ∃ (k:Nat) (y:Fd α),k≤j∧st[k]? =some y∧x.by_∈es y.v∧x.lv=y.lv+1
 up: ∀ (j:Nat) (x y:Fd α),st[j]? =some x→st[j+1]? =some y→x.lv≤y.lv
theorem mem_nodes {st:List (Fd α)} {v:Nat} :v∈nodes st↔ ∃ (j:Nat) (x:Fd α),st[j]? =some x∧x.v=v:=by
 unfold nodes
 rw[List.mem_map]
 constructor
 ·rintro⟨x,hx,rfl⟩
  obtain⟨j,hj⟩:=List.getElem?_of_mem hx
  exact⟨j,x,hj,rfl⟩
 ·rintro⟨j,x,hj,rfl⟩
  exact⟨x,List.mem_of_getElem? hj,rfl⟩
theorem Fds.vis {from_ to_:α→Nat} {es:Nat→List α} {s:Nat} {st:List (Fd α)} (h:Fds from_ to_ es s st) {i:Nat} {x:Fd α} (hx:st[i]? =some x) (hm: ∀ y,y∈st→y.lv≤x.lv+1) {e:α} (he:e∈es x.v):
  Fds from_ to_ es s (vis to_ x.lv st e)∧ ∀ y,y∈H.vis to_ x.lv st e→y.lv≤x.lv+1:=by
 unfold H.vis
 split
 ·exact⟨h,hm⟩
 ·rename_i hn
  have hil:=(List.getElem?_eq_some_iff.1 hx).1
  have hsm: ∀ (j:Nat) (y:Fd α),(st ++ [⟨to_ e,e,x.lv+1⟩])[j]? =some y→(j<st.length∧st[j]? =some y)∨(j=st.length∧y=⟨to_ e,e,x.lv+1⟩):=by
   intro j y hy
   rcases Nat.lt_or_ge j st.length with hj|hj
   ·rw[List.getElem?_append_left hj] at hy;exact .inl ⟨hj,hy⟩
   ·rw[List.getElem?_append_right hj] at hy
    have hj0:j - st.length=0:=by
     have:=(List.getElem?_eq_some_iff.1 hy).1
     simp at this
     omega
    rw[hj0] at hy
    injection hy with hy
    exact .inr ⟨by omega,hy.symm⟩
  refine⟨⟨?_,?_,?_,?_⟩,?_⟩
  ·show (nodes (st ++ [_])).Nodup
   unfold nodes
   rw[List.map_append]
   refine List.nodup_append.2 ⟨h.nodup,by simp,?_⟩
   intro a ha b hb
   simp at hb
   subst hb
   intro e'
   subst e'
   exact hn ha
  ·obtain⟨y,r,hr,h1,h2⟩:=h.head
   exact⟨y,r ++ [_],by rw[hr];rfl,h1,h2⟩
  ·intro j y hy
   rcases hsm _ _ hy with ⟨hj,hy⟩|⟨hj,rfl⟩
   ·obtain⟨h1,k,z,hk,hz,h2,h3⟩:=h.by_ok j y hy
    exact⟨h1,k,z,hk,by rw[List.getElem?_append_left (by omega)];exact hz,h2,h3⟩
   ·exact⟨rfl,i,x,by omega,by rw[List.getElem?_append_left hil];exact hx,he,rfl⟩
  ·intro j y z hy hz
   rcases hsm _ _ hz with ⟨hj,hz⟩|⟨hj,rfl⟩
   ·rw[List.getElem?_append_left (by omega)] at hy
    exact h.up j y z hy hz
   ·rw[List.getElem?_append_left (by omega)] at hy
    exact hm y (List.mem_of_getElem? hy)
  ·intro y hy
   rcases List.mem_append.1 hy with hy|hy
   ·exact hm y hy
   ·rw[List.mem_singleton.1 hy]
    exact Nat.le_refl _
theorem Fds.fold {from_ to_:α→Nat} {es:Nat→List α} {s:Nat} {x:Fd α} (l:List α): ∀ {st:List (Fd α)} (h:Fds from_ to_ es s st) {i:Nat} (hx:st[i]? =some x) (hm: ∀ y,y∈st→y.lv≤x.lv+1) (he: ∀ e,e∈l→e∈es x.v),
  Fds from_ to_ es s (l.foldl (H.vis to_ x.lv) st)∧ ∀ y,y∈l.foldl (H.vis to_ x.lv) st→y.lv≤x.lv+1:=by
 induction l with
 |nil=>intro st h i hx hm he;exact⟨h,hm⟩
 |cons e l ih=>
  intro st h i hx hm he
  obtain⟨h1,h2⟩:=h.vis hx hm (he e List.mem_cons_self)
  obtain⟨r,hr⟩:=vis_pre to_ x.lv st e
  have hx':(H.vis to_ x.lv st e)[i]? =some x:=by rw[hr,List.getElem?_append_left (List.getElem?_eq_some_iff.1 hx).1];exact hx
  exact ih h1 hx' h2 (fun e he'=>he e (List.mem_cons_of_mem _ he'))
theorem fold_mem (to_:α→Nat) (lv:Nat) (l:List α) (st:List (Fd α)) {e:α} (he:e∈l):to_ e∈nodes (l.foldl (vis to_ lv) st):=by
 induction l generalizing st with
 |nil=>cases he
 |cons f l ih=>
  rcases List.mem_cons.1 he with rfl|he
  ·obtain⟨r,hr⟩:=fold_pre to_ lv l (vis to_ lv st e)
   rw[List.foldl_cons,hr]
   have:to_ e∈nodes (vis to_ lv st e):=by
    unfold vis
    split
    ·assumption
    ·unfold nodes;rw[List.map_append];exact List.mem_append_right _ (by simp)
   unfold nodes at this ⊢
   rw[List.map_append]
   exact List.mem_append_left _ this
  ·exact ih _ he
structure Upto (from_ to_:α→Nat) (es:Nat→List α) (s i:Nat) (st:List (Fd α)):Prop where
 fds:Fds from_ to_ es s st
 most: ∀ (x:Fd α),st[i]? =some x→ ∀ y,y∈st→y.lv≤x.lv+1
 seen: ∀ (j:Nat) (x:Fd α),j<i→st[j]? =some x→ ∀ e,e∈es x.v→ ∃ (k:Nat) (y:Fd α),st[k]? =some y∧y.v=to_ e∧y.lv≤x.lv+1
theorem upto_start (from_ to_:α→Nat) (es:Nat→List α) (s:Nat) (e0:α):Upto from_ to_ es s 0 [⟨s,e0,0⟩]:=by
 refine⟨⟨by simp[nodes],⟨_,[],rfl,rfl,rfl⟩,?_,?_⟩,?_,?_⟩
 ·intro j x h;simp at h
 ·intro j x y h1 h2;simp at h2
 ·intro x h y hy
  rw[List.mem_singleton.1 hy]
  exact Nat.zero_le _
 ·intro j x h;exact absurd h (Nat.not_lt_zero _)
theorem Upto.next {from_ to_:α→Nat} {es:Nat→List α} {s i:Nat} {st:List (Fd α)} (h:Upto from_ to_ es s i st) {x:Fd α} (hx:st[i]? =some x):Upto from_ to_ es s (i+1) (proc to_ es st x):=by
 obtain⟨h1,h2⟩:=Fds.fold (es x.v) h.fds hx (h.most x hx) (fun e he=>he)
 obtain⟨r,hr⟩:=fold_pre to_ x.lv (es x.v) st
 have hil:=(List.getElem?_eq_some_iff.1 hx).1
 have hx':(proc to_ es st x)[i]? =some x:=by unfold proc;rw[hr,List.getElem?_append_left hil];exact hx
 refine⟨h1,?_,?_⟩
 ·intro y hy z hz
  have h3:=h1.up i x y hx' hy
  have h4:=h2 z hz
  omega
 ·intro j y hj hy e he
  rcases Nat.lt_or_ge j i with hji|hji
  ·unfold proc at hy ⊢
   rw[hr,List.getElem?_append_left (by omega)] at hy
   obtain⟨k,z,hk,hv,hl⟩:=h.seen j y hji hy e he
   exact⟨k,z,by rw[hr,List.getElem?_append_left (List.getElem?_eq_some_iff.1 hk).1];exact hk,hv,hl⟩
  ·have hji':j=i:=by omega
   subst hji'
   rw[hx'] at hy
   injection hy with hy
   subst hy
   obtain⟨k,z,hk,hv⟩:=mem_nodes.1 (fold_mem to_ x.lv (es x.v) st he)
   exact⟨k,z,hk,hv,h2 z (List.mem_of_getElem? hk)⟩
theorem bfs_done {from_ to_:α→Nat} {es:Nat→List α} {s N:Nat} (hN: ∀ (u:Nat) (e:α),e∈es u→to_ e<N) (hs:s<N) (n:Nat): ∀ (i:Nat) (st:List (Fd α)),Upto from_ to_ es s i st→N≤i+n→Upto from_ to_ es s (bfs to_ es n i st).length (bfs to_ es n i st):=by
 have hlen: ∀ (st:List (Fd α)),Fds from_ to_ es s st→st.length≤N:=by
  intro st h
  have:(nodes st).length≤N:=by
   refine pigeonN N _ h.nodup ?_
   intro v hv
   obtain⟨j,x,hj,rfl⟩:=mem_nodes.1 hv
   cases j with
   |zero=>
    obtain⟨y,r,hr,h1,_⟩:=h.head
    rw[hr] at hj
    injection hj with hj
    rw[← hj,h1]
    exact hs
   |succ j=>
    obtain⟨h1,k,y,_,_,h2,_⟩:=h.by_ok j x hj
    rw[← h1]
    exact hN _ _ h2
  unfold nodes at this
  rw[List.length_map] at this
  exact this
 induction n with
 |zero=>
  intro i st h hi
  have hl:=hlen st h.fds
  show Upto from_ to_ es s st.length st
  exact⟨h.fds,fun x hx=>by have:=(List.getElem?_eq_some_iff.1 hx).1;omega,fun j x hj hx=>h.seen j x (by omega) hx⟩
 |succ n ih=>
  intro i st h hi
  unfold bfs
  cases hx:st[i]? with
  |none=>
   have hl:=List.getElem?_eq_none_iff.1 hx
   show Upto from_ to_ es s st.length st
   exact⟨h.fds,fun x hx=>by have:=(List.getElem?_eq_some_iff.1 hx).1;omega,fun j x hj hx=>h.seen j x (by omega) hx⟩
  |some x=>exact ih (i+1) _ (h.next hx) (by omega)
end
end Go.Proofs.Ytkcpanpdipmmmaa.H
namespace Go.Proofs.Ytkcpanpdipmmmaa.H
section
variable {α:Type}
def fnd (st:List (Fd α)) (v:Nat):Option (Fd α):=st.find? fun x=>x.v == v
theorem fnd_some {st:List (Fd α)} {v:Nat} {x:Fd α} (h:fnd st v=some x):x∈st∧x.v=v:=by
 have h1:=List.find?_some h
 exact⟨List.mem_of_find?_eq_some h,by simpa using h1⟩
theorem fnd_none {st:List (Fd α)} {v:Nat} :fnd st v=none↔v ∉ nodes st:=by
 unfold fnd nodes
 rw[List.find?_eq_none]
 constructor
 ·intro h hm
  obtain⟨x,hx,rfl⟩:=List.mem_map.1 hm
  exact h x hx (by simp)
 ·intro h x hx e
  exact h (List.mem_map.2 ⟨x,hx,by simpa using e⟩)
theorem nodup_inj {st:List (Fd α)} (h:(nodes st).Nodup) {x y:Fd α} (hx:x∈st) (hy:y∈st) (e:x.v=y.v):x=y:=by
 induction st with
 |nil=>cases hx
 |cons z st ih=>
  have h':z.v ∉ nodes st∧(nodes st).Nodup:=List.nodup_cons.1 h
  rcases List.mem_cons.1 hx with h1|h1<;>rcases List.mem_cons.1 hy with h2|h2
  ·rw[h1,h2]
  ·exact(h'.1 (List.mem_map.2 ⟨y,h2,by rw[← e,h1]⟩)).elim
  ·exact(h'.1 (List.mem_map.2 ⟨x,h1,by rw[e,h2]⟩)).elim
  ·exact ih h'.2 h1 h2
theorem fnd_of {st:List (Fd α)} (h:(nodes st).Nodup) {x:Fd α} (hx:x∈st):fnd st x.v=some x:=by
 cases hf:fnd st x.v with
 |none=>exact absurd (List.mem_map.2 ⟨x,hx,rfl⟩) (fnd_none.1 hf)
 |some y=>
  obtain⟨h1,h2⟩:=fnd_some hf
  rw[nodup_inj h h1 hx h2]
theorem fnd_app {st r:List (Fd α)} {v:Nat} (h:v∈nodes st):fnd (st ++ r) v=fnd st v:=by
 unfold fnd
 rw[List.find?_append]
 cases hf:fnd st v with
 |none=>exact absurd h (fnd_none.1 hf)
 |some x=>unfold fnd at hf;rw[hf];rfl
theorem nodes_app (st r:List (Fd α)):nodes (st ++ r)=nodes st ++ nodes r:=List.map_append
def backL (fr:α→Nat) (st:List (Fd α)) (s:Nat):Nat→Nat→List α
 |0,_=>[]
 |k+1,v=>if v=s then [] else match fnd st v with
  |none=>[]
  |some x=>x.by_::backL fr st s k (fr x.by_)
def wayL (fr:α→Nat) (st:List (Fd α)) (s v:Nat):List α:=(backL fr st s st.length v).reverse
def Leads (to_:α→Nat) (es:Nat→List α):Nat→List α→Nat→Prop
 |u,[],t=>u=t
 |u,e::L,t=>e∈es u∧Leads to_ es (to_ e) L t
theorem Leads.snoc {to_:α→Nat} {es:Nat→List α} {L:List α} {e:α} : ∀ {u v:Nat},Leads to_ es u L v→e∈es v→Leads to_ es u (L ++ [e]) (to_ e):=by
 induction L with
 |nil=>intro u v h he;cases h;exact⟨he,rfl⟩
 |cons f L ih=>intro u v h he;exact⟨h.1,ih h.2 he⟩
theorem Fds.mem_lv {fr to_:α→Nat} {es:Nat→List α} {s:Nat} {st:List (Fd α)} (h:Fds fr to_ es s st) {x:Fd α} (hx:x∈st):
  (x.v=s∧x.lv=0)∨(x.v≠s∧to_ x.by_=x.v∧ ∃ y,y∈st∧x.by_∈es y.v∧x.lv=y.lv+1):=by
 obtain⟨j,hj⟩:=List.getElem?_of_mem hx
 obtain⟨z,r,hr,h1,h2⟩:=h.head
 have hz:z∈st:=by rw[hr];exact List.mem_cons_self
 cases j with
 |zero=>
  rw[hr] at hj
  injection hj with hj
  rw[← hj]
  exact .inl ⟨h1,h2⟩
 |succ j=>
  obtain⟨h3,k,y,_,hy,h4,h5⟩:=h.by_ok j x hj
  refine .inr ⟨?_,h3,y,List.mem_of_getElem? hy,h4,h5⟩
  intro e
  have:=nodup_inj h.nodup hx hz (by rw[e,h1])
  rw[this,h2] at h5
  omega
theorem lv_lt {fr to_:α→Nat} {es:Nat→List α} {s:Nat} {st:List (Fd α)} (h:Fds fr to_ es s st) {x:Fd α} (hx:x∈st):x.lv<st.length:=by
 obtain⟨z,r,hr,h1,h2⟩:=h.head
 have aux: ∀ (j:Nat) (y:Fd α),st[j]? =some y→y.lv≤j:=by
  intro j
  induction j using Nat.strongRecOn with
  |_ j ih=>
   intro y hy
   cases j with
   |zero=>
    rw[hr] at hy
    injection hy with hy
    rw[← hy,h2]
    exact Nat.le_refl _
   |succ j=>
    obtain⟨_,k,w,hk,hw,_,h5⟩:=h.by_ok j y hy
    have:=ih k (by omega) w hw
    omega
 obtain⟨j,hj⟩:=List.getElem?_of_mem hx
 have:=aux j x hj
 have:=(List.getElem?_eq_some_iff.1 hj).1
 omega
theorem backL_spec {fr to_:α→Nat} {es:Nat→List α} {s:Nat} {st:List (Fd α)} (h:Fds fr to_ es s st) (hes: ∀ u e,e∈es u→fr e=u) (k:Nat): ∀ {x:Fd α},x∈st→x.lv≤k→
  (backL fr st s k x.v).length=x.lv∧Leads to_ es s (backL fr st s k x.v).reverse x.v:=by
 induction k with
 |zero=>
  intro x hx hk
  rcases h.mem_lv hx with ⟨h1,h2⟩|⟨_,_,y,_,_,h5⟩
  ·exact⟨by rw[h2];rfl,h1.symm⟩
  ·omega
 |succ k ih=>
  intro x hx hk
  unfold backL
  rcases h.mem_lv hx with ⟨h1,h2⟩|⟨h1,h3,y,hy,h4,h5⟩
  ·rw[if_pos h1,h2]
   exact⟨rfl,h1.symm⟩
  ·rw[if_neg h1,fnd_of h.nodup hx]
   show (_::_).length=_∧Leads to_ es s (_::_).reverse _
   rw[hes _ _ h4]
   obtain⟨i1,i2⟩:=ih hy (by omega)
   refine⟨by rw[List.length_cons,i1,h5],?_⟩
   rw[List.reverse_cons, ← h3]
   exact i2.snoc h4
theorem backL_lv {fr to_:α→Nat} {es:Nat→List α} {s:Nat} {st:List (Fd α)} (h:Fds fr to_ es s st) (hes: ∀ u e,e∈es u→fr e=u) (k:Nat): ∀ {x:Fd α},x∈st→ ∀ e,e∈backL fr st s k x.v→
  ∃ y z,y∈st∧z∈st∧y.v=to_ e∧z.v=fr e∧y.lv=z.lv+1∧e∈es z.v:=by
 induction k with
 |zero=>intro x hx e he;cases he
 |succ k ih=>
  intro x hx e he
  unfold backL at he
  rcases h.mem_lv hx with ⟨h1,h2⟩|⟨h1,h3,y,hy,h4,h5⟩
  ·rw[if_pos h1] at he;cases he
  ·rw[if_neg h1,fnd_of h.nodup hx] at he
   rcases List.mem_cons.1 he with rfl|he
   ·exact⟨x,y,hx,hy,h3.symm,(hes _ _ h4).symm,h5,h4⟩
   ·rw[hes _ _ h4] at he
    exact ih hy e he
theorem backL_more {fr to_:α→Nat} {es:Nat→List α} {s:Nat} {st:List (Fd α)} (h:Fds fr to_ es s st) (hes: ∀ u e,e∈es u→fr e=u) (r:List (Fd α)) (k:Nat): ∀ {k':Nat} {x:Fd α},x∈st→x.lv≤k→x.lv≤k'→
  backL fr (st ++ r) s k' x.v=backL fr st s k x.v:=by
 induction k with
 |zero=>
  intro k' x hx hk hk'
  rcases h.mem_lv hx with ⟨h1,h2⟩|⟨_,_,y,_,_,h5⟩
  ·cases k' with
   |zero=>rfl
   |succ k'=>unfold backL;rw[if_pos h1]
  ·omega
 |succ k ih=>
  intro k' x hx hk hk'
  rcases h.mem_lv hx with ⟨h1,h2⟩|⟨h1,h3,y,hy,h4,h5⟩
  ·cases k' with
   |zero=>unfold backL;rw[if_pos h1]
   |succ k'=>unfold backL;rw[if_pos h1,if_pos h1]
  ·cases k' with
   |zero=>omega
   |succ k'=>
    unfold backL
    rw[if_neg h1,if_neg h1,fnd_app (List.mem_map.2 ⟨x,hx,rfl⟩),fnd_of h.nodup hx]
    show _::_=_::_
    rw[hes _ _ h4,ih hy (by omega) (by omega)]
def dOf (n:Nat) (st:List (Fd α)):List Int:=(List.range n).map fun v=>match fnd st v with
 |some x=>(x.lv:Int)
 |none=> -1
def bOf (z:α) (n:Nat) (st:List (Fd α)):List α:=(List.range n).map fun v=>match fnd st v with
 |some x=>x.by_
 |none=>z
theorem dOf_len (n:Nat) (st:List (Fd α)):(dOf n st).length=n:=by simp[dOf]
theorem bOf_len (z:α) (n:Nat) (st:List (Fd α)):(bOf z n st).length=n:=by simp[bOf]
theorem dOf_get {n v:Nat} (st:List (Fd α)) (d:Int) (hv:v<n):(dOf n st).getD v d=match fnd st v with
  |some x=>(x.lv:Int)
  |none=> -1:=by
 unfold dOf
 rw[List.getD_eq_getElem?_getD,List.getElem?_map,List.getElem?_range hv]
 rfl
theorem dOf_neg {n v:Nat} (st:List (Fd α)) (d:Int) (hv:v<n):(dOf n st).getD v d<0↔v ∉ nodes st:=by
 rw[dOf_get st d hv, ← fnd_none]
 cases fnd st v with
 |none=>simp
 |some x=>simp
theorem dOf_mem {n:Nat} {st:List (Fd α)} (h:(nodes st).Nodup) {x:Fd α} (hx:x∈st) (d:Int) (hv:x.v<n):(dOf n st).getD x.v d=x.lv:=by
 rw[dOf_get st d hv,fnd_of h hx]
theorem set_map_range {β:Type} (n w:Nat) (f:Nat→β) (b:β):((List.range n).map f).set w b=(List.range n).map fun v=>if v=w then b else f v:=by
 apply List.ext_getElem?
 intro i
 rw[List.getElem?_set]
 simp only[List.length_map,List.length_range,List.getElem?_map]
 by_cases e:w=i
 ·subst e
  by_cases hw:w<n
  ·rw[if_pos rfl,if_pos hw,List.getElem?_range hw]
   simp
  ·rw[if_pos rfl,if_neg hw,List.getElem?_eq_none (by simp;omega)]
   rfl
 ·rw[if_neg e]
  by_cases hi:i<n
  ·rw[List.getElem?_range hi]
   simp[Ne.symm e]
  ·rw[List.getElem?_eq_none (by simp;omega)]
   rfl
theorem dOf_snoc (n:Nat) {st:List (Fd α)} {x:Fd α} (h:x.v ∉ nodes st):dOf n (st ++ [x])=(dOf n st).set x.v (x.lv:Int):=by
 unfold dOf
 rw[set_map_range]
 apply List.map_congr_left
 intro v hv
 by_cases e:v=x.v
 ·subst e
  rw[if_pos rfl]
  have h1:=fnd_none.2 h
  unfold fnd at h1 ⊢
  rw[List.find?_append,h1]
  simp
 ·rw[if_neg e]
  unfold fnd
  rw[List.find?_append]
  cases hf:st.find? (fun y=>y.v == v) with
  |some y=>rfl
  |none=>simp[Ne.symm e]
theorem bOf_snoc (z:α) (n:Nat) {st:List (Fd α)} {x:Fd α} (h:x.v ∉ nodes st):bOf z n (st ++ [x])=(bOf z n st).set x.v x.by_:=by
 unfold bOf
 rw[set_map_range]
 apply List.map_congr_left
 intro v hv
 by_cases e:v=x.v
 ·subst e
  rw[if_pos rfl]
  have h1:=fnd_none.2 h
  unfold fnd at h1 ⊢
  rw[List.find?_append,h1]
  simp
 ·rw[if_neg e]
  unfold fnd
  rw[List.find?_append]
  cases hf:st.find? (fun y=>y.v == v) with
  |some y=>rfl
  |none=>simp[Ne.symm e]
theorem dOf_one (n s:Nat) (z:α):dOf n [⟨s,z,0⟩]=(List.replicate n (-1:Int)).set s 0:=by
 have h1:(List.replicate n (-1:Int))=dOf n ([]:List (Fd α)):=by
  unfold dOf
  apply List.ext_getElem (by simp)
  intro i h1 h2
  simp[fnd]
 rw[h1,show ([⟨s,z,0⟩]:List (Fd α))=[] ++ [⟨s,z,0⟩] from rfl,dOf_snoc n (by simp[nodes])]
 rfl
theorem bOf_one (n s:Nat) (z:α):bOf z n [⟨s,z,0⟩]=List.replicate n z:=by
 unfold bOf
 apply List.ext_getElem (by simp)
 intro i h1 h2
 simp only[List.getElem_map,List.getElem_range,List.getElem_replicate]
 unfold fnd
 rw[List.find?_cons]
 cases (s == i)<;>rfl
def bfsN (to_:α→Nat) (es:Nat→List α) (z:α) (n s:Nat):List (Fd α):=bfs to_ es n 0 [⟨s,z,0⟩]
theorem bfsN_upto {fr to_:α→Nat} {es:Nat→List α} {z:α} {n s:Nat} (hN: ∀ (u:Nat) (e:α),e∈es u→to_ e<n) (hs:s<n):Upto fr to_ es s (bfsN to_ es z n s).length (bfsN to_ es z n s):=
 bfs_done hN hs n 0 _ (upto_start fr to_ es s z) (by omega)
theorem bfsN_closed {to_:α→Nat} {es:Nat→List α} {z:α} {n s:Nat} (hN: ∀ (u:Nat) (e:α),e∈es u→to_ e<n) (hs:s<n) {x:Fd α} (hx:x∈bfsN to_ es z n s) {e:α} (he:e∈es x.v):
  ∃ y,y∈bfsN to_ es z n s∧y.v=to_ e∧y.lv≤x.lv+1:=by
 obtain⟨j,hj⟩:=List.getElem?_of_mem hx
 obtain⟨k,y,hk,h1,h2⟩:=(bfsN_upto (fr:=fun _=>0) (z:=z) hN hs).seen j x (List.getElem?_eq_some_iff.1 hj).1 hj e he
 exact⟨y,List.mem_of_getElem? hk,h1,h2⟩
theorem fds_lt {fr to_:α→Nat} {es:Nat→List α} {n s:Nat} {st:List (Fd α)} (h:Fds fr to_ es s st) (hN: ∀ (u:Nat) (e:α),e∈es u→to_ e<n) (hs:s<n): ∀ v,v∈nodes st→v<n:=by
 intro v hv
 obtain⟨x,hx,rfl⟩:=List.mem_map.1 hv
 rcases h.mem_lv hx with ⟨h1,_⟩|⟨_,h3,y,_,h4,_⟩
 ·rw[h1];exact hs
 ·rw[← h3];exact hN _ _ h4
theorem fds_len {fr to_:α→Nat} {es:Nat→List α} {n s:Nat} {st:List (Fd α)} (h:Fds fr to_ es s st) (hN: ∀ (u:Nat) (e:α),e∈es u→to_ e<n) (hs:s<n):st.length≤n:=by
 have:=pigeonN n (nodes st) h.nodup (fds_lt h hN hs)
 unfold nodes at this
 rwa [List.length_map] at this
end
end Go.Proofs.Ytkcpanpdipmmmaa.H
namespace Go.Proofs.Ytkcpanpdipmmmaa.H
section
variable {α:Type}
structure Net_ (α:Type) where
 rows:Nat→List α
 to_:α→Nat
 fr:α→Nat
 D:Nat→Int
 ok:α→Bool
def Net_.adm (g:Net_ α) (u:Nat) (e:α):Bool:=decide (g.D (g.to_ e)=g.D u+1) && g.ok e
def scanG (p:α→Bool):List α→Nat→Option (Nat × α)
 |[],_=>none
 |e::r,j=>if p e then some (j,e) else scanG p r (j+1)
theorem scanG_some {p:α→Bool} : ∀ {r:List α} {i j:Nat} {e:α},scanG p r i=some (j,e)→i≤j∧r[j - i]? =some e∧p e=true∧ ∀ q,q<j - i→ ∀ x,r[q]? =some x→p x=false
 |[],_,_,_,h=>by cases h
 |x::r,i,j,e,h=>by
  unfold scanG at h
  by_cases hp:p x=true
  ·rw[if_pos hp] at h
   injection h with h
   injection h with h1 h2
   subst h1
   subst h2
   exact⟨Nat.le_refl _,by simp,hp,fun q hq=>by omega⟩
  ·rw[if_neg hp] at h
   obtain⟨h1,h2,h3,h4⟩:=scanG_some h
   refine⟨by omega,?_,h3,fun q hq y hy=> ?_⟩
   ·rw[show j - i=(j - (i+1))+1 by omega,List.getElem?_cons_succ]
    exact h2
   ·cases q with
    |zero=>simp at hy;rw[← hy];simpa using hp
    |succ q=>rw[List.getElem?_cons_succ] at hy;exact h4 q (by omega) y hy
theorem scanG_none {p:α→Bool} : ∀ {r:List α} {i:Nat},scanG p r i=none→ ∀ x,x∈r→p x=false
 |[],_,_,x,hx=>by cases hx
 |y::r,i,h,x,hx=>by
  unfold scanG at h
  by_cases hp:p y=true
  ·rw[if_pos hp] at h;cases h
  ·rw[if_neg hp] at h
   rcases List.mem_cons.1 hx with rfl|hx
   ·simpa using hp
   ·exact scanG_none h x hx
def downG (g:Net_ α) (s t:Nat):Nat→Nat→List α→List Nat→Option (List α) × List Nat
 |0,_,_,nx=>(none,nx)
 |k+1,v,way,nx=>
  if v=t then(some way,nx) else
  match scanG (g.adm v) ((g.rows v).drop (nx.getD v 0)) (nx.getD v 0) with
  |some (j,e)=>downG g s t k (g.to_ e) (way ++ [e]) (nx.set v j)
  |none=>if v=s then(none,nx.set v (g.rows v).length) else match way.getLast? with
   |none=>(none,nx)
   |some e=>downG g s t k (g.fr e) way.dropLast ((nx.set v (g.rows v).length).set (g.fr e) ((nx.set v (g.rows v).length).getD (g.fr e) 0+1))
def remG (g:Net_ α) (nx:List Nat):Nat→Nat
 |0=>0
 |n+1=>remG g nx n+((g.rows n).length - nx.getD n 0)
theorem remG_set (g:Net_ α) (nx:List Nat) (v j:Nat) (hv:v<nx.length) (h1:nx.getD v 0≤j) (h2:j≤(g.rows v).length) (n:Nat):remG g (nx.set v j) n+(if v<n then j - nx.getD v 0 else 0)=remG g nx n:=by
 induction n with
 |zero=>simp[remG]
 |succ n ih=>
  unfold remG
  by_cases e:v=n
  ·subst e
   have e1:(nx.set v j).getD v 0=j:=by rw[List.getD_eq_getElem?_getD,List.getElem?_set_self hv];rfl
   rw[e1,if_pos (by omega)]
   rw[if_neg (by omega)] at ih
   omega
  ·have e1:(nx.set v j).getD n 0=nx.getD n 0:=by rw[List.getD_eq_getElem?_getD,List.getElem?_set_ne e, ← List.getD_eq_getElem?_getD]
   rw[e1]
   by_cases h:v<n
   ·rw[if_pos h] at ih;rw[if_pos (by omega)];omega
   ·rw[if_neg h] at ih;rw[if_neg (by omega)];omega
structure DInv (g:Net_ α) (s n v:Nat) (way:List α) (nx:List Nat):Prop where
 vn:v<n
 len:nx.length=n
 le: ∀ u,u<n→nx.getD u 0≤(g.rows u).length
 trail:Leads g.to_ g.rows s way v
 adm: ∀ e,e∈way→g.adm (g.fr e) e=true
 at_: ∀ e,e∈way→(g.rows (g.fr e))[nx.getD (g.fr e) 0]? =some e
structure Net_.Fine (g:Net_ α) (s n:Nat):Prop where
 hfr: ∀ u e,e∈g.rows u→g.fr e=u
 hto: ∀ u e,e∈g.rows u→g.to_ e<n
 sn:s<n
 hs:g.D s=0
 hD: ∀ v,v<n→g.D v<n
theorem adm_lv {g:Net_ α} {u:Nat} {e:α} (h:g.adm u e=true):g.D (g.to_ e)=g.D u+1∧g.ok e=true:=by
 unfold Net_.adm at h
 rw[Bool.and_eq_true,decide_eq_true_eq] at h
 exact h
theorem leads_lv {g:Net_ α} (hfr: ∀ u e,e∈g.rows u→g.fr e=u): ∀ {way:List α} {s v:Nat},Leads g.to_ g.rows s way v→(∀ e,e∈way→g.adm (g.fr e) e=true)→g.D s≤g.D v∧ ∀ e,e∈way→g.D s≤g.D (g.fr e)∧g.D (g.fr e)<g.D v
 |[],s,v,h,_=>by cases h;exact⟨Int.le_refl _,fun e he=>by cases he⟩
 |x::way,s,v,h,ha=>by
  have hx:=adm_lv (ha x List.mem_cons_self)
  rw[hfr _ _ h.1] at hx
  obtain⟨h1,h2⟩:=leads_lv hfr h.2 (fun e he=>ha e (List.mem_cons_of_mem _ he))
  refine⟨by omega,fun e he=> ?_⟩
  rcases List.mem_cons.1 he with rfl|he
  ·rw[hfr _ _ h.1];omega
  ·have:=h2 e he;omega
theorem leads_last {to_:α→Nat} {es:Nat→List α} : ∀ {way:List α} {s v:Nat} {e:α},Leads to_ es s way v→way.getLast? =some e→ ∃ u,Leads to_ es s way.dropLast u∧e∈es u∧to_ e=v
 |[],_,_,_,_,h=>by simp at h
 |[x],s,v,e,h,hl=>by
  simp at hl
  subst hl
  exact⟨s,rfl,h.1,h.2⟩
 |x::y::way,s,v,e,h,hl=>by
  obtain⟨u,h1,h2,h3⟩:=leads_last h.2 (by simpa using hl)
  exact⟨u,⟨h.1,h1⟩,h2,h3⟩
theorem dropLast_mem {way:List α} {e:α} (h:e∈way.dropLast):e∈way:=List.dropLast_subset _ h
def Useless (g:Net_ α) (t n:Nat) (nx:List Nat) (w:Nat):Prop:=w≠t∧w<n∧nx.getD w 0=(g.rows w).length
def Dead (g:Net_ α) (t n:Nat) (nx:List Nat):Prop:= ∀ u,u<n→ ∀ j,j<nx.getD u 0→ ∀ e,(g.rows u)[j]? =some e→g.adm u e=true→Useless g t n nx (g.to_ e)
theorem getD_setN (nx:List Nat) (v j u:Nat) (hv:v<nx.length):(nx.set v j).getD u 0=if u=v then j else nx.getD u 0:=by
 by_cases e:u=v
 ·subst e
  rw[if_pos rfl,List.getD_eq_getElem?_getD,List.getElem?_set_self hv];rfl
 ·rw[if_neg e,List.getD_eq_getElem?_getD,List.getElem?_set_ne (Ne.symm e), ← List.getD_eq_getElem?_getD]
theorem DInv.go {g:Net_ α} {s n v:Nat} {way:List α} {nx:List Nat} (hg:g.Fine s n) (h:DInv g s n v way nx) {j:Nat} {e:α} (hj:nx.getD v 0≤j) (he:(g.rows v)[j]? =some e) (ha:g.adm v e=true):
  DInv g s n (g.to_ e) (way ++ [e]) (nx.set v j):=by
 have hm:e∈g.rows v:=List.mem_of_getElem? he
 have hv:=h.vn
 have hl:=h.len
 have hjl:=(List.getElem?_eq_some_iff.1 he).1
 have hlv:=(leads_lv hg.hfr h.trail h.adm).2
 refine⟨hg.hto _ _ hm,by rw[List.length_set];exact hl,fun u hu=> ?_,h.trail.snoc hm,fun x hx=> ?_,fun x hx=> ?_⟩
 ·rw[getD_setN _ _ _ _ (by omega)]
  split
  ·rename_i eu;subst eu;omega
  ·exact h.le u hu
 ·rcases List.mem_append.1 hx with hx|hx
  ·exact h.adm x hx
  ·rw[List.mem_singleton.1 hx,hg.hfr _ _ hm];exact ha
 ·rw[getD_setN _ _ _ _ (by omega)]
  rcases List.mem_append.1 hx with hx|hx
  ·have:=hlv x hx
   rw[if_neg (fun e=>by rw[e] at this;omega)]
   exact h.at_ x hx
  ·rw[List.mem_singleton.1 hx,hg.hfr _ _ hm,if_pos rfl];exact he
theorem DInv.back {g:Net_ α} {s n v:Nat} {way:List α} {nx:List Nat} (hg:g.Fine s n) (h:DInv g s n v way nx) {e:α} (hl:way.getLast? =some e):
  DInv g s n (g.fr e) way.dropLast ((nx.set v (g.rows v).length).set (g.fr e) ((nx.set v (g.rows v).length).getD (g.fr e) 0+1))∧g.fr e≠v∧g.to_ e=v∧g.D v=g.D (g.fr e)+1∧g.fr e<n∧e∈way:=by
 obtain⟨u,h1,h2,h3⟩:=leads_last h.trail hl
 have hm:e∈way:=List.mem_of_getLast? hl
 have eu:=hg.hfr _ _ h2
 subst eu
 have ha:=adm_lv (h.adm e hm)
 rw[h3] at ha
 have hlen:=h.len
 have hv:=h.vn
 have hne:g.fr e≠v:=fun e'=>by rw[e'] at ha;omega
 have hat:=h.at_ e hm
 have hat2:=(List.getElem?_eq_some_iff.1 hat).1
 have hun:g.fr e<n:=by
  cases hd:way.dropLast with
  |nil=>
   rw[hd] at h1
   have:s=g.fr e:=h1
   rw[← this]
   exact hg.sn
  |cons x r=>
   obtain⟨w,q1,q2,q3⟩:=leads_last h1 (e:=(way.dropLast.getLast?).getD x) (by rw[hd];simp[List.getLast?_cons])
   rw[← q3]
   exact hg.hto _ _ q2
 have hlv:=(leads_lv hg.hfr h1 (fun x hx=>h.adm x (dropLast_mem hx))).2
 refine⟨⟨hun,by rw[List.length_set,List.length_set];exact hlen,fun w hw=> ?_,h1,fun x hx=>h.adm x (dropLast_mem hx),fun x hx=> ?_⟩,hne,h3,ha.1,hun,hm⟩
 ·rw[getD_setN _ _ _ _ (by rw[List.length_set];omega),getD_setN _ _ _ _ (by omega),getD_setN _ _ _ _ (by omega),if_neg hne]
  split
  ·rename_i ew;subst ew;omega
  ·split
   ·rename_i ew;subst ew;exact Nat.le_refl _
   ·exact h.le w hw
 ·have hx1:=hlv x hx
  have hx2:=(leads_lv hg.hfr h.trail h.adm).2 x (dropLast_mem hx)
  rw[getD_setN _ _ _ _ (by rw[List.length_set];omega),if_neg (fun e'=>by rw[e'] at hx1;omega),getD_setN _ _ _ _ (by omega),if_neg (fun e'=>by rw[e'] at hx2;omega)]
  exact h.at_ x (dropLast_mem hx)
def downM (g:Net_ α) (n v:Nat) (nx:List Nat):Nat:=remG g nx n * (n+1)+(n - (g.D v).toNat)
theorem downM_go {g:Net_ α} {s n v:Nat} {way:List α} {nx:List Nat} (hg:g.Fine s n) (h:DInv g s n v way nx) {j:Nat} {e:α} (hj:nx.getD v 0≤j) (he:(g.rows v)[j]? =some e) (ha:g.adm v e=true):
  downM g n (g.to_ e) (nx.set v j)<downM g n v nx:=by
 have hm:e∈g.rows v:=List.mem_of_getElem? he
 have hjl:=(List.getElem?_eq_some_iff.1 he).1
 have hv:=h.vn
 have hl:=h.len
 have h1:=remG_set g nx v j (by omega) hj (by omega) n
 have h2:remG g (nx.set v j) n * (n+1)≤remG g nx n * (n+1):=Nat.mul_le_mul_right _ (by omega)
 have h3:=(adm_lv ha).1
 have h4:=hg.hD _ (hg.hto _ _ hm)
 have h5:=(leads_lv hg.hfr h.trail h.adm).1
 have h6:=hg.hs
 unfold downM
 omega
theorem downM_back {g:Net_ α} {s n v:Nat} {way:List α} {nx:List Nat} (hg:g.Fine s n) (h:DInv g s n v way nx) {e:α} (hl:way.getLast? =some e):
  downM g n (g.fr e) ((nx.set v (g.rows v).length).set (g.fr e) ((nx.set v (g.rows v).length).getD (g.fr e) 0+1))<downM g n v nx:=by
 obtain⟨_,hne,h3,hD,hun,hm⟩:=h.back hg hl
 have hv:=h.vn
 have hlen:=h.len
 have hat2:=(List.getElem?_eq_some_iff.1 (h.at_ e hm)).1
 have e1:(nx.set v (g.rows v).length).getD (g.fr e) 0=nx.getD (g.fr e) 0:=by rw[getD_setN _ _ _ _ (by omega),if_neg hne]
 have h1:=remG_set g nx v (g.rows v).length (by omega) (h.le v hv) (Nat.le_refl _) n
 have h2:=remG_set g (nx.set v (g.rows v).length) (g.fr e) (nx.getD (g.fr e) 0+1) (by rw[List.length_set];omega) (by rw[e1];omega) (by omega) n
 rw[if_pos hun,e1] at h2
 rw[e1]
 have h4:remG g ((nx.set v (g.rows v).length).set (g.fr e) (nx.getD (g.fr e) 0+1)) n+1≤remG g nx n:=by omega
 have h5:=Nat.mul_le_mul_right (n+1) h4
 rw[Nat.add_mul,Nat.one_mul] at h5
 have h6:=(leads_lv hg.hfr h.trail h.adm).2 e hm
 have h7:=hg.hs
 have h8:=hg.hD v hv
 unfold downM
 omega
structure Found (g:Net_ α) (s t n:Nat) (r:Option (List α) × List Nat):Prop where
 len:r.2.length=n
 le: ∀ u,u<n→r.2.getD u 0≤(g.rows u).length
 way: ∀ L,r.1=some L→Leads g.to_ g.rows s L t∧ ∀ e,e∈L→g.adm (g.fr e) e=true
 none_:r.1=none→r.2.getD s 0=(g.rows s).length
theorem drop_head {r:List α} {i j:Nat} (h:i≤j):(r.drop i)[j - i]? =r[j]? :=by
 rw[List.getElem?_drop];congr 1;omega
theorem downG_found {g:Net_ α} {s t n:Nat} (hg:g.Fine s n) (k:Nat): ∀ {v:Nat} {way:List α} {nx:List Nat},DInv g s n v way nx→downM g n v nx<k→Found g s t n (downG g s t k v way nx):=by
 induction k with
 |zero=>intro v way nx h hk;omega
 |succ k ih=>
  intro v way nx h hk
  unfold downG
  by_cases hvt:v=t
  ·rw[if_pos hvt]
   exact⟨h.len,h.le,fun L hL=>by injection hL with hL;subst hL;exact⟨hvt▸h.trail,h.adm⟩,fun e=>by cases e⟩
  ·rw[if_neg hvt]
   cases hs:scanG (g.adm v) ((g.rows v).drop (nx.getD v 0)) (nx.getD v 0) with
   |some p=>
    obtain⟨j,e⟩:=p
    obtain⟨h1,h2,h3,_⟩:=scanG_some hs
    rw[drop_head h1] at h2
    have:=downM_go hg h h1 h2 h3
    exact ih (h.go hg h1 h2 h3) (by omega)
   |none=>
    have hv:=h.vn
    have hl:=h.len
    by_cases hvs:v=s
    ·show Found g s t n (if v=s then _ else _)
     rw[if_pos hvs]
     refine⟨by rw[List.length_set];exact h.len,fun u hu=> ?_,fun L hL=>(by cases hL),fun _=> ?_⟩
     ·show (nx.set v _).getD u 0≤_
      rw[getD_setN _ _ _ _ (by omega)]
      split
      ·rename_i e;subst e;exact Nat.le_refl _
      ·exact h.le u hu
     ·show (nx.set v _).getD s 0=_
      rw[getD_setN _ _ _ _ (by omega),if_pos hvs.symm,hvs]
    ·show Found g s t n (if v=s then _ else _)
     rw[if_neg hvs]
     cases hw:way.getLast? with
     |none=>
      rw[List.getLast?_eq_none_iff] at hw
      subst hw
      exact absurd h.trail.symm hvs
     |some e=>
      have:=downM_back hg h hw
      exact ih (h.back hg hw).1 (by omega)
theorem downG_dead {g:Net_ α} {s t n:Nat} (hg:g.Fine s n) (k:Nat): ∀ {v:Nat} {way:List α} {nx:List Nat},DInv g s n v way nx→downM g n v nx<k→Dead g t n nx→Dead g t n (downG g s t k v way nx).2:=by
 induction k with
 |zero=>intro v way nx h hk;omega
 |succ k ih=>
  intro v way nx h hk hd
  unfold downG
  by_cases hvt:v=t
  ·rw[if_pos hvt];exact hd
  ·rw[if_neg hvt]
   have hv:=h.vn
   have hl:=h.len
   cases hs:scanG (g.adm v) ((g.rows v).drop (nx.getD v 0)) (nx.getD v 0) with
   |some p=>
    obtain⟨j,e⟩:=p
    obtain⟨h1,h2,h3,h4⟩:=scanG_some hs
    rw[drop_head h1] at h2
    have hjl:=(List.getElem?_eq_some_iff.1 h2).1
    have:=downM_go hg h h1 h2 h3
    refine ih (h.go hg h1 h2 h3) (by omega) ?_
    have hu: ∀ w,Useless g t n nx w→Useless g t n (nx.set v j) w:=by
     rintro w ⟨a,b,c⟩
     refine⟨a,b,?_⟩
     rw[getD_setN _ _ _ _ (by omega)]
     split
     ·rename_i ew;subst ew;omega
     ·exact c
    intro u hu2 q hq x hx hax
    rw[getD_setN _ _ _ _ (by omega)] at hq
    by_cases ev:u=v
    ·subst ev
     rw[if_pos rfl] at hq
     by_cases hq2:q<nx.getD u 0
     ·exact hu _ (hd u hu2 q hq2 x hx hax)
     ·exfalso
      have:=h4 (q - nx.getD u 0) (by omega) x (by rw[drop_head (by omega)];exact hx)
      rw[this] at hax;cases hax
    ·rw[if_neg ev] at hq
     exact hu _ (hd u hu2 q hq x hx hax)
   |none=>
    have hsn:=scanG_none hs
    have hd1:Dead g t n (nx.set v (g.rows v).length)∧Useless g t n (nx.set v (g.rows v).length) v:=by
     have hu: ∀ w,Useless g t n nx w→Useless g t n (nx.set v (g.rows v).length) w:=by
      rintro w ⟨a,b,c⟩
      refine⟨a,b,?_⟩
      rw[getD_setN _ _ _ _ (by omega)]
      split
      ·rename_i ew;subst ew;rfl
      ·exact c
     refine⟨fun u hu2 q hq x hx hax=> ?_,hvt,hv,by rw[getD_setN _ _ _ _ (by omega),if_pos rfl]⟩
     rw[getD_setN _ _ _ _ (by omega)] at hq
     by_cases ev:u=v
     ·subst ev
      by_cases hq2:q<nx.getD u 0
      ·exact hu _ (hd u hu2 q hq2 x hx hax)
      ·exfalso
       have:=hsn x (List.mem_of_getElem? (i:=q - nx.getD u 0) (by rw[drop_head (by omega)];exact hx))
       rw[this] at hax;cases hax
     ·rw[if_neg ev] at hq
      exact hu _ (hd u hu2 q hq x hx hax)
    by_cases hvs:v=s
    ·show Dead g t n (if v=s then _ else _:Option (List α) × List Nat).2
     rw[if_pos hvs]
     exact hd1.1
    ·show Dead g t n (if v=s then _ else _:Option (List α) × List Nat).2
     rw[if_neg hvs]
     cases hw:way.getLast? with
     |none=>exact hd
     |some e=>
      have hlt:=downM_back hg h hw
      obtain⟨hb,hne,hto,hDv,hun,hm⟩:=h.back hg hw
      refine ih hb (by omega) ?_
      have hat:=h.at_ e hm
      have hat2:=(List.getElem?_eq_some_iff.1 hat).1
      have e1:(nx.set v (g.rows v).length).getD (g.fr e) 0=nx.getD (g.fr e) 0:=by rw[getD_setN _ _ _ _ (by omega),if_neg hne]
      have hu: ∀ w,Useless g t n (nx.set v (g.rows v).length) w→Useless g t n ((nx.set v (g.rows v).length).set (g.fr e) ((nx.set v (g.rows v).length).getD (g.fr e) 0+1)) w:=by
       rintro w ⟨a,b,c⟩
       refine⟨a,b,?_⟩
       rw[getD_setN _ _ _ _ (by rw[List.length_set];omega)]
       split
       ·rename_i ew;subst ew;omega
       ·exact c
      intro u hu2 q hq x hx hax
      rw[getD_setN _ _ _ _ (by rw[List.length_set];omega)] at hq
      by_cases ev:u=g.fr e
      ·subst ev
       rw[if_pos rfl,e1] at hq
       by_cases hq2:q<nx.getD (g.fr e) 0
       ·exact hu _ (hd1.1 _ hu2 q (by rw[e1];exact hq2) x hx hax)
       ·have:q=nx.getD (g.fr e) 0:=by omega
        subst this
        rw[hat] at hx
        injection hx with hx
        subst hx
        rw[hto]
        exact hu _ hd1.2
      ·rw[if_neg ev] at hq
       exact hu _ (hd1.1 u hu2 q hq x hx hax)
theorem dead_way {g:Net_ α} {t n:Nat} {nx:List Nat} (hfr: ∀ u e,e∈g.rows u→g.fr e=u) (hd:Dead g t n nx): ∀ {L:List α} {u:Nat},Leads g.to_ g.rows u L t→(∀ e,e∈L→g.adm (g.fr e) e=true)→ ¬ Useless g t n nx u
 |[],u,h,_,hu=>hu.1 h
 |x::L,u,h,ha,hu=>by
  obtain⟨j,hj⟩:=List.getElem?_of_mem h.1
  have hjl:=(List.getElem?_eq_some_iff.1 hj).1
  have hx:=ha x List.mem_cons_self
  rw[hfr _ _ h.1] at hx
  exact dead_way hfr hd h.2 (fun e he=>ha e (List.mem_cons_of_mem _ he)) (hd u hu.2.1 j (by rw[hu.2.2];exact hjl) x hj hx)
end
end Go.Proofs.Ytkcpanpdipmmmaa.H
namespace Go.Proofs.Ytkcpanpdipmmmaa.P
open Go.RowKit Go.Proofs.YtkcpanpdipmmmaaW.PrintWords Go.Proofs.YtkcpanpdipmmmaaW.PrintLast Go.Proofs.YtkcpanpdipmmmaaW.PrintMore
attribute [local go_sem] max2_int min2_int max_two min_two max_three min_three max_four min_four
def static_Flowing_From.f (a0_0:Int) (a0_1:Bool) (l0_2:List (S74)) (l0_3:List Int) (a1_0:Int) (a1_1:Bool):Option (Int):=if a1_1=true then(if 0≤a1_0 then(if a1_0<(l0_2.length:Int) then(some ((rd_T74 l0_2 a1_0).f1)) else(none)) else(none)) else(if 0≤a1_0 then(if a1_0<(l0_2.length:Int) then(some ((rd_T74 l0_2 a1_0).f0)) else(none)) else(none))
set_option maxHeartbeats 8000000 in
set_option maxRecDepth 100000 in
theorem static_Flowing_From.calls (a0_0:Int) (a0_1:Bool) (A0_2:Option Addr) (c0_2:Nat) (l0_2:List (S74)) (A0_3:Option Addr) (c0_3:Nat) (l0_3:List Int) (a1_0:Int) (a1_1:Bool) (r:Int) (w:World) (hr0_2:Kd.C k74 w A0_2 l0_2.length l0_2) (hc0_2:l0_2.length≤c0_2) (hr0_3:Kd.C (Kd.int .i64) w A0_3 l0_3.length l0_3) (hc0_3:l0_3.length≤c0_3) (h:static_Flowing_From.f a0_0 a0_1 l0_2 l0_3 a1_0 a1_1=some r):
  Calls Try.prog 106 #[.agg #[.int .i64 a0_0, .bool a0_1, .slice A0_2 l0_2.length c0_2, .slice A0_3 l0_3.length c0_3], .agg #[.int .i64 a1_0, .bool a1_1]] w fun e w'=>e= .returned (.int .i64 r)∧Below w.heap.size w w':=by
 have hu115:=Try.underlying115
 have hu38:=Try.underlying38
 have HR0_2:=Aside0.mk hr0_2
 have HC0_2:=Aside0.mk hc0_2
 clear hr0_2 hc0_2
 have HR0_3:=Aside0.mk hr0_3
 have HC0_3:=Aside0.mk hc0_3
 clear hr0_3 hc0_3
 have HB:=Aside0.mk (Below.refl w.heap.size w)
 have H:(if a1_1=true then(if 0≤a1_0 then(if a1_0<(l0_2.length:Int) then(some ((rd_T74 l0_2 a1_0).f1)) else(none)) else(none)) else(if 0≤a1_0 then(if a1_0<(l0_2.length:Int) then(some ((rd_T74 l0_2 a1_0).f0)) else(none)) else(none)))=some r:=h
 clear h
 by_cases c3:a1_1=true
 ·subst c3
  have H1:(if 0≤a1_0 then(if a1_0<(l0_2.length:Int) then(some ((rd_T74 l0_2 a1_0).f1)) else(none)) else(none))=some r:=by first|(rw[if_pos rfl] at H;exact H)|(rw[if_pos trivial] at H;exact H)
  clear H
  have H:=H1
  clear H1
  by_cases c4:0≤a1_0
  rotate_left
  ·rw[if_neg c4] at H
   exact absurd H (by simp)
  rw[if_pos c4] at H
  have c4b0:decide (0≤a1_0)=true:=decide_eq_true c4
  clear c4
  by_cases c5:a1_0<(l0_2.length:Int)
  rotate_left
  ·rw[if_neg c5] at H
   exact absurd H (by simp)
  rw[if_pos c5] at H
  have c5b0:decide (a1_0<(l0_2.length:Int))=true:=decide_eq_true c5
  clear c5
  obtain rfl:=Option.some.inj H
  go_enter Try.func106,Try.ntmps106
  go_wp2_with (first|((with_reducible refine gate_dst (N:=2) rfl ?_);refine box_event ?hg (N:=2) ?hd (cs:= #[.int .i64 a0_0, .bool a0_1, .slice A0_2 l0_2.length c0_2, .slice A0_3 l0_3.length c0_3]) (t:=115) ?hr ?_;(case hd=>rfl);(case hg=>rfl);(case hr=>first|(go_simp;done)|(go_simp;rfl));intro gb380 hg w6 hbox hb;have n0_:=Aside0.mk (below_step (by repeat(first|(with_reducible first|exact HB.out|apply below_alloc|apply pw_below_drewN|apply below_drew1)|exact HB.out)) hb);have n1_:=Aside0.mk (hbox);have n2_:=Aside0.mk ((by rw[hg];exact(below_size (by repeat(first|(with_reducible first|exact HB.out|apply below_alloc|apply pw_below_drewN|apply below_drew1)|exact HB.out))):w.heap.size≤gb380));have n3_:=Aside0.mk ((by rw[hg];exact(below_size (by repeat(first|(with_reducible first|exact HB.out|apply below_alloc|apply pw_below_drewN|apply below_drew1)|exact HB.out))):w.heap.size≤gb380));clear HB;have HB:=n0_;have BK380:=n1_;have GW380:=n2_;have GE380:=n3_;clear n0_ n1_ n2_ n3_;clear hb hbox hg)|((with_reducible refine gate_dst (N:=3) rfl ?_);refine box_event ?hg (N:=3) ?hd (cs:= #[.int .i64 a1_0, .bool true]) (t:=38) ?hr ?_;(case hd=>rfl);(case hg=>rfl);(case hr=>first|(go_simp;done)|(go_simp;rfl));intro gb381 hg w7 hbox hb;have n0_:=Aside0.mk (blk_below (g:=gb380) (o:= .cells #[.int .i64 a0_0, .bool a0_1, .slice A0_2 l0_2.length c0_2, .slice A0_3 l0_3.length c0_3] 115 (0,0)) (by(with_reducible repeat(first|refine blk_drewN ?_ _|refine blk_drew ?_|refine blk_alloc ?_ _));exact BK380.out) hb);have n1_:=Aside0.mk (below_step (by repeat(first|(with_reducible first|exact HB.out|apply below_alloc|apply pw_below_drewN|apply below_drew1|refine below_set ?_ GE380.out)|exact HB.out)) hb);have n2_:=Aside0.mk (hbox);have n3_:=Aside0.mk ((by rw[hg];exact(below_size (by repeat(first|(with_reducible first|exact HB.out|apply below_alloc|apply pw_below_drewN|apply below_drew1|refine below_set ?_ GE380.out)|exact HB.out))):w.heap.size≤gb381));have n4_:=Aside0.mk ((by rw[hg];exact(below_size (by repeat(first|(with_reducible first|exact HB.out|apply below_alloc|apply pw_below_drewN|apply below_drew1|refine below_set ?_ GE380.out)|exact HB.out))):w.heap.size≤gb381));have n5_:=Aside0.mk ((by rw[hg];exact Nat.ne_of_lt (blk_lt (g:=gb380) (o:= .cells #[.int .i64 a0_0, .bool a0_1, .slice A0_2 l0_2.length c0_2, .slice A0_3 l0_3.length c0_3] 115 (0,0)) (by(with_reducible repeat(first|refine blk_drewN ?_ _|refine blk_drew ?_|refine blk_alloc ?_ _));exact BK380.out)):gb380≠gb381));have n6_:=Aside0.mk ((by rw[hg];exact Nat.ne_of_gt (blk_lt (g:=gb380) (o:= .cells #[.int .i64 a0_0, .bool a0_1, .slice A0_2 l0_2.length c0_2, .slice A0_3 l0_3.length c0_3] 115 (0,0)) (by(with_reducible repeat(first|refine blk_drewN ?_ _|refine blk_drew ?_|refine blk_alloc ?_ _));exact BK380.out)):gb381≠gb380));clear BK380;clear HB;have BK380:=n0_;have HB:=n1_;have BK381:=n2_;have GW381:=n3_;have GE381:=n4_;have NB380_381:=n5_;have NB381_380:=n6_;clear n0_ n1_ n2_ n3_ n4_ n5_ n6_;clear hb hbox hg;have hnb8:=NB381_380.out;have hnc8:=NB380_381.out;have hcz9_0:w7.cell? ⟨gb381,0,none⟩=some (.int .i64 a1_0):=(blk_cell BK381.out 0).trans rfl;have hcz9_1:w7.cell? ⟨gb381,1,none⟩=some (.bool true):=(blk_cell BK381.out 1).trans rfl;have hfz9_0:=blk_frozen BK381.out 0;have hfz9_1:=blk_frozen BK381.out 1;have hcz10_0:w7.cell? ⟨gb380,0,none⟩=some (.int .i64 a0_0):=(blk_cell BK380.out 0).trans rfl;have hcz10_1:w7.cell? ⟨gb380,1,none⟩=some (.bool a0_1):=(blk_cell BK380.out 1).trans rfl;have hcz10_2:w7.cell? ⟨gb380,2,none⟩=some (.slice A0_2 l0_2.length c0_2):=(blk_cell BK380.out 2).trans rfl;have hcz10_3:w7.cell? ⟨gb380,3,none⟩=some (.slice A0_3 l0_3.length c0_3):=(blk_cell BK380.out 3).trans rfl;have hfz10_0:=blk_frozen BK380.out 0;have hfz10_1:=blk_frozen BK380.out 1;have hfz10_2:=blk_frozen BK380.out 2;have hfz10_3:=blk_frozen BK380.out 3;have p382:0≤(a1_0:Int):=of_decide_eq_true (by first|(with_reducible assumption)|assumption);have q382:a1_0<(l0_2.length:Int):=of_decide_eq_true (by first|(with_reducible assumption)|assumption);obtain⟨ad382,e382,hx382_0,hx382_1,hx382_2,hx382_3⟩:=at_T74 HR0_2.out a1_0 p382 q382;cases e382;replace hx382_0:=(HB.out.cell (World.block_lt_of_cell? w _ hx382_0)).trans hx382_0;replace hx382_1:=(HB.out.cell (World.block_lt_of_cell? w _ hx382_1)).trans hx382_1;replace hx382_2:=(HB.out.cell (World.block_lt_of_cell? w _ hx382_2)).trans hx382_2;replace hx382_3:=(HB.out.cell (World.block_lt_of_cell? w _ hx382_3)).trans hx382_3;replace p382:=eq_true p382;replace q382:=eq_true q382))
  go_ret
  exact⟨by first|rfl|(simp[errW_none,errW_some]<;>rfl)|(simp[*,errW_none,errW_some]<;>rfl),by repeat(first|(with_reducible first|exact HB.out|apply below_alloc|apply pw_below_drewN|apply below_drew1|refine below_set ?_ GE380.out|refine below_set ?_ GE381.out)|exact HB.out)⟩
 replace c3:=Bool.eq_false_iff.mpr c3
 subst c3
 have H1:(if 0≤a1_0 then(if a1_0<(l0_2.length:Int) then(some ((rd_T74 l0_2 a1_0).f0)) else(none)) else(none))=some r:=by rw[if_neg (show ¬ (false=true) by decide)] at H;exact H
 clear H
 have H:=H1
 clear H1
 by_cases c11:0≤a1_0
 rotate_left
 ·rw[if_neg c11] at H
  exact absurd H (by simp)
 rw[if_pos c11] at H
 have c11b0:decide (0≤a1_0)=true:=decide_eq_true c11
 clear c11
 by_cases c12:a1_0<(l0_2.length:Int)
 rotate_left
 ·rw[if_neg c12] at H
  exact absurd H (by simp)
 rw[if_pos c12] at H
 have c12b0:decide (a1_0<(l0_2.length:Int))=true:=decide_eq_true c12
 clear c12
 obtain rfl:=Option.some.inj H
 go_enter Try.func106,Try.ntmps106
 go_wp2_with (first|((with_reducible refine gate_dst (N:=2) rfl ?_);refine box_event ?hg (N:=2) ?hd (cs:= #[.int .i64 a0_0, .bool a0_1, .slice A0_2 l0_2.length c0_2, .slice A0_3 l0_3.length c0_3]) (t:=115) ?hr ?_;(case hd=>rfl);(case hg=>rfl);(case hr=>first|(go_simp;done)|(go_simp;rfl));intro gb380 hg w13 hbox hb;have n0_:=Aside0.mk (below_step (by repeat(first|(with_reducible first|exact HB.out|apply below_alloc|apply pw_below_drewN|apply below_drew1)|exact HB.out)) hb);have n1_:=Aside0.mk (hbox);have n2_:=Aside0.mk ((by rw[hg];exact(below_size (by repeat(first|(with_reducible first|exact HB.out|apply below_alloc|apply pw_below_drewN|apply below_drew1)|exact HB.out))):w.heap.size≤gb380));have n3_:=Aside0.mk ((by rw[hg];exact(below_size (by repeat(first|(with_reducible first|exact HB.out|apply below_alloc|apply pw_below_drewN|apply below_drew1)|exact HB.out))):w.heap.size≤gb380));clear HB;have HB:=n0_;have BK380:=n1_;have GW380:=n2_;have GE380:=n3_;clear n0_ n1_ n2_ n3_;clear hb hbox hg)|((with_reducible refine gate_dst (N:=3) rfl ?_);refine box_event ?hg (N:=3) ?hd (cs:= #[.int .i64 a1_0, .bool false]) (t:=38) ?hr ?_;(case hd=>rfl);(case hg=>rfl);(case hr=>first|(go_simp;done)|(go_simp;rfl));intro gb381 hg w14 hbox hb;have n0_:=Aside0.mk (blk_below (g:=gb380) (o:= .cells #[.int .i64 a0_0, .bool a0_1, .slice A0_2 l0_2.length c0_2, .slice A0_3 l0_3.length c0_3] 115 (0,0)) (by(with_reducible repeat(first|refine blk_drewN ?_ _|refine blk_drew ?_|refine blk_alloc ?_ _));exact BK380.out) hb);have n1_:=Aside0.mk (below_step (by repeat(first|(with_reducible first|exact HB.out|apply below_alloc|apply pw_below_drewN|apply below_drew1|refine below_set ?_ GE380.out)|exact HB.out)) hb);have n2_:=Aside0.mk (hbox);have n3_:=Aside0.mk ((by rw[hg];exact(below_size (by repeat(first|(with_reducible first|exact HB.out|apply below_alloc|apply pw_below_drewN|apply below_drew1|refine below_set ?_ GE380.out)|exact HB.out))):w.heap.size≤gb381));have n4_:=Aside0.mk ((by rw[hg];exact(below_size (by repeat(first|(with_reducible first|exact HB.out|apply below_alloc|apply pw_below_drewN|apply below_drew1|refine below_set ?_ GE380.out)|exact HB.out))):w.heap.size≤gb381));have n5_:=Aside0.mk ((by rw[hg];exact Nat.ne_of_lt (blk_lt (g:=gb380) (o:= .cells #[.int .i64 a0_0, .bool a0_1, .slice A0_2 l0_2.length c0_2, .slice A0_3 l0_3.length c0_3] 115 (0,0)) (by(with_reducible repeat(first|refine blk_drewN ?_ _|refine blk_drew ?_|refine blk_alloc ?_ _));exact BK380.out)):gb380≠gb381));have n6_:=Aside0.mk ((by rw[hg];exact Nat.ne_of_gt (blk_lt (g:=gb380) (o:= .cells #[.int .i64 a0_0, .bool a0_1, .slice A0_2 l0_2.length c0_2, .slice A0_3 l0_3.length c0_3] 115 (0,0)) (by(with_reducible repeat(first|refine blk_drewN ?_ _|refine blk_drew ?_|refine blk_alloc ?_ _));exact BK380.out)):gb381≠gb380));clear BK380;clear HB;have BK380:=n0_;have HB:=n1_;have BK381:=n2_;have GW381:=n3_;have GE381:=n4_;have NB380_381:=n5_;have NB381_380:=n6_;clear n0_ n1_ n2_ n3_ n4_ n5_ n6_;clear hb hbox hg;have hnb15:=NB381_380.out;have hnc15:=NB380_381.out;have hcz16_0:w14.cell? ⟨gb381,0,none⟩=some (.int .i64 a1_0):=(blk_cell BK381.out 0).trans rfl;have hcz16_1:w14.cell? ⟨gb381,1,none⟩=some (.bool false):=(blk_cell BK381.out 1).trans rfl;have hfz16_0:=blk_frozen BK381.out 0;have hfz16_1:=blk_frozen BK381.out 1;have hcz17_0:w14.cell? ⟨gb380,0,none⟩=some (.int .i64 a0_0):=(blk_cell BK380.out 0).trans rfl;have hcz17_1:w14.cell? ⟨gb380,1,none⟩=some (.bool a0_1):=(blk_cell BK380.out 1).trans rfl;have hcz17_2:w14.cell? ⟨gb380,2,none⟩=some (.slice A0_2 l0_2.length c0_2):=(blk_cell BK380.out 2).trans rfl;have hcz17_3:w14.cell? ⟨gb380,3,none⟩=some (.slice A0_3 l0_3.length c0_3):=(blk_cell BK380.out 3).trans rfl;have hfz17_0:=blk_frozen BK380.out 0;have hfz17_1:=blk_frozen BK380.out 1;have hfz17_2:=blk_frozen BK380.out 2;have hfz17_3:=blk_frozen BK380.out 3;have p383:0≤(a1_0:Int):=of_decide_eq_true (by first|(with_reducible assumption)|assumption);have q383:a1_0<(l0_2.length:Int):=of_decide_eq_true (by first|(with_reducible assumption)|assumption);obtain⟨ad383,e383,hx383_0,hx383_1,hx383_2,hx383_3⟩:=at_T74 HR0_2.out a1_0 p383 q383;cases e383;replace hx383_0:=(HB.out.cell (World.block_lt_of_cell? w _ hx383_0)).trans hx383_0;replace hx383_1:=(HB.out.cell (World.block_lt_of_cell? w _ hx383_1)).trans hx383_1;replace hx383_2:=(HB.out.cell (World.block_lt_of_cell? w _ hx383_2)).trans hx383_2;replace hx383_3:=(HB.out.cell (World.block_lt_of_cell? w _ hx383_3)).trans hx383_3;replace p383:=eq_true p383;replace q383:=eq_true q383))
 go_ret
 exact⟨by first|rfl|(simp[errW_none,errW_some]<;>rfl)|(simp[*,errW_none,errW_some]<;>rfl),by repeat(first|(with_reducible first|exact HB.out|apply below_alloc|apply pw_below_drewN|apply below_drew1|refine below_set ?_ GE380.out|refine below_set ?_ GE381.out)|exact HB.out)⟩
end Go.Proofs.Ytkcpanpdipmmmaa.P
namespace Go.Proofs.Ytkcpanpdipmmmaa.P
open Go.RowKit Go.Proofs.YtkcpanpdipmmmaaW.PrintWords Go.Proofs.YtkcpanpdipmmmaaW.PrintLast Go.Proofs.YtkcpanpdipmmmaaW.PrintMore
attribute [local go_sem] max2_int min2_int max_two min_two max_three min_three max_four min_four
def static_Flowing_To.f (a0_0:Int) (a0_1:Bool) (l0_2:List (S74)) (l0_3:List Int) (a1_0:Int) (a1_1:Bool):Option (Int):=(static_Flowing_From.f a0_0 a0_1 l0_2 l0_3 a1_0 (!a1_1)).bind fun t386=>(some t386)
set_option maxHeartbeats 8000000 in
set_option maxRecDepth 100000 in
theorem static_Flowing_To.calls (a0_0:Int) (a0_1:Bool) (A0_2:Option Addr) (c0_2:Nat) (l0_2:List (S74)) (A0_3:Option Addr) (c0_3:Nat) (l0_3:List Int) (a1_0:Int) (a1_1:Bool) (r:Int) (w:World) (hr0_2:Kd.C k74 w A0_2 l0_2.length l0_2) (hc0_2:l0_2.length≤c0_2) (hr0_3:Kd.C (Kd.int .i64) w A0_3 l0_3.length l0_3) (hc0_3:l0_3.length≤c0_3) (h:static_Flowing_To.f a0_0 a0_1 l0_2 l0_3 a1_0 a1_1=some r):
  Calls Try.prog 105 #[.agg #[.int .i64 a0_0, .bool a0_1, .slice A0_2 l0_2.length c0_2, .slice A0_3 l0_3.length c0_3], .agg #[.int .i64 a1_0, .bool a1_1]] w fun e w'=>e= .returned (.int .i64 r)∧Below w.heap.size w w':=by
 have hu115:=Try.underlying115
 have hu38:=Try.underlying38
 have HR0_2:=Aside0.mk hr0_2
 have HC0_2:=Aside0.mk hc0_2
 clear hr0_2 hc0_2
 have HR0_3:=Aside0.mk hr0_3
 have HC0_3:=Aside0.mk hc0_3
 clear hr0_3 hc0_3
 have HB:=Aside0.mk (Below.refl w.heap.size w)
 have H:((static_Flowing_From.f a0_0 a0_1 l0_2 l0_3 a1_0 (!a1_1)).bind fun t386=>(some t386))=some r:=h
 clear h
 replace H:=Option.bind_eq_some_iff.mp H
 obtain⟨t386,A30,H⟩:=H
 replace H:(some t386)=some r:=H
 have A3:=Aside0.mk A30
 clear A30
 obtain rfl:=Option.some.inj H
 go_enter Try.func105,Try.ntmps105
 go_wp2_with (first|((with_reducible refine gate_dst (N:=2) rfl ?_);refine box_event ?hg (N:=2) ?hd (cs:= #[.int .i64 a0_0, .bool a0_1, .slice A0_2 l0_2.length c0_2, .slice A0_3 l0_3.length c0_3]) (t:=115) ?hr ?_;(case hd=>rfl);(case hg=>rfl);(case hr=>first|(go_simp;done)|(go_simp;rfl));intro gb384 hg w4 hbox hb;have n0_:=Aside0.mk (below_step (by repeat(first|(with_reducible first|exact HB.out|apply below_alloc|apply pw_below_drewN|apply below_drew1)|exact HB.out)) hb);have n1_:=Aside0.mk (hbox);have n2_:=Aside0.mk ((by rw[hg];exact(below_size (by repeat(first|(with_reducible first|exact HB.out|apply below_alloc|apply pw_below_drewN|apply below_drew1)|exact HB.out))):w.heap.size≤gb384));have n3_:=Aside0.mk ((by rw[hg];exact(below_size (by repeat(first|(with_reducible first|exact HB.out|apply below_alloc|apply pw_below_drewN|apply below_drew1)|exact HB.out))):w.heap.size≤gb384));clear HB;have HB:=n0_;have BK384:=n1_;have GW384:=n2_;have GE384:=n3_;clear n0_ n1_ n2_ n3_;clear hb hbox hg)|((with_reducible refine gate_dst (N:=3) rfl ?_);refine box_event ?hg (N:=3) ?hd (cs:= #[.int .i64 a1_0, .bool a1_1]) (t:=38) ?hr ?_;(case hd=>rfl);(case hg=>rfl);(case hr=>first|(go_simp;done)|(go_simp;rfl));intro gb385 hg w5 hbox hb;have n0_:=Aside0.mk (blk_below (g:=gb384) (o:= .cells #[.int .i64 a0_0, .bool a0_1, .slice A0_2 l0_2.length c0_2, .slice A0_3 l0_3.length c0_3] 115 (0,0)) (by(with_reducible repeat(first|refine blk_drewN ?_ _|refine blk_drew ?_|refine blk_alloc ?_ _));exact BK384.out) hb);have n1_:=Aside0.mk (below_step (by repeat(first|(with_reducible first|exact HB.out|apply below_alloc|apply pw_below_drewN|apply below_drew1|refine below_set ?_ GE384.out)|exact HB.out)) hb);have n2_:=Aside0.mk (hbox);have n3_:=Aside0.mk ((by rw[hg];exact(below_size (by repeat(first|(with_reducible first|exact HB.out|apply below_alloc|apply pw_below_drewN|apply below_drew1|refine below_set ?_ GE384.out)|exact HB.out))):w.heap.size≤gb385));have n4_:=Aside0.mk ((by rw[hg];exact(below_size (by repeat(first|(with_reducible first|exact HB.out|apply below_alloc|apply pw_below_drewN|apply below_drew1|refine below_set ?_ GE384.out)|exact HB.out))):w.heap.size≤gb385));have n5_:=Aside0.mk ((by rw[hg];exact Nat.ne_of_lt (blk_lt (g:=gb384) (o:= .cells #[.int .i64 a0_0, .bool a0_1, .slice A0_2 l0_2.length c0_2, .slice A0_3 l0_3.length c0_3] 115 (0,0)) (by(with_reducible repeat(first|refine blk_drewN ?_ _|refine blk_drew ?_|refine blk_alloc ?_ _));exact BK384.out)):gb384≠gb385));have n6_:=Aside0.mk ((by rw[hg];exact Nat.ne_of_gt (blk_lt (g:=gb384) (o:= .cells #[.int .i64 a0_0, .bool a0_1, .slice A0_2 l0_2.length c0_2, .slice A0_3 l0_3.length c0_3] 115 (0,0)) (by(with_reducible repeat(first|refine blk_drewN ?_ _|refine blk_drew ?_|refine blk_alloc ?_ _));exact BK384.out)):gb385≠gb384));clear BK384;clear HB;have BK384:=n0_;have HB:=n1_;have BK385:=n2_;have GW385:=n3_;have GE385:=n4_;have NB384_385:=n5_;have NB385_384:=n6_;clear n0_ n1_ n2_ n3_ n4_ n5_ n6_;clear hb hbox hg;have hnb6:=NB385_384.out;have hnc6:=NB384_385.out;have hcz7_0:w5.cell? ⟨gb385,0,none⟩=some (.int .i64 a1_0):=(blk_cell BK385.out 0).trans rfl;have hcz7_1:w5.cell? ⟨gb385,1,none⟩=some (.bool a1_1):=(blk_cell BK385.out 1).trans rfl;have hfz7_0:=blk_frozen BK385.out 0;have hfz7_1:=blk_frozen BK385.out 1;have hcz8_0:w5.cell? ⟨gb384,0,none⟩=some (.int .i64 a0_0):=(blk_cell BK384.out 0).trans rfl;have hcz8_1:w5.cell? ⟨gb384,1,none⟩=some (.bool a0_1):=(blk_cell BK384.out 1).trans rfl;have hcz8_2:w5.cell? ⟨gb384,2,none⟩=some (.slice A0_2 l0_2.length c0_2):=(blk_cell BK384.out 2).trans rfl;have hcz8_3:w5.cell? ⟨gb384,3,none⟩=some (.slice A0_3 l0_3.length c0_3):=(blk_cell BK384.out 3).trans rfl;have hfz8_0:=blk_frozen BK384.out 0;have hfz8_1:=blk_frozen BK384.out 1;have hfz8_2:=blk_frozen BK384.out 2;have hfz8_3:=blk_frozen BK384.out 3)|((with_reducible refine gate_callee (f:=106) rfl ?_);refine goesL_ (some 11) rfl rfl Try.func106 (by kernel_rfl) rfl #[.agg #[.int .i64 a0_0, .bool a0_1, .slice A0_2 l0_2.length c0_2, .slice A0_3 l0_3.length c0_3], .agg #[.int .i64 a1_0, .bool (!a1_1)]] rfl (by(try simp only[List.map_toArray,List.map_cons,List.map_nil]);first|done|rfl|(simp only[List.length_drop,List.length_take];rfl)) ?_;(with_reducible refine(static_Flowing_From.calls a0_0 a0_1 _ _ l0_2 _ _ l0_3 a1_0 (!a1_1) t386 _ ?side1 ?side2 ?side3 ?side4 A3.out).mono ?_);(case side1=>exact Kd.C_below HR0_2.out (by repeat(first|(with_reducible first|exact HB.out|apply below_alloc|apply pw_below_drewN|apply below_drew1|refine below_set ?_ GE384.out|refine below_set ?_ GE385.out)|exact HB.out)));(case side2=>exact HC0_2.out);(case side3=>exact Kd.C_below HR0_3.out (by repeat(first|(with_reducible first|exact HB.out|apply below_alloc|apply pw_below_drewN|apply below_drew1|refine below_set ?_ GE384.out|refine below_set ?_ GE385.out)|exact HB.out)));(case side4=>exact HC0_3.out);rintro e w9 ⟨rfl,hb⟩;refine⟨_,rfl,?_⟩;have n0_:=Aside0.mk (blk_below (g:=gb384) (o:= .cells #[.int .i64 a0_0, .bool a0_1, .slice A0_2 l0_2.length c0_2, .slice A0_3 l0_3.length c0_3] 115 (0,0)) (by(with_reducible repeat(first|refine blk_drewN ?_ _|refine blk_drew ?_|refine blk_alloc ?_ _));refine blk_far ?_ NB384_385.out _;(with_reducible repeat(first|refine blk_drewN ?_ _|refine blk_drew ?_|refine blk_alloc ?_ _));exact BK384.out) hb);have n1_:=Aside0.mk (blk_below (g:=gb385) (o:= .cells #[.int .i64 a1_0, .bool (!a1_1)] 38 (0,0)) (by(with_reducible repeat(first|refine blk_drewN ?_ _|refine blk_drew ?_|refine blk_alloc ?_ _));refine blk_put (cs:= #[.int .i64 a1_0, .bool a1_1]) ?_ 1 _ rfl;(with_reducible repeat(first|refine blk_drewN ?_ _|refine blk_drew ?_|refine blk_alloc ?_ _));exact BK385.out) hb);have n2_:=Aside0.mk (below_step (by repeat(first|(with_reducible first|exact HB.out|apply below_alloc|apply pw_below_drewN|apply below_drew1|refine below_set ?_ GE384.out|refine below_set ?_ GE385.out)|exact HB.out)) hb);clear BK384;clear BK385;clear HB;have BK384:=n0_;have BK385:=n1_;have HB:=n2_;clear n0_ n1_ n2_;(try clear hb);(try clear hb2);(try clear hk);(try clear hi)))
 go_ret
 exact⟨by first|rfl|(simp[errW_none,errW_some]<;>rfl)|(simp[*,errW_none,errW_some]<;>rfl),by repeat(first|(with_reducible first|exact HB.out|apply below_alloc|apply pw_below_drewN|apply below_drew1|refine below_set ?_ GE384.out|refine below_set ?_ GE385.out)|exact HB.out)⟩
end Go.Proofs.Ytkcpanpdipmmmaa.P
namespace Go.Proofs.Ytkcpanpdipmmmaa.P
open Go.RowKit Go.Proofs.YtkcpanpdipmmmaaW.PrintWords Go.Proofs.YtkcpanpdipmmmaaW.PrintLast Go.Proofs.YtkcpanpdipmmmaaW.PrintMore
attribute [local go_sem] max2_int min2_int max_two min_two max_three min_three max_four min_four
def static_Flowing_Room.f (a0_0:Int) (a0_1:Bool) (l0_2:List (S74)) (l0_3:List Int) (a1_0:Int) (a1_1:Bool):Option (Int):=if a1_1=true then(if 0≤a1_0 then(if a1_0<(l0_3.length:Int) then(some (rd l0_3 a1_0)) else(none)) else(none)) else(if 0≤a1_0 then(if a1_0<(l0_2.length:Int) then(if a1_0<(l0_3.length:Int) then(some (wrap64 (((rd_T74 l0_2 a1_0).f2) - (rd l0_3 a1_0)))) else(none)) else(none)) else(none))
set_option maxHeartbeats 8000000 in
set_option maxRecDepth 100000 in
theorem static_Flowing_Room.calls (a0_0:Int) (a0_1:Bool) (A0_2:Option Addr) (c0_2:Nat) (l0_2:List (S74)) (A0_3:Option Addr) (c0_3:Nat) (l0_3:List Int) (a1_0:Int) (a1_1:Bool) (r:Int) (w:World) (hr0_2:Kd.C k74 w A0_2 l0_2.length l0_2) (hc0_2:l0_2.length≤c0_2) (hr0_3:Kd.C (Kd.int .i64) w A0_3 l0_3.length l0_3) (hc0_3:l0_3.length≤c0_3) (h:static_Flowing_Room.f a0_0 a0_1 l0_2 l0_3 a1_0 a1_1=some r):
  Calls Try.prog 104 #[.agg #[.int .i64 a0_0, .bool a0_1, .slice A0_2 l0_2.length c0_2, .slice A0_3 l0_3.length c0_3], .agg #[.int .i64 a1_0, .bool a1_1]] w fun e w'=>e= .returned (.int .i64 r)∧Below w.heap.size w w':=by
 have hu115:=Try.underlying115
 have hu38:=Try.underlying38
 have HR0_2:=Aside0.mk hr0_2
 have HC0_2:=Aside0.mk hc0_2
 clear hr0_2 hc0_2
 have HR0_3:=Aside0.mk hr0_3
 have HC0_3:=Aside0.mk hc0_3
 clear hr0_3 hc0_3
 have HB:=Aside0.mk (Below.refl w.heap.size w)
 have H:(if a1_1=true then(if 0≤a1_0 then(if a1_0<(l0_3.length:Int) then(some (rd l0_3 a1_0)) else(none)) else(none)) else(if 0≤a1_0 then(if a1_0<(l0_2.length:Int) then(if a1_0<(l0_3.length:Int) then(some (wrap64 (((rd_T74 l0_2 a1_0).f2) - (rd l0_3 a1_0)))) else(none)) else(none)) else(none)))=some r:=h
 clear h
 by_cases c3:a1_1=true
 ·subst c3
  have H1:(if 0≤a1_0 then(if a1_0<(l0_3.length:Int) then(some (rd l0_3 a1_0)) else(none)) else(none))=some r:=by first|(rw[if_pos rfl] at H;exact H)|(rw[if_pos trivial] at H;exact H)
  clear H
  have H:=H1
  clear H1
  by_cases c4:0≤a1_0
  rotate_left
  ·rw[if_neg c4] at H
   exact absurd H (by simp)
  rw[if_pos c4] at H
  have c4b0:decide (0≤a1_0)=true:=decide_eq_true c4
  clear c4
  by_cases c5:a1_0<(l0_3.length:Int)
  rotate_left
  ·rw[if_neg c5] at H
   exact absurd H (by simp)
  rw[if_pos c5] at H
  have c5b0:decide (a1_0<(l0_3.length:Int))=true:=decide_eq_true c5
  clear c5
  obtain rfl:=Option.some.inj H
  go_enter Try.func104,Try.ntmps104
  go_wp2_with (first|((with_reducible refine gate_dst (N:=2) rfl ?_);refine box_event ?hg (N:=2) ?hd (cs:= #[.int .i64 a0_0, .bool a0_1, .slice A0_2 l0_2.length c0_2, .slice A0_3 l0_3.length c0_3]) (t:=115) ?hr ?_;(case hd=>rfl);(case hg=>rfl);(case hr=>first|(go_simp;done)|(go_simp;rfl));intro gb375 hg w6 hbox hb;have n0_:=Aside0.mk (below_step HB.out hb);have n1_:=Aside0.mk (hbox);have n2_:=Aside0.mk ((by rw[hg];exact(below_size HB.out):w.heap.size≤gb375));have n3_:=Aside0.mk ((by rw[hg];exact(below_size HB.out):w.heap.size≤gb375));clear HB;have HB:=n0_;have BK375:=n1_;have GW375:=n2_;have GE375:=n3_;clear n0_ n1_ n2_ n3_;clear hb hbox hg)|((with_reducible refine gate_dst (N:=3) rfl ?_);refine box_event ?hg (N:=3) ?hd (cs:= #[.int .i64 a1_0, .bool true]) (t:=38) ?hr ?_;(case hd=>rfl);(case hg=>rfl);(case hr=>first|(go_simp;done)|(go_simp;rfl));intro gb376 hg w7 hbox hb;have n0_:=Aside0.mk (blk_below BK375.out hb);have n1_:=Aside0.mk (below_step HB.out hb);have n2_:=Aside0.mk (hbox);have n3_:=Aside0.mk ((by rw[hg];exact(below_size HB.out):w.heap.size≤gb376));have n4_:=Aside0.mk ((by rw[hg];exact(below_size HB.out):w.heap.size≤gb376));have n5_:=Aside0.mk ((by rw[hg];exact Nat.ne_of_lt (blk_lt BK375.out):gb375≠gb376));have n6_:=Aside0.mk ((by rw[hg];exact Nat.ne_of_gt (blk_lt BK375.out):gb376≠gb375));clear BK375;clear HB;have BK375:=n0_;have HB:=n1_;have BK376:=n2_;have GW376:=n3_;have GE376:=n4_;have NB375_376:=n5_;have NB376_375:=n6_;clear n0_ n1_ n2_ n3_ n4_ n5_ n6_;clear hb hbox hg;have hnb8:=NB376_375.out;have hnc8:=NB375_376.out;have hcz9_0:w7.cell? ⟨gb376,0,none⟩=some (.int .i64 a1_0):=(blk_cell BK376.out 0).trans rfl;have hcz9_1:w7.cell? ⟨gb376,1,none⟩=some (.bool true):=(blk_cell BK376.out 1).trans rfl;have hfz9_0:=blk_frozen BK376.out 0;have hfz9_1:=blk_frozen BK376.out 1;have hcz10_0:w7.cell? ⟨gb375,0,none⟩=some (.int .i64 a0_0):=(blk_cell BK375.out 0).trans rfl;have hcz10_1:w7.cell? ⟨gb375,1,none⟩=some (.bool a0_1):=(blk_cell BK375.out 1).trans rfl;have hcz10_2:w7.cell? ⟨gb375,2,none⟩=some (.slice A0_2 l0_2.length c0_2):=(blk_cell BK375.out 2).trans rfl;have hcz10_3:w7.cell? ⟨gb375,3,none⟩=some (.slice A0_3 l0_3.length c0_3):=(blk_cell BK375.out 3).trans rfl;have hfz10_0:=blk_frozen BK375.out 0;have hfz10_1:=blk_frozen BK375.out 1;have hfz10_2:=blk_frozen BK375.out 2;have hfz10_3:=blk_frozen BK375.out 3;have p377:0≤(a1_0:Int):=of_decide_eq_true (by first|(with_reducible assumption)|assumption);have q377:a1_0<(l0_3.length:Int):=of_decide_eq_true (by first|(with_reducible assumption)|assumption);obtain⟨ad377,e377,hx377_0⟩:=Kd.at_int HR0_3.out a1_0 p377 q377;cases e377;replace hx377_0:=(HB.out.cell (World.block_lt_of_cell? w _ hx377_0)).trans hx377_0;replace p377:=eq_true p377;replace q377:=eq_true q377))
  repeat(go_quiet (first|((with_reducible refine gate_dst (N:=2) rfl ?_);refine box_event ?hg (N:=2) ?hd (cs:= #[.int .i64 a0_0, .bool a0_1, .slice A0_2 l0_2.length c0_2, .slice A0_3 l0_3.length c0_3]) (t:=115) ?hr ?_;(case hd=>rfl);(case hg=>rfl);(case hr=>first|(go_simp;done)|(go_simp;rfl));intro gb375 hg w6 hbox hb;have n0_:=Aside0.mk (below_step HB.out hb);have n1_:=Aside0.mk (hbox);have n2_:=Aside0.mk ((by rw[hg];exact(below_size HB.out):w.heap.size≤gb375));have n3_:=Aside0.mk ((by rw[hg];exact(below_size HB.out):w.heap.size≤gb375));clear HB;have HB:=n0_;have BK375:=n1_;have GW375:=n2_;have GE375:=n3_;clear n0_ n1_ n2_ n3_;clear hb hbox hg)|((with_reducible refine gate_dst (N:=3) rfl ?_);refine box_event ?hg (N:=3) ?hd (cs:= #[.int .i64 a1_0, .bool true]) (t:=38) ?hr ?_;(case hd=>rfl);(case hg=>rfl);(case hr=>first|(go_simp;done)|(go_simp;rfl));intro gb376 hg w7 hbox hb;have n0_:=Aside0.mk (blk_below BK375.out hb);have n1_:=Aside0.mk (below_step HB.out hb);have n2_:=Aside0.mk (hbox);have n3_:=Aside0.mk ((by rw[hg];exact(below_size HB.out):w.heap.size≤gb376));have n4_:=Aside0.mk ((by rw[hg];exact(below_size HB.out):w.heap.size≤gb376));have n5_:=Aside0.mk ((by rw[hg];exact Nat.ne_of_lt (blk_lt BK375.out):gb375≠gb376));have n6_:=Aside0.mk ((by rw[hg];exact Nat.ne_of_gt (blk_lt BK375.out):gb376≠gb375));clear BK375;clear HB;have BK375:=n0_;have HB:=n1_;have BK376:=n2_;have GW376:=n3_;have GE376:=n4_;have NB375_376:=n5_;have NB376_375:=n6_;clear n0_ n1_ n2_ n3_ n4_ n5_ n6_;clear hb hbox hg;have hnb8:=NB376_375.out;have hnc8:=NB375_376.out;have hcz9_0:w7.cell? ⟨gb376,0,none⟩=some (.int .i64 a1_0):=(blk_cell BK376.out 0).trans rfl;have hcz9_1:w7.cell? ⟨gb376,1,none⟩=some (.bool true):=(blk_cell BK376.out 1).trans rfl;have hfz9_0:=blk_frozen BK376.out 0;have hfz9_1:=blk_frozen BK376.out 1;have hcz10_0:w7.cell? ⟨gb375,0,none⟩=some (.int .i64 a0_0):=(blk_cell BK375.out 0).trans rfl;have hcz10_1:w7.cell? ⟨gb375,1,none⟩=some (.bool a0_1):=(blk_cell BK375.out 1).trans rfl;have hcz10_2:w7.cell? ⟨gb375,2,none⟩=some (.slice A0_2 l0_2.length c0_2):=(blk_cell BK375.out 2).trans rfl;have hcz10_3:w7.cell? ⟨gb375,3,none⟩=some (.slice A0_3 l0_3.length c0_3):=(blk_cell BK375.out 3).trans rfl;have hfz10_0:=blk_frozen BK375.out 0;have hfz10_1:=blk_frozen BK375.out 1;have hfz10_2:=blk_frozen BK375.out 2;have hfz10_3:=blk_frozen BK375.out 3;have p377:0≤(a1_0:Int):=of_decide_eq_true (by first|(with_reducible assumption)|assumption);have q377:a1_0<(l0_3.length:Int):=of_decide_eq_true (by first|(with_reducible assumption)|assumption);obtain⟨ad377,e377,hx377_0⟩:=Kd.at_int HR0_3.out a1_0 p377 q377;cases e377;replace hx377_0:=(HB.out.cell (World.block_lt_of_cell? w _ hx377_0)).trans hx377_0;replace p377:=eq_true p377;replace q377:=eq_true q377));try go_wp2_with (first|((with_reducible refine gate_dst (N:=2) rfl ?_);refine box_event ?hg (N:=2) ?hd (cs:= #[.int .i64 a0_0, .bool a0_1, .slice A0_2 l0_2.length c0_2, .slice A0_3 l0_3.length c0_3]) (t:=115) ?hr ?_;(case hd=>rfl);(case hg=>rfl);(case hr=>first|(go_simp;done)|(go_simp;rfl));intro gb375 hg w6 hbox hb;have n0_:=Aside0.mk (below_step HB.out hb);have n1_:=Aside0.mk (hbox);have n2_:=Aside0.mk ((by rw[hg];exact(below_size HB.out):w.heap.size≤gb375));have n3_:=Aside0.mk ((by rw[hg];exact(below_size HB.out):w.heap.size≤gb375));clear HB;have HB:=n0_;have BK375:=n1_;have GW375:=n2_;have GE375:=n3_;clear n0_ n1_ n2_ n3_;clear hb hbox hg)|((with_reducible refine gate_dst (N:=3) rfl ?_);refine box_event ?hg (N:=3) ?hd (cs:= #[.int .i64 a1_0, .bool true]) (t:=38) ?hr ?_;(case hd=>rfl);(case hg=>rfl);(case hr=>first|(go_simp;done)|(go_simp;rfl));intro gb376 hg w7 hbox hb;have n0_:=Aside0.mk (blk_below BK375.out hb);have n1_:=Aside0.mk (below_step HB.out hb);have n2_:=Aside0.mk (hbox);have n3_:=Aside0.mk ((by rw[hg];exact(below_size HB.out):w.heap.size≤gb376));have n4_:=Aside0.mk ((by rw[hg];exact(below_size HB.out):w.heap.size≤gb376));have n5_:=Aside0.mk ((by rw[hg];exact Nat.ne_of_lt (blk_lt BK375.out):gb375≠gb376));have n6_:=Aside0.mk ((by rw[hg];exact Nat.ne_of_gt (blk_lt BK375.out):gb376≠gb375));clear BK375;clear HB;have BK375:=n0_;have HB:=n1_;have BK376:=n2_;have GW376:=n3_;have GE376:=n4_;have NB375_376:=n5_;have NB376_375:=n6_;clear n0_ n1_ n2_ n3_ n4_ n5_ n6_;clear hb hbox hg;have hnb8:=NB376_375.out;have hnc8:=NB375_376.out;have hcz9_0:w7.cell? ⟨gb376,0,none⟩=some (.int .i64 a1_0):=(blk_cell BK376.out 0).trans rfl;have hcz9_1:w7.cell? ⟨gb376,1,none⟩=some (.bool true):=(blk_cell BK376.out 1).trans rfl;have hfz9_0:=blk_frozen BK376.out 0;have hfz9_1:=blk_frozen BK376.out 1;have hcz10_0:w7.cell? ⟨gb375,0,none⟩=some (.int .i64 a0_0):=(blk_cell BK375.out 0).trans rfl;have hcz10_1:w7.cell? ⟨gb375,1,none⟩=some (.bool a0_1):=(blk_cell BK375.out 1).trans rfl;have hcz10_2:w7.cell? ⟨gb375,2,none⟩=some (.slice A0_2 l0_2.length c0_2):=(blk_cell BK375.out 2).trans rfl;have hcz10_3:w7.cell? ⟨gb375,3,none⟩=some (.slice A0_3 l0_3.length c0_3):=(blk_cell BK375.out 3).trans rfl;have hfz10_0:=blk_frozen BK375.out 0;have hfz10_1:=blk_frozen BK375.out 1;have hfz10_2:=blk_frozen BK375.out 2;have hfz10_3:=blk_frozen BK375.out 3;have p377:0≤(a1_0:Int):=of_decide_eq_true (by first|(with_reducible assumption)|assumption);have q377:a1_0<(l0_3.length:Int):=of_decide_eq_true (by first|(with_reducible assumption)|assumption);obtain⟨ad377,e377,hx377_0⟩:=Kd.at_int HR0_3.out a1_0 p377 q377;cases e377;replace hx377_0:=(HB.out.cell (World.block_lt_of_cell? w _ hx377_0)).trans hx377_0;replace p377:=eq_true p377;replace q377:=eq_true q377)))
  go_ret
  exact⟨by first|rfl|(simp[errW_none,errW_some]<;>rfl)|(simp[*,errW_none,errW_some]<;>rfl),HB.out⟩
 replace c3:=Bool.eq_false_iff.mpr c3
 subst c3
 have H1:(if 0≤a1_0 then(if a1_0<(l0_2.length:Int) then(if a1_0<(l0_3.length:Int) then(some (wrap64 (((rd_T74 l0_2 a1_0).f2) - (rd l0_3 a1_0)))) else(none)) else(none)) else(none))=some r:=by rw[if_neg (show ¬ (false=true) by decide)] at H;exact H
 clear H
 have H:=H1
 clear H1
 by_cases c11:0≤a1_0
 rotate_left
 ·rw[if_neg c11] at H
  exact absurd H (by simp)
 rw[if_pos c11] at H
 have c11b0:decide (0≤a1_0)=true:=decide_eq_true c11
 clear c11
 by_cases c12:a1_0<(l0_2.length:Int)
 rotate_left
 ·rw[if_neg c12] at H
  exact absurd H (by simp)
 rw[if_pos c12] at H
 have c12b0:decide (a1_0<(l0_2.length:Int))=true:=decide_eq_true c12
 clear c12
 by_cases c13:a1_0<(l0_3.length:Int)
 rotate_left
 ·rw[if_neg c13] at H
  exact absurd H (by simp)
 rw[if_pos c13] at H
 have c13b0:decide (a1_0<(l0_3.length:Int))=true:=decide_eq_true c13
 clear c13
 obtain rfl:=Option.some.inj H
 go_enter Try.func104,Try.ntmps104
 go_wp2_with (first|((with_reducible refine gate_dst (N:=2) rfl ?_);refine box_event ?hg (N:=2) ?hd (cs:= #[.int .i64 a0_0, .bool a0_1, .slice A0_2 l0_2.length c0_2, .slice A0_3 l0_3.length c0_3]) (t:=115) ?hr ?_;(case hd=>rfl);(case hg=>rfl);(case hr=>first|(go_simp;done)|(go_simp;rfl));intro gb375 hg w14 hbox hb;have n0_:=Aside0.mk (below_step HB.out hb);have n1_:=Aside0.mk (hbox);have n2_:=Aside0.mk ((by rw[hg];exact(below_size HB.out):w.heap.size≤gb375));have n3_:=Aside0.mk ((by rw[hg];exact(below_size HB.out):w.heap.size≤gb375));clear HB;have HB:=n0_;have BK375:=n1_;have GW375:=n2_;have GE375:=n3_;clear n0_ n1_ n2_ n3_;clear hb hbox hg)|((with_reducible refine gate_dst (N:=3) rfl ?_);refine box_event ?hg (N:=3) ?hd (cs:= #[.int .i64 a1_0, .bool false]) (t:=38) ?hr ?_;(case hd=>rfl);(case hg=>rfl);(case hr=>first|(go_simp;done)|(go_simp;rfl));intro gb376 hg w15 hbox hb;have n0_:=Aside0.mk (blk_below BK375.out hb);have n1_:=Aside0.mk (below_step HB.out hb);have n2_:=Aside0.mk (hbox);have n3_:=Aside0.mk ((by rw[hg];exact(below_size HB.out):w.heap.size≤gb376));have n4_:=Aside0.mk ((by rw[hg];exact(below_size HB.out):w.heap.size≤gb376));have n5_:=Aside0.mk ((by rw[hg];exact Nat.ne_of_lt (blk_lt BK375.out):gb375≠gb376));have n6_:=Aside0.mk ((by rw[hg];exact Nat.ne_of_gt (blk_lt BK375.out):gb376≠gb375));clear BK375;clear HB;have BK375:=n0_;have HB:=n1_;have BK376:=n2_;have GW376:=n3_;have GE376:=n4_;have NB375_376:=n5_;have NB376_375:=n6_;clear n0_ n1_ n2_ n3_ n4_ n5_ n6_;clear hb hbox hg;have hnb16:=NB376_375.out;have hnc16:=NB375_376.out;have hcz17_0:w15.cell? ⟨gb376,0,none⟩=some (.int .i64 a1_0):=(blk_cell BK376.out 0).trans rfl;have hcz17_1:w15.cell? ⟨gb376,1,none⟩=some (.bool false):=(blk_cell BK376.out 1).trans rfl;have hfz17_0:=blk_frozen BK376.out 0;have hfz17_1:=blk_frozen BK376.out 1;have hcz18_0:w15.cell? ⟨gb375,0,none⟩=some (.int .i64 a0_0):=(blk_cell BK375.out 0).trans rfl;have hcz18_1:w15.cell? ⟨gb375,1,none⟩=some (.bool a0_1):=(blk_cell BK375.out 1).trans rfl;have hcz18_2:w15.cell? ⟨gb375,2,none⟩=some (.slice A0_2 l0_2.length c0_2):=(blk_cell BK375.out 2).trans rfl;have hcz18_3:w15.cell? ⟨gb375,3,none⟩=some (.slice A0_3 l0_3.length c0_3):=(blk_cell BK375.out 3).trans rfl;have hfz18_0:=blk_frozen BK375.out 0;have hfz18_1:=blk_frozen BK375.out 1;have hfz18_2:=blk_frozen BK375.out 2;have hfz18_3:=blk_frozen BK375.out 3;have p378:0≤(a1_0:Int):=of_decide_eq_true (by first|(with_reducible assumption)|assumption);have q378:a1_0<(l0_2.length:Int):=of_decide_eq_true (by first|(with_reducible assumption)|assumption);obtain⟨ad378,e378,hx378_0,hx378_1,hx378_2,hx378_3⟩:=at_T74 HR0_2.out a1_0 p378 q378;cases e378;replace hx378_0:=(HB.out.cell (World.block_lt_of_cell? w _ hx378_0)).trans hx378_0;replace hx378_1:=(HB.out.cell (World.block_lt_of_cell? w _ hx378_1)).trans hx378_1;replace hx378_2:=(HB.out.cell (World.block_lt_of_cell? w _ hx378_2)).trans hx378_2;replace hx378_3:=(HB.out.cell (World.block_lt_of_cell? w _ hx378_3)).trans hx378_3;replace p378:=eq_true p378;replace q378:=eq_true q378;have p379:0≤(a1_0:Int):=of_decide_eq_true (by first|(with_reducible assumption)|assumption);have q379:a1_0<(l0_3.length:Int):=of_decide_eq_true (by first|(with_reducible assumption)|assumption);obtain⟨ad379,e379,hx379_0⟩:=Kd.at_int HR0_3.out a1_0 p379 q379;cases e379;replace hx379_0:=(HB.out.cell (World.block_lt_of_cell? w _ hx379_0)).trans hx379_0;replace p379:=eq_true p379;replace q379:=eq_true q379))
 repeat(go_quiet (first|((with_reducible refine gate_dst (N:=2) rfl ?_);refine box_event ?hg (N:=2) ?hd (cs:= #[.int .i64 a0_0, .bool a0_1, .slice A0_2 l0_2.length c0_2, .slice A0_3 l0_3.length c0_3]) (t:=115) ?hr ?_;(case hd=>rfl);(case hg=>rfl);(case hr=>first|(go_simp;done)|(go_simp;rfl));intro gb375 hg w14 hbox hb;have n0_:=Aside0.mk (below_step HB.out hb);have n1_:=Aside0.mk (hbox);have n2_:=Aside0.mk ((by rw[hg];exact(below_size HB.out):w.heap.size≤gb375));have n3_:=Aside0.mk ((by rw[hg];exact(below_size HB.out):w.heap.size≤gb375));clear HB;have HB:=n0_;have BK375:=n1_;have GW375:=n2_;have GE375:=n3_;clear n0_ n1_ n2_ n3_;clear hb hbox hg)|((with_reducible refine gate_dst (N:=3) rfl ?_);refine box_event ?hg (N:=3) ?hd (cs:= #[.int .i64 a1_0, .bool false]) (t:=38) ?hr ?_;(case hd=>rfl);(case hg=>rfl);(case hr=>first|(go_simp;done)|(go_simp;rfl));intro gb376 hg w15 hbox hb;have n0_:=Aside0.mk (blk_below BK375.out hb);have n1_:=Aside0.mk (below_step HB.out hb);have n2_:=Aside0.mk (hbox);have n3_:=Aside0.mk ((by rw[hg];exact(below_size HB.out):w.heap.size≤gb376));have n4_:=Aside0.mk ((by rw[hg];exact(below_size HB.out):w.heap.size≤gb376));have n5_:=Aside0.mk ((by rw[hg];exact Nat.ne_of_lt (blk_lt BK375.out):gb375≠gb376));have n6_:=Aside0.mk ((by rw[hg];exact Nat.ne_of_gt (blk_lt BK375.out):gb376≠gb375));clear BK375;clear HB;have BK375:=n0_;have HB:=n1_;have BK376:=n2_;have GW376:=n3_;have GE376:=n4_;have NB375_376:=n5_;have NB376_375:=n6_;clear n0_ n1_ n2_ n3_ n4_ n5_ n6_;clear hb hbox hg;have hnb16:=NB376_375.out;have hnc16:=NB375_376.out;have hcz17_0:w15.cell? ⟨gb376,0,none⟩=some (.int .i64 a1_0):=(blk_cell BK376.out 0).trans rfl;have hcz17_1:w15.cell? ⟨gb376,1,none⟩=some (.bool false):=(blk_cell BK376.out 1).trans rfl;have hfz17_0:=blk_frozen BK376.out 0;have hfz17_1:=blk_frozen BK376.out 1;have hcz18_0:w15.cell? ⟨gb375,0,none⟩=some (.int .i64 a0_0):=(blk_cell BK375.out 0).trans rfl;have hcz18_1:w15.cell? ⟨gb375,1,none⟩=some (.bool a0_1):=(blk_cell BK375.out 1).trans rfl;have hcz18_2:w15.cell? ⟨gb375,2,none⟩=some (.slice A0_2 l0_2.length c0_2):=(blk_cell BK375.out 2).trans rfl;have hcz18_3:w15.cell? ⟨gb375,3,none⟩=some (.slice A0_3 l0_3.length c0_3):=(blk_cell BK375.out 3).trans rfl;have hfz18_0:=blk_frozen BK375.out 0;have hfz18_1:=blk_frozen BK375.out 1;have hfz18_2:=blk_frozen BK375.out 2;have hfz18_3:=blk_frozen BK375.out 3;have p378:0≤(a1_0:Int):=of_decide_eq_true (by first|(with_reducible assumption)|assumption);have q378:a1_0<(l0_2.length:Int):=of_decide_eq_true (by first|(with_reducible assumption)|assumption);obtain⟨ad378,e378,hx378_0,hx378_1,hx378_2,hx378_3⟩:=at_T74 HR0_2.out a1_0 p378 q378;cases e378;replace hx378_0:=(HB.out.cell (World.block_lt_of_cell? w _ hx378_0)).trans hx378_0;replace hx378_1:=(HB.out.cell (World.block_lt_of_cell? w _ hx378_1)).trans hx378_1;replace hx378_2:=(HB.out.cell (World.block_lt_of_cell? w _ hx378_2)).trans hx378_2;replace hx378_3:=(HB.out.cell (World.block_lt_of_cell? w _ hx378_3)).trans hx378_3;replace p378:=eq_true p378;replace q378:=eq_true q378;have p379:0≤(a1_0:Int):=of_decide_eq_true (by first|(with_reducible assumption)|assumption);have q379:a1_0<(l0_3.length:Int):=of_decide_eq_true (by first|(with_reducible assumption)|assumption);obtain⟨ad379,e379,hx379_0⟩:=Kd.at_int HR0_3.out a1_0 p379 q379;cases e379;replace hx379_0:=(HB.out.cell (World.block_lt_of_cell? w _ hx379_0)).trans hx379_0;replace p379:=eq_true p379;replace q379:=eq_true q379));try go_wp2_with (first|((with_reducible refine gate_dst (N:=2) rfl ?_);refine box_event ?hg (N:=2) ?hd (cs:= #[.int .i64 a0_0, .bool a0_1, .slice A0_2 l0_2.length c0_2, .slice A0_3 l0_3.length c0_3]) (t:=115) ?hr ?_;(case hd=>rfl);(case hg=>rfl);(case hr=>first|(go_simp;done)|(go_simp;rfl));intro gb375 hg w14 hbox hb;have n0_:=Aside0.mk (below_step HB.out hb);have n1_:=Aside0.mk (hbox);have n2_:=Aside0.mk ((by rw[hg];exact(below_size HB.out):w.heap.size≤gb375));have n3_:=Aside0.mk ((by rw[hg];exact(below_size HB.out):w.heap.size≤gb375));clear HB;have HB:=n0_;have BK375:=n1_;have GW375:=n2_;have GE375:=n3_;clear n0_ n1_ n2_ n3_;clear hb hbox hg)|((with_reducible refine gate_dst (N:=3) rfl ?_);refine box_event ?hg (N:=3) ?hd (cs:= #[.int .i64 a1_0, .bool false]) (t:=38) ?hr ?_;(case hd=>rfl);(case hg=>rfl);(case hr=>first|(go_simp;done)|(go_simp;rfl));intro gb376 hg w15 hbox hb;have n0_:=Aside0.mk (blk_below BK375.out hb);have n1_:=Aside0.mk (below_step HB.out hb);have n2_:=Aside0.mk (hbox);have n3_:=Aside0.mk ((by rw[hg];exact(below_size HB.out):w.heap.size≤gb376));have n4_:=Aside0.mk ((by rw[hg];exact(below_size HB.out):w.heap.size≤gb376));have n5_:=Aside0.mk ((by rw[hg];exact Nat.ne_of_lt (blk_lt BK375.out):gb375≠gb376));have n6_:=Aside0.mk ((by rw[hg];exact Nat.ne_of_gt (blk_lt BK375.out):gb376≠gb375));clear BK375;clear HB;have BK375:=n0_;have HB:=n1_;have BK376:=n2_;have GW376:=n3_;have GE376:=n4_;have NB375_376:=n5_;have NB376_375:=n6_;clear n0_ n1_ n2_ n3_ n4_ n5_ n6_;clear hb hbox hg;have hnb16:=NB376_375.out;have hnc16:=NB375_376.out;have hcz17_0:w15.cell? ⟨gb376,0,none⟩=some (.int .i64 a1_0):=(blk_cell BK376.out 0).trans rfl;have hcz17_1:w15.cell? ⟨gb376,1,none⟩=some (.bool false):=(blk_cell BK376.out 1).trans rfl;have hfz17_0:=blk_frozen BK376.out 0;have hfz17_1:=blk_frozen BK376.out 1;have hcz18_0:w15.cell? ⟨gb375,0,none⟩=some (.int .i64 a0_0):=(blk_cell BK375.out 0).trans rfl;have hcz18_1:w15.cell? ⟨gb375,1,none⟩=some (.bool a0_1):=(blk_cell BK375.out 1).trans rfl;have hcz18_2:w15.cell? ⟨gb375,2,none⟩=some (.slice A0_2 l0_2.length c0_2):=(blk_cell BK375.out 2).trans rfl;have hcz18_3:w15.cell? ⟨gb375,3,none⟩=some (.slice A0_3 l0_3.length c0_3):=(blk_cell BK375.out 3).trans rfl;have hfz18_0:=blk_frozen BK375.out 0;have hfz18_1:=blk_frozen BK375.out 1;have hfz18_2:=blk_frozen BK375.out 2;have hfz18_3:=blk_frozen BK375.out 3;have p378:0≤(a1_0:Int):=of_decide_eq_true (by first|(with_reducible assumption)|assumption);have q378:a1_0<(l0_2.length:Int):=of_decide_eq_true (by first|(with_reducible assumption)|assumption);obtain⟨ad378,e378,hx378_0,hx378_1,hx378_2,hx378_3⟩:=at_T74 HR0_2.out a1_0 p378 q378;cases e378;replace hx378_0:=(HB.out.cell (World.block_lt_of_cell? w _ hx378_0)).trans hx378_0;replace hx378_1:=(HB.out.cell (World.block_lt_of_cell? w _ hx378_1)).trans hx378_1;replace hx378_2:=(HB.out.cell (World.block_lt_of_cell? w _ hx378_2)).trans hx378_2;replace hx378_3:=(HB.out.cell (World.block_lt_of_cell? w _ hx378_3)).trans hx378_3;replace p378:=eq_true p378;replace q378:=eq_true q378;have p379:0≤(a1_0:Int):=of_decide_eq_true (by first|(with_reducible assumption)|assumption);have q379:a1_0<(l0_3.length:Int):=of_decide_eq_true (by first|(with_reducible assumption)|assumption);obtain⟨ad379,e379,hx379_0⟩:=Kd.at_int HR0_3.out a1_0 p379 q379;cases e379;replace hx379_0:=(HB.out.cell (World.block_lt_of_cell? w _ hx379_0)).trans hx379_0;replace p379:=eq_true p379;replace q379:=eq_true q379)))
 go_ret
 exact⟨by first|rfl|(simp[errW_none,errW_some]<;>rfl)|(simp[*,errW_none,errW_some]<;>rfl),by repeat(first|(with_reducible first|exact HB.out|apply below_alloc|apply pw_below_drewN|apply below_drew1|refine below_set ?_ GE375.out|refine below_set ?_ GE376.out)|exact HB.out)⟩
end Go.Proofs.Ytkcpanpdipmmmaa.P
namespace Go.Proofs.Ytkcpanpdipmmmaa.H
abbrev Ed:=Nat × Nat × Int
abbrev Tm:=Nat→Option Int
def trig (σ:Tm) (e:Ed):Bool:=
 match σ e.1 with
 |none=>false
 |some x=>match σ e.2.1 with
  |none=>true
  |some y=>decide (x+e.2.2<y)
def relax (σ:Tm) (e:Ed):Tm:=if trig σ e then(fun v=>if v=e.2.1 then some ((σ e.1).getD 0+e.2.2) else σ v) else σ
def pass (E:List Ed) (σ:Tm):Tm:=E.foldl relax σ
def Path (E:List Ed):Nat→List Ed→Nat→Prop
 |a,[],b=>a=b
 |a,e::l,b=>e∈E∧e.1=a∧Path E e.2.1 l b
def long:List Ed→Int
 |[]=>0
 |e::l=>e.2.2+long l
theorem long_app (l m:List Ed):long (l ++ m)=long l+long m:=by
 induction l with
 |nil=>simp[long]
 |cons e l ih=>simp only[List.cons_append,long,ih];omega
def its (E:List Ed):Nat→Tm→Tm
 |0,σ=>σ
 |k+1,σ=>its E k (pass E σ)
structure NoGain (E:List Ed) (r:Nat→Prop):Prop where
 on: ∀ e,e∈E→r e.1→r e.2.1
 cyc: ∀ (a:Nat) (l:List Ed),r a→Path E a l a→0≤long l
def visits (a:Nat) (l:List Ed):List Nat:=a::l.map (fun e=>e.2.1)
theorem path_split {E:List Ed} {a b x:Nat} {l:List Ed} (h:Path E a l b) (hx:x∈visits a l): ∃ l1 l2,l=l1 ++ l2∧Path E a l1 x∧Path E x l2 b:=by
 induction l generalizing a with
 |nil=>
  rcases List.mem_cons.1 hx with rfl|hx
  ·exact⟨[],[],rfl,rfl,h⟩
  ·cases hx
 |cons e l ih=>
  rcases List.mem_cons.1 hx with rfl|hx
  ·exact⟨[],e::l,rfl,rfl,h⟩
  ·obtain⟨he,hu,hp⟩:=h
   have hx':x∈visits e.2.1 l:=by simpa [visits] using hx
   obtain⟨l1,l2,e1,h1,h2⟩:=ih hp hx'
   exact⟨e::l1,l2,by rw[e1];rfl,⟨he,hu,h1⟩,h2⟩
theorem cut_or {E:List Ed} {r:Nat→Prop} (ht:NoGain E r) {a b:Nat} {l:List Ed} (h:Path E a l b) (ha:r a):
  (∃ l',l'.length<l.length∧Path E a l' b∧long l'≤long l)∨(visits a l).Nodup:=by
 induction l generalizing a with
 |nil=>right;simp[visits]
 |cons e l ih=>
  obtain⟨he,hu,hp⟩:=h
  have hr:=ht.on e he (hu▸ha)
  by_cases hm:a∈visits e.2.1 l
  ·left
   obtain⟨l1,l2,e1,h1,h2⟩:=path_split hp hm
   refine⟨l2,by rw[e1];simp;omega,h2,?_⟩
   have hc:=ht.cyc a (e::l1) ha ⟨he,hu,h1⟩
   rw[e1]
   simp only[long,long_app] at hc ⊢
   omega
  ·rcases ih hp hr with ⟨l',h1,h2,h3⟩|hn
   ·left
    refine⟨e::l',by simp;omega,⟨he,hu,h2⟩,?_⟩
    simp only[long]
    omega
   ·right
    show (a::visits e.2.1 l).Nodup
    exact List.nodup_cons.2 ⟨hm,hn⟩
theorem pigeon (n:Nat): ∀ L:List Nat,L.Nodup→(∀ x,x∈L→x<n)→L.length≤n:=by
 induction n with
 |zero=>
  intro L _ h
  cases L with
  |nil=>simp
  |cons x L=>exact absurd (h x List.mem_cons_self) (Nat.not_lt_zero _)
 |succ n ih=>
  intro L hn h
  by_cases hm:n∈L
  ·have h1:=ih (L.erase n) (hn.erase n) (fun x hx=>by
    have h2:=(hn.mem_erase_iff).1 hx
    have:=h x h2.2
    have:=h2.1
    omega)
   rw[List.length_erase_of_mem hm] at h1
   omega
  ·have:=ih L hn (fun x hx=>by
    have h1:=h x hx
    have:x≠n:=fun e=>hm (e▸hx)
    omega)
   omega
theorem path_nodes {E:List Ed} {n:Nat} (hE: ∀ e,e∈E→e.1<n∧e.2.1<n) {a b:Nat} {l:List Ed} (h:Path E a l b) (ha:a<n): ∀ x,x∈visits a l→x<n:=by
 induction l generalizing a with
 |nil=>intro x hx;rcases List.mem_cons.1 hx with rfl|hx;exact ha;cases hx
 |cons e l ih=>
  intro x hx
  obtain⟨he,hu,hp⟩:=h
  rcases List.mem_cons.1 hx with rfl|hx
  ·exact ha
  ·exact ih hp (hE e he).2 x (by simpa [visits] using hx)
theorem short {E:List Ed} {n:Nat} (hE: ∀ e,e∈E→e.1<n∧e.2.1<n) {r:Nat→Prop} (ht:NoGain E r) {a b:Nat} (ha:r a) (han:a<n):
  ∀ (m:Nat) (l:List Ed),l.length≤m→Path E a l b→ ∃ l',l'.length<n∧Path E a l' b∧long l'≤long l:=by
 intro m
 induction m with
 |zero=>
  intro l hl h
  exact⟨l,by omega,h,Int.le_refl _⟩
 |succ m ih=>
  intro l hl h
  rcases cut_or ht h ha with ⟨l',h1,h2,h3⟩|hn
  ·obtain⟨l2,h4,h5,h6⟩:=ih l' (by omega) h2
   exact⟨l2,h4,h5,Int.le_trans h6 h3⟩
  ·refine⟨l,?_,h,Int.le_refl _⟩
   have:=pigeon n _ hn (path_nodes hE h han)
   simp[visits] at this
   omega
end Go.Proofs.Ytkcpanpdipmmmaa.H
namespace Go.Proofs.Ytkcpanpdipmmmaa.H
open Go.RowKit Go.Proofs.YtkcpanpdipmmmaaW.PrintWords Go.Proofs.YtkcpanpdipmmmaaW.PrintLast Go.Proofs.YtkcpanpdipmmmaaW.PrintMore Go.Proofs.Ytkcpanpdipmmmaa.P
def Arr (w:World) (g N:Nat) (M:Nat→S38):Prop:=
 ∃ cells:Array Value,w.heap[g]? =some (.cells cells 38 (0,0))∧ ∀ x,x<N→cells[x * 2]? =some (.int .i64 (M x).f0)∧cells[x * 2+1]? =some (.bool (M x).f1)
theorem Arr.cell0 {w:World} {g N:Nat} {M:Nat→S38} (h:Arr w g N M) {x:Nat} (hx:x<N):w.cell? ⟨g,x * 2,none⟩=some (.int .i64 (M x).f0):=by
 obtain⟨cells,hb,hc⟩:=h
 simp[World.cell?,hb,(hc x hx).1]
theorem Arr.cell1 {w:World} {g N:Nat} {M:Nat→S38} (h:Arr w g N M) {x:Nat} (hx:x<N):w.cell? ⟨g,x * 2+1,none⟩=some (.bool (M x).f1):=by
 obtain⟨cells,hb,hc⟩:=h
 simp[World.cell?,hb,(hc x hx).2]
theorem Arr.free {w:World} {g N:Nat} {M:Nat→S38} (h:Arr w g N M) (j:Nat):w.frozen? ⟨g,j,none⟩=false:=by
 obtain⟨cells,hb,_⟩:=h
 simp[World.frozen?,hb]
theorem Arr.lt {w:World} {g N:Nat} {M:Nat→S38} (h:Arr w g N M):g<w.heap.size:=by
 obtain⟨cells,hb,_⟩:=h
 exact(Array.getElem?_eq_some_iff.1 hb).1
theorem Arr.congr {w:World} {g N:Nat} {M M':Nat→S38} (h:Arr w g N M) (e: ∀ x,x<N→M' x=M x):Arr w g N M':=by
 obtain⟨cells,hb,hc⟩:=h
 exact⟨cells,hb,fun x hx=>by rw[e x hx];exact hc x hx⟩
theorem Arr.same {w w':World} {g N:Nat} {M:Nat→S38} (h:Arr w g N M) (e:w'.heap[g]? =w.heap[g]?):Arr w' g N M:=by
 obtain⟨cells,hb,hc⟩:=h
 exact⟨cells,e.trans hb,hc⟩
theorem Arr.below {w w':World} {g N:Nat} {M:Nat→S38} (h:Arr w g N M) (hb:Below w.heap.size w w'):Arr w' g N M:=h.same (hb.block g h.lt)
def upd (M:Nat→S38) (x:Nat) (s:S38) (y:Nat):S38:=if y=x then s else M y
theorem Arr.put {w:World} {g N:Nat} {M:Nat→S38} (h:Arr w g N M) {x:Nat} (hx:x<N) (s:S38):Arr ((w.setCell ⟨g,x * 2,none⟩ (.int .i64 s.f0)).setCell ⟨g,x * 2+1,none⟩ (.bool s.f1)) g N (upd M x s):=by
 obtain⟨cells,hb,hc⟩:=h
 refine⟨_,blk_set (blk_set hb _ _) _ _,fun y hy=> ?_⟩
 have hs0:=(Array.getElem?_eq_some_iff.1 (hc x hx).1).1
 have hs1:=(Array.getElem?_eq_some_iff.1 (hc x hx).2).1
 simp only[Array.getElem?_setIfInBounds,Array.size_setIfInBounds]
 unfold upd
 by_cases e:y=x
 ·subst e
  constructor
  ·rw[if_neg (by omega),if_pos rfl,if_pos hs0,if_pos rfl]
  ·rw[if_pos rfl,if_pos hs1,if_pos rfl]
 ·rw[if_neg e]
  constructor
  ·rw[if_neg (by omega),if_neg (by omega)];exact(hc y hy).1
  ·rw[if_neg (by omega),if_neg (by omega)];exact(hc y hy).2
theorem Arr.drew {w:World} {g N:Nat} {M:Nat→S38} (h:Arr w g N M):Arr w.drew g N M:=h.same rfl
def Fr (w w':World) (g:Nat):Prop:=w.grownBy w' (some g)∧ ∀ cells t ro,w.heap[g]? =some (.cells cells t ro)→ ∃ cells',w'.heap[g]? =some (.cells cells' t ro)∧cells'.size=cells.size
theorem grow_set {w w':World} {g:Nat} (h:Fr w w' g) (j:Nat) (u:Value):Fr w (w'.setCell ⟨g,j,none⟩ u) g:=
 ⟨⟨h.1.os,h.1.tape,h.1.output,by simpa [World.setCell] using h.1.size,fun k hk hne=>(Below.heap_setCell w' ⟨g,j,none⟩ u k (fun e=>hne (by rw[e]))).trans (h.1.block k hk hne)⟩,
  fun cells t ro hb=>by
  obtain⟨c',h1,h2⟩:=h.2 cells t ro hb
  refine⟨c'.setIfInBounds j u,?_,by simpa using h2⟩
  simp[World.setCell,Array.getElem?_modify,h1]⟩
theorem grow_drew {w w':World} {g:Nat} (h:Fr w w' g):Fr w w'.drew g:=⟨⟨h.1.os,h.1.tape,h.1.output,h.1.size,h.1.block⟩,h.2⟩
theorem grow_refl (w:World) (g:Nat):Fr w w g:=⟨⟨rfl,rfl,rfl,Nat.le_refl _,fun _ _ _=>rfl⟩,fun cells t ro hb=>⟨cells,hb,rfl⟩⟩
theorem grow_trans {w w' w'':World} {g:Nat} (h:Fr w w' g) (k:Fr w' w'' g):Fr w w'' g:=
 ⟨⟨k.1.os.trans h.1.os,k.1.tape.trans h.1.tape,k.1.output.trans h.1.output,Nat.le_trans h.1.size k.1.size,fun i hi hne=>(k.1.block i (Nat.lt_of_lt_of_le hi h.1.size) hne).trans (h.1.block i hi hne)⟩,
  fun cells t ro hb=>by
  obtain⟨c',h1,h2⟩:=h.2 cells t ro hb
  obtain⟨c2,h3,h4⟩:=k.2 c' t ro h1
  exact⟨c2,h3,h4.trans h2⟩⟩
theorem grow_below {w w':World} {g:Nat} (h:Below w.heap.size w w'):Fr w w' g:=
 ⟨grown_of_below h _,fun cells t ro hb=>⟨cells,(h.block g (Array.getElem?_eq_some_iff.1 hb).1).trans hb,rfl⟩⟩
def swapM (M:Nat→S38) (a b n:Nat) (x:Nat):S38:=if a≤x∧x<a+n then M (x - a+b) else if b≤x∧x<b+n then M (x - b+a) else M x
set_option maxHeartbeats 2000000 in
set_option maxRecDepth 100000 in
theorem swapRange_calls (g N cap:Nat) (M:Nat→S38) (a b n:Nat) (f:Value) (w:World) (h:Arr w g N M) (hN:N≤1000000) (ha:a+n≤b) (hb:b+n≤N):
  Calls Try.prog 178 #[.slice (some ⟨g,0,none⟩) N cap, .int .i64 (a:Int), .int .i64 (b:Int), .int .i64 (n:Int),f] w fun e w'=>e= .returned (.tuple #[])∧Arr w' g N (swapM M a b n)∧Fr w w' g:=by
 have HA:=Aside0.mk h
 clear h
 go_enter Try.func178,Try.ntmps178
 go_wp2
 go_loopw [10] (fun i wr=> ∃ k:Nat,k≤n∧i= .int .i64 k∧Aside0 (Arr wr g N (swapM M a b k))∧Aside0 (Fr w wr g)) (fun i _=>n - (intOf i).toNat)
 case atStart=>exact⟨0,Nat.zero_le _,rfl,⟨HA.out.congr fun x _=>by unfold swapM;rw[if_neg (by omega),if_neg (by omega)]⟩,⟨grow_refl _ _⟩⟩
 case round=>
  obtain⟨k,hk,rfl,HA1,HG⟩:=hrel
  by_cases hlt:k<n
  ·have c0:=HA1.out.cell0 (x:=b+k) (by omega)
   have c1:=HA1.out.cell1 (x:=b+k) (by omega)
   have d0:=HA1.out.cell0 (x:=a+k) (by omega)
   have d1:=HA1.out.cell1 (x:=a+k) (by omega)
   have f0:=HA1.out.free
   obtain⟨s1,hs1⟩: ∃ s,swapM M a b k (b+k)=s:=⟨_,rfl⟩
   obtain⟨s2,hs2⟩: ∃ s,swapM M a b k (a+k)=s:=⟨_,rfl⟩
   rw[hs1] at c0 c1
   rw[hs2] at d0 d1
   have HE:Aside0 (∀ x,upd (upd (swapM M a b k) (a+k) s1) (b+k) s2 x=swapM M a b (k+1) x):=⟨fun x=>by
    rw[← hs1, ← hs2]
    unfold upd swapM
    by_cases e1:x=b+k
    ·subst e1
     rw[if_pos rfl,if_neg (by omega),if_neg (by omega),if_neg (by omega),if_pos (by omega)]
     congr 1;omega
    ·rw[if_neg e1]
     by_cases e2:x=a+k
     ·subst e2
      rw[if_pos rfl,if_neg (by omega),if_neg (by omega),if_pos (by omega)]
      congr 1;omega
     ·rw[if_neg e2]
      by_cases e3:a≤x∧x<a+k
      ·rw[if_pos e3,if_pos (by omega)]
      ·rw[if_neg e3,if_neg (show ¬ (a≤x∧x<a+(k+1)) by omega)]
       by_cases e4:b≤x∧x<b+k
       ·rw[if_pos e4,if_pos (by omega)]
       ·rw[if_neg e4,if_neg (by omega)]⟩
   clear hs1 hs2
   go_wp2
   go_region
   have HA2:Aside0 (Arr (((((wr.setCell ⟨g,(a+k) * 2,none⟩ (.int .i64 s1.f0)).setCell ⟨g,(a+k) * 2+1,none⟩ (.bool s1.f1)).setCell ⟨g,(b+k) * 2,none⟩ (.int .i64 s2.f0)).setCell ⟨g,(b+k) * 2+1,none⟩ (.bool s2.f1)).drew) g N (swapM M a b (k+1))):=
    ⟨(((HA1.out.put (by omega) s1).put (by omega) s2).drew).congr fun x _=>(HE.out x).symm⟩
   have HG2:=Aside0.mk (grow_drew (grow_set (grow_set (grow_set (grow_set HG.out ((a+k) * 2) (.int .i64 s1.f0)) ((a+k) * 2+1) (.bool s1.f1)) ((b+k) * 2) (.int .i64 s2.f0)) ((b+k) * 2+1) (.bool s2.f1)))
   clear c0 c1 d0 d1 f0 HA1 HG HE
   go_wp2
   go_roundw
   case rel=>exact⟨k+1,by omega,by go_num,HA2,HG2⟩
   case measure=>simp[intOf];omega
  ·have e:k=n:=by omega
   subst e
   go_wp2
   go_end0
   exact⟨rfl,HA1.out,HG.out⟩
def rotM (M:Nat→S38) (a m b:Nat) (x:Nat):S38:=if a≤x∧x<b then(if x<a+(b - m) then M (x+(m - a)) else M (x - (b - m))) else M x
def RotAt (M K:Nat→S38) (a m b i j:Nat):Prop:=
 (∀ x, ¬ (m - i≤x∧x<m+j)→K x=rotM M a m b x)∧(∀ x,m - i≤x→x<m - i+j→rotM M a m b x=K (x+i))∧(∀ x,m - i+j≤x→x<m+j→rotM M a m b x=K (x - j))
theorem rot_start (M:Nat→S38) {a m b:Nat} (h1:a≤m) (h2:m≤b):RotAt M M a m b (m - a) (b - m):=by
 refine⟨fun x hx=> ?_,fun x h3 h4=> ?_,fun x h3 h4=> ?_⟩
 ·unfold rotM;rw[if_neg (by omega)]
 ·unfold rotM;rw[if_pos (by omega),if_pos (by omega)]
 ·unfold rotM;rw[if_pos (by omega),if_neg (by omega)]
theorem rot_left {M K:Nat→S38} {a m b i j:Nat} (h:RotAt M K a m b i j) (hj:0<j) (hij:j<i) (him:i≤m):RotAt M (swapM K (m - i) m j) a m b (i - j) j:=by
 obtain⟨h1,h2,h3⟩:=h
 refine⟨fun x hx=> ?_,fun x h4 h5=> ?_,fun x h4 h5=> ?_⟩
 ·unfold swapM
  by_cases e:m - i≤x∧x<m - i+j
  ·rw[if_pos e,h2 x e.1 e.2]
   congr 1;omega
  ·rw[if_neg e,if_neg (by omega)]
   exact h1 x (by omega)
 ·rw[h3 x (by omega) (by omega)]
  unfold swapM
  rw[if_neg (by omega),if_pos (by omega)]
  congr 1;omega
 ·rw[h3 x (by omega) (by omega)]
  unfold swapM
  rw[if_neg (by omega),if_neg (by omega)]
theorem rot_right {M K:Nat→S38} {a m b i j:Nat} (h:RotAt M K a m b i j) (hi:0<i) (hij:i<j) (him:i≤m):RotAt M (swapM K (m - i) (m+j - i) i) a m b i (j - i):=by
 obtain⟨h1,h2,h3⟩:=h
 refine⟨fun x hx=> ?_,fun x h4 h5=> ?_,fun x h4 h5=> ?_⟩
 ·unfold swapM
  rw[if_neg (by omega)]
  by_cases e:m+j - i≤x∧x<m+j - i+i
  ·rw[if_pos e,h3 x (by omega) (by omega)]
   congr 1;omega
  ·rw[if_neg e]
   exact h1 x (by omega)
 ·rw[h2 x (by omega) (by omega)]
  unfold swapM
  rw[if_neg (by omega),if_neg (by omega)]
 ·rw[h2 x (by omega) (by omega)]
  unfold swapM
  rw[if_pos (by omega)]
  congr 1;omega
theorem rot_last {M K:Nat→S38} {a m b i:Nat} (h:RotAt M K a m b i i) (him:i≤m) (x:Nat):swapM K (m - i) m i x=rotM M a m b x:=by
 obtain⟨h1,h2,h3⟩:=h
 unfold swapM
 by_cases e:m - i≤x∧x<m - i+i
 ·rw[if_pos e,h2 x e.1 e.2]
  congr 1;omega
 ·rw[if_neg e]
  by_cases e2:m≤x∧x<m+i
  ·rw[if_pos e2,h3 x (by omega) (by omega)]
   congr 1;omega
  ·rw[if_neg e2]
   exact h1 x (by omega)
set_option maxHeartbeats 2000000 in
set_option maxRecDepth 100000 in
theorem rotate_calls (g N cap:Nat) (M:Nat→S38) (a m b:Nat) (f:Value) (w:World) (h:Arr w g N M) (hN:N≤1000000) (ham:a<m) (hmb:m<b) (hb:b≤N):
  Calls Try.prog 175 #[.slice (some ⟨g,0,none⟩) N cap, .int .i64 (a:Int), .int .i64 (m:Int), .int .i64 (b:Int),f] w fun e w'=>e= .returned (.tuple #[])∧Arr w' g N (rotM M a m b)∧Fr w w' g:=by
 have HA:=Aside0.mk h
 clear h
 go_enter Try.func175,Try.ntmps175
 go_wp2
 go_loopw [10,11] (fun vi vj wr=> ∃ i j:Nat,0<i∧0<j∧i≤m - a∧j≤b - m∧vi= .int .i64 i∧vj= .int .i64 j∧(∃ K,Aside0 (RotAt M K a m b i j)∧Aside0 (Arr wr g N K))∧Aside0 (Fr w wr g)) (fun vi vj _=>(intOf vi).toNat+(intOf vj).toNat)
 case atStart=>exact⟨m - a,b - m,by omega,by omega,Nat.le_refl _,Nat.le_refl _,by rw[Int.natCast_sub (by omega)],by rw[Int.natCast_sub (by omega)],⟨M,⟨rot_start M (by omega) (by omega)⟩,HA⟩,⟨grow_refl _ _⟩⟩
 case round=>
  obtain⟨i,j,hi,hj,him,hjb,rfl,rfl,⟨K,HK,HA1⟩,HG⟩:=hrel
  have e0:(m:Int) - (i:Int)=((m - i:Nat):Int):=by omega
  have E0:=Aside0.mk e0
  by_cases hij:i=j
  ·subst hij
   have hne:((i:Int) != (i:Int))=false:=by simp
   clear e0
   go_wp2_with fail
   rw[E0.out]
   refine(swapRange_calls g N cap K (m - i) m i f _ HA1.out hN (by omega) (by omega)).mono ?_
   rintro e w1 ⟨rfl,ha1,hg1⟩
   have HA2:=Aside0.mk ha1
   have HG2:=Aside0.mk (grow_trans HG.out hg1)
   clear ha1 hg1
   go_wp2_with fail
   go_end0
   exact⟨rfl,HA2.out.congr fun x _=>(rot_last HK.out (by omega) x).symm,HG2.out⟩
  ·have hne:((i:Int) != (j:Int))=true:=by rw[bne_iff_ne];omega
   by_cases hlt:j<i
   ·have e1:(i:Int) - (j:Int)=((i - j:Nat):Int):=by omega
    have E1:=Aside0.mk e1
    clear e0 e1
    go_wp2_with fail
    rw[E0.out]
    refine(swapRange_calls g N cap K (m - i) m j f _ HA1.out hN (by omega) (by omega)).mono ?_
    rintro e w1 ⟨rfl,ha1,hg1⟩
    have HA2:=Aside0.mk ha1
    have HG2:=Aside0.mk (grow_trans HG.out hg1)
    clear ha1 hg1
    go_wp2_with fail
    go_roundw
    case rel=>exact⟨i - j,j,by omega,hj,by omega,hjb,by rw[E1.out],rfl,⟨_,⟨rot_left HK.out hj hlt (by omega)⟩,HA2⟩,HG2⟩
    case measure=>simp[intOf];omega
   ·have e1:(j:Int) - (i:Int)=((j - i:Nat):Int):=by omega
    have E1:=Aside0.mk e1
    have e2:(m:Int)+(j:Int) - (i:Int)=((m+j - i:Nat):Int):=by omega
    have E2:=Aside0.mk e2
    clear e0 e1 e2
    go_wp2_with fail
    rw[E0.out,E2.out]
    refine(swapRange_calls g N cap K (m - i) (m+j - i) i f _ HA1.out hN (by omega) (by omega)).mono ?_
    rintro e w1 ⟨rfl,ha1,hg1⟩
    have HA2:=Aside0.mk ha1
    have HG2:=Aside0.mk (grow_trans HG.out hg1)
    clear ha1 hg1
    go_wp2_with fail
    go_roundw
    case rel=>exact⟨i,j - i,hi,by omega,him,by omega,rfl,by rw[E1.out],⟨_,⟨rot_right HK.out hi (by omega) (by omega)⟩,HA2⟩,HG2⟩
    case measure=>simp[intOf];omega
end Go.Proofs.Ytkcpanpdipmmmaa.H
namespace Go.Proofs.Ytkcpanpdipmmmaa.H
open Go.RowKit Go.Proofs.YtkcpanpdipmmmaaW.PrintWords Go.Proofs.YtkcpanpdipmmmaaW.PrintLast Go.Proofs.YtkcpanpdipmmmaaW.PrintMore Go.Proofs.Ytkcpanpdipmmmaa.P
def Le (K:Nat→S38) (a b:Nat):Prop:= ∀ i j,a≤i→i<j→j<b→(K i).f0≤(K j).f0
def Stab (M:Nat→S38) (N:Nat):Prop:= ∀ i j,i<j→j<N→(M i).f0=(M j).f0→(M i).f1=false∧(M j).f1=true
def Small (M:Nat→S38) (N:Nat):Prop:= ∀ i,i<N→0≤(M i).f0∧(M i).f0≤1000000
def Mix (M K:Nat→S38) (a b:Nat):Prop:=
 (∀ x, ¬ (a≤x∧x<b)→K x=M x)∧(∀ x,a≤x→x<b→ ∃ y,a≤y∧y<b∧K x=M y)∧(∀ y,a≤y→y<b→ ∃ x,a≤x∧x<b∧K x=M y)
theorem mix_refl (M:Nat→S38) (a b:Nat):Mix M M a b:=⟨fun _ _=>rfl,fun x h1 h2=>⟨x,h1,h2,rfl⟩,fun x h1 h2=>⟨x,h1,h2,rfl⟩⟩
theorem mix_trans {M K L:Nat→S38} {a b:Nat} (h:Mix M K a b) (k:Mix K L a b):Mix M L a b:=by
 refine⟨fun x hx=>(k.1 x hx).trans (h.1 x hx),fun x h1 h2=> ?_,fun y h1 h2=> ?_⟩
 ·obtain⟨y,h3,h4,e⟩:=k.2.1 x h1 h2
  obtain⟨z,h5,h6,e2⟩:=h.2.1 y h3 h4
  exact⟨z,h5,h6,e.trans e2⟩
 ·obtain⟨x,h3,h4,e⟩:=h.2.2 y h1 h2
  obtain⟨z,h5,h6,e2⟩:=k.2.2 x h3 h4
  exact⟨z,h5,h6,e2.trans e⟩
theorem mix_wide {M K:Nat→S38} {a b a' b':Nat} (h:Mix M K a b) (ha:a'≤a) (hb:b≤b'):Mix M K a' b':=by
 refine⟨fun x hx=>h.1 x (by omega),fun x h1 h2=> ?_,fun y h1 h2=> ?_⟩
 ·by_cases e:a≤x∧x<b
  ·obtain⟨y,h3,h4,e⟩:=h.2.1 x e.1 e.2
   exact⟨y,by omega,by omega,e⟩
  ·exact⟨x,h1,h2,h.1 x e⟩
 ·by_cases e:a≤y∧y<b
  ·obtain⟨x,h3,h4,e⟩:=h.2.2 y e.1 e.2
   exact⟨x,by omega,by omega,e⟩
  ·exact⟨y,h1,h2,h.1 y e⟩
theorem mix_small {M K:Nat→S38} {a b N:Nat} (h:Mix M K a b) (hb:b≤N) (hs:Small M N):Small K N:=fun x hx=>by
 by_cases e:a≤x∧x<b
 ·obtain⟨y,h3,h4,e⟩:=h.2.1 x e.1 e.2
  rw[e];exact hs y (by omega)
 ·rw[h.1 x e];exact hs x hx
def sw (K:Nat→S38) (p x:Nat):S38:=if x=p then K (p+1) else if x=p+1 then K p else K x
theorem sw_put1 (K:Nat→S38) (p x:Nat):upd (upd K (p+1) (K p)) p (K (p+1)) x=sw K p x:=by
 unfold upd sw;rfl
theorem sw_put2 (K:Nat→S38) (p x:Nat):upd (upd K p (K (p+1))) (p+1) (K p) x=sw K p x:=by
 unfold upd sw
 by_cases e:x=p
 ·subst e;rw[if_neg (by omega),if_pos rfl,if_pos rfl]
 ·by_cases e2:x=p+1
  ·rw[if_pos e2,if_neg e,if_pos e2]
  ·rw[if_neg e2,if_neg e,if_neg e,if_neg e2]
theorem sw_at (K:Nat→S38) (p:Nat):sw K p p=K (p+1):=if_pos rfl
theorem sw_at1 (K:Nat→S38) (p:Nat):sw K p (p+1)=K p:=by unfold sw;rw[if_neg (by omega),if_pos rfl]
theorem sw_off (K:Nat→S38) (p x:Nat) (h:x≠p) (h1:x≠p+1):sw K p x=K x:=by unfold sw;rw[if_neg h,if_neg h1]
theorem sw_mix (K:Nat→S38) (p a b:Nat) (ha:a≤p) (hb:p+1<b):Mix K (sw K p) a b:=by
 refine⟨fun x hx=>sw_off K p x (by omega) (by omega),fun x h1 h2=> ?_,fun x h1 h2=> ?_⟩
 ·by_cases e:x=p
  ·subst e;exact⟨x+1,by omega,by omega,sw_at K x⟩
  ·by_cases e2:x=p+1
   ·subst e2;exact⟨p,by omega,by omega,sw_at1 K p⟩
   ·exact⟨x,h1,h2,sw_off K p x e e2⟩
 ·by_cases e:x=p
  ·subst e;exact⟨x+1,by omega,by omega,sw_at1 K x⟩
  ·by_cases e2:x=p+1
   ·subst e2;exact⟨p,by omega,by omega,sw_at K p⟩
   ·exact⟨x,h1,h2,sw_off K p x e e2⟩
theorem sw_stab {K:Nat→S38} {p N:Nat} (h:Stab K N) (hp:p+1<N) (hlt:(K (p+1)).f0<(K p).f0):Stab (sw K p) N:=by
 intro i j hij hj he
 have h0: ∀ x,x=p∨x=p+1∨(x≠p∧x≠p+1):=fun x=>by omega
 rcases h0 i with rfl|rfl|⟨i1,i2⟩<;>rcases h0 j with e|e|⟨j1,j2⟩
 ·omega
 ·subst e;rw[sw_at,sw_at1] at he;omega
 ·rw[sw_at,sw_off _ _ _ j1 j2] at he ⊢;exact h _ _ (by omega) hj he
 ·omega
 ·omega
 ·rw[sw_at1,sw_off _ _ _ j1 j2] at he ⊢;exact h _ _ (by omega) hj he
 ·subst e;rw[sw_at,sw_off _ _ _ i1 i2] at he ⊢;exact h _ _ (by omega) (by omega) he
 ·subst e;rw[sw_at1,sw_off _ _ _ i1 i2] at he ⊢;exact h _ _ (by omega) (by omega) he
 ·rw[sw_off _ _ _ i1 i2,sw_off _ _ _ j1 j2] at he ⊢;exact h _ _ hij hj he
def Hole (K:Nat→S38) (a k j:Nat):Prop:=
 (∀ x y,a≤x→x<y→y≤k→x≠j→y≠j→(K x).f0≤(K y).f0)∧(∀ y,j<y→y≤k→(K j).f0≤(K y).f0)
theorem hole_start {K:Nat→S38} {a k:Nat} (h:Le K a k):Hole K a k k:=⟨fun x y h1 h2 h3 h4 h5=>h x y h1 h2 (by omega),fun y h1 h2=>by omega⟩
theorem hole_stop {K:Nat→S38} {a k j:Nat} (h:Hole K a k j) (hj:j=a∨(a<j∧(K (j - 1)).f0≤(K j).f0)):Le K a (k+1):=by
 intro x y h1 h2 h3
 by_cases e1:x=j
 ·subst e1;exact h.2 y h2 (by omega)
 ·by_cases e2:y=j
  ·subst e2
   rcases hj with hj|⟨hj,hle⟩
   ·omega
   ·by_cases e3:x=y - 1
    ·subst e3;exact hle
    ·exact Int.le_trans (h.1 x (y - 1) h1 (by omega) (by omega) e1 (by omega)) hle
  ·exact h.1 x y h1 h2 (by omega) e1 e2
theorem hole_swap {K:Nat→S38} {a k p:Nat} (h:Hole K a k (p+1)) (ha:a≤p) (hk:p+1≤k) (hlt:(K (p+1)).f0<(K p).f0):Hole (sw K p) a k p:=by
 refine⟨fun x y h1 h2 h3 h4 h5=> ?_,fun y h1 h2=> ?_⟩
 ·by_cases e1:x=p+1
  ·subst e1;rw[sw_at1,sw_off _ _ _ h5 (by omega)];exact h.1 p y (by omega) (by omega) h3 (by omega) (by omega)
  ·by_cases e2:y=p+1
   ·subst e2;rw[sw_at1,sw_off _ _ _ h4 e1];exact h.1 x p h1 (by omega) (by omega) e1 (by omega)
   ·rw[sw_off _ _ _ h4 e1,sw_off _ _ _ h5 e2];exact h.1 x y h1 h2 h3 e1 e2
 ·rw[sw_at]
  by_cases e2:y=p+1
  ·subst e2;rw[sw_at1];omega
  ·rw[sw_off _ _ _ (by omega) e2];exact h.2 y (by omega) h2
def Sorted (M K:Nat→S38) (N a b:Nat):Prop:=Mix M K a b∧Stab K N∧Small K N∧Le K a b
theorem le_one (K:Nat→S38) (a b:Nat) (h:b≤a+1):Le K a b:=fun i j h1 h2 h3=>by omega
theorem rot_lo (M:Nat→S38) {s m e x:Nat} (h1:s≤x) (h2:x<s+(e - m)) (h3:m≤e) (h4:s≤m):rotM M s m e x=M (x+(m - s)):=by
 unfold rotM;rw[if_pos (by omega),if_pos h2]
theorem rot_hi (M:Nat→S38) {s m e x:Nat} (h1:s+(e - m)≤x) (h2:x<e) (h4:s≤m):rotM M s m e x=M (x - (e - m)):=by
 unfold rotM;rw[if_pos (by omega),if_neg (by omega)]
theorem rot_off (M:Nat→S38) {s m e x:Nat} (h: ¬ (s≤x∧x<e)):rotM M s m e x=M x:=by
 unfold rotM;rw[if_neg h]
theorem rot_mix (M:Nat→S38) {s m e:Nat} (h1:s≤m) (h2:m≤e):Mix M (rotM M s m e) s e:=by
 refine⟨fun x hx=>rot_off M hx,fun x h3 h4=> ?_,fun x h3 h4=> ?_⟩
 ·by_cases c:x<s+(e - m)
  ·exact⟨x+(m - s),by omega,by omega,rot_lo M h3 c h2 h1⟩
  ·exact⟨x - (e - m),by omega,by omega,rot_hi M (by omega) h4 h1⟩
 ·by_cases c:x<m
  ·refine⟨x+(e - m),by omega,by omega,?_⟩
   rw[rot_hi M (by omega) (by omega) h1];congr 1;omega
  ·refine⟨x - (m - s),by omega,by omega,?_⟩
   rw[rot_lo M (by omega) (by omega) h2 h1];congr 1;omega
theorem rot_stab {M:Nat→S38} {N s m e:Nat} (h:Stab M N) (h1:s≤m) (h2:m≤e) (he:e≤N) (hc: ∀ x y,s≤x→x<m→m≤y→y<e→(M y).f0<(M x).f0):Stab (rotM M s m e) N:=by
 intro i j hij hj heq
 have h0: ∀ x, ¬ (s≤x∧x<e)∨(s≤x∧x<s+(e - m))∨(s+(e - m)≤x∧x<e):=fun x=>by omega
 rcases h0 i with a1|⟨a1,a2⟩|⟨a1,a2⟩<;>rcases h0 j with b1|⟨b1,b2⟩|⟨b1,b2⟩
 ·rw[rot_off M a1,rot_off M b1] at heq ⊢;exact h _ _ hij hj heq
 ·rw[rot_off M a1,rot_lo M b1 b2 h2 h1] at heq ⊢;exact h _ _ (by omega) (by omega) heq
 ·rw[rot_off M a1,rot_hi M b1 b2 h1] at heq ⊢;exact h _ _ (by omega) (by omega) heq
 ·rw[rot_lo M a1 a2 h2 h1,rot_off M b1] at heq ⊢;exact h _ _ (by omega) (by omega) heq
 ·rw[rot_lo M a1 a2 h2 h1,rot_lo M b1 b2 h2 h1] at heq ⊢;exact h _ _ (by omega) (by omega) heq
 ·rw[rot_lo M a1 a2 h2 h1,rot_hi M b1 b2 h1] at heq;have:=hc (j - (e - m)) (i+(m - s)) (by omega) (by omega) (by omega) (by omega);omega
 ·rw[rot_hi M a1 a2 h1,rot_off M b1] at heq ⊢;exact h _ _ (by omega) (by omega) heq
 ·omega
 ·rw[rot_hi M a1 a2 h1,rot_hi M b1 b2 h1] at heq ⊢;exact h _ _ (by omega) (by omega) heq
theorem rot_none (M:Nat→S38) {s m e:Nat} (h1:s≤m) (h2:m≤e) (h:s=m∨m=e) (x:Nat):rotM M s m e x=M x:=by
 by_cases c:s≤x∧x<e
 ·rcases h with h|h
  ·subst h;rw[rot_lo M c.1 (by omega) h2 h1];congr 1;omega
  ·subst h;rw[rot_hi M (by omega) c.2 h1];congr 1;omega
 ·exact rot_off M c
theorem le_le {K:Nat→S38} {a b x y:Nat} (h:Le K a b) (h1:a≤x) (h2:x≤y) (h3:y<b):(K x).f0≤(K y).f0:=by
 by_cases e:x=y
 ·subst e;exact Int.le_refl _
 ·exact h x y h1 (by omega) h3
theorem le_join {K:Nat→S38} {a m b:Nat} (h1:Le K a m) (h2:Le K m b) (hc: ∀ x y,a≤x→x<m→m≤y→y<b→(K x).f0≤(K y).f0):Le K a b:=by
 intro i j hi hij hj
 by_cases e:j<m
 ·exact h1 i j hi hij e
 ·by_cases e2:i<m
  ·exact hc i j hi e2 (by omega) hj
  ·exact h2 i j (by omega) hij hj
theorem rot_one_lo {M:Nat→S38} {a b i:Nat} (h:Le M (a+1) b) (h1:a+1≤i) (h2:i≤b) (hlt: ∀ y,a+1≤y→y<i→(M y).f0<(M a).f0) (hge: ∀ y,i≤y→y<b→(M a).f0≤(M y).f0):Le (rotM M a (a+1) i) a b:=by
 have lo: ∀ x,a≤x→x+1<i→rotM M a (a+1) i x=M (x+1):=fun x h3 h4=>by rw[rot_lo M h3 (by omega) h1 (by omega)];congr 1;omega
 have at_:rotM M a (a+1) i (i - 1)=M a:=by rw[rot_hi M (by omega) (by omega) (by omega)];congr 1;omega
 have hi: ∀ x,i≤x→rotM M a (a+1) i x=M x:=fun x h3=>rot_off M (by omega)
 intro x y h3 h4 h5
 by_cases c1:x+1<i
 ·rw[lo x h3 c1]
  by_cases c2:y+1<i
  ·rw[lo y (by omega) c2];exact h _ _ (by omega) (by omega) (by omega)
  ·by_cases c3:y=i - 1
   ·subst c3;rw[at_];have:=hlt (x+1) (by omega) c1;omega
   ·rw[hi y (by omega)];exact h _ _ (by omega) (by omega) (by omega)
 ·by_cases c2:x=i - 1
  ·subst c2;rw[at_,hi y (by omega)];exact hge y (by omega) h5
  ·rw[hi x (by omega),hi y (by omega)];exact h _ _ (by omega) h4 h5
theorem rot_one_hi {M:Nat→S38} {a m i:Nat} (h:Le M a m) (h1:a≤i) (h2:i≤m) (hle: ∀ y,a≤y→y<i→(M y).f0≤(M m).f0) (hgt: ∀ y,i≤y→y<m→(M m).f0<(M y).f0):Le (rotM M i m (m+1)) a (m+1):=by
 have lo: ∀ x,x<i→rotM M i m (m+1) x=M x:=fun x h3=>rot_off M (by omega)
 have at_:rotM M i m (m+1) i=M m:=by rw[rot_lo M (Nat.le_refl _) (by omega) (by omega) h2];congr 1;omega
 have hi: ∀ x,i<x→x<m+1→rotM M i m (m+1) x=M (x - 1):=fun x h3 h4=>by rw[rot_hi M (by omega) h4 h2];congr 1;omega
 intro x y h3 h4 h5
 by_cases c1:x<i
 ·rw[lo x c1]
  by_cases c2:y<i
  ·rw[lo y c2];exact h _ _ h3 h4 (by omega)
  ·by_cases c3:y=i
   ·subst c3;rw[at_];exact hle x h3 c1
   ·rw[hi y (by omega) h5];exact h _ _ h3 (by omega) (by omega)
 ·by_cases c2:x=i
  ·subst c2;rw[at_,hi y h4 h5];have:=hgt (y - 1) (by omega) (by omega);omega
  ·rw[hi x (by omega) (by omega),hi y (by omega) h5];exact h _ _ (by omega) (by omega) (by omega)
theorem sym_rot {M:Nat→S38} {a m b mid s e N:Nat} (h1:Le M a m) (h2:Le M m b) (has:a≤s) (hsm:s≤m) (hme:m≤e) (heb:e≤b) (hsum:s+e=mid+m) (hsmid:s≤mid) (hmide:mid≤e)
  (hge:a<s→e<b→(M (s - 1)).f0≤(M e).f0) (hlt:s<m→m<e→(M (e - 1)).f0<(M s).f0) (hst:Stab M N) (hb:b≤N):
  Stab (rotM M s m e) N∧Le (rotM M s m e) a s∧Le (rotM M s m e) s mid∧Le (rotM M s m e) mid e∧Le (rotM M s m e) e b∧ ∀ x y,a≤x→x<mid→mid≤y→y<b→(rotM M s m e x).f0≤(rotM M s m e y).f0:=by
 have hx: ∀ x y,s≤x→x<m→m≤y→y<e→(M y).f0<(M x).f0:=fun x y h3 h4 h5 h6=>by
  have k1:=hlt (by omega) (by omega)
  have k2:(M y).f0≤(M (e - 1)).f0:=le_le h2 h5 (by omega) (by omega)
  have k3:(M s).f0≤(M x).f0:=le_le h1 has h3 h4
  omega
 have hy: ∀ x y,a≤x→x<s→e≤y→y<b→(M x).f0≤(M y).f0:=fun x y h3 h4 h5 h6=>by
  have k1:=hge (by omega) (by omega)
  have k2:(M x).f0≤(M (s - 1)).f0:=le_le h1 h3 (by omega) (by omega)
  have k3:(M e).f0≤(M y).f0:=le_le h2 hme h5 h6
  omega
 have p1: ∀ x,x<s→rotM M s m e x=M x:=fun x h=>rot_off M (by omega)
 have p2: ∀ x,s≤x→x<mid→rotM M s m e x=M (x+(m - s)):=fun x h3 h4=>rot_lo M h3 (by omega) hme hsm
 have p3: ∀ x,mid≤x→x<e→rotM M s m e x=M (x - (e - m)):=fun x h3 h4=>rot_hi M (by omega) h4 hsm
 have p4: ∀ x,e≤x→rotM M s m e x=M x:=fun x h=>rot_off M (by omega)
 refine⟨rot_stab hst hsm hme (by omega) hx,?_,?_,?_,?_,?_⟩
 ·intro x y h3 h4 h5;rw[p1 x (by omega),p1 y h5];exact h1 _ _ h3 h4 (by omega)
 ·intro x y h3 h4 h5;rw[p2 x h3 (by omega),p2 y (by omega) h5];exact h2 _ _ (by omega) (by omega) (by omega)
 ·intro x y h3 h4 h5;rw[p3 x h3 (by omega),p3 y (by omega) h5];exact h1 _ _ (by omega) (by omega) (by omega)
 ·intro x y h3 h4 h5;rw[p4 x h3,p4 y (by omega)];exact h2 _ _ (by omega) h4 h5
 ·intro x y h3 h4 h5 h6
  by_cases c1:x<s
  ·rw[p1 x c1]
   by_cases c2:y<e
   ·rw[p3 y h5 c2];exact le_le h1 h3 (by omega) (by omega)
   ·rw[p4 y (by omega)];exact hy x y h3 c1 (by omega) h6
  ·rw[p2 x (by omega) h4]
   by_cases c2:y<e
   ·rw[p3 y h5 c2];exact Int.le_of_lt (hx _ _ (by omega) (by omega) (by omega) (by omega))
   ·rw[p4 y (by omega)];exact le_le h2 (by omega) (by omega) h6
theorem mix_cross {K L:Nat→S38} {a m b:Nat} (hc: ∀ x y,a≤x→x<m→m≤y→y<b→(K x).f0≤(K y).f0) (h:Mix K L a m∨Mix K L m b):
  ∀ x y,a≤x→x<m→m≤y→y<b→(L x).f0≤(L y).f0:=by
 intro x y h1 h2 h3 h4
 rcases h with h|h
 ·obtain⟨z,h5,h6,e⟩:=h.2.1 x h1 h2
  rw[e,h.1 y (by omega)];exact hc z y h5 h6 h3 h4
 ·obtain⟨z,h5,h6,e⟩:=h.2.1 y h3 h4
  rw[e,h.1 x (by omega)];exact hc x z h1 h2 h5 h6
theorem mix_le {K L:Nat→S38} {a b c d:Nat} (h:Mix K L c d) (hd:b≤c∨d≤a) (hl:Le K a b):Le L a b:=fun i j h1 h2 h3=>by
 rw[h.1 i (by omega),h.1 j (by omega)];exact hl i j h1 h2 h3
theorem sw_rot_lo (M:Nat→S38) {a k:Nat} (h:a≤k) (x:Nat):sw (rotM M a (a+1) (k+1)) k x=rotM M a (a+1) (k+2) x:=by
 unfold sw rotM
 by_cases e1:x=k
 ·subst e1;rw[if_pos rfl,if_neg (by omega),if_pos (by omega),if_pos (by omega)];congr 1;omega
 ·rw[if_neg e1]
  by_cases e2:x=k+1
  ·subst e2;rw[if_pos rfl,if_pos (by omega),if_neg (by omega),if_pos (by omega),if_neg (by omega)];congr 1;omega
  ·rw[if_neg e2]
   by_cases e3:a≤x∧x<k
   ·rw[if_pos (by omega),if_pos (by omega),if_pos (by omega),if_pos (by omega)]
   ·rw[if_neg (by omega),if_neg (by omega)]
theorem sw_rot_hi (M:Nat→S38) {k m:Nat} (h:k<m) (x:Nat):sw (rotM M (k+1) m (m+1)) k x=rotM M k m (m+1) x:=by
 unfold sw rotM
 by_cases e1:x=k
 ·subst e1;rw[if_pos rfl,if_pos (by omega),if_pos (by omega),if_pos (by omega),if_pos (by omega)];congr 1;omega
 ·rw[if_neg e1]
  by_cases e2:x=k+1
  ·subst e2;rw[if_pos rfl,if_neg (by omega),if_pos (by omega),if_neg (by omega)];congr 1;omega
  ·rw[if_neg e2]
   by_cases e3:k≤x∧x<m+1
   ·rw[if_pos (by omega),if_neg (by omega),if_pos (by omega),if_neg (by omega)]
   ·rw[if_neg (by omega),if_neg (by omega)]
end Go.Proofs.Ytkcpanpdipmmmaa.H
namespace Go.Proofs.Ytkcpanpdipmmmaa.P
open Go.RowKit Go.Proofs.YtkcpanpdipmmmaaW.PrintWords Go.Proofs.YtkcpanpdipmmmaaW.PrintLast Go.Proofs.YtkcpanpdipmmmaaW.PrintMore
attribute [local go_sem] max2_int min2_int max_two min_two max_three min_three max_four min_four
def adj_from.f (a0_0:Int) (a0_1:Int) (a0_2:Int) (a0_3:Int):Option (Int):=some a0_0
set_option maxHeartbeats 8000000 in
set_option maxRecDepth 100000 in
theorem adj_from.calls (a0_0:Int) (a0_1:Int) (a0_2:Int) (a0_3:Int) (r:Int) (w:World) (h:adj_from.f a0_0 a0_1 a0_2 a0_3=some r):
  Calls Try.prog 160 #[.agg #[.int .i64 a0_0, .int .i64 a0_1, .int .i64 a0_2, .int .i64 a0_3]] w fun e w'=>e= .returned (.int .i64 r)∧Below w.heap.size w w':=by
 have hu74:=Try.underlying74
 have HB:=Aside0.mk (Below.refl w.heap.size w)
 have H:(some a0_0)=some r:=h
 clear h
 obtain rfl:=Option.some.inj H
 go_enter Try.func160,Try.ntmps160
 go_wp2_with (first|((with_reducible refine gate_dst (N:=1) rfl ?_);refine box_event ?hg (N:=1) ?hd (cs:= #[.int .i64 a0_0, .int .i64 a0_1, .int .i64 a0_2, .int .i64 a0_3]) (t:=74) ?hr ?_;(case hd=>rfl);(case hg=>rfl);(case hr=>first|(go_simp;done)|(go_simp;rfl));intro gb192 hg w2 hbox hb;have n0_:=Aside0.mk (below_step (by repeat(first|(with_reducible first|exact HB.out|apply below_alloc|apply pw_below_drewN|apply below_drew1)|exact HB.out)) hb);have n1_:=Aside0.mk (hbox);have n2_:=Aside0.mk ((by rw[hg];exact(below_size (by repeat(first|(with_reducible first|exact HB.out|apply below_alloc|apply pw_below_drewN|apply below_drew1)|exact HB.out))):w.heap.size≤gb192));have n3_:=Aside0.mk ((by rw[hg];exact(below_size (by repeat(first|(with_reducible first|exact HB.out|apply below_alloc|apply pw_below_drewN|apply below_drew1)|exact HB.out))):w.heap.size≤gb192));clear HB;have HB:=n0_;have BK192:=n1_;have GW192:=n2_;have GE192:=n3_;clear n0_ n1_ n2_ n3_;clear hb hbox hg;have hcz3_0:w2.cell? ⟨gb192,0,none⟩=some (.int .i64 a0_0):=(blk_cell BK192.out 0).trans rfl;have hcz3_1:w2.cell? ⟨gb192,1,none⟩=some (.int .i64 a0_1):=(blk_cell BK192.out 1).trans rfl;have hcz3_2:w2.cell? ⟨gb192,2,none⟩=some (.int .i64 a0_2):=(blk_cell BK192.out 2).trans rfl;have hcz3_3:w2.cell? ⟨gb192,3,none⟩=some (.int .i64 a0_3):=(blk_cell BK192.out 3).trans rfl;have hfz3_0:=blk_frozen BK192.out 0;have hfz3_1:=blk_frozen BK192.out 1;have hfz3_2:=blk_frozen BK192.out 2;have hfz3_3:=blk_frozen BK192.out 3))
 go_ret
 exact⟨by first|rfl|(simp[errW_none,errW_some]<;>rfl)|(simp[*,errW_none,errW_some]<;>rfl),by repeat(first|(with_reducible first|exact HB.out|apply below_alloc|apply pw_below_drewN|apply below_drew1|refine below_set ?_ GE192.out)|exact HB.out)⟩
end Go.Proofs.Ytkcpanpdipmmmaa.P
namespace Go.Proofs.Ytkcpanpdipmmmaa.P
open Go.RowKit Go.Proofs.YtkcpanpdipmmmaaW.PrintWords Go.Proofs.YtkcpanpdipmmmaaW.PrintLast Go.Proofs.YtkcpanpdipmmmaaW.PrintMore
attribute [local go_sem] max2_int min2_int max_two min_two max_three min_three max_four min_four
def adj_to.f (a0_0:Int) (a0_1:Int) (a0_2:Int) (a0_3:Int):Option (Int):=some a0_1
set_option maxHeartbeats 8000000 in
set_option maxRecDepth 100000 in
theorem adj_to.calls (a0_0:Int) (a0_1:Int) (a0_2:Int) (a0_3:Int) (r:Int) (w:World) (h:adj_to.f a0_0 a0_1 a0_2 a0_3=some r):
  Calls Try.prog 161 #[.agg #[.int .i64 a0_0, .int .i64 a0_1, .int .i64 a0_2, .int .i64 a0_3]] w fun e w'=>e= .returned (.int .i64 r)∧Below w.heap.size w w':=by
 have hu74:=Try.underlying74
 have HB:=Aside0.mk (Below.refl w.heap.size w)
 have H:(some a0_1)=some r:=h
 clear h
 obtain rfl:=Option.some.inj H
 go_enter Try.func161,Try.ntmps161
 go_wp2_with (first|((with_reducible refine gate_dst (N:=1) rfl ?_);refine box_event ?hg (N:=1) ?hd (cs:= #[.int .i64 a0_0, .int .i64 a0_1, .int .i64 a0_2, .int .i64 a0_3]) (t:=74) ?hr ?_;(case hd=>rfl);(case hg=>rfl);(case hr=>first|(go_simp;done)|(go_simp;rfl));intro gb194 hg w2 hbox hb;have n0_:=Aside0.mk (below_step (by repeat(first|(with_reducible first|exact HB.out|apply below_alloc|apply pw_below_drewN|apply below_drew1)|exact HB.out)) hb);have n1_:=Aside0.mk (hbox);have n2_:=Aside0.mk ((by rw[hg];exact(below_size (by repeat(first|(with_reducible first|exact HB.out|apply below_alloc|apply pw_below_drewN|apply below_drew1)|exact HB.out))):w.heap.size≤gb194));have n3_:=Aside0.mk ((by rw[hg];exact(below_size (by repeat(first|(with_reducible first|exact HB.out|apply below_alloc|apply pw_below_drewN|apply below_drew1)|exact HB.out))):w.heap.size≤gb194));clear HB;have HB:=n0_;have BK194:=n1_;have GW194:=n2_;have GE194:=n3_;clear n0_ n1_ n2_ n3_;clear hb hbox hg;have hcz3_0:w2.cell? ⟨gb194,0,none⟩=some (.int .i64 a0_0):=(blk_cell BK194.out 0).trans rfl;have hcz3_1:w2.cell? ⟨gb194,1,none⟩=some (.int .i64 a0_1):=(blk_cell BK194.out 1).trans rfl;have hcz3_2:w2.cell? ⟨gb194,2,none⟩=some (.int .i64 a0_2):=(blk_cell BK194.out 2).trans rfl;have hcz3_3:w2.cell? ⟨gb194,3,none⟩=some (.int .i64 a0_3):=(blk_cell BK194.out 3).trans rfl;have hfz3_0:=blk_frozen BK194.out 0;have hfz3_1:=blk_frozen BK194.out 1;have hfz3_2:=blk_frozen BK194.out 2;have hfz3_3:=blk_frozen BK194.out 3))
 go_ret
 exact⟨by first|rfl|(simp[errW_none,errW_some]<;>rfl)|(simp[*,errW_none,errW_some]<;>rfl),by repeat(first|(with_reducible first|exact HB.out|apply below_alloc|apply pw_below_drewN|apply below_drew1|refine below_set ?_ GE194.out)|exact HB.out)⟩
end Go.Proofs.Ytkcpanpdipmmmaa.P
