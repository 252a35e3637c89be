/- What the law's row needs of these texts, taken out of them by wip/tool/mini.py: P68 QSoughtLaw QWayRef P69 P82 P87. -/
import Derived.Test.YtkcpanpdipmmmaaMhjahip
import Derived.Test.YtkcpanpdipmmmaaMndnemp
import Derived.Test.YtkcpanpdipmmmaaMckogln
import Derived.Test.YtkcpanpdipmmmaaMfeeaji
import Derived.Deep.RegionHeld3
import Derived.Deep.DeepCutAuto
set_option linter.unusedVariables false
set_option linter.unusedSimpArgs false
namespace Go.Proofs.Ytkcpanpdipmmmaa.P
open Go.RowKit Go.Proofs.YtkcpanpdipmmmaaW.PrintWords Go.Proofs.YtkcpanpdipmmmaaW.PrintLast Go.Proofs.YtkcpanpdipmmmaaW.PrintMore
attribute [local go_sem] max2_int min2_int max_two min_two max_three min_three max_four min_four
mutual
def ebbtideref08_sought.l0:Nat→List (S38)→Int→Int→Bool→List (S74)→List Int→List (S38)→Option (List Int × (List (S38)))
 |0,_,_,_,_,_,_,_=>none
 |k+1,x2,x8,x450000,x450001,x450002,x452000,x452001=>if x8<(x452000.length:Int) then(ebbtideref08_sought.l1 k x2 x8 0 x450000 x450001 x450002 x452000 x452001) else(some (x452000,x452001))
def ebbtideref08_sought.l1:Nat→List (S38)→Int→Int→Int→Bool→List (S74)→List Int→List (S38)→Option (List Int × (List (S38)))
 |0,_,_,_,_,_,_,_,_=>none
 |k+1,x2,x8,x9,x450000,x450001,x450002,x452000,x452001=>if x9<(x2.length:Int) then(if 0≤x9 then((ebbtideref07_From.f x450000 x450001 x450002 ((rd_T38 x2 x9).f0) ((rd_T38 x2 x9).f1)).bind fun t459=>(if 0≤x8 then(if x8<(x452000.length:Int) then(if t459=(rd x452000 x8) then((ebbtideref07_To.f x450000 x450001 x450002 ((rd_T38 x2 x9).f0) ((rd_T38 x2 x9).f1)).bind fun t462=>((ebbtideref08_found_has.f k x452000 x452001 t462).bind fun t463=>(if t463<0 then((ebbtideref07_To.f x450000 x450001 x450002 ((rd_T38 x2 x9).f0) ((rd_T38 x2 x9).f1)).bind fun t465=>(if x452000.length<17592186044416 then(if x452001.length<8796093022208 then(ebbtideref08_sought.l1 k x2 x8 (wrap64 (x9+1)) x450000 x450001 x450002 (x452000 ++ [t465]) (x452001 ++ [(⟨(rd_T38 x2 x9).f0,(rd_T38 x2 x9).f1⟩:S38)])) else(none)) else(none))) else(ebbtideref08_sought.l1 k x2 x8 (wrap64 (x9+1)) x450000 x450001 x450002 x452000 x452001)))) else(ebbtideref08_sought.l1 k x2 x8 (wrap64 (x9+1)) x450000 x450001 x450002 x452000 x452001)) else(none)) else(none))) else(none)) else(ebbtideref08_sought.l0 k x2 (wrap64 (x8+1)) x450000 x450001 x450002 x452000 x452001)
end
def ebbtideref08_sought.f (k:Nat) (a0_0:Int) (a0_1:Bool) (l0_2:List (S74)) (a1:Int) (l2:List (S38)):Option (List Int × (List (S38))):=if ([]:List Int).length<17592186044416 then(if ([]:List (S38)).length<8796093022208 then(ebbtideref08_sought.l0 k l2 0 a0_0 a0_1 l0_2 (([]:List Int) ++ [a1]) (([]:List (S38)) ++ [(⟨0,false⟩:S38)])) else(none)) else(none)
def ebbtideref08_sought.T10:Bool × List (List Nat × List Nat):=(true,[([],[]),([],[]),([],[]),([1,2],[1,2]),([3],[3]),([0,4],[0,4]),([],[]),([6],[6]),([],[]),([7,8],[7,8]),([9],[9]),([5,10],[5,10]),([11,5],[11]),([12],[12]),([12],[12]),([12],[12]),([12],[12]),([15,16,12],[12,15,16]),([17,12],[12,17]),([14,18,12,12],[12,14,18]),([13,19,19,12],[12,13,19]),([20,12],[12,20]),([12,21],[12,21])])
def ebbtideref08_sought.B10:List Nat:=[0,0,0,6,14,31,0,64,0,448,960,2047,4095,8191,8191,8191,8191,106495,237567,516095,1048575,2097151,4194303]
theorem ebbtideref08_sought.tab10:rtab .any (opsOf Try.f146 10)=ebbtideref08_sought.T10:=by kernel_rfl
theorem ebbtideref08_sought.bits10:waitsOk ebbtideref08_sought.T10.2 ebbtideref08_sought.B10=true:=by kernel_rfl
def ebbtideref08_sought.T11:Bool × List (List Nat × List Nat):=(true,[([],[]),([0],[0]),([],[]),([],[]),([],[]),([3,4],[3,4]),([5],[5]),([2,6],[2,6]),([7],[7]),([1,8,7],[1,8]),([0,1,2,3,4,5,6,7,8,9],[]),([10,9,9,0,1,2,3,4,5,6,7,8,9],[9,10])])
def ebbtideref08_sought.B11:List Nat:=[0,1,0,0,0,24,56,124,252,511,1023,2047]
theorem ebbtideref08_sought.tab11:rtab .any (opsOf Try.f146 11)=ebbtideref08_sought.T11:=by kernel_rfl
theorem ebbtideref08_sought.bits11:waitsOk ebbtideref08_sought.T11.2 ebbtideref08_sought.B11=true:=by kernel_rfl
def ebbtideref08_sought.T12:Bool × List (List Nat × List Nat):=(true,[([],[]),([0],[0]),([],[]),([],[]),([2,3],[2,3]),([4],[4]),([5],[5]),([1,6],[1,6]),([0,1,2,3,4,5,6,7],[]),([8,7,7,0,1,2,3,4,5,6,7],[7,8])])
def ebbtideref08_sought.B12:List Nat:=[0,1,0,0,12,28,60,127,255,511]
theorem ebbtideref08_sought.tab12:rtab .any (opsOf Try.f146 12)=ebbtideref08_sought.T12:=by kernel_rfl
theorem ebbtideref08_sought.bits12:waitsOk ebbtideref08_sought.T12.2 ebbtideref08_sought.B12=true:=by kernel_rfl
set_option maxHeartbeats 8000000 in
set_option maxRecDepth 100000 in
theorem ebbtideref08_sought.calls (k:Nat) (a0_0:Int) (a0_1:Bool) (A0_2:Option Addr) (c0_2:Nat) (l0_2:List (S74)) (a1:Int) (A2:Option Addr) (c2:Nat) (l2:List (S38)) (r1:List Int) (r2:List (S38)) (w:World) (hr0_2:Kd.C k74 w A0_2 l0_2.length l0_2) (hc0_2:l0_2.length≤c0_2) (hr2:Kd.C k38 w A2 l2.length l2) (hc2:l2.length≤c2) (h:ebbtideref08_sought.f k a0_0 a0_1 l0_2 a1 l2=some (r1,r2)):
  Calls Try.prog 146 #[.agg #[.int .i64 a0_0, .bool a0_1, .slice A0_2 l0_2.length c0_2], .int .i64 a1, .slice A2 l2.length c2] w fun e w'=> ∃ v0_ v1_:Value,e= .returned (.agg #[v0_,v1_])∧Kd.R (Kd.int .i64) 3 w' w.heap.size (fun _=>True) v0_ r1∧Kd.R k38 38 w' w.heap.size (fun _=>True) v1_ r2∧Below w.heap.size w w':=by
 have hu24:=Try.underlying24
 have hu161:=Try.underlying161
 have hu38:=Try.underlying38
 have HR0_2:=Aside0.mk hr0_2
 have HC0_2:=Aside0.mk hc0_2
 clear hr0_2 hc0_2
 have HR2:=Aside0.mk hr2
 have HC2:=Aside0.mk hc2
 clear hr2 hc2
 have HB:=Aside0.mk (Below.refl w.heap.size w)
 have H:(if ([]:List Int).length<17592186044416 then(if ([]:List (S38)).length<8796093022208 then(ebbtideref08_sought.l0 k l2 0 a0_0 a0_1 l0_2 (([]:List Int) ++ [a1]) (([]:List (S38)) ++ [(⟨0,false⟩:S38)])) else(none)) else(none))=some (r1,r2):=h
 clear h
 by_cases c4:([]:List Int).length<17592186044416
 rotate_left
 ·rw[if_neg c4] at H
  exact absurd H (by simp)
 rw[if_pos c4] at H
 have LMc4:=Aside0.mk c4
 clear c4
 obtain⟨y452,hy452⟩: ∃ y_:List Int,y_=(([]:List Int) ++ [a1]):=⟨_,rfl⟩
 replace H:(if ([]:List (S38)).length<8796093022208 then(ebbtideref08_sought.l0 k l2 0 a0_0 a0_1 l0_2 y452 (([]:List (S38)) ++ [(⟨0,false⟩:S38)])) else(none))=some (r1,r2):=by first|(rw[hy452];with_reducible exact H)|(have H2_:=(Option.bind_some _ _).symm.trans H;rw[hy452];with_reducible exact H2_)|(have H2_:=(Option.bind_some _ _).symm.trans H;with_reducible exact H2_)|with_reducible exact H|(rw[hy452];exact H)|exact H
 have Ny452:=Aside0.mk hy452
 clear hy452
 by_cases c5:([]:List (S38)).length<8796093022208
 rotate_left
 ·rw[if_neg c5] at H
  exact absurd H (by simp)
 rw[if_pos c5] at H
 have LMc5:=Aside0.mk c5
 clear c5
 obtain⟨y455,hy455⟩: ∃ y_:List (S38),y_=(([]:List (S38)) ++ [(⟨0,false⟩:S38)]):=⟨_,rfl⟩
 replace H:(ebbtideref08_sought.l0 k l2 0 a0_0 a0_1 l0_2 y452 y455)=some (r1,r2):=by first|(rw[hy455];with_reducible exact H)|(have H2_:=(Option.bind_some _ _).symm.trans H;rw[hy455];with_reducible exact H2_)|(have H2_:=(Option.bind_some _ _).symm.trans H;with_reducible exact H2_)|with_reducible exact H|(rw[hy455];exact H)|exact H
 have Ny455:=Aside0.mk hy455
 clear hy455
 have H':=Aside0.mk H
 clear H
 go_enter Try.func146,Try.ntmps146
 go_wp2_with (first|((with_reducible refine gate_dst (N:=3) rfl ?_);refine box_event ?hg (N:=3) ?hd (cs:= #[.int .i64 a0_0, .bool a0_1, .slice A0_2 l0_2.length c0_2]) (t:=24) ?hr ?_;(case hd=>rfl);(case hg=>rfl);(case hr=>first|(go_simp;done)|(go_simp;rfl));intro gb449 hg w6 hbox hb;have n0_:=Aside0.mk (below_step (by repeat(first|(with_reducible first|exact HB.out|apply below_alloc|apply pw_below_drewN|apply below_drew1)|exact HB.out)) hb);have n1_:=Aside0.mk (hbox);have n2_:=Aside0.mk ((by rw[hg];exact(below_size (by repeat(first|(with_reducible first|exact HB.out|apply below_alloc|apply pw_below_drewN|apply below_drew1)|exact HB.out))):w.heap.size≤gb449));have n3_:=Aside0.mk ((by rw[hg];exact(below_size (by repeat(first|(with_reducible first|exact HB.out|apply below_alloc|apply pw_below_drewN|apply below_drew1)|exact HB.out))):w.heap.size≤gb449));clear HB;have HB:=n0_;have BK449:=n1_;have GW449:=n2_;have GE449:=n3_;clear n0_ n1_ n2_ n3_;clear hb hbox hg)|((with_reducible refine gate_dst (N:=6) rfl ?_);refine box_event ?hg (N:=6) ?hd (cs:= #[.slice none 0 0, .slice none 0 0]) (t:=161) ?hr ?_;(case hd=>rfl);(case hg=>rfl);(case hr=>first|(go_simp;done)|(go_simp;rfl));intro gb450 hg w7 hbox hb;have n0_:=Aside0.mk (blk_below (g:=gb449) (o:= .cells #[.int .i64 a0_0, .bool a0_1, .slice A0_2 l0_2.length c0_2] 24 (0,0)) (by(with_reducible repeat(first|refine blk_drewN ?_ _|refine blk_drew ?_|refine blk_alloc ?_ _));exact BK449.out) hb);have n1_:=Aside0.mk (below_step (by repeat(first|(with_reducible first|exact HB.out|apply below_alloc|apply pw_below_drewN|apply below_drew1|refine below_set ?_ GE449.out)|exact HB.out)) hb);have n2_:=Aside0.mk (hbox);have n3_:=Aside0.mk ((by rw[hg];exact(below_size (by repeat(first|(with_reducible first|exact HB.out|apply below_alloc|apply pw_below_drewN|apply below_drew1|refine below_set ?_ GE449.out)|exact HB.out))):w.heap.size≤gb450));have n4_:=Aside0.mk ((by rw[hg];exact(below_size (by repeat(first|(with_reducible first|exact HB.out|apply below_alloc|apply pw_below_drewN|apply below_drew1|refine below_set ?_ GE449.out)|exact HB.out))):w.heap.size≤gb450));have n5_:=Aside0.mk ((by rw[hg];exact Nat.ne_of_lt (blk_lt (g:=gb449) (o:= .cells #[.int .i64 a0_0, .bool a0_1, .slice A0_2 l0_2.length c0_2] 24 (0,0)) (by(with_reducible repeat(first|refine blk_drewN ?_ _|refine blk_drew ?_|refine blk_alloc ?_ _));exact BK449.out)):gb449≠gb450));have n6_:=Aside0.mk ((by rw[hg];exact Nat.ne_of_gt (blk_lt (g:=gb449) (o:= .cells #[.int .i64 a0_0, .bool a0_1, .slice A0_2 l0_2.length c0_2] 24 (0,0)) (by(with_reducible repeat(first|refine blk_drewN ?_ _|refine blk_drew ?_|refine blk_alloc ?_ _));exact BK449.out)):gb450≠gb449));clear BK449;clear HB;have BK449:=n0_;have HB:=n1_;have BK450:=n2_;have GW450:=n3_;have GE450:=n4_;have NB449_450:=n5_;have NB450_449:=n6_;clear n0_ n1_ n2_ n3_ n4_ n5_ n6_;clear hb hbox hg)|((with_reducible refine gate_dst (N:=7) rfl ?_);refine box_event ?hg (N:=7) ?hd (cs:= #[.slice none 0 0, .slice none 0 0]) (t:=161) ?hr ?_;(case hd=>rfl);(case hg=>rfl);(case hr=>first|(go_simp;done)|(go_simp;rfl));intro gb451 hg w8 hbox hb;have n0_:=Aside0.mk (blk_below (g:=gb449) (o:= .cells #[.int .i64 a0_0, .bool a0_1, .slice A0_2 l0_2.length c0_2] 24 (0,0)) (by(with_reducible repeat(first|refine blk_drewN ?_ _|refine blk_drew ?_|refine blk_alloc ?_ _));exact BK449.out) hb);have n1_:=Aside0.mk (blk_below (g:=gb450) (o:= .cells #[.slice none 0 0, .slice none 0 0] 161 (0,0)) (by(with_reducible repeat(first|refine blk_drewN ?_ _|refine blk_drew ?_|refine blk_alloc ?_ _));exact BK450.out) hb);have n2_:=Aside0.mk (below_step (by repeat(first|(with_reducible first|exact HB.out|apply below_alloc|apply pw_below_drewN|apply below_drew1|refine below_set ?_ GE449.out|refine below_set ?_ GE450.out)|exact HB.out)) hb);have n3_:=Aside0.mk (hbox);have n4_:=Aside0.mk ((by rw[hg];exact(below_size (by repeat(first|(with_reducible first|exact HB.out|apply below_alloc|apply pw_below_drewN|apply below_drew1|refine below_set ?_ GE449.out|refine below_set ?_ GE450.out)|exact HB.out))):w.heap.size≤gb451));have n5_:=Aside0.mk ((by rw[hg];exact(below_size (by repeat(first|(with_reducible first|exact HB.out|apply below_alloc|apply pw_below_drewN|apply below_drew1|refine below_set ?_ GE449.out|refine below_set ?_ GE450.out)|exact HB.out))):w.heap.size≤gb451));have n6_:=Aside0.mk ((by rw[hg];exact Nat.ne_of_lt (blk_lt (g:=gb449) (o:= .cells #[.int .i64 a0_0, .bool a0_1, .slice A0_2 l0_2.length c0_2] 24 (0,0)) (by(with_reducible repeat(first|refine blk_drewN ?_ _|refine blk_drew ?_|refine blk_alloc ?_ _));exact BK449.out)):gb449≠gb451));have n7_:=Aside0.mk ((by rw[hg];exact Nat.ne_of_gt (blk_lt (g:=gb449) (o:= .cells #[.int .i64 a0_0, .bool a0_1, .slice A0_2 l0_2.length c0_2] 24 (0,0)) (by(with_reducible repeat(first|refine blk_drewN ?_ _|refine blk_drew ?_|refine blk_alloc ?_ _));exact BK449.out)):gb451≠gb449));have n8_:=Aside0.mk ((by rw[hg];exact Nat.ne_of_lt (blk_lt (g:=gb450) (o:= .cells #[.slice none 0 0, .slice none 0 0] 161 (0,0)) (by(with_reducible repeat(first|refine blk_drewN ?_ _|refine blk_drew ?_|refine blk_alloc ?_ _));exact BK450.out)):gb450≠gb451));have n9_:=Aside0.mk ((by rw[hg];exact Nat.ne_of_gt (blk_lt (g:=gb450) (o:= .cells #[.slice none 0 0, .slice none 0 0] 161 (0,0)) (by(with_reducible repeat(first|refine blk_drewN ?_ _|refine blk_drew ?_|refine blk_alloc ?_ _));exact BK450.out)):gb451≠gb450));clear BK449;clear BK450;clear HB;have BK449:=n0_;have BK450:=n1_;have HB:=n2_;have BK451:=n3_;have GW451:=n4_;have GE451:=n5_;have NB449_451:=n6_;have NB451_449:=n7_;have NB450_451:=n8_;have NB451_450:=n9_;clear n0_ n1_ n2_ n3_ n4_ n5_ n6_ n7_ n8_ n9_;clear hb hbox hg;have hnb9:=NB451_449.out;have hnc9:=NB449_451.out;have hnb10:=NB451_450.out;have hnc10:=NB450_451.out;have hcz11_0:w8.cell? ⟨gb451,0,none⟩=some (.slice none 0 0):=(blk_cell BK451.out 0).trans rfl;have hcz11_1:w8.cell? ⟨gb451,1,none⟩=some (.slice none 0 0):=(blk_cell BK451.out 1).trans rfl;have hfz11_0:=blk_frozen BK451.out 0;have hfz11_1:=blk_frozen BK451.out 1)|((with_reducible refine gate_builtin (b:= .append) (xs:= #[.tmp 11, .tmp 13]) rfl ?_);at_builtin;refine Kd.R_append (Kd.int .i64) (w0:=w) w.heap.size rfl (.tmp 11) (.tmp 13) 25 3 (.int .i64 0) 8 rfl Try.underlying25 info3 rfl (by decide) (by omega) (.slice none 0 0) ([]:List Int) a1 [.int .i64 a1] (fun _=>True) (fun _=>False) rfl rfl ?aP (fun _ hk=>hk.elim) ?aF ?aO ?aB ?aS ?aL ?_;(case aP=>exact rfl);(case aB=>exact(by repeat(first|(with_reducible first|exact HB.out|apply below_alloc|apply pw_below_drewN|apply below_drew1|refine below_set ?_ GE449.out|refine below_set ?_ GE450.out|refine below_set ?_ GE451.out)|exact HB.out)));(case aF=>exact(fun _ _=>trivial));(case aO=>exact((Kd.R_nil _ _ _ _ (fun _=>True))));(case aS=>exact(below_size (by repeat(first|(with_reducible first|exact HB.out|apply below_alloc|apply pw_below_drewN|apply below_drew1|refine below_set ?_ GE449.out|refine below_set ?_ GE450.out|refine below_set ?_ GE451.out)|exact HB.out))));(case aL=>have:=LMc4.out;omega);intro v453 w12 ho hb hg hat;rw[← Ny452.out] at ho;have n0_:=Aside0.mk (blk_grown (g:=gb449) (o:= .cells #[.int .i64 a0_0, .bool a0_1, .slice A0_2 l0_2.length c0_2] 24 (0,0)) (by(with_reducible repeat(first|refine blk_drewN ?_ _|refine blk_drew ?_|refine blk_alloc ?_ _));exact BK449.out) hg (by simp[Value.ownBlock]));have n1_:=Aside0.mk (blk_grown (g:=gb450) (o:= .cells #[.slice none 0 0, .slice none 0 0] 161 (0,0)) (by(with_reducible repeat(first|refine blk_drewN ?_ _|refine blk_drew ?_|refine blk_alloc ?_ _));exact BK450.out) hg (by simp[Value.ownBlock]));have n2_:=Aside0.mk (blk_grown (g:=gb451) (o:= .cells #[.slice none 0 0, .slice none 0 0] 161 (0,0)) (by(with_reducible repeat(first|refine blk_drewN ?_ _|refine blk_drew ?_|refine blk_alloc ?_ _));exact BK451.out) hg (by simp[Value.ownBlock]));have n3_:=Aside0.mk (hb);have n4_:=Aside0.mk (ho);clear BK449;clear BK450;clear BK451;clear HB;have BK449:=n0_;have BK450:=n1_;have BK451:=n2_;have HB:=n3_;have HO454:=n4_;clear n0_ n1_ n2_ n3_ n4_;clear ho hb hg hat;obtain⟨Ao13,co13,eo13⟩:=Kd.R_slice HO454.out;subst eo13;have hcz14_0:w12.cell? ⟨gb451,0,none⟩=some (.slice none 0 0):=(blk_cell BK451.out 0).trans rfl;have hcz14_1:w12.cell? ⟨gb451,1,none⟩=some (.slice none 0 0):=(blk_cell BK451.out 1).trans rfl;have hfz14_0:=blk_frozen BK451.out 0;have hfz14_1:=blk_frozen BK451.out 1)|((with_reducible refine gate_builtin (b:= .append) (xs:= #[.tmp 17, .tmp 19]) rfl ?_);at_builtin;refine Kd.R_append k38 (w0:=w) w.heap.size rfl (.tmp 17) (.tmp 19) 34 38 (.agg #[(.int .i64 0),(.bool false)]) 16 rfl Try.underlying34 info38 rfl (by decide) (by omega) (.slice none 0 0) ([]:List (S38)) (⟨0,false⟩:S38) [.int .i64 0, .bool false] (fun _=>True) (fun _=>False) rfl (by first|(go_simp;done)|(go_simp;rfl)) ?aP (fun _ hk=>hk.elim) ?aF ?aO ?aB ?aS ?aL ?_;(case aP=>exact k38_mkM _ _ _ (⟨0,false⟩:S38));(case aB=>exact(by repeat(first|(with_reducible first|exact HB.out|apply below_alloc|apply pw_below_drewN|apply below_drew1|refine below_set ?_ GE449.out|refine below_set ?_ GE450.out|refine below_set ?_ GE451.out)|exact HB.out)));(case aF=>exact(fun _ _=>trivial));(case aO=>exact((Kd.R_nil _ _ _ _ (fun _=>True))));(case aS=>exact(below_size (by repeat(first|(with_reducible first|exact HB.out|apply below_alloc|apply pw_below_drewN|apply below_drew1|refine below_set ?_ GE449.out|refine below_set ?_ GE450.out|refine below_set ?_ GE451.out)|exact HB.out))));(case aL=>have:=LMc5.out;omega);intro v456 w15 ho hb hg hat;rw[← Ny455.out] at ho;have n0_:=Aside0.mk (blk_grown (g:=gb449) (o:= .cells #[.int .i64 a0_0, .bool a0_1, .slice A0_2 l0_2.length c0_2] 24 (0,0)) (by(with_reducible repeat(first|refine blk_drewN ?_ _|refine blk_drew ?_|refine blk_alloc ?_ _));refine blk_far ?_ NB449_451.out _;(with_reducible repeat(first|refine blk_drewN ?_ _|refine blk_drew ?_|refine blk_alloc ?_ _));exact BK449.out) hg (by simp[Value.ownBlock]));have n1_:=Aside0.mk (blk_grown (g:=gb450) (o:= .cells #[.slice none 0 0, .slice none 0 0] 161 (0,0)) (by(with_reducible repeat(first|refine blk_drewN ?_ _|refine blk_drew ?_|refine blk_alloc ?_ _));refine blk_far ?_ NB450_451.out _;(with_reducible repeat(first|refine blk_drewN ?_ _|refine blk_drew ?_|refine blk_alloc ?_ _));exact BK450.out) hg (by simp[Value.ownBlock]));have n2_:=Aside0.mk (blk_grown (g:=gb451) (o:= .cells #[.slice Ao13 y452.length co13, .slice none 0 0] 161 (0,0)) (by(with_reducible repeat(first|refine blk_drewN ?_ _|refine blk_drew ?_|refine blk_alloc ?_ _));refine blk_put (cs:= #[.slice none 0 0, .slice none 0 0]) ?_ 0 _ rfl;(with_reducible repeat(first|refine blk_drewN ?_ _|refine blk_drew ?_|refine blk_alloc ?_ _));exact BK451.out) hg (by simp[Value.ownBlock]));have n3_:=Aside0.mk (Kd.R_grown (by(with_reducible repeat(first|apply Kd.R_alloc|apply Kd.R_drewN|apply Kd.R_drew));exact(Kd.R_mono (Kd.R_far (p:=⟨gb451,0,none⟩) (Kd.R_types HO454.out BK451.out (by decide)) (fun _ hk=>hk.2) (.slice Ao13 y452.length co13)) (fun _ h_=>h_.1))) hg (fun _ _=>by simp[Value.ownBlock]));have n4_:=Aside0.mk (hb);have n5_:=Aside0.mk (ho);clear BK449;clear BK450;clear BK451;clear HO454;clear HB;have BK449:=n0_;have BK450:=n1_;have BK451:=n2_;have HO454:=n3_;have HB:=n4_;have HO457:=n5_;clear n0_ n1_ n2_ n3_ n4_ n5_;clear ho hb hg hat;obtain⟨Ao16,co16,eo16⟩:=Kd.R_slice HO457.out;subst eo16;have hcz17_0:w15.cell? ⟨gb451,0,none⟩=some (.slice Ao13 y452.length co13):=(blk_cell BK451.out 0).trans rfl;have hcz17_1:w15.cell? ⟨gb451,1,none⟩=some (.slice none 0 0):=(blk_cell BK451.out 1).trans rfl;have hfz17_0:=blk_frozen BK451.out 0;have hfz17_1:=blk_frozen BK451.out 1))
 go_loopg [8] k (fun kq v8 w'=> ∃ (x8_1:Int) (x452000_1:List Int) (x452001_1:List (S38)) (u452000:Value) (u452001:Value),v8= .int .i64 x8_1∧Aside0 (ebbtideref08_sought.l0 kq l2 x8_1 a0_0 a0_1 l0_2 x452000_1 x452001_1=some (r1,r2))∧Aside0 (kq≤k)∧Aside0 (Kd.R (Kd.int .i64) 3 w' w.heap.size (fun _=>True) u452000 x452000_1)∧Aside0 (Kd.R k38 38 w' w.heap.size (fun _=>True) u452001 x452001_1)∧Aside0 (w'.heap[gb449]? =some (.cells #[.int .i64 a0_0, .bool a0_1,(.slice A0_2 l0_2.length c0_2)] 24 (0,0)))∧Aside0 (w'.heap[gb450]? =some (.cells #[(.slice none 0 0),(.slice none 0 0)] 161 (0,0)))∧Aside0 (w'.heap[gb451]? =some (.cells #[u452000,u452001] 161 (0,0)))∧Aside0 (Below w.heap.size w w'))
 case atStart=>exact⟨(0),(y452),(y455),(.slice Ao13 y452.length co13),(.slice Ao16 y455.length co16),(by first|rfl|(simp;done)|(simp[*];done)),H',⟨Nat.le_refl _⟩,⟨by(with_reducible repeat(first|apply Kd.R_alloc|apply Kd.R_drewN|apply Kd.R_drew));exact Kd.R_mono (Kd.R_far (p:=⟨gb451,1,none⟩) (Kd.R_types HO454.out BK451.out (by decide)) (fun _ hk=>hk.2) (.slice Ao16 y455.length co16)) (fun _ hk=>trivial)⟩,⟨by(with_reducible repeat(first|apply Kd.R_alloc|apply Kd.R_drewN|apply Kd.R_drew));exact Kd.R_mono (Kd.R_far (p:=⟨gb451,1,none⟩) (Kd.R_types HO457.out BK451.out (by decide)) (fun _ hk=>hk.2) (.slice Ao16 y455.length co16)) (fun _ hk=>trivial)⟩,⟨by(with_reducible repeat(first|refine blk_drewN ?_ _|refine blk_drew ?_|refine blk_alloc ?_ _));refine blk_far ?_ NB449_451.out _;(with_reducible repeat(first|refine blk_drewN ?_ _|refine blk_drew ?_|refine blk_alloc ?_ _));exact BK449.out⟩,⟨by(with_reducible repeat(first|refine blk_drewN ?_ _|refine blk_drew ?_|refine blk_alloc ?_ _));refine blk_far ?_ NB450_451.out _;(with_reducible repeat(first|refine blk_drewN ?_ _|refine blk_drew ?_|refine blk_alloc ?_ _));exact BK450.out⟩,⟨by(with_reducible repeat(first|refine blk_drewN ?_ _|refine blk_drew ?_|refine blk_alloc ?_ _));refine blk_put (cs:= #[.slice Ao13 y452.length co13, .slice none 0 0]) ?_ 1 _ rfl;(with_reducible repeat(first|refine blk_drewN ?_ _|refine blk_drew ?_|refine blk_alloc ?_ _));exact BK451.out⟩,⟨by repeat(first|(with_reducible first|exact HB.out|apply below_alloc|apply pw_below_drewN|apply below_drew1|refine below_set ?_ GE449.out|refine below_set ?_ GE450.out|refine below_set ?_ GE451.out)|exact HB.out)⟩⟩
 case round=>
  clear H'
  try clear c1
  try clear c2
  try clear p2
  try clear c4
  try clear c5
  try clear c9
  try clear c10
  try clear c14
  try clear hcz11_0
  try clear hcz11_1
  try clear hcz14_0
  try clear hcz14_1
  try clear hcz17_0
  try clear hcz17_1
  try clear hfz11_0
  try clear hfz11_1
  try clear hfz14_0
  try clear hfz14_1
  try clear hfz17_0
  try clear hfz17_1
  obtain⟨x8_1,x452000_1,x452001_1,u452000,u452001,rfl,HA,HK1,HO_452000,HO_452001,BK449,BK450,BK451,HB⟩:=hrel
  cases gk with
  |zero=>exact absurd HA.out (by simp[ebbtideref08_sought.l0])
  |succ k1=>
   have H:=HA.out
   clear HA
   simp only[ebbtideref08_sought.l0] at H
   by_cases c18:x8_1<(x452000_1.length:Int)
   rotate_left
   ·rw[if_neg c18] at H
    have c18b0:decide (x8_1<(x452000_1.length:Int))=false:=decide_eq_false c18
    clear c18
    simp only[Option.some.injEq,Prod.mk.injEq] at H
    obtain⟨rfl,rfl⟩:=H
    have hnb60:=NB451_449.out
    have hnc60:=NB449_451.out
    have hnb61:=NB451_450.out
    have hnc61:=NB450_451.out
    have hcz62_0:wr.cell? ⟨gb451,0,none⟩=some (u452000):=(blk_cell BK451.out 0).trans rfl
    have hcz62_1:wr.cell? ⟨gb451,1,none⟩=some (u452001):=(blk_cell BK451.out 1).trans rfl
    have hfz62_0:=blk_frozen BK451.out 0
    have hfz62_1:=blk_frozen BK451.out 1
    obtain⟨Ao63,co63,eo63⟩:=Kd.R_slice HO_452000.out
    subst eo63
    have hnb64:=NB450_449.out
    have hnc64:=NB449_450.out
    have hcz65_0:wr.cell? ⟨gb450,0,none⟩=some (.slice none 0 0):=(blk_cell BK450.out 0).trans rfl
    have hcz65_1:wr.cell? ⟨gb450,1,none⟩=some (.slice none 0 0):=(blk_cell BK450.out 1).trans rfl
    have hfz65_0:=blk_frozen BK450.out 0
    have hfz65_1:=blk_frozen BK450.out 1
    obtain⟨Ao66,co66,eo66⟩:=Kd.R_slice HO_452001.out
    subst eo66
    go_wp2
    refine bodyPost_ret (results_cell_row rfl _ _ gb450 161 #[.slice Ao63 x452000_1.length co63, .slice Ao66 x452001_1.length co66] (0,0) _ rfl (by(with_reducible repeat(first|refine blk_drewN ?_ _|refine blk_drew ?_|refine blk_alloc ?_ _));refine blk_put (cs:= #[.slice Ao63 x452000_1.length co63, .slice none 0 0]) ?_ 1 _ rfl;(with_reducible repeat(first|refine blk_drewN ?_ _|refine blk_drew ?_|refine blk_alloc ?_ _));refine blk_put (cs:= #[.slice none 0 0, .slice none 0 0]) ?_ 0 _ rfl;(with_reducible repeat(first|refine blk_drewN ?_ _|refine blk_drew ?_|refine blk_alloc ?_ _));exact BK450.out) Try.underlying161 rfl (by kernel_rfl)) rfl ?_
    exact⟨_,_,by first|rfl|(simp[errW_none,errW_some]<;>rfl)|(simp[*,errW_none,errW_some]<;>rfl),by(with_reducible repeat(first|apply Kd.R_alloc|apply Kd.R_drewN|apply Kd.R_drew));exact Kd.R_mono (Kd.R_far (p:=⟨gb450,1,none⟩) (Kd.R_far (p:=⟨gb450,0,none⟩) (Kd.R_types HO_452000.out BK450.out (by decide)) (fun _ hk=>hk.2) (.slice Ao63 x452000_1.length co63)) (fun _ hk=>hk.2) (.slice Ao66 x452001_1.length co66)) (fun _ hk=>trivial),by(with_reducible repeat(first|apply Kd.R_alloc|apply Kd.R_drewN|apply Kd.R_drew));exact Kd.R_mono (Kd.R_far (p:=⟨gb450,1,none⟩) (Kd.R_far (p:=⟨gb450,0,none⟩) (Kd.R_types HO_452001.out BK450.out (by decide)) (fun _ hk=>hk.2) (.slice Ao63 x452000_1.length co63)) (fun _ hk=>hk.2) (.slice Ao66 x452001_1.length co66)) (fun _ hk=>trivial),by repeat(first|(with_reducible first|exact HB.out|apply below_alloc|apply pw_below_drewN|apply below_drew1|refine below_set ?_ GE449.out|refine below_set ?_ GE450.out|refine below_set ?_ GE451.out)|exact HB.out)⟩
   rw[if_pos c18] at H
   have c18b0:decide (x8_1<(x452000_1.length:Int))=true:=decide_eq_true c18
   clear c18
   have H':=Aside0.mk H
   clear H
   have hnb19:=NB451_449.out
   have hnc19:=NB449_451.out
   have hnb20:=NB451_450.out
   have hnc20:=NB450_451.out
   have hcz21_0:wr.cell? ⟨gb451,0,none⟩=some (u452000):=(blk_cell BK451.out 0).trans rfl
   have hcz21_1:wr.cell? ⟨gb451,1,none⟩=some (u452001):=(blk_cell BK451.out 1).trans rfl
   have hfz21_0:=blk_frozen BK451.out 0
   have hfz21_1:=blk_frozen BK451.out 1
   obtain⟨Ao22,co22,eo22⟩:=Kd.R_slice HO_452000.out
   subst eo22
   go_wp2
   go_loopg [9] k1 (fun kq v9 w'=> ∃ (x9_2:Int) (x452000_2:List Int) (x452001_2:List (S38)) (u452000:Value) (u452001:Value),v9= .int .i64 x9_2∧Aside0 (ebbtideref08_sought.l1 kq l2 x8_1 x9_2 a0_0 a0_1 l0_2 x452000_2 x452001_2=some (r1,r2))∧Aside0 (kq≤k1)∧Aside0 (Kd.R (Kd.int .i64) 3 w' w.heap.size (fun _=>True) u452000 x452000_2)∧Aside0 (Kd.R k38 38 w' w.heap.size (fun _=>True) u452001 x452001_2)∧Aside0 (w'.heap[gb449]? =some (.cells #[.int .i64 a0_0, .bool a0_1,(.slice A0_2 l0_2.length c0_2)] 24 (0,0)))∧Aside0 (w'.heap[gb450]? =some (.cells #[(.slice none 0 0),(.slice none 0 0)] 161 (0,0)))∧Aside0 (w'.heap[gb451]? =some (.cells #[u452000,u452001] 161 (0,0)))∧Aside0 (Below w.heap.size w w'))
   case atStart=>exact⟨(0),(x452000_1),(x452001_1),(.slice Ao22 x452000_1.length co22),(u452001),(by first|rfl|(simp;done)|(simp[*];done)),H',⟨Nat.le_refl _⟩,⟨HO_452000.out⟩,⟨HO_452001.out⟩,⟨BK449.out⟩,⟨BK450.out⟩,⟨BK451.out⟩,⟨HB.out⟩⟩
   case round=>
    clear H'
    try clear c1
    try clear c2
    try clear p2
    try clear c4
    try clear c5
    try clear c9
    try clear c10
    try clear c14
    try clear c18
    try clear c18b0
    try clear c19
    try clear c20
    try clear hcz11_0
    try clear hcz11_1
    try clear hcz14_0
    try clear hcz14_1
    try clear hcz17_0
    try clear hcz17_1
    try clear hcz21_0
    try clear hcz21_1
    try clear hfz11_0
    try clear hfz11_1
    try clear hfz14_0
    try clear hfz14_1
    try clear hfz17_0
    try clear hfz17_1
    try clear hfz21_0
    try clear hfz21_1
    try clear p2
    obtain⟨x9_2,x452000_2,x452001_2,u452000,u452001,rfl,HA,HK2,HO_452000,HO_452001,BK449,BK450,BK451,HB⟩:=hrel
    cases gk with
    |zero=>exact absurd HA.out (by simp[ebbtideref08_sought.l1])
    |succ k2=>
     have H:=HA.out
     clear HA
     simp only[ebbtideref08_sought.l1] at H
     by_cases c23:x9_2<(l2.length:Int)
     rotate_left
     ·rw[if_neg c23] at H
      have c23b0:decide (x9_2<(l2.length:Int))=false:=decide_eq_false c23
      clear c23
      have H':=Aside0.mk H
      clear H
      go_wp2
      go_roundg k2
      case measure=>have:=HK1.out;have:=HK2.out;omega
      case rel=>exact⟨(wrap64 (x8_1+1)),(x452000_2),(x452001_2),(u452000),(u452001),(by first|rfl|(simp;done)|(simp[*];done)),H',⟨by have:=HK1.out;have:=HK2.out;omega⟩,⟨HO_452000.out⟩,⟨HO_452001.out⟩,⟨BK449.out⟩,⟨BK450.out⟩,⟨BK451.out⟩,⟨HB.out⟩⟩
     rw[if_pos c23] at H
     have c23b0:decide (x9_2<(l2.length:Int))=true:=decide_eq_true c23
     clear c23
     by_cases c24:0≤x9_2
     rotate_left
     ·rw[if_neg c24] at H
      exact absurd H (by simp)
     rw[if_pos c24] at H
     have c24b0:decide (0≤x9_2)=true:=decide_eq_true c24
     clear c24
     replace H:=Option.bind_eq_some_iff.mp H
     obtain⟨t459,A250,H⟩:=H
     replace H:(if 0≤x8_1 then(if x8_1<(x452000_2.length:Int) then(if t459=(rd x452000_2 x8_1) then((ebbtideref07_To.f a0_0 a0_1 l0_2 ((rd_T38 l2 x9_2).f0) ((rd_T38 l2 x9_2).f1)).bind fun t462=>((ebbtideref08_found_has.f k2 x452000_2 x452001_2 t462).bind fun t463=>(if t463<0 then((ebbtideref07_To.f a0_0 a0_1 l0_2 ((rd_T38 l2 x9_2).f0) ((rd_T38 l2 x9_2).f1)).bind fun t465=>(if x452000_2.length<17592186044416 then(if x452001_2.length<8796093022208 then(ebbtideref08_sought.l1 k2 l2 x8_1 (wrap64 (x9_2+1)) a0_0 a0_1 l0_2 (x452000_2 ++ [t465]) (x452001_2 ++ [(⟨(rd_T38 l2 x9_2).f0,(rd_T38 l2 x9_2).f1⟩:S38)])) else(none)) else(none))) else(ebbtideref08_sought.l1 k2 l2 x8_1 (wrap64 (x9_2+1)) a0_0 a0_1 l0_2 x452000_2 x452001_2)))) else(ebbtideref08_sought.l1 k2 l2 x8_1 (wrap64 (x9_2+1)) a0_0 a0_1 l0_2 x452000_2 x452001_2)) else(none)) else(none))=some (r1,r2):=H
     have A25:=Aside0.mk A250
     clear A250
     by_cases c26:0≤x8_1
     rotate_left
     ·rw[if_neg c26] at H
      exact absurd H (by simp)
     rw[if_pos c26] at H
     have c26b0:decide (0≤x8_1)=true:=decide_eq_true c26
     clear c26
     by_cases c27:x8_1<(x452000_2.length:Int)
     rotate_left
     ·rw[if_neg c27] at H
      exact absurd H (by simp)
     rw[if_pos c27] at H
     have c27b0:decide (x8_1<(x452000_2.length:Int))=true:=decide_eq_true c27
     clear c27
     by_cases c28:t459=(rd x452000_2 x8_1)
     rotate_left
     ·rw[if_neg c28] at H
      have c28b0:(t459 == (rd x452000_2 x8_1))=false:=beq_eq_false_iff_ne.mpr c28
      have c28b1:(t459 != (rd x452000_2 x8_1))=true:=bne_iff_ne.mpr c28
      have H':=Aside0.mk H
      clear H
      try go_wp2
      have n0_:=Aside0.mk (Kd.R_drew HO_452000.out)
      have n1_:=Aside0.mk (Kd.R_drew HO_452001.out)
      have n2_:=Aside0.mk (blk_drew BK449.out)
      have n3_:=Aside0.mk (blk_drew BK450.out)
      have n4_:=Aside0.mk (blk_drew BK451.out)
      have n5_:=Aside0.mk (below_drew1 HB.out)
      clear HO_452000
      clear HO_452001
      clear BK449
      clear BK450
      clear BK451
      clear HB
      have HO_452000:=n0_
      have HO_452001:=n1_
      have BK449:=n2_
      have BK450:=n3_
      have BK451:=n4_
      have HB:=n5_
      clear n0_ n1_ n2_ n3_ n4_ n5_
      have p458:0≤(x9_2:Int):=of_decide_eq_true (by first|(with_reducible assumption)|assumption)
      have q458:x9_2<(l2.length:Int):=of_decide_eq_true (by first|(with_reducible assumption)|assumption)
      obtain⟨ad458,e458,hx458_0,hx458_1⟩:=at_T38 HR2.out x9_2 p458 q458
      have hw458_1:=hx458_1
      have hw458_0:=hx458_0
      cases e458
      replace hx458_0:=(HB.out.cell (World.block_lt_of_cell? w _ hx458_0)).trans hx458_0
      replace hx458_1:=(HB.out.cell (World.block_lt_of_cell? w _ hx458_1)).trans hx458_1
      replace p458:=eq_true p458
      replace q458:=eq_true q458
      obtain⟨Ao58,co58,eo58⟩:=Kd.R_slice HO_452000.out
      (first|subst eo58|(injection eo58 with f1_ f2_ f3_;have f4_:=f1_.symm;have f5_:=f3_.symm;clear f1_ f2_ f3_;subst f4_;subst f5_))
      have p460:0≤(x8_1:Int):=of_decide_eq_true (by first|(with_reducible assumption)|assumption)
      have q460:x8_1<(x452000_2.length:Int):=of_decide_eq_true (by first|(with_reducible assumption)|assumption)
      obtain⟨ad460,e460,hx460_0⟩:=Kd.at_int (Kd.R_reads' HO_452000.out).2.2 x8_1 p460 q460
      cases e460
      replace p460:=eq_true p460
      replace q460:=eq_true q460
      refine start_ (n:=23) (S:=fun w'=>w'.cell? ⟨gb449,0,none⟩=some (.int .i64 a0_0)∧w'.cell? ⟨gb449,1,none⟩=some (.bool a0_1)∧w'.cell? ⟨gb449,2,none⟩=some (.slice A0_2 l0_2.length c0_2)∧w'.cell? ⟨gb451,0,none⟩=some (.slice (some ad460) x452000_2.length co58)∧w'.cell? ⟨gb451,1,none⟩=some (u452001)∧w'.cell? (ad458.add ((x9_2).toNat * 2))=some (.int .i64 ((rd_T38 l2 x9_2).f0))∧w'.cell? ⟨(ad458.add ((x9_2).toNat * 2)).block,(ad458.add ((x9_2).toNat * 2)).off+1,none⟩=some (.bool ((rd_T38 l2 x9_2).f1))∧w'.cell? (ad460.add (x8_1).toNat)=some (.int .i64 (rd x452000_2 x8_1))) (ds:=[]) #[false,false,false,false,false,false,false,false,false,false,false,false,false,false,false,false,false,false,false,false,false,false,false] (by kernel_rfl) rfl rfl ⟨(blk_cell BK449.out 0).trans rfl,(blk_cell BK449.out 1).trans rfl,(blk_cell BK449.out 2).trans rfl,(blk_cell BK451.out 0).trans rfl,(blk_cell BK451.out 1).trans rfl,((HB.out.cell (World.block_lt_of_cell? w _ hw458_0)).trans hw458_0),((HB.out.cell (World.block_lt_of_cell? w _ hw458_1)).trans hw458_1),hx460_0⟩ (fun hHeld=> ?_);refine with_tabW ebbtideref08_sought.tab10 ebbtideref08_sought.bits10 (fun HT_ HW_=> ?_)
      generalize wr.drew=w57 at HO_452000 HO_452001 BK449 BK450 BK451 HB hx458_0 hx458_1 hx460_0 hHeld ⊢
      refine pure_ (i:=1) (N:=some 36) (v:= ?_) (a':= ?_) #[false,true,false,false,false,false,false,false,false,false,false,false,false,false,false,false,false,false,false,false,false,false,false] rfl rfl (any_of HT_.out (by kernel_rfl)) (fun _ _ _ h=>h) (Or.inl ⟨by rfl,?_⟩) ?_ ?_
      rotate_left
      ·intro w'
       go_simp
       with_reducible rfl
      rotate_left
      ·simp only[Act.put,List.setIfInBounds_toArray,List.set_cons_zero,List.set_cons_succ,i64_w,i32_w]
       rfl
      refine pure_ (i:=2) (N:=some 37) (v:= ?_) (a':= ?_) #[false,true,true,false,false,false,false,false,false,false,false,false,false,false,false,false,false,false,false,false,false,false,false] rfl rfl (any_of HT_.out (by kernel_rfl)) (fun _ _ _ h=>h) (Or.inl ⟨by rfl,?_⟩) ?_ ?_
      rotate_left
      ·intro w'
       go_simp
       with_reducible rfl
      rotate_left
      ·simp only[Act.put,List.setIfInBounds_toArray,List.set_cons_zero,List.set_cons_succ,i64_w,i32_w]
       rfl
      refine pure_ (i:=3) (N:=some 38) (v:= ?_) (a':= ?_) #[false,true,true,true,false,false,false,false,false,false,false,false,false,false,false,false,false,false,false,false,false,false,false] rfl rfl (any_of HT_.out (by kernel_rfl)) (fun _ _ _ h=>h) (Or.inl ⟨by rfl,?_⟩) ?_ ?_
      rotate_left
      ·intro w'
       go_simp
       with_reducible rfl
      rotate_left
      ·simp only[Act.put,List.setIfInBounds_toArray,List.set_cons_zero,List.set_cons_succ,i64_w,i32_w]
       rfl
      refine pure_ (i:=6) (N:=some 41) (v:= ?_) (a':= ?_) #[false,true,true,true,false,false,true,false,false,false,false,false,false,false,false,false,false,false,false,false,false,false,false] rfl rfl (any_of HT_.out (by kernel_rfl)) (fun _ _ _ h=>h) (Or.inl ⟨by rfl,?_⟩) ?_ ?_
      rotate_left
      ·intro w'
       go_simp
       with_reducible rfl
      rotate_left
      ·simp only[Act.put,List.setIfInBounds_toArray,List.set_cons_zero,List.set_cons_succ,i64_w,i32_w]
       rfl
      refine pure_ (i:=8) (N:=some 43) (v:= ?_) (a':= ?_) #[false,true,true,true,false,false,true,false,true,false,false,false,false,false,false,false,false,false,false,false,false,false,false] rfl rfl (any_of HT_.out (by kernel_rfl)) (fun _ _ _ h=>h) (Or.inl ⟨by rfl,?_⟩) ?_ ?_
      rotate_left
      ·intro w'
       go_simp
       with_reducible rfl
      rotate_left
      ·simp only[Act.put,List.setIfInBounds_toArray,List.set_cons_zero,List.set_cons_succ,i64_w,i32_w]
       rfl
      refine take_ (i:=0) (N:=some 35) (v:= ?_) (a':= ?_) #[true,true,true,true,false,false,true,false,true,false,false,false,false,false,false,false,false,false,false,false,false,false,false] rfl rfl (take_ofW HT_.out HW_.out (by kernel_rfl)) (fun _ _ _ h=>h) (Or.inl ⟨by rfl,?_⟩) hHeld ?_ ?_
      rotate_left
      ·rintro w' ⟨s0,s1,s2,s3,s4,s5,s6,s7⟩
       go_simp
       with_reducible rfl
      rotate_left
      ·simp only[Act.put,List.setIfInBounds_toArray,List.set_cons_zero,List.set_cons_succ,i64_w,i32_w]
       rfl
      refine take_ (i:=4) (N:=some 39) (v:= ?_) (a':= ?_) #[true,true,true,true,true,false,true,false,true,false,false,false,false,false,false,false,false,false,false,false,false,false,false] rfl rfl (take_ofW HT_.out HW_.out (by kernel_rfl)) (fun _ _ _ h=>h) (Or.inl ⟨by rfl,?_⟩) hHeld ?_ ?_
      rotate_left
      ·rintro w' ⟨s0,s1,s2,s3,s4,s5,s6,s7⟩
       go_simp
       with_reducible rfl
      rotate_left
      ·simp only[Act.put,List.setIfInBounds_toArray,List.set_cons_zero,List.set_cons_succ,i64_w,i32_w]
       rfl
      refine take_ (i:=7) (N:=some 42) (v:= ?_) (a':= ?_) #[true,true,true,true,true,false,true,true,true,false,false,false,false,false,false,false,false,false,false,false,false,false,false] rfl rfl (take_ofW HT_.out HW_.out (by kernel_rfl)) (fun _ _ _ h=>h) (Or.inl ⟨by rfl,?_⟩) hHeld ?_ ?_
      rotate_left
      ·rintro w' ⟨s0,s1,s2,s3,s4,s5,s6,s7⟩
       go_simp
       with_reducible rfl
      rotate_left
      ·simp only[Act.put,List.setIfInBounds_toArray,List.set_cons_zero,List.set_cons_succ,i64_w,i32_w]
       rfl
      refine pure_ (i:=9) (N:=some 44) (v:= ?_) (a':= ?_) #[true,true,true,true,true,false,true,true,true,true,false,false,false,false,false,false,false,false,false,false,false,false,false] rfl rfl (any_of HT_.out (by kernel_rfl)) (fun _ _ _ h=>h) (Or.inl ⟨by rfl,?_⟩) ?_ ?_
      rotate_left
      ·intro w'
       go_simp
       with_reducible rfl
      rotate_left
      ·simp only[Act.put,List.setIfInBounds_toArray,List.set_cons_zero,List.set_cons_succ,i64_w,i32_w]
       rfl
      refine take_ (i:=10) (N:=some 45) (v:= ?_) (a':= ?_) #[true,true,true,true,true,false,true,true,true,true,true,false,false,false,false,false,false,false,false,false,false,false,false] rfl rfl (take_ofW HT_.out HW_.out (by kernel_rfl)) (fun _ _ _ h=>h) (Or.inl ⟨by rfl,?_⟩) hHeld ?_ ?_
      rotate_left
      ·rintro w' ⟨s0,s1,s2,s3,s4,s5,s6,s7⟩
       go_simp
       with_reducible rfl
      rotate_left
      ·simp only[Act.put,List.setIfInBounds_toArray,List.set_cons_zero,List.set_cons_succ,i64_w,i32_w]
       rfl
      refine one_ (i:=5) (N:=some 40) #[true,true,true,true,true,true,true,true,true,true,true,false,false,false,false,false,false,false,false,false,false,false,false] rfl rfl (one_of HT_.out (by kernel_rfl)) (by decide) (fun K hK=> ?_)
      refine goes_ Try.func44 (by kernel_rfl) rfl #[.agg #[.int .i64 a0_0, .bool a0_1, .slice A0_2 l0_2.length c0_2], .agg #[.int .i64 ((rd_T38 l2 x9_2).f0), .bool ((rd_T38 l2 x9_2).f1)]] (by rfl) rfl rfl (by(try simp only[List.map_toArray,List.map_cons,List.map_nil]);first|done|rfl|(simp only[List.length_drop,List.length_take];rfl)) ?_
      with_reducible refine(ebbtideref07_From.calls a0_0 a0_1 _ _ l0_2 ((rd_T38 l2 x9_2).f0) ((rd_T38 l2 x9_2).f1) t459 _ ?side1 ?side2 A25.out).mono ?_
      (case side1=>repeat(first|exact(Kd.C_below HR0_2.out HB.out)|(with_reducible refine Kd.C_alloc ?_ _)|(with_reducible refine Kd.C_drewN ?_ _)|(with_reducible refine Kd.C_drew ?_)))
      (case side2=>exact HC0_2.out)
      rintro e w59 ⟨rfl,hb⟩
      have HS7_:=(hb.cell (World.block_lt_of_cell? _ _ (hHeld.2.2.2.2.2.2.2))).trans (hHeld.2.2.2.2.2.2.2)
      refine⟨_,rfl,?_⟩
      have n0_:=Aside0.mk (Kd.R_below HO_452000.out hb)
      have n1_:=Aside0.mk (Kd.R_below HO_452001.out hb)
      have n2_:=Aside0.mk (blk_below BK449.out hb)
      have n3_:=Aside0.mk (blk_below BK450.out hb)
      have n4_:=Aside0.mk (blk_below BK451.out hb)
      have n5_:=Aside0.mk (below_step HB.out hb)
      clear HO_452000
      clear HO_452001
      clear BK449
      clear BK450
      clear BK451
      clear HB
      have HO_452000:=n0_
      have HO_452001:=n1_
      have BK449:=n2_
      have BK450:=n3_
      have BK451:=n4_
      have HB:=n5_
      clear n0_ n1_ n2_ n3_ n4_ n5_
      (try clear hb)
      (try clear hb2)
      (try clear hk)
      (try clear hi)
      refine hK.out _ _ ⟨(blk_cell BK449.out 0).trans rfl,(blk_cell BK449.out 1).trans rfl,(blk_cell BK449.out 2).trans rfl,(blk_cell BK451.out 0).trans rfl,(blk_cell BK451.out 1).trans rfl,((HB.out.cell (World.block_lt_of_cell? w _ hw458_0)).trans hw458_0),((HB.out.cell (World.block_lt_of_cell? w _ hw458_1)).trans hw458_1),HS7_⟩ (fun hHeld=> ?_)
      clear hK K
      refine norm_ (a':= ?_) ?_ ?_
      rotate_left
      ·show Act.put _ (some 40) _=_
       simp only[Act.put,List.setIfInBounds_toArray,List.set_cons_zero,List.set_cons_succ,i64_w,i32_w]
       rfl
      refine pure_ (i:=11) (N:=some 46) (v:= ?_) (a':= ?_) #[true,true,true,true,true,true,true,true,true,true,true,true,false,false,false,false,false,false,false,false,false,false,false] rfl rfl (any_of HT_.out (by kernel_rfl)) (fun _ _ _ h=>h) (Or.inl ⟨by rfl,?_⟩) ?_ ?_
      rotate_left
      ·intro w'
       go_simp
       with_reducible rfl
      rotate_left
      ·simp only[Act.put,List.setIfInBounds_toArray,List.set_cons_zero,List.set_cons_succ,i64_w,i32_w]
       rfl
      refine pure_ (i:=12) (N:=some 47) (v:= ?_) (a':= ?_) #[true,true,true,true,true,true,true,true,true,true,true,true,true,false,false,false,false,false,false,false,false,false,false] rfl rfl (any_of HT_.out (by kernel_rfl)) (fun _ _ _ h=>h) (Or.inl ⟨by rfl,?_⟩) ?_ ?_
      rotate_left
      ·intro w'
       go_simp
       with_reducible rfl
      rotate_left
      ·simp only[Act.put,List.setIfInBounds_toArray,List.set_cons_zero,List.set_cons_succ,i64_w,i32_w]
       rfl
      refine pure_ (i:=13) (N:=some 48) (v:=undef) (a':= ?_) #[true,true,true,true,true,true,true,true,true,true,true,true,true,true,false,false,false,false,false,false,false,false,false] rfl rfl (any_of HT_.out (by kernel_rfl)) (fun _ _ _ h=>h) (Or.inr ⟨by rfl,rfl⟩) ?_ ?_
      rotate_left
      ·simp only[Act.put,List.setIfInBounds_toArray,List.set_cons_zero,List.set_cons_succ,i64_w,i32_w]
       rfl
      refine pure_ (i:=14) (N:=some 49) (v:=undef) (a':= ?_) #[true,true,true,true,true,true,true,true,true,true,true,true,true,true,true,false,false,false,false,false,false,false,false] rfl rfl (any_of HT_.out (by kernel_rfl)) (fun _ _ _ h=>h) (Or.inr ⟨by rfl,rfl⟩) ?_ ?_
      rotate_left
      ·simp only[Act.put,List.setIfInBounds_toArray,List.set_cons_zero,List.set_cons_succ,i64_w,i32_w]
       rfl
      refine pure_ (i:=15) (N:=some 50) (v:=undef) (a':= ?_) #[true,true,true,true,true,true,true,true,true,true,true,true,true,true,true,true,false,false,false,false,false,false,false] rfl rfl (any_of HT_.out (by kernel_rfl)) (fun _ _ _ h=>h) (Or.inr ⟨by rfl,rfl⟩) ?_ ?_
      rotate_left
      ·simp only[Act.put,List.setIfInBounds_toArray,List.set_cons_zero,List.set_cons_succ,i64_w,i32_w]
       rfl
      refine pure_ (i:=16) (N:=some 51) (v:=undef) (a':= ?_) #[true,true,true,true,true,true,true,true,true,true,true,true,true,true,true,true,true,false,false,false,false,false,false] rfl rfl (any_of HT_.out (by kernel_rfl)) (fun _ _ _ h=>h) (Or.inr ⟨by rfl,rfl⟩) ?_ ?_
      rotate_left
      ·simp only[Act.put,List.setIfInBounds_toArray,List.set_cons_zero,List.set_cons_succ,i64_w,i32_w]
       rfl
      refine pure_ (i:=17) (N:=some 52) (v:=undef) (a':= ?_) #[true,true,true,true,true,true,true,true,true,true,true,true,true,true,true,true,true,true,false,false,false,false,false] rfl rfl (any_of HT_.out (by kernel_rfl)) (fun _ _ _ h=>h) (Or.inr ⟨by rfl,rfl⟩) ?_ ?_
      rotate_left
      ·simp only[Act.put,List.setIfInBounds_toArray,List.set_cons_zero,List.set_cons_succ,i64_w,i32_w]
       rfl
      refine pure_ (i:=18) (N:=some 53) (v:=undef) (a':= ?_) #[true,true,true,true,true,true,true,true,true,true,true,true,true,true,true,true,true,true,true,false,false,false,false] rfl rfl (any_of HT_.out (by kernel_rfl)) (fun _ _ _ h=>h) (Or.inr ⟨by rfl,rfl⟩) ?_ ?_
      rotate_left
      ·simp only[Act.put,List.setIfInBounds_toArray,List.set_cons_zero,List.set_cons_succ,i64_w,i32_w]
       rfl
      refine pure_ (i:=19) (N:=some 54) (v:=undef) (a':= ?_) #[true,true,true,true,true,true,true,true,true,true,true,true,true,true,true,true,true,true,true,true,false,false,false] rfl rfl (any_of HT_.out (by kernel_rfl)) (fun _ _ _ h=>h) (Or.inr ⟨by rfl,rfl⟩) ?_ ?_
      rotate_left
      ·simp only[Act.put,List.setIfInBounds_toArray,List.set_cons_zero,List.set_cons_succ,i64_w,i32_w]
       rfl
      refine pure_ (i:=20) (N:=some 55) (v:=undef) (a':= ?_) #[true,true,true,true,true,true,true,true,true,true,true,true,true,true,true,true,true,true,true,true,true,false,false] rfl rfl (any_of HT_.out (by kernel_rfl)) (fun _ _ _ h=>h) (Or.inr ⟨by rfl,rfl⟩) ?_ ?_
      rotate_left
      ·simp only[Act.put,List.setIfInBounds_toArray,List.set_cons_zero,List.set_cons_succ,i64_w,i32_w]
       rfl
      refine pure_ (i:=21) (N:=some 56) (v:=undef) (a':= ?_) #[true,true,true,true,true,true,true,true,true,true,true,true,true,true,true,true,true,true,true,true,true,true,false] rfl rfl (any_of HT_.out (by kernel_rfl)) (fun _ _ _ h=>h) (Or.inr ⟨by rfl,rfl⟩) ?_ ?_
      rotate_left
      ·simp only[Act.put,List.setIfInBounds_toArray,List.set_cons_zero,List.set_cons_succ,i64_w,i32_w]
       rfl
      refine pure_ (i:=22) (N:=some 57) (v:= ?_) (a':= ?_) #[true,true,true,true,true,true,true,true,true,true,true,true,true,true,true,true,true,true,true,true,true,true,true] rfl rfl (any_of HT_.out (by kernel_rfl)) (fun _ _ _ h=>h) (Or.inl ⟨by rfl,?_⟩) ?_ ?_
      rotate_left
      ·intro w'
       go_simp
       with_reducible rfl
      rotate_left
      ·simp only[Act.put,List.setIfInBounds_toArray,List.set_cons_zero,List.set_cons_succ,i64_w,i32_w]
       rfl
      refine done_ (done_of HT_.out (by kernel_rfl)) ?_
      try go_wp2
      go_roundg k2
      case measure=>have:=HK1.out;have:=HK2.out;omega
      case rel=>exact⟨(wrap64 (x9_2+1)),(x452000_2),(x452001_2),(.slice (some ad460) x452000_2.length co58),(u452001),(by first|rfl|(simp;done)|(simp[*];done)),H',⟨by have:=HK1.out;have:=HK2.out;omega⟩,⟨HO_452000.out⟩,⟨HO_452001.out⟩,⟨BK449.out⟩,⟨BK450.out⟩,⟨BK451.out⟩,⟨HB.out⟩⟩
     rw[if_pos c28] at H
     have c28b0:(t459 == (rd x452000_2 x8_1))=true:=beq_iff_eq.mpr c28
     have c28b1:(t459 != (rd x452000_2 x8_1))=false:=bne_eq_false_iff_eq.mpr c28
     clear c28
     replace H:=Option.bind_eq_some_iff.mp H
     obtain⟨t462,A290,H⟩:=H
     replace H:((ebbtideref08_found_has.f k2 x452000_2 x452001_2 t462).bind fun t463=>(if t463<0 then((ebbtideref07_To.f a0_0 a0_1 l0_2 ((rd_T38 l2 x9_2).f0) ((rd_T38 l2 x9_2).f1)).bind fun t465=>(if x452000_2.length<17592186044416 then(if x452001_2.length<8796093022208 then(ebbtideref08_sought.l1 k2 l2 x8_1 (wrap64 (x9_2+1)) a0_0 a0_1 l0_2 (x452000_2 ++ [t465]) (x452001_2 ++ [(⟨(rd_T38 l2 x9_2).f0,(rd_T38 l2 x9_2).f1⟩:S38)])) else(none)) else(none))) else(ebbtideref08_sought.l1 k2 l2 x8_1 (wrap64 (x9_2+1)) a0_0 a0_1 l0_2 x452000_2 x452001_2)))=some (r1,r2):=H
     have A29:=Aside0.mk A290
     clear A290
     replace H:=Option.bind_eq_some_iff.mp H
     obtain⟨t463,A300,H⟩:=H
     replace H:(if t463<0 then((ebbtideref07_To.f a0_0 a0_1 l0_2 ((rd_T38 l2 x9_2).f0) ((rd_T38 l2 x9_2).f1)).bind fun t465=>(if x452000_2.length<17592186044416 then(if x452001_2.length<8796093022208 then(ebbtideref08_sought.l1 k2 l2 x8_1 (wrap64 (x9_2+1)) a0_0 a0_1 l0_2 (x452000_2 ++ [t465]) (x452001_2 ++ [(⟨(rd_T38 l2 x9_2).f0,(rd_T38 l2 x9_2).f1⟩:S38)])) else(none)) else(none))) else(ebbtideref08_sought.l1 k2 l2 x8_1 (wrap64 (x9_2+1)) a0_0 a0_1 l0_2 x452000_2 x452001_2))=some (r1,r2):=H
     have A30:=Aside0.mk A300
     clear A300
     by_cases c31:t463<0
     rotate_left
     ·rw[if_neg c31] at H
      have c31b0:decide (t463<0)=false:=decide_eq_false c31
      clear c31
      have H':=Aside0.mk H
      clear H
      try go_wp2
      have n0_:=Aside0.mk (Kd.R_drew HO_452000.out)
      have n1_:=Aside0.mk (Kd.R_drew HO_452001.out)
      have n2_:=Aside0.mk (blk_drew BK449.out)
      have n3_:=Aside0.mk (blk_drew BK450.out)
      have n4_:=Aside0.mk (blk_drew BK451.out)
      have n5_:=Aside0.mk (below_drew1 HB.out)
      clear HO_452000
      clear HO_452001
      clear BK449
      clear BK450
      clear BK451
      clear HB
      have HO_452000:=n0_
      have HO_452001:=n1_
      have BK449:=n2_
      have BK450:=n3_
      have BK451:=n4_
      have HB:=n5_
      clear n0_ n1_ n2_ n3_ n4_ n5_
      have p458:0≤(x9_2:Int):=of_decide_eq_true (by first|(with_reducible assumption)|assumption)
      have q458:x9_2<(l2.length:Int):=of_decide_eq_true (by first|(with_reducible assumption)|assumption)
      obtain⟨ad458,e458,hx458_0,hx458_1⟩:=at_T38 HR2.out x9_2 p458 q458
      have hw458_1:=hx458_1
      have hw458_0:=hx458_0
      cases e458
      replace hx458_0:=(HB.out.cell (World.block_lt_of_cell? w _ hx458_0)).trans hx458_0
      replace hx458_1:=(HB.out.cell (World.block_lt_of_cell? w _ hx458_1)).trans hx458_1
      replace p458:=eq_true p458
      replace q458:=eq_true q458
      obtain⟨Ao52,co52,eo52⟩:=Kd.R_slice HO_452000.out
      (first|subst eo52|(injection eo52 with f1_ f2_ f3_;have f4_:=f1_.symm;have f5_:=f3_.symm;clear f1_ f2_ f3_;subst f4_;subst f5_))
      have p460:0≤(x8_1:Int):=of_decide_eq_true (by first|(with_reducible assumption)|assumption)
      have q460:x8_1<(x452000_2.length:Int):=of_decide_eq_true (by first|(with_reducible assumption)|assumption)
      obtain⟨ad460,e460,hx460_0⟩:=Kd.at_int (Kd.R_reads' HO_452000.out).2.2 x8_1 p460 q460
      cases e460
      replace p460:=eq_true p460
      replace q460:=eq_true q460
      have p461:0≤(x9_2:Int):=of_decide_eq_true (by first|(with_reducible assumption)|assumption)
      have q461:x9_2<(l2.length:Int):=of_decide_eq_true (by first|(with_reducible assumption)|assumption)
      obtain⟨ad461,e461,hx461_0,hx461_1⟩:=at_T38 HR2.out x9_2 p461 q461
      have hw461_1:=hx461_1
      have hw461_0:=hx461_0
      obtain rfl:ad458=ad461:=(by injection e461)
      replace hx461_0:=(HB.out.cell (World.block_lt_of_cell? w _ hx461_0)).trans hx461_0
      replace hx461_1:=(HB.out.cell (World.block_lt_of_cell? w _ hx461_1)).trans hx461_1
      replace p461:=eq_true p461
      replace q461:=eq_true q461
      refine start_ (n:=23) (S:=fun w'=>w'.cell? ⟨gb449,0,none⟩=some (.int .i64 a0_0)∧w'.cell? ⟨gb449,1,none⟩=some (.bool a0_1)∧w'.cell? ⟨gb449,2,none⟩=some (.slice A0_2 l0_2.length c0_2)∧w'.cell? ⟨gb451,0,none⟩=some (.slice (some ad460) x452000_2.length co52)∧w'.cell? ⟨gb451,1,none⟩=some (u452001)∧w'.cell? (ad458.add ((x9_2).toNat * 2))=some (.int .i64 ((rd_T38 l2 x9_2).f0))∧w'.cell? ⟨(ad458.add ((x9_2).toNat * 2)).block,(ad458.add ((x9_2).toNat * 2)).off+1,none⟩=some (.bool ((rd_T38 l2 x9_2).f1))∧w'.cell? (ad460.add (x8_1).toNat)=some (.int .i64 (rd x452000_2 x8_1))∧w'.cell? (ad458.add ((x9_2).toNat * 2))=some (.int .i64 ((rd_T38 l2 x9_2).f0))∧w'.cell? ⟨(ad458.add ((x9_2).toNat * 2)).block,(ad458.add ((x9_2).toNat * 2)).off+1,none⟩=some (.bool ((rd_T38 l2 x9_2).f1))) (ds:=[]) #[false,false,false,false,false,false,false,false,false,false,false,false,false,false,false,false,false,false,false,false,false,false,false] (by kernel_rfl) rfl rfl ⟨(blk_cell BK449.out 0).trans rfl,(blk_cell BK449.out 1).trans rfl,(blk_cell BK449.out 2).trans rfl,(blk_cell BK451.out 0).trans rfl,(blk_cell BK451.out 1).trans rfl,((HB.out.cell (World.block_lt_of_cell? w _ hw458_0)).trans hw458_0),((HB.out.cell (World.block_lt_of_cell? w _ hw458_1)).trans hw458_1),hx460_0,((HB.out.cell (World.block_lt_of_cell? w _ hw461_0)).trans hw461_0),((HB.out.cell (World.block_lt_of_cell? w _ hw461_1)).trans hw461_1)⟩ (fun hHeld=> ?_);refine with_tabW ebbtideref08_sought.tab10 ebbtideref08_sought.bits10 (fun HT_ HW_=> ?_)
      generalize wr.drew=w51 at HO_452000 HO_452001 BK449 BK450 BK451 HB hx458_0 hx458_1 hx460_0 hx461_0 hx461_1 hHeld ⊢
      refine pure_ (i:=1) (N:=some 36) (v:= ?_) (a':= ?_) #[false,true,false,false,false,false,false,false,false,false,false,false,false,false,false,false,false,false,false,false,false,false,false] rfl rfl (any_of HT_.out (by kernel_rfl)) (fun _ _ _ h=>h) (Or.inl ⟨by rfl,?_⟩) ?_ ?_
      rotate_left
      ·intro w'
       go_simp
       with_reducible rfl
      rotate_left
      ·simp only[Act.put,List.setIfInBounds_toArray,List.set_cons_zero,List.set_cons_succ,i64_w,i32_w]
       rfl
      refine pure_ (i:=2) (N:=some 37) (v:= ?_) (a':= ?_) #[false,true,true,false,false,false,false,false,false,false,false,false,false,false,false,false,false,false,false,false,false,false,false] rfl rfl (any_of HT_.out (by kernel_rfl)) (fun _ _ _ h=>h) (Or.inl ⟨by rfl,?_⟩) ?_ ?_
      rotate_left
      ·intro w'
       go_simp
       with_reducible rfl
      rotate_left
      ·simp only[Act.put,List.setIfInBounds_toArray,List.set_cons_zero,List.set_cons_succ,i64_w,i32_w]
       rfl
      refine pure_ (i:=3) (N:=some 38) (v:= ?_) (a':= ?_) #[false,true,true,true,false,false,false,false,false,false,false,false,false,false,false,false,false,false,false,false,false,false,false] rfl rfl (any_of HT_.out (by kernel_rfl)) (fun _ _ _ h=>h) (Or.inl ⟨by rfl,?_⟩) ?_ ?_
      rotate_left
      ·intro w'
       go_simp
       with_reducible rfl
      rotate_left
      ·simp only[Act.put,List.setIfInBounds_toArray,List.set_cons_zero,List.set_cons_succ,i64_w,i32_w]
       rfl
      refine pure_ (i:=6) (N:=some 41) (v:= ?_) (a':= ?_) #[false,true,true,true,false,false,true,false,false,false,false,false,false,false,false,false,false,false,false,false,false,false,false] rfl rfl (any_of HT_.out (by kernel_rfl)) (fun _ _ _ h=>h) (Or.inl ⟨by rfl,?_⟩) ?_ ?_
      rotate_left
      ·intro w'
       go_simp
       with_reducible rfl
      rotate_left
      ·simp only[Act.put,List.setIfInBounds_toArray,List.set_cons_zero,List.set_cons_succ,i64_w,i32_w]
       rfl
      refine pure_ (i:=8) (N:=some 43) (v:= ?_) (a':= ?_) #[false,true,true,true,false,false,true,false,true,false,false,false,false,false,false,false,false,false,false,false,false,false,false] rfl rfl (any_of HT_.out (by kernel_rfl)) (fun _ _ _ h=>h) (Or.inl ⟨by rfl,?_⟩) ?_ ?_
      rotate_left
      ·intro w'
       go_simp
       with_reducible rfl
      rotate_left
      ·simp only[Act.put,List.setIfInBounds_toArray,List.set_cons_zero,List.set_cons_succ,i64_w,i32_w]
       rfl
      refine take_ (i:=0) (N:=some 35) (v:= ?_) (a':= ?_) #[true,true,true,true,false,false,true,false,true,false,false,false,false,false,false,false,false,false,false,false,false,false,false] rfl rfl (take_ofW HT_.out HW_.out (by kernel_rfl)) (fun _ _ _ h=>h) (Or.inl ⟨by rfl,?_⟩) hHeld ?_ ?_
      rotate_left
      ·rintro w' ⟨s0,s1,s2,s3,s4,s5,s6,s7,s8,s9⟩
       go_simp
       with_reducible rfl
      rotate_left
      ·simp only[Act.put,List.setIfInBounds_toArray,List.set_cons_zero,List.set_cons_succ,i64_w,i32_w]
       rfl
      refine take_ (i:=4) (N:=some 39) (v:= ?_) (a':= ?_) #[true,true,true,true,true,false,true,false,true,false,false,false,false,false,false,false,false,false,false,false,false,false,false] rfl rfl (take_ofW HT_.out HW_.out (by kernel_rfl)) (fun _ _ _ h=>h) (Or.inl ⟨by rfl,?_⟩) hHeld ?_ ?_
      rotate_left
      ·rintro w' ⟨s0,s1,s2,s3,s4,s5,s6,s7,s8,s9⟩
       go_simp
       with_reducible rfl
      rotate_left
      ·simp only[Act.put,List.setIfInBounds_toArray,List.set_cons_zero,List.set_cons_succ,i64_w,i32_w]
       rfl
      refine take_ (i:=7) (N:=some 42) (v:= ?_) (a':= ?_) #[true,true,true,true,true,false,true,true,true,false,false,false,false,false,false,false,false,false,false,false,false,false,false] rfl rfl (take_ofW HT_.out HW_.out (by kernel_rfl)) (fun _ _ _ h=>h) (Or.inl ⟨by rfl,?_⟩) hHeld ?_ ?_
      rotate_left
      ·rintro w' ⟨s0,s1,s2,s3,s4,s5,s6,s7,s8,s9⟩
       go_simp
       with_reducible rfl
      rotate_left
      ·simp only[Act.put,List.setIfInBounds_toArray,List.set_cons_zero,List.set_cons_succ,i64_w,i32_w]
       rfl
      refine pure_ (i:=9) (N:=some 44) (v:= ?_) (a':= ?_) #[true,true,true,true,true,false,true,true,true,true,false,false,false,false,false,false,false,false,false,false,false,false,false] rfl rfl (any_of HT_.out (by kernel_rfl)) (fun _ _ _ h=>h) (Or.inl ⟨by rfl,?_⟩) ?_ ?_
      rotate_left
      ·intro w'
       go_simp
       with_reducible rfl
      rotate_left
      ·simp only[Act.put,List.setIfInBounds_toArray,List.set_cons_zero,List.set_cons_succ,i64_w,i32_w]
       rfl
      refine take_ (i:=10) (N:=some 45) (v:= ?_) (a':= ?_) #[true,true,true,true,true,false,true,true,true,true,true,false,false,false,false,false,false,false,false,false,false,false,false] rfl rfl (take_ofW HT_.out HW_.out (by kernel_rfl)) (fun _ _ _ h=>h) (Or.inl ⟨by rfl,?_⟩) hHeld ?_ ?_
      rotate_left
      ·rintro w' ⟨s0,s1,s2,s3,s4,s5,s6,s7,s8,s9⟩
       go_simp
       with_reducible rfl
      rotate_left
      ·simp only[Act.put,List.setIfInBounds_toArray,List.set_cons_zero,List.set_cons_succ,i64_w,i32_w]
       rfl
      refine one_ (i:=5) (N:=some 40) #[true,true,true,true,true,true,true,true,true,true,true,false,false,false,false,false,false,false,false,false,false,false,false] rfl rfl (one_of HT_.out (by kernel_rfl)) (by decide) (fun K hK=> ?_)
      refine goes_ Try.func44 (by kernel_rfl) rfl #[.agg #[.int .i64 a0_0, .bool a0_1, .slice A0_2 l0_2.length c0_2], .agg #[.int .i64 ((rd_T38 l2 x9_2).f0), .bool ((rd_T38 l2 x9_2).f1)]] (by rfl) rfl rfl (by(try simp only[List.map_toArray,List.map_cons,List.map_nil]);first|done|rfl|(simp only[List.length_drop,List.length_take];rfl)) ?_
      with_reducible refine(ebbtideref07_From.calls a0_0 a0_1 _ _ l0_2 ((rd_T38 l2 x9_2).f0) ((rd_T38 l2 x9_2).f1) t459 _ ?side1 ?side2 A25.out).mono ?_
      (case side1=>repeat(first|exact(Kd.C_below HR0_2.out HB.out)|(with_reducible refine Kd.C_alloc ?_ _)|(with_reducible refine Kd.C_drewN ?_ _)|(with_reducible refine Kd.C_drew ?_)))
      (case side2=>exact HC0_2.out)
      rintro e w53 ⟨rfl,hb⟩
      have HS7_:=(hb.cell (World.block_lt_of_cell? _ _ (hHeld.2.2.2.2.2.2.2.1))).trans (hHeld.2.2.2.2.2.2.2.1)
      refine⟨_,rfl,?_⟩
      have n0_:=Aside0.mk (Kd.R_below HO_452000.out hb)
      have n1_:=Aside0.mk (Kd.R_below HO_452001.out hb)
      have n2_:=Aside0.mk (blk_below BK449.out hb)
      have n3_:=Aside0.mk (blk_below BK450.out hb)
      have n4_:=Aside0.mk (blk_below BK451.out hb)
      have n5_:=Aside0.mk (below_step HB.out hb)
      clear HO_452000
      clear HO_452001
      clear BK449
      clear BK450
      clear BK451
      clear HB
      have HO_452000:=n0_
      have HO_452001:=n1_
      have BK449:=n2_
      have BK450:=n3_
      have BK451:=n4_
      have HB:=n5_
      clear n0_ n1_ n2_ n3_ n4_ n5_
      (try clear hb)
      (try clear hb2)
      (try clear hk)
      (try clear hi)
      refine hK.out _ _ ⟨(blk_cell BK449.out 0).trans rfl,(blk_cell BK449.out 1).trans rfl,(blk_cell BK449.out 2).trans rfl,(blk_cell BK451.out 0).trans rfl,(blk_cell BK451.out 1).trans rfl,((HB.out.cell (World.block_lt_of_cell? w _ hw458_0)).trans hw458_0),((HB.out.cell (World.block_lt_of_cell? w _ hw458_1)).trans hw458_1),HS7_,((HB.out.cell (World.block_lt_of_cell? w _ hw461_0)).trans hw461_0),((HB.out.cell (World.block_lt_of_cell? w _ hw461_1)).trans hw461_1)⟩ (fun hHeld=> ?_)
      clear hK K
      refine norm_ (a':= ?_) ?_ ?_
      rotate_left
      ·show Act.put _ (some 40) _=_
       simp only[Act.put,List.setIfInBounds_toArray,List.set_cons_zero,List.set_cons_succ,i64_w,i32_w]
       rfl
      refine pure_ (i:=11) (N:=some 46) (v:= ?_) (a':= ?_) #[true,true,true,true,true,true,true,true,true,true,true,true,false,false,false,false,false,false,false,false,false,false,false] rfl rfl (any_of HT_.out (by kernel_rfl)) (fun _ _ _ h=>h) (Or.inl ⟨by rfl,?_⟩) ?_ ?_
      rotate_left
      ·intro w'
       go_simp
       with_reducible rfl
      rotate_left
      ·simp only[Act.put,List.setIfInBounds_toArray,List.set_cons_zero,List.set_cons_succ,i64_w,i32_w]
       rfl
      refine pure_ (i:=12) (N:=some 47) (v:= ?_) (a':= ?_) #[true,true,true,true,true,true,true,true,true,true,true,true,true,false,false,false,false,false,false,false,false,false,false] rfl rfl (any_of HT_.out (by kernel_rfl)) (fun _ _ _ h=>h) (Or.inl ⟨by rfl,?_⟩) ?_ ?_
      rotate_left
      ·intro w'
       go_simp
       with_reducible rfl
      rotate_left
      ·simp only[Act.put,List.setIfInBounds_toArray,List.set_cons_zero,List.set_cons_succ,i64_w,i32_w]
       rfl
      refine pure_ (i:=15) (N:=some 50) (v:= ?_) (a':= ?_) #[true,true,true,true,true,true,true,true,true,true,true,true,true,false,false,true,false,false,false,false,false,false,false] rfl rfl (any_of HT_.out (by kernel_rfl)) (fun _ _ _ h=>h) (Or.inl ⟨by rfl,?_⟩) ?_ ?_
      rotate_left
      ·intro w'
       go_simp
       with_reducible rfl
      rotate_left
      ·simp only[Act.put,List.setIfInBounds_toArray,List.set_cons_zero,List.set_cons_succ,i64_w,i32_w]
       rfl
      refine pure_ (i:=16) (N:=some 51) (v:= ?_) (a':= ?_) #[true,true,true,true,true,true,true,true,true,true,true,true,true,false,false,true,true,false,false,false,false,false,false] rfl rfl (any_of HT_.out (by kernel_rfl)) (fun _ _ _ h=>h) (Or.inl ⟨by rfl,?_⟩) ?_ ?_
      rotate_left
      ·intro w'
       go_simp
       with_reducible rfl
      rotate_left
      ·simp only[Act.put,List.setIfInBounds_toArray,List.set_cons_zero,List.set_cons_succ,i64_w,i32_w]
       rfl
      refine pure_ (i:=17) (N:=some 52) (v:= ?_) (a':= ?_) #[true,true,true,true,true,true,true,true,true,true,true,true,true,false,false,true,true,true,false,false,false,false,false] rfl rfl (any_of HT_.out (by kernel_rfl)) (fun _ _ _ h=>h) (Or.inl ⟨by rfl,?_⟩) ?_ ?_
      rotate_left
      ·intro w'
       go_simp
       with_reducible rfl
      rotate_left
      ·simp only[Act.put,List.setIfInBounds_toArray,List.set_cons_zero,List.set_cons_succ,i64_w,i32_w]
       rfl
      refine take_ (i:=13) (N:=some 48) (v:= ?_) (a':= ?_) #[true,true,true,true,true,true,true,true,true,true,true,true,true,true,false,true,true,true,false,false,false,false,false] rfl rfl (take_ofW HT_.out HW_.out (by kernel_rfl)) (fun _ _ _ h=>h) (Or.inl ⟨by rfl,?_⟩) hHeld ?_ ?_
      rotate_left
      ·rintro w' ⟨s0,s1,s2,s3,s4,s5,s6,s7,s8,s9⟩
       go_simp
       with_reducible rfl
      rotate_left
      ·simp only[Act.put,List.setIfInBounds_toArray,List.set_cons_zero,List.set_cons_succ,i64_w,i32_w]
       rfl
      refine take_ (i:=14) (N:=some 49) (v:= ?_) (a':= ?_) #[true,true,true,true,true,true,true,true,true,true,true,true,true,true,true,true,true,true,false,false,false,false,false] rfl rfl (take_ofW HT_.out HW_.out (by kernel_rfl)) (fun _ _ _ h=>h) (Or.inl ⟨by rfl,?_⟩) hHeld ?_ ?_
      rotate_left
      ·rintro w' ⟨s0,s1,s2,s3,s4,s5,s6,s7,s8,s9⟩
       go_simp
       with_reducible rfl
      rotate_left
      ·simp only[Act.put,List.setIfInBounds_toArray,List.set_cons_zero,List.set_cons_succ,i64_w,i32_w]
       rfl
      refine take_ (i:=18) (N:=some 53) (v:= ?_) (a':= ?_) #[true,true,true,true,true,true,true,true,true,true,true,true,true,true,true,true,true,true,true,false,false,false,false] rfl rfl (take_ofW HT_.out HW_.out (by kernel_rfl)) (fun _ _ _ h=>h) (Or.inl ⟨by rfl,?_⟩) hHeld ?_ ?_
      rotate_left
      ·rintro w' ⟨s0,s1,s2,s3,s4,s5,s6,s7,s8,s9⟩
       go_simp
       with_reducible rfl
      rotate_left
      ·simp only[Act.put,List.setIfInBounds_toArray,List.set_cons_zero,List.set_cons_succ,i64_w,i32_w]
       rfl
      refine one_ (i:=19) (N:=some 54) #[true,true,true,true,true,true,true,true,true,true,true,true,true,true,true,true,true,true,true,true,false,false,false] rfl rfl (one_of HT_.out (by kernel_rfl)) (by decide) (fun K hK=> ?_)
      refine goes_ Try.func45 (by kernel_rfl) rfl #[.agg #[.int .i64 a0_0, .bool a0_1, .slice A0_2 l0_2.length c0_2], .agg #[.int .i64 ((rd_T38 l2 x9_2).f0), .bool ((rd_T38 l2 x9_2).f1)]] (by rfl) rfl rfl (by(try simp only[List.map_toArray,List.map_cons,List.map_nil]);first|done|rfl|(simp only[List.length_drop,List.length_take];rfl)) ?_
      with_reducible refine(ebbtideref07_To.calls a0_0 a0_1 _ _ l0_2 ((rd_T38 l2 x9_2).f0) ((rd_T38 l2 x9_2).f1) t462 _ ?side1 ?side2 A29.out).mono ?_
      (case side1=>repeat(first|exact(Kd.C_below HR0_2.out HB.out)|(with_reducible refine Kd.C_alloc ?_ _)|(with_reducible refine Kd.C_drewN ?_ _)|(with_reducible refine Kd.C_drew ?_)))
      (case side2=>exact HC0_2.out)
      rintro e w54 ⟨rfl,hb⟩
      have HS7_:=(hb.cell (World.block_lt_of_cell? _ _ (hHeld.2.2.2.2.2.2.2.1))).trans (hHeld.2.2.2.2.2.2.2.1)
      refine⟨_,rfl,?_⟩
      have n0_:=Aside0.mk (Kd.R_below HO_452000.out hb)
      have n1_:=Aside0.mk (Kd.R_below HO_452001.out hb)
      have n2_:=Aside0.mk (blk_below BK449.out hb)
      have n3_:=Aside0.mk (blk_below BK450.out hb)
      have n4_:=Aside0.mk (blk_below BK451.out hb)
      have n5_:=Aside0.mk (below_step HB.out hb)
      clear HO_452000
      clear HO_452001
      clear BK449
      clear BK450
      clear BK451
      clear HB
      have HO_452000:=n0_
      have HO_452001:=n1_
      have BK449:=n2_
      have BK450:=n3_
      have BK451:=n4_
      have HB:=n5_
      clear n0_ n1_ n2_ n3_ n4_ n5_
      (try clear hb)
      (try clear hb2)
      (try clear hk)
      (try clear hi)
      obtain⟨Ao55,co55,eo55⟩:=Kd.R_slice HO_452001.out
      (first|subst eo55|(injection eo55 with f1_ f2_ f3_;have f4_:=f1_.symm;have f5_:=f3_.symm;clear f1_ f2_ f3_;subst f4_;subst f5_))
      refine hK.out _ _ ⟨(blk_cell BK449.out 0).trans rfl,(blk_cell BK449.out 1).trans rfl,(blk_cell BK449.out 2).trans rfl,(blk_cell BK451.out 0).trans rfl,(blk_cell BK451.out 1).trans rfl,((HB.out.cell (World.block_lt_of_cell? w _ hw458_0)).trans hw458_0),((HB.out.cell (World.block_lt_of_cell? w _ hw458_1)).trans hw458_1),HS7_,((HB.out.cell (World.block_lt_of_cell? w _ hw461_0)).trans hw461_0),((HB.out.cell (World.block_lt_of_cell? w _ hw461_1)).trans hw461_1)⟩ (fun hHeld=> ?_)
      clear hK K
      refine norm_ (a':= ?_) ?_ ?_
      rotate_left
      ·show Act.put _ (some 54) _=_
       simp only[Act.put,List.setIfInBounds_toArray,List.set_cons_zero,List.set_cons_succ,i64_w,i32_w]
       rfl
      refine one_ (i:=20) (N:=some 55) #[true,true,true,true,true,true,true,true,true,true,true,true,true,true,true,true,true,true,true,true,true,false,false] rfl rfl (one_of HT_.out (by kernel_rfl)) (by decide) (fun K hK=> ?_)
      refine goes_ Try.func147 (by kernel_rfl) rfl #[.agg #[.slice (some ad460) x452000_2.length co52, .slice Ao55 x452001_2.length co55], .int .i64 t462] (by rfl) rfl rfl (by(try simp only[List.map_toArray,List.map_cons,List.map_nil]);first|done|rfl|(simp only[List.length_drop,List.length_take];rfl)) ?_
      with_reducible refine(ebbtideref08_found_has.calls k2 _ _ x452000_2 _ _ x452001_2 t462 t463 _ ?side1 ?side2 ?side3 ?side4 A30.out).mono ?_
      (case side1=>repeat(first|exact(Kd.R_reads' HO_452000.out).2.2|(with_reducible refine Kd.C_alloc ?_ _)|(with_reducible refine Kd.C_drewN ?_ _)|(with_reducible refine Kd.C_drew ?_)))
      (case side2=>exact(Kd.R_reads' HO_452000.out).2.1)
      (case side3=>repeat(first|exact(Kd.R_reads' HO_452001.out).2.2|(with_reducible refine Kd.C_alloc ?_ _)|(with_reducible refine Kd.C_drewN ?_ _)|(with_reducible refine Kd.C_drew ?_)))
      (case side4=>exact(Kd.R_reads' HO_452001.out).2.1)
      rintro e w56 ⟨rfl,hb⟩
      have HS7_:=(hb.cell (World.block_lt_of_cell? _ _ (hHeld.2.2.2.2.2.2.2.1))).trans (hHeld.2.2.2.2.2.2.2.1)
      refine⟨_,rfl,?_⟩
      have n0_:=Aside0.mk (Kd.R_below HO_452000.out hb)
      have n1_:=Aside0.mk (Kd.R_below HO_452001.out hb)
      have n2_:=Aside0.mk (blk_below BK449.out hb)
      have n3_:=Aside0.mk (blk_below BK450.out hb)
      have n4_:=Aside0.mk (blk_below BK451.out hb)
      have n5_:=Aside0.mk (below_step HB.out hb)
      clear HO_452000
      clear HO_452001
      clear BK449
      clear BK450
      clear BK451
      clear HB
      have HO_452000:=n0_
      have HO_452001:=n1_
      have BK449:=n2_
      have BK450:=n3_
      have BK451:=n4_
      have HB:=n5_
      clear n0_ n1_ n2_ n3_ n4_ n5_
      (try clear hb)
      (try clear hb2)
      (try clear hk)
      (try clear hi)
      refine hK.out _ _ ⟨(blk_cell BK449.out 0).trans rfl,(blk_cell BK449.out 1).trans rfl,(blk_cell BK449.out 2).trans rfl,(blk_cell BK451.out 0).trans rfl,(blk_cell BK451.out 1).trans rfl,((HB.out.cell (World.block_lt_of_cell? w _ hw458_0)).trans hw458_0),((HB.out.cell (World.block_lt_of_cell? w _ hw458_1)).trans hw458_1),HS7_,((HB.out.cell (World.block_lt_of_cell? w _ hw461_0)).trans hw461_0),((HB.out.cell (World.block_lt_of_cell? w _ hw461_1)).trans hw461_1)⟩ (fun hHeld=> ?_)
      clear hK K
      refine norm_ (a':= ?_) ?_ ?_
      rotate_left
      ·show Act.put _ (some 55) _=_
       simp only[Act.put,List.setIfInBounds_toArray,List.set_cons_zero,List.set_cons_succ,i64_w,i32_w]
       rfl
      refine pure_ (i:=21) (N:=some 56) (v:= ?_) (a':= ?_) #[true,true,true,true,true,true,true,true,true,true,true,true,true,true,true,true,true,true,true,true,true,true,false] rfl rfl (any_of HT_.out (by kernel_rfl)) (fun _ _ _ h=>h) (Or.inl ⟨by rfl,?_⟩) ?_ ?_
      rotate_left
      ·intro w'
       go_simp
       with_reducible rfl
      rotate_left
      ·simp only[Act.put,List.setIfInBounds_toArray,List.set_cons_zero,List.set_cons_succ,i64_w,i32_w]
       rfl
      refine pure_ (i:=22) (N:=some 57) (v:= ?_) (a':= ?_) #[true,true,true,true,true,true,true,true,true,true,true,true,true,true,true,true,true,true,true,true,true,true,true] rfl rfl (any_of HT_.out (by kernel_rfl)) (fun _ _ _ h=>h) (Or.inl ⟨by rfl,?_⟩) ?_ ?_
      rotate_left
      ·intro w'
       go_simp
       with_reducible rfl
      rotate_left
      ·simp only[Act.put,List.setIfInBounds_toArray,List.set_cons_zero,List.set_cons_succ,i64_w,i32_w]
       rfl
      refine done_ (done_of HT_.out (by kernel_rfl)) ?_
      try go_wp2
      go_roundg k2
      case measure=>have:=HK1.out;have:=HK2.out;omega
      case rel=>exact⟨(wrap64 (x9_2+1)),(x452000_2),(x452001_2),(.slice (some ad460) x452000_2.length co52),(.slice Ao55 x452001_2.length co55),(by first|rfl|(simp;done)|(simp[*];done)),H',⟨by have:=HK1.out;have:=HK2.out;omega⟩,⟨HO_452000.out⟩,⟨HO_452001.out⟩,⟨BK449.out⟩,⟨BK450.out⟩,⟨BK451.out⟩,⟨HB.out⟩⟩
     rw[if_pos c31] at H
     have c31b0:decide (t463<0)=true:=decide_eq_true c31
     clear c31
     replace H:=Option.bind_eq_some_iff.mp H
     obtain⟨t465,A320,H⟩:=H
     replace H:(if x452000_2.length<17592186044416 then(if x452001_2.length<8796093022208 then(ebbtideref08_sought.l1 k2 l2 x8_1 (wrap64 (x9_2+1)) a0_0 a0_1 l0_2 (x452000_2 ++ [t465]) (x452001_2 ++ [(⟨(rd_T38 l2 x9_2).f0,(rd_T38 l2 x9_2).f1⟩:S38)])) else(none)) else(none))=some (r1,r2):=H
     have A32:=Aside0.mk A320
     clear A320
     by_cases c33:x452000_2.length<17592186044416
     rotate_left
     ·rw[if_neg c33] at H
      exact absurd H (by simp)
     rw[if_pos c33] at H
     have LMc33:=Aside0.mk c33
     clear c33
     obtain⟨y466,hy466⟩: ∃ y_:List Int,y_=(x452000_2 ++ [t465]):=⟨_,rfl⟩
     replace H:(if x452001_2.length<8796093022208 then(ebbtideref08_sought.l1 k2 l2 x8_1 (wrap64 (x9_2+1)) a0_0 a0_1 l0_2 y466 (x452001_2 ++ [(⟨(rd_T38 l2 x9_2).f0,(rd_T38 l2 x9_2).f1⟩:S38)])) else(none))=some (r1,r2):=by first|(rw[hy466];with_reducible exact H)|(have H2_:=(Option.bind_some _ _).symm.trans H;rw[hy466];with_reducible exact H2_)|(have H2_:=(Option.bind_some _ _).symm.trans H;with_reducible exact H2_)|with_reducible exact H|(rw[hy466];exact H)|exact H
     have Ny466:=Aside0.mk hy466
     clear hy466
     by_cases c34:x452001_2.length<8796093022208
     rotate_left
     ·rw[if_neg c34] at H
      exact absurd H (by simp)
     rw[if_pos c34] at H
     have LMc34:=Aside0.mk c34
     clear c34
     obtain⟨y470,hy470⟩: ∃ y_:List (S38),y_=(x452001_2 ++ [(⟨(rd_T38 l2 x9_2).f0,(rd_T38 l2 x9_2).f1⟩:S38)]):=⟨_,rfl⟩
     replace H:(ebbtideref08_sought.l1 k2 l2 x8_1 (wrap64 (x9_2+1)) a0_0 a0_1 l0_2 y466 y470)=some (r1,r2):=by first|(rw[hy470];with_reducible exact H)|(have H2_:=(Option.bind_some _ _).symm.trans H;rw[hy470];with_reducible exact H2_)|(have H2_:=(Option.bind_some _ _).symm.trans H;with_reducible exact H2_)|with_reducible exact H|(rw[hy470];exact H)|exact H
     have Ny470:=Aside0.mk hy470
     clear hy470
     have H':=Aside0.mk H
     clear H
     try go_wp2
     have n0_:=Aside0.mk (Kd.R_drew HO_452000.out)
     have n1_:=Aside0.mk (Kd.R_drew HO_452001.out)
     have n2_:=Aside0.mk (blk_drew BK449.out)
     have n3_:=Aside0.mk (blk_drew BK450.out)
     have n4_:=Aside0.mk (blk_drew BK451.out)
     have n5_:=Aside0.mk (below_drew1 HB.out)
     clear HO_452000
     clear HO_452001
     clear BK449
     clear BK450
     clear BK451
     clear HB
     have HO_452000:=n0_
     have HO_452001:=n1_
     have BK449:=n2_
     have BK450:=n3_
     have BK451:=n4_
     have HB:=n5_
     clear n0_ n1_ n2_ n3_ n4_ n5_
     have p458:0≤(x9_2:Int):=of_decide_eq_true (by first|(with_reducible assumption)|assumption)
     have q458:x9_2<(l2.length:Int):=of_decide_eq_true (by first|(with_reducible assumption)|assumption)
     obtain⟨ad458,e458,hx458_0,hx458_1⟩:=at_T38 HR2.out x9_2 p458 q458
     have hw458_1:=hx458_1
     have hw458_0:=hx458_0
     cases e458
     replace hx458_0:=(HB.out.cell (World.block_lt_of_cell? w _ hx458_0)).trans hx458_0
     replace hx458_1:=(HB.out.cell (World.block_lt_of_cell? w _ hx458_1)).trans hx458_1
     replace p458:=eq_true p458
     replace q458:=eq_true q458
     obtain⟨Ao36,co36,eo36⟩:=Kd.R_slice HO_452000.out
     (first|subst eo36|(injection eo36 with f1_ f2_ f3_;have f4_:=f1_.symm;have f5_:=f3_.symm;clear f1_ f2_ f3_;subst f4_;subst f5_))
     have p460:0≤(x8_1:Int):=of_decide_eq_true (by first|(with_reducible assumption)|assumption)
     have q460:x8_1<(x452000_2.length:Int):=of_decide_eq_true (by first|(with_reducible assumption)|assumption)
     obtain⟨ad460,e460,hx460_0⟩:=Kd.at_int (Kd.R_reads' HO_452000.out).2.2 x8_1 p460 q460
     cases e460
     replace p460:=eq_true p460
     replace q460:=eq_true q460
     have p461:0≤(x9_2:Int):=of_decide_eq_true (by first|(with_reducible assumption)|assumption)
     have q461:x9_2<(l2.length:Int):=of_decide_eq_true (by first|(with_reducible assumption)|assumption)
     obtain⟨ad461,e461,hx461_0,hx461_1⟩:=at_T38 HR2.out x9_2 p461 q461
     have hw461_1:=hx461_1
     have hw461_0:=hx461_0
     obtain rfl:ad458=ad461:=(by injection e461)
     replace hx461_0:=(HB.out.cell (World.block_lt_of_cell? w _ hx461_0)).trans hx461_0
     replace hx461_1:=(HB.out.cell (World.block_lt_of_cell? w _ hx461_1)).trans hx461_1
     replace p461:=eq_true p461
     replace q461:=eq_true q461
     refine start_ (n:=23) (S:=fun w'=>w'.cell? ⟨gb449,0,none⟩=some (.int .i64 a0_0)∧w'.cell? ⟨gb449,1,none⟩=some (.bool a0_1)∧w'.cell? ⟨gb449,2,none⟩=some (.slice A0_2 l0_2.length c0_2)∧w'.cell? ⟨gb451,0,none⟩=some (.slice (some ad460) x452000_2.length co36)∧w'.cell? ⟨gb451,1,none⟩=some (u452001)∧w'.cell? (ad458.add ((x9_2).toNat * 2))=some (.int .i64 ((rd_T38 l2 x9_2).f0))∧w'.cell? ⟨(ad458.add ((x9_2).toNat * 2)).block,(ad458.add ((x9_2).toNat * 2)).off+1,none⟩=some (.bool ((rd_T38 l2 x9_2).f1))∧w'.cell? (ad460.add (x8_1).toNat)=some (.int .i64 (rd x452000_2 x8_1))∧w'.cell? (ad458.add ((x9_2).toNat * 2))=some (.int .i64 ((rd_T38 l2 x9_2).f0))∧w'.cell? ⟨(ad458.add ((x9_2).toNat * 2)).block,(ad458.add ((x9_2).toNat * 2)).off+1,none⟩=some (.bool ((rd_T38 l2 x9_2).f1))) (ds:=[]) #[false,false,false,false,false,false,false,false,false,false,false,false,false,false,false,false,false,false,false,false,false,false,false] (by kernel_rfl) rfl rfl ⟨(blk_cell BK449.out 0).trans rfl,(blk_cell BK449.out 1).trans rfl,(blk_cell BK449.out 2).trans rfl,(blk_cell BK451.out 0).trans rfl,(blk_cell BK451.out 1).trans rfl,((HB.out.cell (World.block_lt_of_cell? w _ hw458_0)).trans hw458_0),((HB.out.cell (World.block_lt_of_cell? w _ hw458_1)).trans hw458_1),hx460_0,((HB.out.cell (World.block_lt_of_cell? w _ hw461_0)).trans hw461_0),((HB.out.cell (World.block_lt_of_cell? w _ hw461_1)).trans hw461_1)⟩ (fun hHeld=> ?_);refine with_tabW ebbtideref08_sought.tab10 ebbtideref08_sought.bits10 (fun HT_ HW_=> ?_)
     generalize wr.drew=w35 at HO_452000 HO_452001 BK449 BK450 BK451 HB hx458_0 hx458_1 hx460_0 hx461_0 hx461_1 hHeld ⊢
     refine pure_ (i:=1) (N:=some 36) (v:= ?_) (a':= ?_) #[false,true,false,false,false,false,false,false,false,false,false,false,false,false,false,false,false,false,false,false,false,false,false] rfl rfl (any_of HT_.out (by kernel_rfl)) (fun _ _ _ h=>h) (Or.inl ⟨by rfl,?_⟩) ?_ ?_
     rotate_left
     ·intro w'
      go_simp
      with_reducible rfl
     rotate_left
     ·simp only[Act.put,List.setIfInBounds_toArray,List.set_cons_zero,List.set_cons_succ,i64_w,i32_w]
      rfl
     refine pure_ (i:=2) (N:=some 37) (v:= ?_) (a':= ?_) #[false,true,true,false,false,false,false,false,false,false,false,false,false,false,false,false,false,false,false,false,false,false,false] rfl rfl (any_of HT_.out (by kernel_rfl)) (fun _ _ _ h=>h) (Or.inl ⟨by rfl,?_⟩) ?_ ?_
     rotate_left
     ·intro w'
      go_simp
      with_reducible rfl
     rotate_left
     ·simp only[Act.put,List.setIfInBounds_toArray,List.set_cons_zero,List.set_cons_succ,i64_w,i32_w]
      rfl
     refine pure_ (i:=3) (N:=some 38) (v:= ?_) (a':= ?_) #[false,true,true,true,false,false,false,false,false,false,false,false,false,false,false,false,false,false,false,false,false,false,false] rfl rfl (any_of HT_.out (by kernel_rfl)) (fun _ _ _ h=>h) (Or.inl ⟨by rfl,?_⟩) ?_ ?_
     rotate_left
     ·intro w'
      go_simp
      with_reducible rfl
     rotate_left
     ·simp only[Act.put,List.setIfInBounds_toArray,List.set_cons_zero,List.set_cons_succ,i64_w,i32_w]
      rfl
     refine pure_ (i:=6) (N:=some 41) (v:= ?_) (a':= ?_) #[false,true,true,true,false,false,true,false,false,false,false,false,false,false,false,false,false,false,false,false,false,false,false] rfl rfl (any_of HT_.out (by kernel_rfl)) (fun _ _ _ h=>h) (Or.inl ⟨by rfl,?_⟩) ?_ ?_
     rotate_left
     ·intro w'
      go_simp
      with_reducible rfl
     rotate_left
     ·simp only[Act.put,List.setIfInBounds_toArray,List.set_cons_zero,List.set_cons_succ,i64_w,i32_w]
      rfl
     refine pure_ (i:=8) (N:=some 43) (v:= ?_) (a':= ?_) #[false,true,true,true,false,false,true,false,true,false,false,false,false,false,false,false,false,false,false,false,false,false,false] rfl rfl (any_of HT_.out (by kernel_rfl)) (fun _ _ _ h=>h) (Or.inl ⟨by rfl,?_⟩) ?_ ?_
     rotate_left
     ·intro w'
      go_simp
      with_reducible rfl
     rotate_left
     ·simp only[Act.put,List.setIfInBounds_toArray,List.set_cons_zero,List.set_cons_succ,i64_w,i32_w]
      rfl
     refine take_ (i:=0) (N:=some 35) (v:= ?_) (a':= ?_) #[true,true,true,true,false,false,true,false,true,false,false,false,false,false,false,false,false,false,false,false,false,false,false] rfl rfl (take_ofW HT_.out HW_.out (by kernel_rfl)) (fun _ _ _ h=>h) (Or.inl ⟨by rfl,?_⟩) hHeld ?_ ?_
     rotate_left
     ·rintro w' ⟨s0,s1,s2,s3,s4,s5,s6,s7,s8,s9⟩
      go_simp
      with_reducible rfl
     rotate_left
     ·simp only[Act.put,List.setIfInBounds_toArray,List.set_cons_zero,List.set_cons_succ,i64_w,i32_w]
      rfl
     refine take_ (i:=4) (N:=some 39) (v:= ?_) (a':= ?_) #[true,true,true,true,true,false,true,false,true,false,false,false,false,false,false,false,false,false,false,false,false,false,false] rfl rfl (take_ofW HT_.out HW_.out (by kernel_rfl)) (fun _ _ _ h=>h) (Or.inl ⟨by rfl,?_⟩) hHeld ?_ ?_
     rotate_left
     ·rintro w' ⟨s0,s1,s2,s3,s4,s5,s6,s7,s8,s9⟩
      go_simp
      with_reducible rfl
     rotate_left
     ·simp only[Act.put,List.setIfInBounds_toArray,List.set_cons_zero,List.set_cons_succ,i64_w,i32_w]
      rfl
     refine take_ (i:=7) (N:=some 42) (v:= ?_) (a':= ?_) #[true,true,true,true,true,false,true,true,true,false,false,false,false,false,false,false,false,false,false,false,false,false,false] rfl rfl (take_ofW HT_.out HW_.out (by kernel_rfl)) (fun _ _ _ h=>h) (Or.inl ⟨by rfl,?_⟩) hHeld ?_ ?_
     rotate_left
     ·rintro w' ⟨s0,s1,s2,s3,s4,s5,s6,s7,s8,s9⟩
      go_simp
      with_reducible rfl
     rotate_left
     ·simp only[Act.put,List.setIfInBounds_toArray,List.set_cons_zero,List.set_cons_succ,i64_w,i32_w]
      rfl
     refine pure_ (i:=9) (N:=some 44) (v:= ?_) (a':= ?_) #[true,true,true,true,true,false,true,true,true,true,false,false,false,false,false,false,false,false,false,false,false,false,false] rfl rfl (any_of HT_.out (by kernel_rfl)) (fun _ _ _ h=>h) (Or.inl ⟨by rfl,?_⟩) ?_ ?_
     rotate_left
     ·intro w'
      go_simp
      with_reducible rfl
     rotate_left
     ·simp only[Act.put,List.setIfInBounds_toArray,List.set_cons_zero,List.set_cons_succ,i64_w,i32_w]
      rfl
     refine take_ (i:=10) (N:=some 45) (v:= ?_) (a':= ?_) #[true,true,true,true,true,false,true,true,true,true,true,false,false,false,false,false,false,false,false,false,false,false,false] rfl rfl (take_ofW HT_.out HW_.out (by kernel_rfl)) (fun _ _ _ h=>h) (Or.inl ⟨by rfl,?_⟩) hHeld ?_ ?_
     rotate_left
     ·rintro w' ⟨s0,s1,s2,s3,s4,s5,s6,s7,s8,s9⟩
      go_simp
      with_reducible rfl
     rotate_left
     ·simp only[Act.put,List.setIfInBounds_toArray,List.set_cons_zero,List.set_cons_succ,i64_w,i32_w]
      rfl
     refine one_ (i:=5) (N:=some 40) #[true,true,true,true,true,true,true,true,true,true,true,false,false,false,false,false,false,false,false,false,false,false,false] rfl rfl (one_of HT_.out (by kernel_rfl)) (by decide) (fun K hK=> ?_)
     refine goes_ Try.func44 (by kernel_rfl) rfl #[.agg #[.int .i64 a0_0, .bool a0_1, .slice A0_2 l0_2.length c0_2], .agg #[.int .i64 ((rd_T38 l2 x9_2).f0), .bool ((rd_T38 l2 x9_2).f1)]] (by rfl) rfl rfl (by(try simp only[List.map_toArray,List.map_cons,List.map_nil]);first|done|rfl|(simp only[List.length_drop,List.length_take];rfl)) ?_
     with_reducible refine(ebbtideref07_From.calls a0_0 a0_1 _ _ l0_2 ((rd_T38 l2 x9_2).f0) ((rd_T38 l2 x9_2).f1) t459 _ ?side1 ?side2 A25.out).mono ?_
     (case side1=>repeat(first|exact(Kd.C_below HR0_2.out HB.out)|(with_reducible refine Kd.C_alloc ?_ _)|(with_reducible refine Kd.C_drewN ?_ _)|(with_reducible refine Kd.C_drew ?_)))
     (case side2=>exact HC0_2.out)
     rintro e w37 ⟨rfl,hb⟩
     have HS7_:=(hb.cell (World.block_lt_of_cell? _ _ (hHeld.2.2.2.2.2.2.2.1))).trans (hHeld.2.2.2.2.2.2.2.1)
     refine⟨_,rfl,?_⟩
     have n0_:=Aside0.mk (Kd.R_below HO_452000.out hb)
     have n1_:=Aside0.mk (Kd.R_below HO_452001.out hb)
     have n2_:=Aside0.mk (blk_below BK449.out hb)
     have n3_:=Aside0.mk (blk_below BK450.out hb)
     have n4_:=Aside0.mk (blk_below BK451.out hb)
     have n5_:=Aside0.mk (below_step HB.out hb)
     clear HO_452000
     clear HO_452001
     clear BK449
     clear BK450
     clear BK451
     clear HB
     have HO_452000:=n0_
     have HO_452001:=n1_
     have BK449:=n2_
     have BK450:=n3_
     have BK451:=n4_
     have HB:=n5_
     clear n0_ n1_ n2_ n3_ n4_ n5_
     (try clear hb)
     (try clear hb2)
     (try clear hk)
     (try clear hi)
     refine hK.out _ _ ⟨(blk_cell BK449.out 0).trans rfl,(blk_cell BK449.out 1).trans rfl,(blk_cell BK449.out 2).trans rfl,(blk_cell BK451.out 0).trans rfl,(blk_cell BK451.out 1).trans rfl,((HB.out.cell (World.block_lt_of_cell? w _ hw458_0)).trans hw458_0),((HB.out.cell (World.block_lt_of_cell? w _ hw458_1)).trans hw458_1),HS7_,((HB.out.cell (World.block_lt_of_cell? w _ hw461_0)).trans hw461_0),((HB.out.cell (World.block_lt_of_cell? w _ hw461_1)).trans hw461_1)⟩ (fun hHeld=> ?_)
     clear hK K
     refine norm_ (a':= ?_) ?_ ?_
     rotate_left
     ·show Act.put _ (some 40) _=_
      simp only[Act.put,List.setIfInBounds_toArray,List.set_cons_zero,List.set_cons_succ,i64_w,i32_w]
      rfl
     refine pure_ (i:=11) (N:=some 46) (v:= ?_) (a':= ?_) #[true,true,true,true,true,true,true,true,true,true,true,true,false,false,false,false,false,false,false,false,false,false,false] rfl rfl (any_of HT_.out (by kernel_rfl)) (fun _ _ _ h=>h) (Or.inl ⟨by rfl,?_⟩) ?_ ?_
     rotate_left
     ·intro w'
      go_simp
      with_reducible rfl
     rotate_left
     ·simp only[Act.put,List.setIfInBounds_toArray,List.set_cons_zero,List.set_cons_succ,i64_w,i32_w]
      rfl
     refine pure_ (i:=12) (N:=some 47) (v:= ?_) (a':= ?_) #[true,true,true,true,true,true,true,true,true,true,true,true,true,false,false,false,false,false,false,false,false,false,false] rfl rfl (any_of HT_.out (by kernel_rfl)) (fun _ _ _ h=>h) (Or.inl ⟨by rfl,?_⟩) ?_ ?_
     rotate_left
     ·intro w'
      go_simp
      with_reducible rfl
     rotate_left
     ·simp only[Act.put,List.setIfInBounds_toArray,List.set_cons_zero,List.set_cons_succ,i64_w,i32_w]
      rfl
     refine pure_ (i:=15) (N:=some 50) (v:= ?_) (a':= ?_) #[true,true,true,true,true,true,true,true,true,true,true,true,true,false,false,true,false,false,false,false,false,false,false] rfl rfl (any_of HT_.out (by kernel_rfl)) (fun _ _ _ h=>h) (Or.inl ⟨by rfl,?_⟩) ?_ ?_
     rotate_left
     ·intro w'
      go_simp
      with_reducible rfl
     rotate_left
     ·simp only[Act.put,List.setIfInBounds_toArray,List.set_cons_zero,List.set_cons_succ,i64_w,i32_w]
      rfl
     refine pure_ (i:=16) (N:=some 51) (v:= ?_) (a':= ?_) #[true,true,true,true,true,true,true,true,true,true,true,true,true,false,false,true,true,false,false,false,false,false,false] rfl rfl (any_of HT_.out (by kernel_rfl)) (fun _ _ _ h=>h) (Or.inl ⟨by rfl,?_⟩) ?_ ?_
     rotate_left
     ·intro w'
      go_simp
      with_reducible rfl
     rotate_left
     ·simp only[Act.put,List.setIfInBounds_toArray,List.set_cons_zero,List.set_cons_succ,i64_w,i32_w]
      rfl
     refine pure_ (i:=17) (N:=some 52) (v:= ?_) (a':= ?_) #[true,true,true,true,true,true,true,true,true,true,true,true,true,false,false,true,true,true,false,false,false,false,false] rfl rfl (any_of HT_.out (by kernel_rfl)) (fun _ _ _ h=>h) (Or.inl ⟨by rfl,?_⟩) ?_ ?_
     rotate_left
     ·intro w'
      go_simp
      with_reducible rfl
     rotate_left
     ·simp only[Act.put,List.setIfInBounds_toArray,List.set_cons_zero,List.set_cons_succ,i64_w,i32_w]
      rfl
     refine take_ (i:=13) (N:=some 48) (v:= ?_) (a':= ?_) #[true,true,true,true,true,true,true,true,true,true,true,true,true,true,false,true,true,true,false,false,false,false,false] rfl rfl (take_ofW HT_.out HW_.out (by kernel_rfl)) (fun _ _ _ h=>h) (Or.inl ⟨by rfl,?_⟩) hHeld ?_ ?_
     rotate_left
     ·rintro w' ⟨s0,s1,s2,s3,s4,s5,s6,s7,s8,s9⟩
      go_simp
      with_reducible rfl
     rotate_left
     ·simp only[Act.put,List.setIfInBounds_toArray,List.set_cons_zero,List.set_cons_succ,i64_w,i32_w]
      rfl
     refine take_ (i:=14) (N:=some 49) (v:= ?_) (a':= ?_) #[true,true,true,true,true,true,true,true,true,true,true,true,true,true,true,true,true,true,false,false,false,false,false] rfl rfl (take_ofW HT_.out HW_.out (by kernel_rfl)) (fun _ _ _ h=>h) (Or.inl ⟨by rfl,?_⟩) hHeld ?_ ?_
     rotate_left
     ·rintro w' ⟨s0,s1,s2,s3,s4,s5,s6,s7,s8,s9⟩
      go_simp
      with_reducible rfl
     rotate_left
     ·simp only[Act.put,List.setIfInBounds_toArray,List.set_cons_zero,List.set_cons_succ,i64_w,i32_w]
      rfl
     refine take_ (i:=18) (N:=some 53) (v:= ?_) (a':= ?_) #[true,true,true,true,true,true,true,true,true,true,true,true,true,true,true,true,true,true,true,false,false,false,false] rfl rfl (take_ofW HT_.out HW_.out (by kernel_rfl)) (fun _ _ _ h=>h) (Or.inl ⟨by rfl,?_⟩) hHeld ?_ ?_
     rotate_left
     ·rintro w' ⟨s0,s1,s2,s3,s4,s5,s6,s7,s8,s9⟩
      go_simp
      with_reducible rfl
     rotate_left
     ·simp only[Act.put,List.setIfInBounds_toArray,List.set_cons_zero,List.set_cons_succ,i64_w,i32_w]
      rfl
     refine one_ (i:=19) (N:=some 54) #[true,true,true,true,true,true,true,true,true,true,true,true,true,true,true,true,true,true,true,true,false,false,false] rfl rfl (one_of HT_.out (by kernel_rfl)) (by decide) (fun K hK=> ?_)
     refine goes_ Try.func45 (by kernel_rfl) rfl #[.agg #[.int .i64 a0_0, .bool a0_1, .slice A0_2 l0_2.length c0_2], .agg #[.int .i64 ((rd_T38 l2 x9_2).f0), .bool ((rd_T38 l2 x9_2).f1)]] (by rfl) rfl rfl (by(try simp only[List.map_toArray,List.map_cons,List.map_nil]);first|done|rfl|(simp only[List.length_drop,List.length_take];rfl)) ?_
     with_reducible refine(ebbtideref07_To.calls a0_0 a0_1 _ _ l0_2 ((rd_T38 l2 x9_2).f0) ((rd_T38 l2 x9_2).f1) t462 _ ?side1 ?side2 A29.out).mono ?_
     (case side1=>repeat(first|exact(Kd.C_below HR0_2.out HB.out)|(with_reducible refine Kd.C_alloc ?_ _)|(with_reducible refine Kd.C_drewN ?_ _)|(with_reducible refine Kd.C_drew ?_)))
     (case side2=>exact HC0_2.out)
     rintro e w38 ⟨rfl,hb⟩
     have HS7_:=(hb.cell (World.block_lt_of_cell? _ _ (hHeld.2.2.2.2.2.2.2.1))).trans (hHeld.2.2.2.2.2.2.2.1)
     refine⟨_,rfl,?_⟩
     have n0_:=Aside0.mk (Kd.R_below HO_452000.out hb)
     have n1_:=Aside0.mk (Kd.R_below HO_452001.out hb)
     have n2_:=Aside0.mk (blk_below BK449.out hb)
     have n3_:=Aside0.mk (blk_below BK450.out hb)
     have n4_:=Aside0.mk (blk_below BK451.out hb)
     have n5_:=Aside0.mk (below_step HB.out hb)
     clear HO_452000
     clear HO_452001
     clear BK449
     clear BK450
     clear BK451
     clear HB
     have HO_452000:=n0_
     have HO_452001:=n1_
     have BK449:=n2_
     have BK450:=n3_
     have BK451:=n4_
     have HB:=n5_
     clear n0_ n1_ n2_ n3_ n4_ n5_
     (try clear hb)
     (try clear hb2)
     (try clear hk)
     (try clear hi)
     obtain⟨Ao39,co39,eo39⟩:=Kd.R_slice HO_452001.out
     (first|subst eo39|(injection eo39 with f1_ f2_ f3_;have f4_:=f1_.symm;have f5_:=f3_.symm;clear f1_ f2_ f3_;subst f4_;subst f5_))
     refine hK.out _ _ ⟨(blk_cell BK449.out 0).trans rfl,(blk_cell BK449.out 1).trans rfl,(blk_cell BK449.out 2).trans rfl,(blk_cell BK451.out 0).trans rfl,(blk_cell BK451.out 1).trans rfl,((HB.out.cell (World.block_lt_of_cell? w _ hw458_0)).trans hw458_0),((HB.out.cell (World.block_lt_of_cell? w _ hw458_1)).trans hw458_1),HS7_,((HB.out.cell (World.block_lt_of_cell? w _ hw461_0)).trans hw461_0),((HB.out.cell (World.block_lt_of_cell? w _ hw461_1)).trans hw461_1)⟩ (fun hHeld=> ?_)
     clear hK K
     refine norm_ (a':= ?_) ?_ ?_
     rotate_left
     ·show Act.put _ (some 54) _=_
      simp only[Act.put,List.setIfInBounds_toArray,List.set_cons_zero,List.set_cons_succ,i64_w,i32_w]
      rfl
     refine one_ (i:=20) (N:=some 55) #[true,true,true,true,true,true,true,true,true,true,true,true,true,true,true,true,true,true,true,true,true,false,false] rfl rfl (one_of HT_.out (by kernel_rfl)) (by decide) (fun K hK=> ?_)
     refine goes_ Try.func147 (by kernel_rfl) rfl #[.agg #[.slice (some ad460) x452000_2.length co36, .slice Ao39 x452001_2.length co39], .int .i64 t462] (by rfl) rfl rfl (by(try simp only[List.map_toArray,List.map_cons,List.map_nil]);first|done|rfl|(simp only[List.length_drop,List.length_take];rfl)) ?_
     with_reducible refine(ebbtideref08_found_has.calls k2 _ _ x452000_2 _ _ x452001_2 t462 t463 _ ?side1 ?side2 ?side3 ?side4 A30.out).mono ?_
     (case side1=>repeat(first|exact(Kd.R_reads' HO_452000.out).2.2|(with_reducible refine Kd.C_alloc ?_ _)|(with_reducible refine Kd.C_drewN ?_ _)|(with_reducible refine Kd.C_drew ?_)))
     (case side2=>exact(Kd.R_reads' HO_452000.out).2.1)
     (case side3=>repeat(first|exact(Kd.R_reads' HO_452001.out).2.2|(with_reducible refine Kd.C_alloc ?_ _)|(with_reducible refine Kd.C_drewN ?_ _)|(with_reducible refine Kd.C_drew ?_)))
     (case side4=>exact(Kd.R_reads' HO_452001.out).2.1)
     rintro e w40 ⟨rfl,hb⟩
     have HS7_:=(hb.cell (World.block_lt_of_cell? _ _ (hHeld.2.2.2.2.2.2.2.1))).trans (hHeld.2.2.2.2.2.2.2.1)
     refine⟨_,rfl,?_⟩
     have n0_:=Aside0.mk (Kd.R_below HO_452000.out hb)
     have n1_:=Aside0.mk (Kd.R_below HO_452001.out hb)
     have n2_:=Aside0.mk (blk_below BK449.out hb)
     have n3_:=Aside0.mk (blk_below BK450.out hb)
     have n4_:=Aside0.mk (blk_below BK451.out hb)
     have n5_:=Aside0.mk (below_step HB.out hb)
     clear HO_452000
     clear HO_452001
     clear BK449
     clear BK450
     clear BK451
     clear HB
     have HO_452000:=n0_
     have HO_452001:=n1_
     have BK449:=n2_
     have BK450:=n3_
     have BK451:=n4_
     have HB:=n5_
     clear n0_ n1_ n2_ n3_ n4_ n5_
     (try clear hb)
     (try clear hb2)
     (try clear hk)
     (try clear hi)
     refine hK.out _ _ ⟨(blk_cell BK449.out 0).trans rfl,(blk_cell BK449.out 1).trans rfl,(blk_cell BK449.out 2).trans rfl,(blk_cell BK451.out 0).trans rfl,(blk_cell BK451.out 1).trans rfl,((HB.out.cell (World.block_lt_of_cell? w _ hw458_0)).trans hw458_0),((HB.out.cell (World.block_lt_of_cell? w _ hw458_1)).trans hw458_1),HS7_,((HB.out.cell (World.block_lt_of_cell? w _ hw461_0)).trans hw461_0),((HB.out.cell (World.block_lt_of_cell? w _ hw461_1)).trans hw461_1)⟩ (fun hHeld=> ?_)
     clear hK K
     refine norm_ (a':= ?_) ?_ ?_
     rotate_left
     ·show Act.put _ (some 55) _=_
      simp only[Act.put,List.setIfInBounds_toArray,List.set_cons_zero,List.set_cons_succ,i64_w,i32_w]
      rfl
     refine pure_ (i:=21) (N:=some 56) (v:= ?_) (a':= ?_) #[true,true,true,true,true,true,true,true,true,true,true,true,true,true,true,true,true,true,true,true,true,true,false] rfl rfl (any_of HT_.out (by kernel_rfl)) (fun _ _ _ h=>h) (Or.inl ⟨by rfl,?_⟩) ?_ ?_
     rotate_left
     ·intro w'
      go_simp
      with_reducible rfl
     rotate_left
     ·simp only[Act.put,List.setIfInBounds_toArray,List.set_cons_zero,List.set_cons_succ,i64_w,i32_w]
      rfl
     refine pure_ (i:=22) (N:=some 57) (v:= ?_) (a':= ?_) #[true,true,true,true,true,true,true,true,true,true,true,true,true,true,true,true,true,true,true,true,true,true,true] rfl rfl (any_of HT_.out (by kernel_rfl)) (fun _ _ _ h=>h) (Or.inl ⟨by rfl,?_⟩) ?_ ?_
     rotate_left
     ·intro w'
      go_simp
      with_reducible rfl
     rotate_left
     ·simp only[Act.put,List.setIfInBounds_toArray,List.set_cons_zero,List.set_cons_succ,i64_w,i32_w]
      rfl
     refine done_ (done_of HT_.out (by kernel_rfl)) ?_
     try go_wp2
     have n0_:=Aside0.mk (Kd.R_drew HO_452000.out)
     have n1_:=Aside0.mk (Kd.R_drew HO_452001.out)
     have n2_:=Aside0.mk (blk_drew BK449.out)
     have n3_:=Aside0.mk (blk_drew BK450.out)
     have n4_:=Aside0.mk (blk_drew BK451.out)
     have n5_:=Aside0.mk (below_drew1 HB.out)
     clear HO_452000
     clear HO_452001
     clear BK449
     clear BK450
     clear BK451
     clear HB
     have HO_452000:=n0_
     have HO_452001:=n1_
     have BK449:=n2_
     have BK450:=n3_
     have BK451:=n4_
     have HB:=n5_
     clear n0_ n1_ n2_ n3_ n4_ n5_
     have p464:0≤(x9_2:Int):=of_decide_eq_true (by first|(with_reducible assumption)|assumption)
     have q464:x9_2<(l2.length:Int):=of_decide_eq_true (by first|(with_reducible assumption)|assumption)
     obtain⟨ad464,e464,hx464_0,hx464_1⟩:=at_T38 HR2.out x9_2 p464 q464
     have hw464_1:=hx464_1
     have hw464_0:=hx464_0
     obtain rfl:ad458=ad464:=(by injection e464)
     replace hx464_0:=(HB.out.cell (World.block_lt_of_cell? w _ hx464_0)).trans hx464_0
     replace hx464_1:=(HB.out.cell (World.block_lt_of_cell? w _ hx464_1)).trans hx464_1
     replace p464:=eq_true p464
     replace q464:=eq_true q464
     refine start_ (n:=12) (S:=fun w'=>w'.cell? ⟨gb451,0,none⟩=some (.slice (some ad460) x452000_2.length co36)∧w'.cell? ⟨gb451,1,none⟩=some (.slice Ao39 x452001_2.length co39)∧w'.cell? ⟨gb449,0,none⟩=some (.int .i64 a0_0)∧w'.cell? ⟨gb449,1,none⟩=some (.bool a0_1)∧w'.cell? ⟨gb449,2,none⟩=some (.slice A0_2 l0_2.length c0_2)∧w'.cell? (ad458.add ((x9_2).toNat * 2))=some (.int .i64 ((rd_T38 l2 x9_2).f0))∧w'.cell? ⟨(ad458.add ((x9_2).toNat * 2)).block,(ad458.add ((x9_2).toNat * 2)).off+1,none⟩=some (.bool ((rd_T38 l2 x9_2).f1))) (ds:=[11]) #[false,false,false,false,false,false,false,false,false,false,false,false] (by kernel_rfl) rfl rfl ⟨(blk_cell BK451.out 0).trans rfl,(blk_cell BK451.out 1).trans rfl,(blk_cell BK449.out 0).trans rfl,(blk_cell BK449.out 1).trans rfl,(blk_cell BK449.out 2).trans rfl,((HB.out.cell (World.block_lt_of_cell? w _ hw464_0)).trans hw464_0),((HB.out.cell (World.block_lt_of_cell? w _ hw464_1)).trans hw464_1)⟩ (fun hHeld=> ?_);refine with_tabW ebbtideref08_sought.tab11 ebbtideref08_sought.bits11 (fun HT_ HW_=> ?_)
     generalize w40.drew=w41 at HO_452000 HO_452001 BK449 BK450 BK451 HB hx464_0 hx464_1 hHeld ⊢
     refine pure_ (i:=0) (N:=some 58) (v:= ?_) (a':= ?_) #[true,false,false,false,false,false,false,false,false,false,false,false] rfl rfl (any_of HT_.out (by kernel_rfl)) (fun _ _ _ h=>h) (Or.inl ⟨by rfl,?_⟩) ?_ ?_
     rotate_left
     ·intro w'
      go_simp
      with_reducible rfl
     rotate_left
     ·simp only[Act.put,List.setIfInBounds_toArray,List.set_cons_zero,List.set_cons_succ,i64_w,i32_w]
      rfl
     refine pure_ (i:=3) (N:=some 61) (v:= ?_) (a':= ?_) #[true,false,false,true,false,false,false,false,false,false,false,false] rfl rfl (any_of HT_.out (by kernel_rfl)) (fun _ _ _ h=>h) (Or.inl ⟨by rfl,?_⟩) ?_ ?_
     rotate_left
     ·intro w'
      go_simp
      with_reducible rfl
     rotate_left
     ·simp only[Act.put,List.setIfInBounds_toArray,List.set_cons_zero,List.set_cons_succ,i64_w,i32_w]
      rfl
     refine pure_ (i:=4) (N:=some 62) (v:= ?_) (a':= ?_) #[true,false,false,true,true,false,false,false,false,false,false,false] rfl rfl (any_of HT_.out (by kernel_rfl)) (fun _ _ _ h=>h) (Or.inl ⟨by rfl,?_⟩) ?_ ?_
     rotate_left
     ·intro w'
      go_simp
      with_reducible rfl
     rotate_left
     ·simp only[Act.put,List.setIfInBounds_toArray,List.set_cons_zero,List.set_cons_succ,i64_w,i32_w]
      rfl
     refine pure_ (i:=5) (N:=some 63) (v:= ?_) (a':= ?_) #[true,false,false,true,true,true,false,false,false,false,false,false] rfl rfl (any_of HT_.out (by kernel_rfl)) (fun _ _ _ h=>h) (Or.inl ⟨by rfl,?_⟩) ?_ ?_
     rotate_left
     ·intro w'
      go_simp
      with_reducible rfl
     rotate_left
     ·simp only[Act.put,List.setIfInBounds_toArray,List.set_cons_zero,List.set_cons_succ,i64_w,i32_w]
      rfl
     refine take_ (i:=1) (N:=some 59) (v:= ?_) (a':= ?_) #[true,true,false,true,true,true,false,false,false,false,false,false] rfl rfl (take_ofW HT_.out HW_.out (by kernel_rfl)) (fun _ _ _ h=>h) (Or.inl ⟨by rfl,?_⟩) hHeld ?_ ?_
     rotate_left
     ·rintro w' ⟨s0,s1,s2,s3,s4,s5,s6⟩
      go_simp
      with_reducible rfl
     rotate_left
     ·simp only[Act.put,List.setIfInBounds_toArray,List.set_cons_zero,List.set_cons_succ,i64_w,i32_w]
      rfl
     refine take_ (i:=2) (N:=some 60) (v:= ?_) (a':= ?_) #[true,true,true,true,true,true,false,false,false,false,false,false] rfl rfl (take_ofW HT_.out HW_.out (by kernel_rfl)) (fun _ _ _ h=>h) (Or.inl ⟨by rfl,?_⟩) hHeld ?_ ?_
     rotate_left
     ·rintro w' ⟨s0,s1,s2,s3,s4,s5,s6⟩
      go_simp
      with_reducible rfl
     rotate_left
     ·simp only[Act.put,List.setIfInBounds_toArray,List.set_cons_zero,List.set_cons_succ,i64_w,i32_w]
      rfl
     refine take_ (i:=6) (N:=some 64) (v:= ?_) (a':= ?_) #[true,true,true,true,true,true,true,false,false,false,false,false] rfl rfl (take_ofW HT_.out HW_.out (by kernel_rfl)) (fun _ _ _ h=>h) (Or.inl ⟨by rfl,?_⟩) hHeld ?_ ?_
     rotate_left
     ·rintro w' ⟨s0,s1,s2,s3,s4,s5,s6⟩
      go_simp
      with_reducible rfl
     rotate_left
     ·simp only[Act.put,List.setIfInBounds_toArray,List.set_cons_zero,List.set_cons_succ,i64_w,i32_w]
      rfl
     refine one_ (i:=7) (N:=some 65) #[true,true,true,true,true,true,true,true,false,false,false,false] rfl rfl (one_of HT_.out (by kernel_rfl)) (by decide) (fun K hK=> ?_)
     refine goes_ Try.func45 (by kernel_rfl) rfl #[.agg #[.int .i64 a0_0, .bool a0_1, .slice A0_2 l0_2.length c0_2], .agg #[.int .i64 ((rd_T38 l2 x9_2).f0), .bool ((rd_T38 l2 x9_2).f1)]] (by rfl) rfl rfl (by(try simp only[List.map_toArray,List.map_cons,List.map_nil]);first|done|rfl|(simp only[List.length_drop,List.length_take];rfl)) ?_
     with_reducible refine(ebbtideref07_To.calls a0_0 a0_1 _ _ l0_2 ((rd_T38 l2 x9_2).f0) ((rd_T38 l2 x9_2).f1) t465 _ ?side1 ?side2 A32.out).mono ?_
     (case side1=>repeat(first|exact(Kd.C_below HR0_2.out HB.out)|(with_reducible refine Kd.C_alloc ?_ _)|(with_reducible refine Kd.C_drewN ?_ _)|(with_reducible refine Kd.C_drew ?_)))
     (case side2=>exact HC0_2.out)
     rintro e w42 ⟨rfl,hb⟩
     refine⟨_,rfl,?_⟩
     have n0_:=Aside0.mk (Kd.R_below HO_452000.out hb)
     have n1_:=Aside0.mk (Kd.R_below HO_452001.out hb)
     have n2_:=Aside0.mk (blk_below BK449.out hb)
     have n3_:=Aside0.mk (blk_below BK450.out hb)
     have n4_:=Aside0.mk (blk_below BK451.out hb)
     have n5_:=Aside0.mk (below_step HB.out hb)
     clear HO_452000
     clear HO_452001
     clear BK449
     clear BK450
     clear BK451
     clear HB
     have HO_452000:=n0_
     have HO_452001:=n1_
     have BK449:=n2_
     have BK450:=n3_
     have BK451:=n4_
     have HB:=n5_
     clear n0_ n1_ n2_ n3_ n4_ n5_
     (try clear hb)
     (try clear hb2)
     (try clear hk)
     (try clear hi)
     refine hK.out _ _ ⟨(blk_cell BK451.out 0).trans rfl,(blk_cell BK451.out 1).trans rfl,(blk_cell BK449.out 0).trans rfl,(blk_cell BK449.out 1).trans rfl,(blk_cell BK449.out 2).trans rfl,((HB.out.cell (World.block_lt_of_cell? w _ hw464_0)).trans hw464_0),((HB.out.cell (World.block_lt_of_cell? w _ hw464_1)).trans hw464_1)⟩ (fun hHeld=> ?_)
     clear hK K
     refine norm_ (a':= ?_) ?_ ?_
     rotate_left
     ·show Act.put _ (some 65) _=_
      simp only[Act.put,List.setIfInBounds_toArray,List.set_cons_zero,List.set_cons_succ,i64_w,i32_w]
      rfl
     refine one_ (i:=8) (N:=some 66) #[true,true,true,true,true,true,true,true,true,false,false,false] rfl rfl (one_of HT_.out (by kernel_rfl)) (by decide) (fun K hK=> ?_)
     refine value_ (w1:= ?_) (v:= ?_) (by rfl) rfl ?_ ?_
     rotate_left 2
     ·go_simp
      constructor
      ·rfl
      ·rfl
     refine hK.out _ _ ⟨(blk_cell (blk_alloc BK451.out _) 0).trans rfl,(blk_cell (blk_alloc BK451.out _) 1).trans rfl,(blk_cell (blk_alloc BK449.out _) 0).trans rfl,(blk_cell (blk_alloc BK449.out _) 1).trans rfl,(blk_cell (blk_alloc BK449.out _) 2).trans rfl,(World.cell?_alloc_lt _ _ _ (World.block_lt_of_cell? _ _ (((HB.out.cell (World.block_lt_of_cell? w _ hw464_0)).trans hw464_0)))).trans (((HB.out.cell (World.block_lt_of_cell? w _ hw464_0)).trans hw464_0)),(World.cell?_alloc_lt _ _ _ (World.block_lt_of_cell? _ _ (((HB.out.cell (World.block_lt_of_cell? w _ hw464_1)).trans hw464_1)))).trans (((HB.out.cell (World.block_lt_of_cell? w _ hw464_1)).trans hw464_1))⟩ (fun hHeld=> ?_)
     clear hK K
     refine norm_ (a':= ?_) ?_ ?_
     rotate_left
     ·show Act.put _ (some 66) _=_
      simp only[Act.put,List.setIfInBounds_toArray,List.set_cons_zero,List.set_cons_succ,i64_w,i32_w]
      rfl
     refine one_ (i:=9) (N:=some 67) #[true,true,true,true,true,true,true,true,true,true,false,false] rfl rfl (one_of HT_.out (by kernel_rfl)) (by decide) (fun K hK=> ?_)
     refine Kd.R_append_step (Kd.int .i64) (w0:=w) w.heap.size (by rfl) (.tmp 59) (.tmp 66) 25 3 (.int .i64 0) 8 rfl Try.underlying25 info3 rfl (by decide) (by omega) (.slice (some ad460) x452000_2.length co36) x452000_2 t465 [.int .i64 t465] (fun _=>True) (fun _=>False) rfl rfl ?aP (fun _ hk=>hk.elim) ?aF ?aO ?aB ?aS ?aL ?_
     (case aP=>exact rfl)
     (case aB=>exact HB.out)
     (case aF=>exact(fun _ _=>trivial))
     (case aO=>exact HO_452000.out)
     (case aS=>exact(below_size HB.out))
     (case aL=>have:=LMc33.out;omega)
     intro v467 w43 ho hb hg hat
     rw[← Ny466.out] at ho
     have n0_:=Aside0.mk (Kd.R_over' HO_452001.out (Kd.R_typed HO_452000.out) (by decide) hg)
     have n1_:=Aside0.mk (blk_grown BK449.out hg (Kd.R_ne HO_452000.out BK449.out (by decide)))
     have n2_:=Aside0.mk (blk_grown BK450.out hg (Kd.R_ne HO_452000.out BK450.out (by decide)))
     have n3_:=Aside0.mk (blk_grown BK451.out hg (Kd.R_ne HO_452000.out BK451.out (by decide)))
     have n4_:=Aside0.mk (hb)
     have n5_:=Aside0.mk (ho)
     clear HO_452001
     clear BK449
     clear BK450
     clear BK451
     clear HB
     clear HO_452000
     have HO_452001:=n0_
     have BK449:=n1_
     have BK450:=n2_
     have BK451:=n3_
     have HB:=n4_
     have HO468:=n5_
     clear n0_ n1_ n2_ n3_ n4_ n5_
     clear ho hb hg hat
     obtain⟨Ao44,co44,eo44⟩:=Kd.R_slice HO468.out
     (first|subst eo44|(injection eo44 with f1_ f2_ f3_;have f4_:=f1_.symm;have f5_:=f3_.symm;clear f1_ f2_ f3_;subst f4_;subst f5_))
     refine hK.out _ _ ⟨(blk_cell BK451.out 0).trans rfl,(blk_cell BK451.out 1).trans rfl,(blk_cell BK449.out 0).trans rfl,(blk_cell BK449.out 1).trans rfl,(blk_cell BK449.out 2).trans rfl,((HB.out.cell (World.block_lt_of_cell? w _ hw464_0)).trans hw464_0),((HB.out.cell (World.block_lt_of_cell? w _ hw464_1)).trans hw464_1)⟩ (fun hHeld=> ?_)
     clear hK K
     refine norm_ (a':= ?_) ?_ ?_
     rotate_left
     ·show Act.put _ (some 67) _=_
      simp only[Act.put,List.setIfInBounds_toArray,List.set_cons_zero,List.set_cons_succ,i64_w,i32_w]
      rfl
     refine pure_ (i:=10) (N:=some 68) (v:= ?_) (a':= ?_) #[true,true,true,true,true,true,true,true,true,true,true,false] rfl rfl (any_of HT_.out (by kernel_rfl)) (fun _ _ _ h=>h) (Or.inl ⟨by rfl,?_⟩) ?_ ?_
     rotate_left
     ·intro w'
      go_simp
      with_reducible rfl
     rotate_left
     ·simp only[Act.put,List.setIfInBounds_toArray,List.set_cons_zero,List.set_cons_succ,i64_w,i32_w]
      rfl
     refine last_ (i:=11) (N:=none) #[true,true,true,true,true,true,true,true,true,true,true,true] rfl rfl (one_of HT_.out (by kernel_rfl)) (by decide) (fun K hK=> ?_)
     have hs45:w43.cell? ⟨gb451,0,none⟩=some (.slice (some ad460) x452000_2.length co36):=(blk_cell BK451.out 0).trans rfl
     have hfs45:=blk_frozen BK451.out 0
     have hns45_0:=NB449_451.out
     have hns45_1:=NB450_451.out
     have hms45_0:=NB451_449.out
     have hms45_1:=NB451_450.out
     refine skip_ (w1:= ?_) (by rfl) rfl ?_ ?_
     rotate_left
     ·go_simp
      rfl
     refine hK.out _ _ ?_
     clear hK K
     refine done_ (done_of HT_.out (by kernel_rfl)) ?_
     try go_wp2
     have n0_:Aside0 (Kd.R k38 38 (w43.setCell ⟨gb451,0,none⟩ (.slice Ao44 y466.length co44)) w.heap.size (fun _=>True) (.slice Ao39 x452001_2.length co39) x452001_2):=⟨by(with_reducible repeat(first|apply Kd.R_alloc|apply Kd.R_drewN|apply Kd.R_drew));exact Kd.R_mono (Kd.R_far (p:=⟨gb451,0,none⟩) (Kd.R_types HO_452001.out BK451.out (by decide)) (fun _ hk=>hk.2) (.slice Ao44 y466.length co44)) (fun _ hk=>trivial)⟩
     have n1_:Aside0 (Kd.R (Kd.int .i64) 3 (w43.setCell ⟨gb451,0,none⟩ (.slice Ao44 y466.length co44)) w.heap.size (fun _=>True) (.slice Ao44 y466.length co44) y466):=⟨by(with_reducible repeat(first|apply Kd.R_alloc|apply Kd.R_drewN|apply Kd.R_drew));exact Kd.R_mono (Kd.R_far (p:=⟨gb451,0,none⟩) (Kd.R_types HO468.out BK451.out (by decide)) (fun _ hk=>hk.2) (.slice Ao44 y466.length co44)) (fun _ hk=>trivial)⟩
     have n2_:Aside0 ((w43.setCell ⟨gb451,0,none⟩ (.slice Ao44 y466.length co44)).heap[gb449]? =some (.cells #[.int .i64 a0_0, .bool a0_1, .slice A0_2 l0_2.length c0_2] 24 (0,0))):=⟨by(with_reducible repeat(first|refine blk_drewN ?_ _|refine blk_drew ?_|refine blk_alloc ?_ _));refine blk_far ?_ NB449_451.out _;(with_reducible repeat(first|refine blk_drewN ?_ _|refine blk_drew ?_|refine blk_alloc ?_ _));exact BK449.out⟩
     have n3_:Aside0 ((w43.setCell ⟨gb451,0,none⟩ (.slice Ao44 y466.length co44)).heap[gb450]? =some (.cells #[.slice none 0 0, .slice none 0 0] 161 (0,0))):=⟨by(with_reducible repeat(first|refine blk_drewN ?_ _|refine blk_drew ?_|refine blk_alloc ?_ _));refine blk_far ?_ NB450_451.out _;(with_reducible repeat(first|refine blk_drewN ?_ _|refine blk_drew ?_|refine blk_alloc ?_ _));exact BK450.out⟩
     have n4_:Aside0 ((w43.setCell ⟨gb451,0,none⟩ (.slice Ao44 y466.length co44)).heap[gb451]? =some (.cells #[.slice Ao44 y466.length co44, .slice Ao39 x452001_2.length co39] 161 (0,0))):=⟨by(with_reducible repeat(first|refine blk_drewN ?_ _|refine blk_drew ?_|refine blk_alloc ?_ _));refine blk_put (cs:= #[.slice (some ad460) x452000_2.length co36, .slice Ao39 x452001_2.length co39]) ?_ 0 _ rfl;(with_reducible repeat(first|refine blk_drewN ?_ _|refine blk_drew ?_|refine blk_alloc ?_ _));exact BK451.out⟩
     have n5_:Aside0 (Below w.heap.size w (w43.setCell ⟨gb451,0,none⟩ (.slice Ao44 y466.length co44))):=⟨by repeat(first|(with_reducible first|exact HB.out|apply below_alloc|apply pw_below_drewN|apply below_drew1|refine below_set ?_ GE449.out|refine below_set ?_ GE450.out|refine below_set ?_ GE451.out)|exact HB.out)⟩
     (try clear HO_452001)
     (try clear HO468)
     (try clear BK449)
     (try clear BK450)
     (try clear BK451)
     (try clear HB)
     generalize (w43.setCell ⟨gb451,0,none⟩ (.slice Ao44 y466.length co44))=w46 at n0_ n1_ n2_ n3_ n4_ n5_ ⊢
     have HO_452001:=n0_
     have HO468:=n1_
     have BK449:=n2_
     have BK450:=n3_
     have BK451:=n4_
     have HB:=n5_
     clear n0_ n1_ n2_ n3_ n4_ n5_
     have n0_:=Aside0.mk (Kd.R_drew HO_452001.out)
     have n1_:=Aside0.mk (Kd.R_drew HO468.out)
     have n2_:=Aside0.mk (blk_drew BK449.out)
     have n3_:=Aside0.mk (blk_drew BK450.out)
     have n4_:=Aside0.mk (blk_drew BK451.out)
     have n5_:=Aside0.mk (below_drew1 HB.out)
     clear HO_452001
     clear HO468
     clear BK449
     clear BK450
     clear BK451
     clear HB
     have HO_452001:=n0_
     have HO468:=n1_
     have BK449:=n2_
     have BK450:=n3_
     have BK451:=n4_
     have HB:=n5_
     clear n0_ n1_ n2_ n3_ n4_ n5_
     have p469:0≤(x9_2:Int):=of_decide_eq_true (by first|(with_reducible assumption)|assumption)
     have q469:x9_2<(l2.length:Int):=of_decide_eq_true (by first|(with_reducible assumption)|assumption)
     obtain⟨ad469,e469,hx469_0,hx469_1⟩:=at_T38 HR2.out x9_2 p469 q469
     have hw469_1:=hx469_1
     have hw469_0:=hx469_0
     obtain rfl:ad458=ad469:=(by injection e469)
     replace hx469_0:=(HB.out.cell (World.block_lt_of_cell? w _ hx469_0)).trans hx469_0
     replace hx469_1:=(HB.out.cell (World.block_lt_of_cell? w _ hx469_1)).trans hx469_1
     replace p469:=eq_true p469
     replace q469:=eq_true q469
     refine start_ (n:=10) (S:=fun w'=>w'.cell? ⟨gb451,0,none⟩=some (.slice Ao44 y466.length co44)∧w'.cell? ⟨gb451,1,none⟩=some (.slice Ao39 x452001_2.length co39)∧w'.cell? (ad458.add ((x9_2).toNat * 2))=some (.int .i64 ((rd_T38 l2 x9_2).f0))∧w'.cell? ⟨(ad458.add ((x9_2).toNat * 2)).block,(ad458.add ((x9_2).toNat * 2)).off+1,none⟩=some (.bool ((rd_T38 l2 x9_2).f1))) (ds:=[9]) #[false,false,false,false,false,false,false,false,false,false] (by kernel_rfl) rfl rfl ⟨(blk_cell BK451.out 0).trans rfl,(blk_cell BK451.out 1).trans rfl,((HB.out.cell (World.block_lt_of_cell? w _ hw469_0)).trans hw469_0),((HB.out.cell (World.block_lt_of_cell? w _ hw469_1)).trans hw469_1)⟩ (fun hHeld=> ?_);refine with_tabW ebbtideref08_sought.tab12 ebbtideref08_sought.bits12 (fun HT_ HW_=> ?_)
     generalize w46.drew=w47 at HO_452001 HO468 BK449 BK450 BK451 HB hx469_0 hx469_1 hHeld ⊢
     refine pure_ (i:=0) (N:=some 69) (v:= ?_) (a':= ?_) #[true,false,false,false,false,false,false,false,false,false] rfl rfl (any_of HT_.out (by kernel_rfl)) (fun _ _ _ h=>h) (Or.inl ⟨by rfl,?_⟩) ?_ ?_
     rotate_left
     ·intro w'
      go_simp
      with_reducible rfl
     rotate_left
     ·simp only[Act.put,List.setIfInBounds_toArray,List.set_cons_zero,List.set_cons_succ,i64_w,i32_w]
      rfl
     refine pure_ (i:=2) (N:=some 71) (v:= ?_) (a':= ?_) #[true,false,true,false,false,false,false,false,false,false] rfl rfl (any_of HT_.out (by kernel_rfl)) (fun _ _ _ h=>h) (Or.inl ⟨by rfl,?_⟩) ?_ ?_
     rotate_left
     ·intro w'
      go_simp
      with_reducible rfl
     rotate_left
     ·simp only[Act.put,List.setIfInBounds_toArray,List.set_cons_zero,List.set_cons_succ,i64_w,i32_w]
      rfl
     refine pure_ (i:=3) (N:=some 72) (v:= ?_) (a':= ?_) #[true,false,true,true,false,false,false,false,false,false] rfl rfl (any_of HT_.out (by kernel_rfl)) (fun _ _ _ h=>h) (Or.inl ⟨by rfl,?_⟩) ?_ ?_
     rotate_left
     ·intro w'
      go_simp
      with_reducible rfl
     rotate_left
     ·simp only[Act.put,List.setIfInBounds_toArray,List.set_cons_zero,List.set_cons_succ,i64_w,i32_w]
      rfl
     refine pure_ (i:=4) (N:=some 73) (v:= ?_) (a':= ?_) #[true,false,true,true,true,false,false,false,false,false] rfl rfl (any_of HT_.out (by kernel_rfl)) (fun _ _ _ h=>h) (Or.inl ⟨by rfl,?_⟩) ?_ ?_
     rotate_left
     ·intro w'
      go_simp
      with_reducible rfl
     rotate_left
     ·simp only[Act.put,List.setIfInBounds_toArray,List.set_cons_zero,List.set_cons_succ,i64_w,i32_w]
      rfl
     refine take_ (i:=1) (N:=some 70) (v:= ?_) (a':= ?_) #[true,true,true,true,true,false,false,false,false,false] rfl rfl (take_ofW HT_.out HW_.out (by kernel_rfl)) (fun _ _ _ h=>h) (Or.inl ⟨by rfl,?_⟩) hHeld ?_ ?_
     rotate_left
     ·rintro w' ⟨s0,s1,s2,s3⟩
      go_simp
      with_reducible rfl
     rotate_left
     ·simp only[Act.put,List.setIfInBounds_toArray,List.set_cons_zero,List.set_cons_succ,i64_w,i32_w]
      rfl
     refine take_ (i:=5) (N:=some 74) (v:= ?_) (a':= ?_) #[true,true,true,true,true,true,false,false,false,false] rfl rfl (take_ofW HT_.out HW_.out (by kernel_rfl)) (fun _ _ _ h=>h) (Or.inl ⟨by rfl,?_⟩) hHeld ?_ ?_
     rotate_left
     ·rintro w' ⟨s0,s1,s2,s3⟩
      go_simp
      with_reducible rfl
     rotate_left
     ·simp only[Act.put,List.setIfInBounds_toArray,List.set_cons_zero,List.set_cons_succ,i64_w,i32_w]
      rfl
     refine one_ (i:=6) (N:=some 75) #[true,true,true,true,true,true,true,false,false,false] rfl rfl (one_of HT_.out (by kernel_rfl)) (by decide) (fun K hK=> ?_)
     refine value_ (w1:= ?_) (v:= ?_) (by rfl) rfl ?_ ?_
     rotate_left 2
     ·go_simp
      constructor
      ·rfl
      ·rfl
     refine hK.out _ _ ⟨(blk_cell (blk_alloc BK451.out _) 0).trans rfl,(blk_cell (blk_alloc BK451.out _) 1).trans rfl,(World.cell?_alloc_lt _ _ _ (World.block_lt_of_cell? _ _ (((HB.out.cell (World.block_lt_of_cell? w _ hw469_0)).trans hw469_0)))).trans (((HB.out.cell (World.block_lt_of_cell? w _ hw469_0)).trans hw469_0)),(World.cell?_alloc_lt _ _ _ (World.block_lt_of_cell? _ _ (((HB.out.cell (World.block_lt_of_cell? w _ hw469_1)).trans hw469_1)))).trans (((HB.out.cell (World.block_lt_of_cell? w _ hw469_1)).trans hw469_1))⟩ (fun hHeld=> ?_)
     clear hK K
     refine norm_ (a':= ?_) ?_ ?_
     rotate_left
     ·show Act.put _ (some 75) _=_
      simp only[Act.put,List.setIfInBounds_toArray,List.set_cons_zero,List.set_cons_succ,i64_w,i32_w]
      rfl
     refine one_ (i:=7) (N:=some 76) #[true,true,true,true,true,true,true,true,false,false] rfl rfl (one_of HT_.out (by kernel_rfl)) (by decide) (fun K hK=> ?_)
     refine Kd.R_append_step k38 (w0:=w) w.heap.size (by rfl) (.tmp 70) (.tmp 75) 34 38 (.agg #[(.int .i64 0),(.bool false)]) 16 rfl Try.underlying34 info38 rfl (by decide) (by omega) (.slice Ao39 x452001_2.length co39) x452001_2 (⟨(rd_T38 l2 x9_2).f0,(rd_T38 l2 x9_2).f1⟩:S38) [.int .i64 ((rd_T38 l2 x9_2).f0), .bool ((rd_T38 l2 x9_2).f1)] (fun _=>True) (fun _=>False) rfl rfl ?aP (fun _ hk=>hk.elim) ?aF ?aO ?aB ?aS ?aL ?_
     (case aP=>exact k38_mkM _ _ _ (⟨(rd_T38 l2 x9_2).f0,(rd_T38 l2 x9_2).f1⟩:S38))
     (case aB=>exact HB.out)
     (case aF=>exact(fun _ _=>trivial))
     (case aO=>exact HO_452001.out)
     (case aS=>exact(below_size HB.out))
     (case aL=>have:=LMc34.out;omega)
     intro v471 w48 ho hb hg hat
     rw[← Ny470.out] at ho
     have n0_:=Aside0.mk (blk_grown BK449.out hg (Kd.R_ne HO_452001.out BK449.out (by decide)))
     have n1_:=Aside0.mk (blk_grown BK450.out hg (Kd.R_ne HO_452001.out BK450.out (by decide)))
     have n2_:=Aside0.mk (blk_grown BK451.out hg (Kd.R_ne HO_452001.out BK451.out (by decide)))
     have n3_:=Aside0.mk (Kd.R_over' HO468.out (Kd.R_typed HO_452001.out) (by decide) hg)
     have n4_:=Aside0.mk (hb)
     have n5_:=Aside0.mk (ho)
     clear BK449
     clear BK450
     clear BK451
     clear HO468
     clear HB
     clear HO_452001
     have BK449:=n0_
     have BK450:=n1_
     have BK451:=n2_
     have HO468:=n3_
     have HB:=n4_
     have HO472:=n5_
     clear n0_ n1_ n2_ n3_ n4_ n5_
     clear ho hb hg hat
     obtain⟨Ao49,co49,eo49⟩:=Kd.R_slice HO472.out
     (first|subst eo49|(injection eo49 with f1_ f2_ f3_;have f4_:=f1_.symm;have f5_:=f3_.symm;clear f1_ f2_ f3_;subst f4_;subst f5_))
     refine hK.out _ _ ⟨(blk_cell BK451.out 0).trans rfl,(blk_cell BK451.out 1).trans rfl,((HB.out.cell (World.block_lt_of_cell? w _ hw469_0)).trans hw469_0),((HB.out.cell (World.block_lt_of_cell? w _ hw469_1)).trans hw469_1)⟩ (fun hHeld=> ?_)
     clear hK K
     refine norm_ (a':= ?_) ?_ ?_
     rotate_left
     ·show Act.put _ (some 76) _=_
      simp only[Act.put,List.setIfInBounds_toArray,List.set_cons_zero,List.set_cons_succ,i64_w,i32_w]
      rfl
     refine pure_ (i:=8) (N:=some 77) (v:= ?_) (a':= ?_) #[true,true,true,true,true,true,true,true,true,false] rfl rfl (any_of HT_.out (by kernel_rfl)) (fun _ _ _ h=>h) (Or.inl ⟨by rfl,?_⟩) ?_ ?_
     rotate_left
     ·intro w'
      go_simp
      with_reducible rfl
     rotate_left
     ·simp only[Act.put,List.setIfInBounds_toArray,List.set_cons_zero,List.set_cons_succ,i64_w,i32_w]
      rfl
     refine last_ (i:=9) (N:=none) #[true,true,true,true,true,true,true,true,true,true] rfl rfl (one_of HT_.out (by kernel_rfl)) (by decide) (fun K hK=> ?_)
     have hs50:w48.cell? ⟨gb451,1,none⟩=some (.slice Ao39 x452001_2.length co39):=(blk_cell BK451.out 1).trans rfl
     have hfs50:=blk_frozen BK451.out 1
     have hns50_0:=NB449_451.out
     have hns50_1:=NB450_451.out
     have hms50_0:=NB451_449.out
     have hms50_1:=NB451_450.out
     refine skip_ (w1:= ?_) (by rfl) rfl ?_ ?_
     rotate_left
     ·go_simp
      rfl
     refine hK.out _ _ ?_
     clear hK K
     refine done_ (done_of HT_.out (by kernel_rfl)) ?_
     try go_wp2
     go_roundg k2
     case measure=>have:=HK1.out;have:=HK2.out;omega
     case rel=>exact⟨(wrap64 (x9_2+1)),(y466),(y470),(.slice Ao44 y466.length co44),(.slice Ao49 y470.length co49),(by first|rfl|(simp;done)|(simp[*];done)),H',⟨by have:=HK1.out;have:=HK2.out;omega⟩,⟨by(with_reducible repeat(first|apply Kd.R_alloc|apply Kd.R_drewN|apply Kd.R_drew));exact Kd.R_mono (Kd.R_far (p:=⟨gb451,1,none⟩) (Kd.R_types HO468.out BK451.out (by decide)) (fun _ hk=>hk.2) (.slice Ao49 y470.length co49)) (fun _ hk=>trivial)⟩,⟨by(with_reducible repeat(first|apply Kd.R_alloc|apply Kd.R_drewN|apply Kd.R_drew));exact Kd.R_mono (Kd.R_far (p:=⟨gb451,1,none⟩) (Kd.R_types HO472.out BK451.out (by decide)) (fun _ hk=>hk.2) (.slice Ao49 y470.length co49)) (fun _ hk=>trivial)⟩,⟨by(with_reducible repeat(first|refine blk_drewN ?_ _|refine blk_drew ?_|refine blk_alloc ?_ _));refine blk_far ?_ NB449_451.out _;(with_reducible repeat(first|refine blk_drewN ?_ _|refine blk_drew ?_|refine blk_alloc ?_ _));exact BK449.out⟩,⟨by(with_reducible repeat(first|refine blk_drewN ?_ _|refine blk_drew ?_|refine blk_alloc ?_ _));refine blk_far ?_ NB450_451.out _;(with_reducible repeat(first|refine blk_drewN ?_ _|refine blk_drew ?_|refine blk_alloc ?_ _));exact BK450.out⟩,⟨by(with_reducible repeat(first|refine blk_drewN ?_ _|refine blk_drew ?_|refine blk_alloc ?_ _));refine blk_put (cs:= #[.slice Ao44 y466.length co44, .slice Ao39 x452001_2.length co39]) ?_ 1 _ rfl;(with_reducible repeat(first|refine blk_drewN ?_ _|refine blk_drew ?_|refine blk_alloc ?_ _));exact BK451.out⟩,⟨by repeat(first|(with_reducible first|exact HB.out|apply below_alloc|apply pw_below_drewN|apply below_drew1|refine below_set ?_ GE449.out|refine below_set ?_ GE450.out|refine below_set ?_ GE451.out)|exact HB.out)⟩⟩
end Go.Proofs.Ytkcpanpdipmmmaa.P
namespace Go.Proofs.Ytkcpanpdipmmmaa.H
open Go.RowKit Go.Proofs.YtkcpanpdipmmmaaW.PrintWords Go.Proofs.YtkcpanpdipmmmaaW.PrintLast Go.Proofs.YtkcpanpdipmmmaaW.PrintMore Go.Proofs.Ytkcpanpdipmmmaa.P Go.Proofs.Ytkcpanpdipmmmaa.Q
def esL (l:List S74) (L:List S38) (u:Nat):List S38:=L.filter fun e=>decide (stFrom l e=(u:Int))
def bfL (l:List S74) (L:List S38) (n s:Nat):List (Fd S38):=bfsN (toP l) (esL l L) z38 n s
theorem es_same (l:List S74) (F:List Int) (u:Nat) (k:Nat):(stL l u k).filter (fun e=>decide (0<stRoom l F e))=(stepsR l F k).filter (fun e=>decide (stFrom l e=(u:Int))):=by
 induction k with
 |zero=>rfl
 |succ k ih=>
  unfold stL stepsR
  rw[List.filter_append,List.filter_append,List.filter_append,List.filter_append,ih]
  congr 1
  ·congr 1
   have e1:stRoom l F ⟨(k:Int),false⟩=(rd_T74 l k).f2 - F.getD k 0:=by unfold stRoom;simp
   have e2:stFrom l ⟨(k:Int),false⟩=eFrom (rd_T74 l k):=rfl
   by_cases h1:eFrom (rd_T74 l k)=(u:Int)<;>by_cases h2:F.getD k 0<(rd_T74 l k).f2
   ·rw[if_pos h1,if_pos h2,List.filter_cons,List.filter_cons,if_pos (by rw[decide_eq_true_eq,e1];omega),if_pos (by rw[decide_eq_true_eq,e2];exact h1)];rfl
   ·rw[if_pos h1,if_neg h2,List.filter_cons,if_neg (by rw[decide_eq_true_eq,e1];omega)];rfl
   ·rw[if_neg h1,if_pos h2,List.filter_cons,if_neg (by rw[decide_eq_true_eq,e2];exact h1)];rfl
   ·rw[if_neg h1,if_neg h2];rfl
  ·have e1:stRoom l F ⟨(k:Int),true⟩=F.getD k 0:=by unfold stRoom;simp
   have e2:stFrom l ⟨(k:Int),true⟩=eTo (rd_T74 l k):=rfl
   by_cases h1:eTo (rd_T74 l k)=(u:Int)<;>by_cases h2:0<F.getD k 0
   ·rw[if_pos h1,if_pos h2,List.filter_cons,List.filter_cons,if_pos (by rw[decide_eq_true_eq,e1];omega),if_pos (by rw[decide_eq_true_eq,e2];exact h1)];rfl
   ·rw[if_pos h1,if_neg h2,List.filter_cons,if_neg (by rw[decide_eq_true_eq,e1];omega)];rfl
   ·rw[if_neg h1,if_pos h2,List.filter_cons,if_neg (by rw[decide_eq_true_eq,e2];exact h1)];rfl
   ·rw[if_neg h1,if_neg h2];rfl
theorem bf_same {l:List S74} {F:List Int} {n:Nat} (hr:Right l F n) (s:Nat):bfL l (stepsR l F F.length) n s=bfP l F n s:=by
 unfold bfL bfP
 have:esL l (stepsR l F F.length)=esP l F:=by
  funext u
  unfold esL esP
  rw[hr.len]
  exact(es_same l F u l.length).symm
 rw[this]
def hasI (X:List Int) (a:Int) (i:Nat):Int:=if a∈X.drop i then((i+(X.drop i).idxOf a:Nat):Int) else -1
theorem has_l0 (X:List Int) (Y:List S38) (a:Int) (hl:X.length≤1000000) (d:Nat): ∀ i:Nat,i+d=X.length→Ev (fun k=>ebbtideref08_found_has.l0 k a (i:Int) X Y) (hasI X a i):=by
 induction d with
 |zero=>
  intro i hi
  refine Ev.succ ?_;simp only[ebbtideref08_found_has.l0]
  refine Ev.neg (by omega) ?_
  exact Ev.done (by unfold hasI;rw[List.drop_of_length_le (by omega),if_neg (by simp)])
 |succ d ih=>
  intro i hi
  refine Ev.succ ?_;simp only[ebbtideref08_found_has.l0]
  refine Ev.pos (by omega) ?_
  refine Ev.pos (by omega) ?_
  have hd:=drop_getD X i 0 (by omega)
  rw[rd_nat]
  refine Ev.ite (fun g=> ?_) (fun g=> ?_)
  ·exact Ev.done (by unfold hasI;rw[hd,g,if_pos List.mem_cons_self,List.idxOf_cons_self];rfl)
  ·rw[wrap_succ (n:=X.length) (by omega) (by omega)]
   refine Ev.eq (ih (i+1) (by omega)) ?_
   unfold hasI
   rw[hd]
   by_cases hm:a∈X.drop (i+1)
   ·have e3:(X.getD i 0::X.drop (i+1)).idxOf a=(X.drop (i+1)).idxOf a+1:=by
     rw[List.idxOf_cons]
     have:(X.getD i 0 == a)=false:=beq_eq_false_iff_ne.2 g
     rw[this]
     rfl
    rw[if_pos hm,if_pos (List.mem_cons_of_mem _ hm),e3]
    omega
   ·rw[if_neg hm,if_neg (by intro h;rcases List.mem_cons.1 h with h|h;exact g h.symm;exact hm h)]
theorem has_ev (X:List Int) (Y:List S38) (a:Int) (hl:X.length≤1000000):Ev (fun k=>ebbtideref08_found_has.f k X Y a) (hasI X a 0):=by
 unfold ebbtideref08_found_has.f
 exact has_l0 X Y a hl X.length 0 (by omega)
def nX (st:List (Fd S38)):List Int:=(nodes st).map fun v:Nat=>(v:Int)
def bY (st:List (Fd S38)):List S38:=st.map Fd.by_
theorem nX_len (st:List (Fd S38)):(nX st).length=st.length:=by simp[nX,nodes]
theorem bY_len (st:List (Fd S38)):(bY st).length=st.length:=by simp[bY]
theorem nX_snoc (st:List (Fd S38)) (x:Fd S38):nX (st ++ [x])=nX st ++ [(x.v:Int)]:=by simp[nX,nodes]
theorem bY_snoc (st:List (Fd S38)) (x:Fd S38):bY (st ++ [x])=bY st ++ [x.by_]:=by simp[bY]
theorem mem_nX {st:List (Fd S38)} {v:Nat} :(v:Int)∈nX st↔v∈nodes st:=by
 unfold nX
 rw[List.mem_map]
 constructor
 ·rintro⟨u,hu,e⟩
  have:u=v:=by omega
  rw[← this];exact hu
 ·intro h;exact⟨v,h,rfl⟩
theorem hasI_neg {st:List (Fd S38)} {v:Nat} :hasI (nX st) (v:Int) 0<0↔v ∉ nodes st:=by
 unfold hasI
 rw[List.drop_zero]
 by_cases h:v∈nodes st
 ·rw[if_pos (mem_nX.2 h)]
  constructor
  ·intro h2;omega
  ·intro h2;exact absurd h h2
 ·rw[if_neg (fun h2=>h (mem_nX.1 h2))]
  simp[h]
theorem nX_get {st:List (Fd S38)} {i:Nat} {x:Fd S38} (h:st[i]? =some x):rd (nX st) (i:Int)=(x.v:Int):=by
 rw[rd_nat,List.getD_eq_getElem?_getD]
 unfold nX nodes
 rw[List.getElem?_map,List.getElem?_map,h]
 rfl
structure StepsOk (l:List S74) (n:Nat) (L:List S38):Prop where
 ends:ends l n
 arcs:l.length≤200
 of: ∀ s,s∈L→StepOf l s
 len:L.length≤400
section
variable {l:List S74} {n:Nat} {L:List S38}
theorem StepsOk.to_in (h:StepsOk l n L) {s:S38} (hs:s∈L):0≤stTo l s∧stTo l s<n:=by
 obtain⟨i,h1,h2⟩:=h.of s hs
 have:=h.ends i h1
 unfold stTo
 rw[h2]
 split
 ·exact this.1
 ·exact this.2
theorem esL_to (h:StepsOk l n L): ∀ (u:Nat) (e:S38),e∈esL l L u→toP l e<n:=by
 intro u e he
 have:=h.to_in (List.mem_filter.1 he).1
 unfold toP;omega
theorem esL_fr: ∀ (u:Nat) (e:S38),e∈esL l L u→frP l e=u:=by
 intro u e he
 have h:=of_decide_eq_true (List.mem_filter.1 he).2
 unfold frP
 rw[h,Int.toNat_natCast]
theorem rfrom_ok (h:StepsOk l n L) {s:S38} (hs:s∈L) (a:Int) (b:Bool):ebbtideref07_From.f a b l s.f0 s.f1=some (stFrom l s):=by
 obtain⟨i,h1,h2⟩:=h.of s hs
 unfold ebbtideref07_From.f stFrom eFrom eTo
 rw[h2]
 cases s.f1<;>simp[h1]
theorem rto_ok (h:StepsOk l n L) {s:S38} (hs:s∈L) (a:Int) (b:Bool):ebbtideref07_To.f a b l s.f0 s.f1=some (stTo l s):=by
 obtain⟨i,h1,h2⟩:=h.of s hs
 unfold ebbtideref07_To.f stTo eFrom eTo
 rw[h2]
 cases s.f1<;>simp[h1]
theorem sought_l1 (h:StepsOk l n L) (hn:n≤50) (a:Int) (b:Bool) {s i:Nat} (hs:s<n) {x:Fd S38} {R:List Int × List S38} (d:Nat): ∀ (j:Nat) (stj:List (Fd S38)),j+d=L.length→Fds (frP l) (toP l) (esL l L) s stj→stj[i]? =some x→(∀ y,y∈stj→y.lv≤x.lv+1)→
  Ev (fun k=>ebbtideref08_sought.l0 k L ((i+1:Nat):Int) a b l (nX (((L.drop j).filter fun e=>decide (stFrom l e=(x.v:Int))).foldl (vis (toP l) x.lv) stj)) (bY (((L.drop j).filter fun e=>decide (stFrom l e=(x.v:Int))).foldl (vis (toP l) x.lv) stj))) R→
  Ev (fun k=>ebbtideref08_sought.l1 k L (i:Int) (j:Int) a b l (nX stj) (bY stj)) R:=by
 induction d with
 |zero=>
  intro j stj hj hf hx hm he
  have hil:=(List.getElem?_eq_some_iff.1 hx).1
  have hln:=fds_len hf (esL_to h) hs
  rw[List.drop_of_length_le (by omega)] at he
  refine Ev.succ ?_;simp only[ebbtideref08_sought.l1]
  refine Ev.neg (by omega) ?_
  rw[wrap_succ (n:=51) (by omega) (by omega)]
  exact he
 |succ d ih=>
  intro j stj hj hf hx hm he
  have hil:=(List.getElem?_eq_some_iff.1 hx).1
  have hln:=fds_len hf (esL_to h) hs
  have hll:=h.len
  refine Ev.succ ?_;simp only[ebbtideref08_sought.l1]
  refine Ev.pos (by omega) ?_
  refine Ev.pos (by omega) ?_
  have hd:=drop_getD L j z38 (by omega)
  obtain⟨e,hee⟩: ∃ e,e=L.getD j z38:=⟨_,rfl⟩
  have hr:rd_T38 L (j:Int)=e:=by unfold rd_T38;rw[Int.toNat_natCast,hee]
  have hem:e∈L:=by rw[hee];exact getD_mem (by omega)
  rw[hr]
  rw[hd, ← hee,List.filter_cons] at he
  refine Ev.call (rfrom_ok h hem a b) ?_
  refine Ev.pos (by omega) ?_
  refine Ev.pos (by rw[nX_len];omega) ?_
  rw[nX_get hx,wrap_succ (n:=L.length) (by omega) (by omega)]
  refine Ev.ite (fun g=> ?_) (fun g=> ?_)
  ·rw[if_pos (by simpa using g),List.foldl_cons] at he
   have hto:=h.to_in hem
   have htp:stTo l e=((toP l e:Nat):Int):=by unfold toP;omega
   refine Ev.call (rto_ok h hem a b) ?_
   rw[htp]
   refine Ev.bind (has_ev (nX stj) (bY stj) _ (by rw[nX_len];omega)) ?_
   refine Ev.ite (fun g2=> ?_) (fun g2=> ?_)
   ·have hnm:=hasI_neg.1 g2
    have hv:vis (toP l) x.lv stj e=stj ++ [⟨toP l e,e,x.lv+1⟩]:=by unfold vis;rw[if_neg hnm]
    obtain⟨f1,f2⟩:=hf.vis hx hm (List.mem_filter.2 ⟨hem,by simpa using g⟩)
    rw[hv] at f1 f2 he
    refine Ev.call (rto_ok h hem a b) ?_
    rw[htp]
    refine Ev.pos (by rw[nX_len];omega) ?_
    refine Ev.pos (by rw[bY_len];omega) ?_
    have h2:=ih (j+1) (stj ++ [⟨toP l e,e,x.lv+1⟩]) (by omega) f1 (by rw[List.getElem?_append_left hil];exact hx) f2 he
    rw[nX_snoc,bY_snoc] at h2
    exact h2
   ·have hmm:toP l e∈nodes stj:=Classical.byContradiction fun hc=>g2 (hasI_neg.2 hc)
    have hv:vis (toP l) x.lv stj e=stj:=by unfold vis;rw[if_pos hmm]
    rw[hv] at he
    exact ih (j+1) stj (by omega) hf hx hm he
  ·rw[if_neg (by simpa using g)] at he
   exact ih (j+1) stj (by omega) hf hx hm he
theorem sought_l0 (h:StepsOk l n L) (hn:n≤50) (a:Int) (b:Bool) {s:Nat} (hs:s<n) (d:Nat): ∀ (i:Nat) (st:List (Fd S38)),Upto (frP l) (toP l) (esL l L) s i st→i+d=n→i≤st.length→
  Ev (fun k=>ebbtideref08_sought.l0 k L (i:Int) a b l (nX st) (bY st)) (nX (bfs (toP l) (esL l L) d i st),bY (bfs (toP l) (esL l L) d i st)):=by
 induction d with
 |zero=>
  intro i st hu hi hil
  have hln:=fds_len hu.fds (esL_to h) hs
  refine Ev.succ ?_;simp only[ebbtideref08_sought.l0]
  refine Ev.neg (by rw[nX_len];omega) ?_
  exact Ev.now _
 |succ d ih=>
  intro i st hu hi hil
  unfold bfs
  cases hx:st[i]? with
  |none=>
   have:=List.getElem?_eq_none_iff.1 hx
   refine Ev.succ ?_;simp only[ebbtideref08_sought.l0]
   refine Ev.neg (by rw[nX_len];omega) ?_
   exact Ev.now _
  |some x=>
   have hlt:=(List.getElem?_eq_some_iff.1 hx).1
   refine Ev.succ ?_;simp only[ebbtideref08_sought.l0]
   refine Ev.pos (by rw[nX_len];omega) ?_
   refine sought_l1 h hn a b hs L.length 0 st (by omega) hu.fds hx (hu.most x hx) ?_
   rw[List.drop_zero]
   have hnx:=hu.next hx
   have hpl:i+1≤(proc (toP l) (esL l L) st x).length:=by
    obtain⟨r,hr⟩:=fold_pre (toP l) x.lv (esL l L x.v) st
    unfold proc
    rw[hr,List.length_append]
    omega
   exact ih (i+1) (proc (toP l) (esL l L) st x) hnx (by omega) hpl
theorem sought_ev (h:StepsOk l n L) (hn:n≤50) (b:Bool) {s:Nat} (hs:s<n):Ev (fun k=>ebbtideref08_sought.f k (n:Int) b l (s:Int) L) (nX (bfL l L n s),bY (bfL l L n s)):=by
 unfold ebbtideref08_sought.f
 refine Ev.pos (by simp) ?_
 refine Ev.pos (by simp) ?_
 exact sought_l0 h hn (n:Int) b hs n 0 [⟨s,z38,0⟩] (upto_start _ _ _ _ _) (by omega) (Nat.zero_le _)
end
end Go.Proofs.Ytkcpanpdipmmmaa.H
namespace Go.Proofs.Ytkcpanpdipmmmaa.H
open Go.RowKit Go.Proofs.YtkcpanpdipmmmaaW.PrintWords Go.Proofs.YtkcpanpdipmmmaaW.PrintLast Go.Proofs.YtkcpanpdipmmmaaW.PrintMore Go.Proofs.Ytkcpanpdipmmmaa.P Go.Proofs.Ytkcpanpdipmmmaa.Q
attribute [local irreducible] wpQuiet
def wayRes (l:List S74) (L:List S38) (n s:Nat) (t:Int):List S38 × Bool:=if t∈nX (bfL l L n s) then(wayL (frP l) (bfL l L n s) s t.toNat,true) else([],false)
theorem nX_nodup {st:List (Fd S38)} (h:(nodes st).Nodup):(nX st).Nodup:=by
 unfold nX
 refine List.pairwise_map.2 (h.imp fun {a b} hab e=>hab ?_)
 omega
theorem hasI_at {st:List (Fd S38)} (h:(nodes st).Nodup) {i:Nat} {x:Fd S38} (hx:st[i]? =some x):hasI (nX st) (x.v:Int) 0=(i:Int):=by
 have hil:=(List.getElem?_eq_some_iff.1 hx).1
 have hm:(x.v:Int)∈nX st:=mem_nX.2 (List.mem_map_of_mem (List.mem_of_getElem? hx))
 unfold hasI
 rw[List.drop_zero,if_pos hm,Nat.zero_add]
 have h1:=List.idxOf_lt_length_of_mem hm
 have h2:(nX st)[(nX st).idxOf (x.v:Int)]=(x.v:Int):=List.getElem_idxOf h1
 have hi:i<(nX st).length:=by rw[nX_len];exact hil
 have h3:(nX st)[i]'hi=(x.v:Int):=by
  have h4:=nX_get hx
  rw[rd_nat,List.getD_eq_getElem?_getD,List.getElem?_eq_getElem hi] at h4
  exact h4
 have hp:=List.pairwise_iff_getElem.1 (nX_nodup h)
 rcases Nat.lt_trichotomy ((nX st).idxOf (x.v:Int)) i with g|g|g
 ·exact absurd (h2.trans h3.symm) (hp _ _ h1 hi g)
 ·rw[g]
 ·exact absurd (h3.trans h2.symm) (hp _ _ hi h1 g)
def wayOk (n:Int) (l:List S74) (L:List S38) (s:Int):Bool:=
 decide (0≤s) && decide (s<n) && decide (n≤50) && decide (l.length≤200) && decide (L.length≤400) && (l.all fun a=>decide (0≤a.f0) && decide (a.f0<n) && decide (0≤a.f1) && decide (a.f1<n)) && (L.all fun e=>decide (0≤e.f0) && decide (e.f0<(l.length:Int)))
theorem wayOk_iff {n:Nat} {l:List S74} {L:List S38} {s:Nat} :wayOk n l L s=true↔StepsOk l n L∧s<n∧n≤50:=by
 unfold wayOk
 simp only[Bool.and_eq_true,decide_eq_true_eq,List.all_eq_true]
 constructor
 ·rintro⟨⟨⟨⟨⟨⟨_,h1⟩,h2⟩,h3⟩,h4⟩,h5⟩,h6⟩
  refine⟨⟨?_,h3,?_,h4⟩,by omega,by omega⟩
  ·intro i hi
   have hg:=h5 _ (List.getElem_mem hi)
   have e1:rd_T74 l i=l[i]:=by rw[rdArc_nat,List.getD_eq_getElem?_getD,List.getElem?_eq_getElem hi];rfl
   unfold eFrom eTo
   rw[e1]
   omega
  ·intro e he
   have:=h6 e he
   exact⟨e.f0.toNat,by omega,by omega⟩
 ·rintro⟨h,h1,h2⟩
  refine⟨⟨⟨⟨⟨⟨by omega,by omega⟩,by omega⟩,h.arcs⟩,h.len⟩,?_⟩,?_⟩
  ·intro a ha
   obtain⟨i,hi,rfl⟩:=List.mem_iff_getElem.1 ha
   have hg:=h.ends i hi
   have e1:rd_T74 l i=l[i]:=by rw[rdArc_nat,List.getD_eq_getElem?_getD,List.getElem?_eq_getElem hi];rfl
   unfold eFrom eTo at hg
   rw[e1] at hg
   omega
  ·intro e he
   obtain⟨i,h3,h4⟩:=h.of e he
   omega
theorem y_cells {w:World} {base g cap:Nat} {ok:Nat→Prop} {B:List S38} (h:Kd.R k38 38 w base ok (.slice (some ⟨g,0,none⟩) B.length cap) B) {i:Nat} {x:S38} (hx:B[i]? =some x):
  w.cell? ⟨g,i * 2,none⟩=some (.int .i64 x.f0)∧w.cell? ⟨g,i * 2+1,none⟩=some (.bool x.f1):=by
 have hi:=(List.getElem?_eq_some_iff.1 hx).1
 obtain⟨c,_,hM,hc,_⟩:=Kd.R_elem h z38 (i:Int) (by omega) (by omega)
 have hgd:B.getD (i:Int).toNat z38=x:=by rw[Int.toNat_natCast,List.getD_eq_getElem?_getD,hx];rfl
 rw[hgd] at hM
 obtain rfl:=k38_openM hM
 exact⟨hc 0 _ rfl,hc 1 _ rfl⟩
theorem way_nat (l:List S74) (L:List S38) (n s t:Nat):wayRes l L n s (t:Int)=if t∈nodes (bfL l L n s) then(wayL (frP l) (bfL l L n s) s t,true) else([],false):=by
 unfold wayRes
 by_cases h:t∈nodes (bfL l L n s)
 ·rw[if_pos (mem_nX.2 h),if_pos h,Int.toNat_natCast]
 ·rw[if_neg (fun g=>h (mem_nX.1 g)),if_neg h]
set_option maxHeartbeats 2000000 in
set_option maxRecDepth 100000 in
theorem way_ref (n0:Nat) (a0_1:Bool) (A2:Option Addr) (c2:Nat) (l:List S74) (s:Nat) (t:Int) (A3:Option Addr) (c3:Nat) (L:List S38) (w:World)
  (hL:StepsOk l n0 L) (hs:s<n0) (hn50:n0≤50) (h2:Kd.C k74 w A2 l.length l) (hc2:l.length≤c2) (h3:Kd.C k38 w A3 L.length L) (hc3:L.length≤c3):
  Calls Try.prog 109 #[.agg #[.int .i64 n0, .bool a0_1, .slice A2 l.length c2], .int .i64 (s:Int), .int .i64 t, .slice A3 L.length c3] w fun e w'=> ∃ v:Value,e= .returned (.tuple #[v, .bool (wayRes l L n0 s t).2])∧Kd.R k38 38 w' w.heap.size (fun _=>True) v (wayRes l L n0 s t).1∧Below w.heap.size w w':=by
 have hu24:=Try.underlying24
 have hu161:=Try.underlying161
 have hu38:=Try.underlying38
 obtain⟨st,hst⟩: ∃ st_,st_=bfL l L n0 s:=⟨_,rfl⟩
 have hF:Fds (frP l) (toP l) (esL l L) s st:=by rw[hst];exact(bfsN_upto (esL_to hL) hs).fds
 have hstl:st.length≤n0:=fds_len hF (esL_to hL) hs
 have HF:=Aside0.mk hF
 have HST:=Aside0.mk hst
 obtain⟨K1,hK1⟩:=sought_ev hL hn50 a0_1 hs
 obtain⟨K2,hK2⟩:=has_ev (nX (bfL l L n0 s)) (bY (bfL l L n0 s)) t (by rw[nX_len, ← hst];omega)
 have hs1:=hK1 K1 (Nat.le_refl _)
 have hh1:=hK2 K2 (Nat.le_refl _)
 rw[← hst] at hs1 hh1
 obtain⟨K,hk⟩: ∃ k_,k_=K1:=⟨_,rfl⟩
 obtain⟨KH,hkh⟩: ∃ k_,k_=K2:=⟨_,rfl⟩
 rw[← hk] at hs1
 rw[← hkh] at hh1
 have HSO:=Aside0.mk hs1
 have HH:=Aside0.mk hh1
 have XL:Aside0 (0<st.length):=⟨by obtain⟨x,r,h1,_⟩:=hF.head;rw[h1];simp⟩
 clear hK1 hK2 hk hkh hs1 hh1 hF hst K1 K2
 have HL:=Aside0.mk hL
 have HC2:=Aside0.mk hc2
 have HC3:=Aside0.mk hc3
 have H2:=Aside0.mk h2
 have H3:=Aside0.mk h3
 have HB:=Aside0.mk (Below.refl w.heap.size w)
 clear hL h2 h3 hc2 hc3
 go_enter Try.func109,Try.ntmps109
 go_upto_region 2 with (first|((with_reducible refine gate_dst (N:=4) rfl ?_);refine box_event ?hg (N:=4) ?hd (cs:= #[.int .i64 n0, .bool a0_1, .slice A2 l.length c2]) (t:=24) ?hr ?_;(case hd=>rfl);(case hg=>rfl);(case hr=>first|(go_simp;done)|(go_simp;rfl));intro g3 hg w5 hbox hb;have n0_:=Aside0.mk (below_step HB.out hb);have B3:=Aside0.mk hbox;clear HB;have HB:=n0_;have GE3:Aside0 (w.heap.size≤g3):=⟨Nat.le_of_eq hg.symm⟩;clear n0_ hb hbox hg;have c0:w5.cell? ⟨g3,0,none⟩=some (.int .i64 n0):=(blk_cell B3.out 0).trans rfl;have c1:w5.cell? ⟨g3,1,none⟩=some (.bool a0_1):=(blk_cell B3.out 1).trans rfl;have c2_:w5.cell? ⟨g3,2,none⟩=some (.slice A2 l.length c2):=(blk_cell B3.out 2).trans rfl)|(go_at_call 146;refine(ebbtideref08_sought.calls K (n0:Int) a0_1 A2 c2 l (s:Int) A3 c3 L _ _ _ (Kd.C_below H2.out HB.out) HC2.out (Kd.C_below H3.out HB.out) HC3.out HSO.out).mono ?_;rintro e_ w6 ⟨vx,vy,rfl,hx,hy,hb⟩;obtain⟨gx,cx,rfl,hgx,hgx2,cellsx,hcx⟩:=Kd.R_form hx (by have:=XL.out;rw[nX_len];omega);obtain⟨gy,cy,rfl,hgy,hgy2,cellsy,hcy⟩:=Kd.R_form hy (by have:=XL.out;rw[bY_len];omega);clear hcx hcy cellsx cellsy;have HX:=Aside0.mk hx;have HY:=Aside0.mk hy;have HGX:Aside0 (g3<gx∧g3<gy∧gx<w6.heap.size∧gy<w6.heap.size):=⟨by have:=blk_lt B3.out;omega⟩;have m0_:=Aside0.mk (below_step HB.out hb);have m1_:=Aside0.mk (blk_below B3.out hb);clear HB B3 hx hy hb hgx hgx2 hgy hgy2 c0 c1 c2_;have HB:=m0_;have B3:=m1_;clear m0_ m1_)|fail)
 have HW:Aside0 ((w6.alloc (Obj.cells #[.slice (some ⟨gx,0,none⟩) (nX st).length cx, .slice (some ⟨gy,0,none⟩) (bY st).length cy] 161)).heap[w6.heap.size]? =some (.cells #[.slice (some ⟨gx,0,none⟩) (nX st).length cx, .slice (some ⟨gy,0,none⟩) (bY st).length cy] 161 (0,0))):=⟨heap_alloc_new _ _⟩
 have h_:=HB.out.size
 have m0_:=Aside0.mk (below_alloc HB.out (Obj.cells #[.slice (some ⟨gx,0,none⟩) (nX st).length cx, .slice (some ⟨gy,0,none⟩) (bY st).length cy] 161))
 have m1_:=Aside0.mk (blk_below B3.out (below_alloc (Below.refl _ _) (Obj.cells #[.slice (some ⟨gx,0,none⟩) (nX st).length cx, .slice (some ⟨gy,0,none⟩) (bY st).length cy] 161)))
 have m2_:=Aside0.mk (Kd.R_below HX.out (below_alloc (Below.refl _ _) (Obj.cells #[.slice (some ⟨gx,0,none⟩) (nX st).length cx, .slice (some ⟨gy,0,none⟩) (bY st).length cy] 161)))
 have m3_:=Aside0.mk (Kd.R_below HY.out (below_alloc (Below.refl _ _) (Obj.cells #[.slice (some ⟨gx,0,none⟩) (nX st).length cx, .slice (some ⟨gy,0,none⟩) (bY st).length cy] 161)))
 clear HB B3 HX HY h_
 have HB:=m0_
 have B3:=m1_
 have HX:=m2_
 have HY:=m3_
 clear m0_ m1_ m2_ m3_
 generalize w6.alloc _=w7 at *
 generalize w6.heap.size=g10 at *
 obtain⟨t0,t1⟩:w7.cell? ⟨g10,0,none⟩=some (.slice (some ⟨gx,0,none⟩) (nX st).length cx)∧w7.cell? ⟨g10,1,none⟩=some (.slice (some ⟨gy,0,none⟩) (bY st).length cy):=⟨(blk_cell HW.out 0).trans rfl,(blk_cell HW.out 1).trans rfl⟩
 by_cases hmem:t∈nX st
 ·obtain⟨tn,rfl⟩: ∃ tn:Nat,t=tn:=by
   obtain⟨v,_,hv⟩:=List.mem_map.1 hmem
   exact⟨v,hv.symm⟩
  have hmem:=mem_nX.1 hmem
  have e0:decide (hasI (nX st) (tn:Int) 0<0)=false:=decide_eq_false (fun h=>hasI_neg.1 h hmem)
  obtain⟨x0,hx0,hxt⟩:=List.mem_map.1 hmem
  have HX0:=Aside0.mk hx0
  have HXT:=Aside0.mk hxt
  have HWR:Aside0 (wayRes l L n0 s (tn:Int)=(wayL (frP l) st s tn,true)):=⟨by rw[way_nat, ← HST.out,if_pos hmem]⟩
  have HBK0:Aside0 ((backL (frP l) st s x0.lv x0.v).reverse=wayL (frP l) st s tn):=⟨by
   unfold wayL
   rw[← HXT.out]
   have hlv:=lv_lt HF.out HX0.out
   have h_:=backL_more HF.out esL_fr [] x0.lv HX0.out (Nat.le_refl _) (k':=st.length) (Nat.le_of_lt hlv)
   rw[List.append_nil] at h_
   rw[h_]⟩
  clear hx0 hxt hmem
  go_wp2_with (first|(go_at_call 147;refine(ebbtideref08_found_has.calls KH _ cx (nX st) _ cy (bY st) _ _ _ (Kd.R_reads' HX.out).2.2 (Kd.R_reads' HX.out).2.1 (Kd.R_reads' HY.out).2.2 (Kd.R_reads' HY.out).2.1 HH.out).mono ?_;rintro e_ w8 ⟨rfl,hb⟩;have m0_:=Aside0.mk (below_step HB.out hb);have m1_:=Aside0.mk (blk_below B3.out hb);have m2_:=Aside0.mk (blk_below HW.out hb);have m3_:=Aside0.mk (Kd.R_below HX.out hb);have m4_:=Aside0.mk (Kd.R_below HY.out hb);clear HB B3 HW HX HY hb;have HB:=m0_;have B3:=m1_;have HW:=m2_;have HX:=m3_;have HY:=m4_;clear m0_ m1_ m2_ m3_ m4_;clear t0 t1)|fail)
  have h8:=HB.out.size
  go_loopw [11,12] (fun v11 v12 w'=> ∃ (x:Fd S38) (O:List S38),v12= .int .i64 x.v∧x∈st∧Aside0 (O ++ backL (frP l) st s x.lv x.v=backL (frP l) st s x0.lv x0.v)∧O.length+x.lv≤50∧Aside0 (Kd.R k38 38 w' w8.heap.size (fun _=>True) v11 O)∧Aside0 (Below w8.heap.size w8 w')) (fun _ v12 _=>((dOf n0 st).getD (intOf v12).toNat 0).toNat)
  case atStart=>exact⟨x0,[],by rw[HXT.out],HX0.out,⟨rfl⟩,by have:=lv_lt HF.out HX0.out;show 0+_≤50;omega,⟨Kd.R_nil _ _ _ _ _⟩,⟨Below.refl _ _⟩⟩
  case round=>
   obtain⟨x,O,rfl,hx,HBK,hlen,HO,HC⟩:=hrel
   have hxn:x.v<n0:=fds_lt HF.out (esL_to HL.out) hs _ (List.mem_map_of_mem hx)
   by_cases hxs:x.v=s
   ·have e1:((x.v:Int) != (s:Int))=false:=by rw[hxs];simp
    have hO:O=backL (frP l) st s x0.lv x0.v:=by
     have h_:=HBK.out
     rw[hxs,back_end,List.append_nil] at h_
     exact h_
    have HOE:=Aside0.mk hO
    have hOl:O.length≤50:=by omega
    clear hxs hO hlen
    obtain⟨A11,c11,e11⟩:=Kd.R_slice HO.out
    subst e11
    have hwr:IntKind.i64.wrap ((O.length:Int) - 1)=(O.length:Int) - 1:=IntWalk.i64_in _ (by omega)
    generalize wr=wE at *
    go_wp2_with fail
    have m0_:=Aside0.mk (below_step HB.out HC.out)
    clear HB HC hwr e1
    have HB:=m0_
    clear m0_
    go_loopw [14,15] (fun v14 v15 w'=> ∃ (q:Int) (U:List S38),v15= .int .i64 q∧(-1≤q∧q<(O.length:Int))∧Aside0 (U=(O.drop (q+1).toNat).reverse)∧Aside0 (Kd.R k38 38 w' wE.heap.size (fun _=>True) v14 U)∧Aside0 (Below wE.heap.size wE w')) (fun _ v15 _=>(intOf v15+1).toNat)
    case atStart=>exact⟨(O.length:Int) - 1,[],rfl,⟨by omega,by omega⟩,⟨by rw[show ((O.length:Int) - 1+1).toNat=O.length by omega,List.drop_length];rfl⟩,⟨Kd.R_nil _ _ _ _ _⟩,⟨Below.refl _ _⟩⟩
    case round=>
     obtain⟨q,U,rfl,⟨hq1,hq2⟩,HU,HV,HC⟩:=hrel
     by_cases hq:0≤q
     ·have e1:decide (0≤q)=true:=decide_eq_true hq
      obtain⟨g,cap,ev,_⟩:=Kd.R_form HO.out (by omega)
      injection ev with ev1 _ ev2
      subst ev1
      subst ev2
      have hqi:O[q.toNat]? =some O[q.toNat]:=List.getElem?_eq_getElem (by omega)
      generalize O[q.toNat]=e at hqi
      obtain⟨b0,b1⟩:=y_cells (Kd.R_below HO.out HC.out) hqi
      have hwr:IntKind.i64.wrap (q - 1)=q - 1:=IntWalk.i64_in _ (by omega)
      have HU2:Aside0 (U ++ [e]=(O.drop (q - 1+1).toNat).reverse):=⟨by
       have hd:O.drop q.toNat=e::O.drop (q.toNat+1):=by
        obtain⟨h1,h2⟩:=List.getElem?_eq_some_iff.1 hqi
        rw[List.drop_eq_getElem_cons h1,h2]
       rw[show (q - 1+1).toNat=q.toNat by omega,hd,List.reverse_cons,HU.out,show (q+1).toNat=q.toNat+1 by omega]⟩
      have hUl:U.length≤50:=by rw[HU.out,List.length_reverse,List.length_drop];omega
      clear hqi HU
      go_wp2_with (first|((with_reducible refine gate_builtin (b:= .append) (xs:= #[.tmp 49, .tmp 54]) rfl ?_);at_builtin;refine Kd.R_append k38 (w0:=wE) wE.heap.size rfl (.tmp 49) (.tmp 54) 34 38 (.agg #[(.int .i64 0),(.bool false)]) 16 rfl Try.underlying34 info38 rfl (by decide) (by omega) u14 U e [.int .i64 e.f0, .bool e.f1] (fun _=>True) (fun _=>False) rfl rfl ?aP (fun _ hk=>hk.elim) ?aF ?aO ?aB ?aS ?aL ?_;(case aP=>exact k38_mkM _ _ _ e);(case aF=>exact(fun k hk=>trivial));(case aO=>exact HV.out);(case aB=>exact HC.out);(case aS=>exact HC.out.size);(case aL=>omega);intro v1 w9 ho hb hg hat;have m0_:=Aside0.mk ho;have m1_:=Aside0.mk hb;clear HV HC ho hb hg hat b0 b1;have HV:=m0_;have HC:=m1_;clear m0_ m1_)|fail)
      go_roundw
      case rel=>exact⟨q - 1,U ++ [e],rfl,⟨by omega,by omega⟩,HU2,HV,HC⟩
      case measure=>simp[intOf]<;>omega
     ·have e1:decide (0≤q)=false:=decide_eq_false hq
      go_wp2_with fail
      go_ret2
      rw[HWR.out]
      refine⟨_,rfl,?_,below_step HB.out HC.out⟩
      have h_:=HV.out
      rw[HU.out,show (q+1).toNat=0 by omega,List.drop_zero,HOE.out,HBK0.out] at h_
      exact Kd.R_lower h_ HB.out.size
   ·have e1:((x.v:Int) != (s:Int))=true:=by rw[bne_iff_ne];omega
    rcases HF.out.mem_lv hx with ⟨h1,_⟩|⟨_,hto,z,hz,hze,hlv⟩
    ·exact absurd h1 hxs
    obtain⟨i,hi⟩:=List.getElem?_of_mem hx
    have hbk:backL (frP l) st s x.lv x.v=x.by_::backL (frP l) st s z.lv z.v:=by
     rw[hlv,backL,if_neg hxs,fnd_of HF.out.nodup hx]
     show x.by_::_=_
     rw[esL_fr _ _ hze]
    have hbi:(bY st)[i]? =some x.by_:=by unfold bY;rw[List.getElem?_map,hi];rfl
    obtain⟨b0,b1⟩:=y_cells (Kd.R_below HY.out HC.out) hbi
    have hfm:=rfrom_ok HL.out (List.mem_filter.1 hze).1 (n0:Int) a0_1
    have hfr:stFrom l x.by_=(z.v:Int):=of_decide_eq_true (List.mem_filter.1 hze).2
    rw[hfr] at hfm
    obtain⟨K3,hK3⟩:=has_ev (nX st) (bY st) (x.v:Int) (by rw[nX_len];omega)
    have hh3:=hK3 K3 (Nat.le_refl _)
    rw[hasI_at HF.out.nodup hi] at hh3
    obtain⟨k3,hk3⟩: ∃ k_,k_=K3:=⟨_,rfl⟩
    rw[← hk3] at hh3
    have HH3:=Aside0.mk hh3
    obtain⟨e,hee⟩: ∃ e_,e_=x.by_:=⟨_,rfl⟩
    rw[← hee] at b0 b1 hfm hbk
    have HFM:=Aside0.mk hfm
    have HBK2:Aside0 ((O ++ [e]) ++ backL (frP l) st s z.lv z.v=backL (frP l) st s x0.lv x0.v):=⟨by rw[← HBK.out,hbk,List.append_assoc];rfl⟩
    have HZ:=Aside0.mk hz
    have hl2:(O ++ [e]).length+z.lv≤50:=by rw[List.length_append,List.length_singleton];omega
    have HL2:=Aside0.mk hl2
    have hOl:O.length≤50:=by omega
    have hmz:((dOf n0 st).getD z.v 0).toNat<((dOf n0 st).getD x.v 0).toNat:=by
     rw[dOf_mem HF.out.nodup hz 0 (fds_lt HF.out (esL_to HL.out) hs _ (List.mem_map_of_mem hz)),dOf_mem HF.out.nodup hx 0 hxn]
     omega
    have HMZ:=Aside0.mk hmz
    have px:(0:Int)≤(i:Int):=by omega
    have qx:(i:Int)<((bY st).length:Int):=by rw[bY_len];have:=(List.getElem?_eq_some_iff.1 hi).1;omega
    obtain⟨t0,t1⟩:wr.cell? ⟨g10,0,none⟩=some (.slice (some ⟨gx,0,none⟩) (nX st).length cx)∧wr.cell? ⟨g10,1,none⟩=some (.slice (some ⟨gy,0,none⟩) (bY st).length cy):=⟨pw_cell_below HC.out ((blk_cell HW.out 0).trans rfl),pw_cell_below HC.out ((blk_cell HW.out 1).trans rfl)⟩
    have H5:=Aside0.mk (Kd.C_below (Kd.R_reads' HX.out).2.2 HC.out)
    have H6:=Aside0.mk (Kd.C_below (Kd.R_reads' HY.out).2.2 HC.out)
    clear hz hze hlv hbk hfr hfm hee HBK hlen hl2 hmz hto hxs hi hbi hh3 hk3 hK3 K3
    go_upto_region 7 with fail
    go_cut [13] (fun v13 wx=> ∃ g13:Nat,v13= .pointer (some ⟨g13,0,none⟩)∧wr.heap.size≤g13∧Aside0 (wx.heap[g13]? =some (.cells #[.int .i64 e.f0, .bool e.f1] 38 (0,0)))∧Aside0 (Below wr.heap.size wr wx))
    case first=>
     go_region_held3 (fun w'=>w'.cell? ⟨g10,0,none⟩=some (.slice (some ⟨gx,0,none⟩) (nX st).length cx)∧w'.cell? ⟨g10,1,none⟩=some (.slice (some ⟨gy,0,none⟩) (bY st).length cy)∧w'.cell? ⟨gy,i * 2,none⟩=some (.int .i64 e.f0)∧w'.cell? ⟨gy,i * 2+1,none⟩=some (.bool e.f1))
      (first|((try dsimp only);(refine⟨?_,?_,?_,?_⟩)<;>first|(exact pw_cell_below (below_drew (Below.refl _ _)) (by assumption))|(exact pw_cell_below (below_alloc (Below.refl _ _) _) (by assumption))|(exact pw_cell_below hbr (by assumption))|(exact pw_cell_below (below_alloc (below_step (below_drew (Below.refl wr.heap.size wr)) hbr) _) (by assumption))|(exact pw_cell_below (below_alloc (Below.refl wr.heap.size wr) _) (by assumption))|(exact pw_cell_below (below_step (below_drew (below_alloc (Below.refl wr.heap.size wr) _)) hbr) (by assumption))|(exact pw_cell_below (below_set (below_set (below_step (below_drew (below_alloc (Below.refl wr.heap.size wr) _)) hbr) (Nat.le_refl _)) (Nat.le_refl _)) (by assumption)))|go_keep)
      (first|(go_at_call 147;refine(ebbtideref08_found_has.calls k3 _ cx (nX st) _ cy (bY st) (x.v:Int) _ _ ?hX (Kd.R_reads' HX.out).2.1 ?hY (Kd.R_reads' HY.out).2.1 HH3.out).mono ?_;(case hX=>first|exact Kd.C_below H5.out (below_drew (Below.refl _ _))|exact Kd.C_below H5.out (below_drew (below_alloc (Below.refl _ _) _)));(case hY=>first|exact Kd.C_below H6.out (below_drew (Below.refl _ _))|exact Kd.C_below H6.out (below_drew (below_alloc (Below.refl _ _) _)));rintro e_ w9 ⟨rfl,hbr⟩;try (have hk9:w9.heap[wr.heap.size]? =some (.cells #[.int .i64 0, .bool false] 38 (0,0)):=(hbr.block _ (by simp)).trans (heap_alloc_new wr (.cells #[.int .i64 0, .bool false] 38));have kc0:=blk_cell hk9 0;have kc1:=blk_cell hk9 1;have kz0:=blk_frozen hk9 0;have kz1:=blk_frozen hk9 1)))
     ·go_wp2_with fail
      go_meet
      exact⟨w9.heap.size,rfl,by have:=hbr.size;simpa using this,⟨heap_alloc_new w9 _⟩,⟨below_alloc (below_step (below_drew (Below.refl wr.heap.size wr)) hbr) _⟩⟩
     ·go_wp2_with fail
      go_meet
      exact⟨wr.heap.size,rfl,Nat.le_refl _,⟨(blk_set (blk_set hk9 0 (.int .i64 e.f0)) 1 (.bool e.f1)).trans rfl⟩,⟨below_set (below_set (below_step (below_drew (below_alloc (Below.refl wr.heap.size wr) _)) hbr) (Nat.le_refl _)) (Nat.le_refl _)⟩⟩
    case rest=>
     obtain⟨g13,rfl,hg13,HG13,HBC⟩:=hcut
     have m0_:=Aside0.mk (below_step HC.out HBC.out)
     have m1_:=Aside0.mk (Kd.R_below (Kd.R_mono (ok':=fun k=>k≠g13) (Kd.R_bound HO.out) (fun k hk=>by have:=hk.2.2.1;omega)) HBC.out)
     clear HC HO HBC t0 t1 b0 b1 H5 H6
     have HC:=m0_
     have HO:=m1_
     clear m0_ m1_
     have b0:wc.cell? ⟨g13,0,none⟩=some (.int .i64 e.f0):=(blk_cell HG13.out 0).trans rfl
     have b1:wc.cell? ⟨g13,1,none⟩=some (.bool e.f1):=(blk_cell HG13.out 1).trans rfl
     go_wp2_with (first|((with_reducible refine gate_builtin (b:= .append) (xs:= #[.tmp 35, .tmp 37]) rfl ?_);at_builtin;refine Kd.R_append k38 (w0:=w8) w8.heap.size rfl (.tmp 35) (.tmp 37) 34 38 (.agg #[(.int .i64 0),(.bool false)]) 16 rfl Try.underlying34 info38 rfl (by decide) (by omega) u11 O e [.int .i64 e.f0, .bool e.f1] (fun k=>k≠g13) (fun _=>False) rfl rfl ?aP (fun _ hk=>hk.elim) ?aF ?aO ?aB ?aS ?aL ?_;(case aP=>exact k38_mkM _ _ _ e);(case aF=>exact(fun k hk=>by have:=blk_lt HG13.out;omega));(case aO=>exact HO.out);(case aB=>exact HC.out);(case aS=>exact HC.out.size);(case aL=>omega);intro v1 w9 ho hb hg hat;have m0_:=Aside0.mk ho;have m1_:=Aside0.mk hb;have m2_:=Aside0.mk ((hg.block g13 (blk_lt HG13.out) (fun h=>HO.out.1 g13 h.symm rfl)).trans HG13.out);clear HO HC HG13 ho hb hg hat b0 b1;have HO:=m0_;have HC:=m1_;have HG13:=m2_;clear m0_ m1_ m2_;have b0:w9.cell? ⟨g13,0,none⟩=some (.int .i64 e.f0):=(blk_cell HG13.out 0).trans rfl;have b1:w9.cell? ⟨g13,1,none⟩=some (.bool e.f1):=(blk_cell HG13.out 1).trans rfl;have c0:w9.cell? ⟨g3,0,none⟩=some (.int .i64 n0):=pw_cell_below HC.out ((blk_cell B3.out 0).trans rfl);have c1:w9.cell? ⟨g3,1,none⟩=some (.bool a0_1):=pw_cell_below HC.out ((blk_cell B3.out 1).trans rfl);have c2_:w9.cell? ⟨g3,2,none⟩=some (.slice A2 l.length c2):=pw_cell_below HC.out ((blk_cell B3.out 2).trans rfl))|(go_at_call 44;refine(ebbtideref07_From.calls (n0:Int) a0_1 A2 c2 l e.f0 e.f1 (z.v:Int) _ (Kd.C_below (Kd.C_below H2.out HB.out) HC.out) HC2.out HFM.out).mono ?_;rintro e_ w10 ⟨rfl,hb⟩;have m0_:=Aside0.mk (below_step HC.out hb);have m1_:=Aside0.mk (Kd.R_below HO.out hb);clear HC HO b0 b1 c0 c1 c2_ hb;have HC:=m0_;have HO:=m1_;clear m0_ m1_)|fail)
     go_roundw
     case rel=>exact⟨z,O ++ [e],rfl,HZ.out,HBK2,HL2.out,⟨Kd.R_mono HO.out (fun _ _=>trivial)⟩,HC⟩
     case measure=>have h_:=HMZ.out;simpa [intOf] using h_
 ·have e0:decide (hasI (nX st) t 0<0)=true:=decide_eq_true (by
   unfold hasI
   rw[List.drop_zero,if_neg hmem]
   omega)
  have HNO:Aside0 (wayRes l L n0 s t=([],false)):=⟨by unfold wayRes;rw[← HST.out,if_neg hmem]⟩
  clear hmem
  go_wp2_with (first|(go_at_call 147;refine(ebbtideref08_found_has.calls KH _ cx (nX st) _ cy (bY st) _ _ _ (Kd.R_reads' HX.out).2.2 (Kd.R_reads' HX.out).2.1 (Kd.R_reads' HY.out).2.2 (Kd.R_reads' HY.out).2.1 HH.out).mono ?_;rintro e_ w8 ⟨rfl,hb⟩;have m0_:=Aside0.mk (below_step HB.out hb);have m1_:=Aside0.mk (blk_below B3.out hb);have m2_:=Aside0.mk (blk_below HW.out hb);have m3_:=Aside0.mk (Kd.R_below HX.out hb);have m4_:=Aside0.mk (Kd.R_below HY.out hb);clear HB B3 HW HX HY hb;have HB:=m0_;have B3:=m1_;have HW:=m2_;have HX:=m3_;have HY:=m4_;clear m0_ m1_ m2_ m3_ m4_;clear t0 t1)|fail)
  go_ret2
  rw[HNO.out]
  exact⟨_,rfl,Kd.R_nil _ _ _ _ _,HB.out⟩
def wayF (n:Int) (l:List S74) (s t:Int) (L:List S38):Option (List S38 × Bool):=if wayOk n l L s=true then some (wayRes l L n.toNat s.toNat t) else none
theorem ebbtideref08_Way_calls (a0_0:Int) (a0_1:Bool) (A0_2:Option Addr) (c0_2:Nat) (l0_2:List S74) (a1 a2:Int) (A3:Option Addr) (c3:Nat) (l3:List S38) (r1:List S38) (r2:Bool) (w:World) (hr0_2:Kd.C k74 w A0_2 l0_2.length l0_2) (hc0_2:l0_2.length≤c0_2) (hr3:Kd.C k38 w A3 l3.length l3) (hc3:l3.length≤c3) (h:wayF a0_0 l0_2 a1 a2 l3=some (r1,r2)):
  Calls Try.prog 109 #[.agg #[.int .i64 a0_0, .bool a0_1, .slice A0_2 l0_2.length c0_2], .int .i64 a1, .int .i64 a2, .slice A3 l3.length c3] w fun e w'=> ∃ v0_:Value,e= .returned (.tuple #[v0_, .bool r2])∧Kd.R k38 38 w' w.heap.size (fun _=>True) v0_ r1∧Below w.heap.size w w':=by
 unfold wayF at h
 split at h
 ·rename_i hok
  obtain⟨n0,rfl⟩: ∃ n0:Nat,a0_0=n0:=⟨a0_0.toNat,by unfold wayOk at hok;simp only[Bool.and_eq_true,decide_eq_true_eq] at hok;omega⟩
  obtain⟨s0,rfl⟩: ∃ s0:Nat,a1=s0:=⟨a1.toNat,by unfold wayOk at hok;simp only[Bool.and_eq_true,decide_eq_true_eq] at hok;omega⟩
  obtain⟨h1,h2,h3⟩:=wayOk_iff.1 hok
  injection h with h
  rw[Int.toNat_natCast,Int.toNat_natCast] at h
  have h_:=way_ref n0 a0_1 A0_2 c0_2 l0_2 s0 a2 A3 c3 l3 w h1 h2 h3 hr0_2 hc0_2 hr3 hc3
  rw[h] at h_
  exact h_
 ·cases h
theorem wayF_eq {n0:Nat} {l:List S74} {L:List S38} {s0:Nat} (h1:StepsOk l n0 L) (h2:s0<n0) (h3:n0≤50) (t:Int):wayF n0 l s0 t L=some (wayRes l L n0 s0 t):=by
 unfold wayF
 rw[if_pos (wayOk_iff.2 ⟨h1,h2,h3⟩),Int.toNat_natCast,Int.toNat_natCast]
end Go.Proofs.Ytkcpanpdipmmmaa.H
namespace Go.Proofs.Ytkcpanpdipmmmaa.P
open Go.RowKit Go.Proofs.YtkcpanpdipmmmaaW.PrintWords Go.Proofs.YtkcpanpdipmmmaaW.PrintLast Go.Proofs.YtkcpanpdipmmmaaW.PrintMore
attribute [local go_sem] max2_int min2_int max_two min_two max_three min_three max_four min_four
def ebbtideref08_Way.f (a0_0:Int) (a0_1:Bool) (l0_2:List (S74)) (a1:Int) (a2:Int) (l3:List (S38)):Option ((List (S38)) × Bool):=H.wayF a0_0 l0_2 a1 a2 l3
theorem ebbtideref08_Way.calls (a0_0:Int) (a0_1:Bool) (A0_2:Option Addr) (c0_2:Nat) (l0_2:List (S74)) (a1:Int) (a2:Int) (A3:Option Addr) (c3:Nat) (l3:List (S38)) (r1:List (S38)) (r2:Bool) (w:World) (hr0_2:Kd.C k74 w A0_2 l0_2.length l0_2) (hc0_2:l0_2.length≤c0_2) (hr3:Kd.C k38 w A3 l3.length l3) (hc3:l3.length≤c3) (h:ebbtideref08_Way.f a0_0 a0_1 l0_2 a1 a2 l3=some (r1,r2)):
  Calls Try.prog 109 #[.agg #[.int .i64 a0_0, .bool a0_1, .slice A0_2 l0_2.length c0_2], .int .i64 a1, .int .i64 a2, .slice A3 l3.length c3] w fun e w'=> ∃ v0_:Value,e= .returned (.tuple #[v0_, .bool r2])∧Kd.R k38 38 w' w.heap.size (fun _=>True) v0_ r1∧Below w.heap.size w w':=H.ebbtideref08_Way_calls a0_0 a0_1 A0_2 c0_2 l0_2 a1 a2 A3 c3 l3 r1 r2 w hr0_2 hc0_2 hr3 hc3 h
end Go.Proofs.Ytkcpanpdipmmmaa.P
namespace Go.Proofs.Ytkcpanpdipmmmaa.P
open Go.RowKit Go.Proofs.YtkcpanpdipmmmaaW.PrintWords Go.Proofs.YtkcpanpdipmmmaaW.PrintLast Go.Proofs.YtkcpanpdipmmmaaW.PrintMore
attribute [local go_sem] max2_int min2_int max_two min_two max_three min_three max_four min_four
def ebbtideref07_Left.f (a0_0:Int) (a0_1:Bool) (l0_2:List (S74)) (l1:List Int) (a2_0:Int) (a2_1:Bool):Option (Int):=if a2_1=true then(if 0≤a2_0 then(if a2_0<(l1.length:Int) then(some (rd l1 a2_0)) else(none)) else(none)) else(if 0≤a2_0 then(if a2_0<(l0_2.length:Int) then(if a2_0<(l1.length:Int) then(some (wrap64 (((rd_T74 l0_2 a2_0).f2) - (rd l1 a2_0)))) else(none)) else(none)) else(none))
set_option maxHeartbeats 8000000 in
set_option maxRecDepth 100000 in
theorem ebbtideref07_Left.calls (a0_0:Int) (a0_1:Bool) (A0_2:Option Addr) (c0_2:Nat) (l0_2:List (S74)) (A1:Option Addr) (c1:Nat) (l1:List Int) (a2_0:Int) (a2_1:Bool) (r:Int) (w:World) (hr0_2:Kd.C k74 w A0_2 l0_2.length l0_2) (hc0_2:l0_2.length≤c0_2) (hr1:Kd.C (Kd.int .i64) w A1 l1.length l1) (hc1:l1.length≤c1) (h:ebbtideref07_Left.f a0_0 a0_1 l0_2 l1 a2_0 a2_1=some r):
  Calls Try.prog 113 #[.agg #[.int .i64 a0_0, .bool a0_1, .slice A0_2 l0_2.length c0_2], .slice A1 l1.length c1, .agg #[.int .i64 a2_0, .bool a2_1]] w fun e w'=>e= .returned (.int .i64 r)∧Below w.heap.size w w':=by
 have hu24:=Try.underlying24
 have hu38:=Try.underlying38
 have HR0_2:=Aside0.mk hr0_2
 have HC0_2:=Aside0.mk hc0_2
 clear hr0_2 hc0_2
 have HR1:=Aside0.mk hr1
 have HC1:=Aside0.mk hc1
 clear hr1 hc1
 have HB:=Aside0.mk (Below.refl w.heap.size w)
 have H:(if a2_1=true then(if 0≤a2_0 then(if a2_0<(l1.length:Int) then(some (rd l1 a2_0)) else(none)) else(none)) else(if 0≤a2_0 then(if a2_0<(l0_2.length:Int) then(if a2_0<(l1.length:Int) then(some (wrap64 (((rd_T74 l0_2 a2_0).f2) - (rd l1 a2_0)))) else(none)) else(none)) else(none)))=some r:=h
 clear h
 by_cases c4:a2_1=true
 ·subst c4
  have H1:(if 0≤a2_0 then(if a2_0<(l1.length:Int) then(some (rd l1 a2_0)) else(none)) else(none))=some r:=by first|(rw[if_pos rfl] at H;exact H)|(rw[if_pos trivial] at H;exact H)
  clear H
  have H:=H1
  clear H1
  by_cases c5:0≤a2_0
  rotate_left
  ·rw[if_neg c5] at H
   exact absurd H (by simp)
  rw[if_pos c5] at H
  have c5b0:decide (0≤a2_0)=true:=decide_eq_true c5
  clear c5
  by_cases c6:a2_0<(l1.length:Int)
  rotate_left
  ·rw[if_neg c6] at H
   exact absurd H (by simp)
  rw[if_pos c6] at H
  have c6b0:decide (a2_0<(l1.length:Int))=true:=decide_eq_true c6
  clear c6
  obtain rfl:=Option.some.inj H
  go_enter Try.func113,Try.ntmps113
  go_wp2_with (first|((with_reducible refine gate_dst (N:=3) rfl ?_);refine box_event ?hg (N:=3) ?hd (cs:= #[.int .i64 a0_0, .bool a0_1, .slice A0_2 l0_2.length c0_2]) (t:=24) ?hr ?_;(case hd=>rfl);(case hg=>rfl);(case hr=>first|(go_simp;done)|(go_simp;rfl));intro gb588 hg w7 hbox hb;have n0_:=Aside0.mk (below_step (by repeat(first|(with_reducible first|exact HB.out|apply below_alloc|apply pw_below_drewN|apply below_drew1)|exact HB.out)) hb);have n1_:=Aside0.mk (hbox);have n2_:=Aside0.mk ((by rw[hg];exact(below_size (by repeat(first|(with_reducible first|exact HB.out|apply below_alloc|apply pw_below_drewN|apply below_drew1)|exact HB.out))):w.heap.size≤gb588));have n3_:=Aside0.mk ((by rw[hg];exact(below_size (by repeat(first|(with_reducible first|exact HB.out|apply below_alloc|apply pw_below_drewN|apply below_drew1)|exact HB.out))):w.heap.size≤gb588));clear HB;have HB:=n0_;have BK588:=n1_;have GW588:=n2_;have GE588:=n3_;clear n0_ n1_ n2_ n3_;clear hb hbox hg)|((with_reducible refine gate_dst (N:=5) rfl ?_);refine box_event ?hg (N:=5) ?hd (cs:= #[.int .i64 a2_0, .bool true]) (t:=38) ?hr ?_;(case hd=>rfl);(case hg=>rfl);(case hr=>first|(go_simp;done)|(go_simp;rfl));intro gb589 hg w8 hbox hb;have n0_:=Aside0.mk (blk_below (g:=gb588) (o:= .cells #[.int .i64 a0_0, .bool a0_1, .slice A0_2 l0_2.length c0_2] 24 (0,0)) (by(with_reducible repeat(first|refine blk_drewN ?_ _|refine blk_drew ?_|refine blk_alloc ?_ _));exact BK588.out) hb);have n1_:=Aside0.mk (below_step (by repeat(first|(with_reducible first|exact HB.out|apply below_alloc|apply pw_below_drewN|apply below_drew1|refine below_set ?_ GE588.out)|exact HB.out)) hb);have n2_:=Aside0.mk (hbox);have n3_:=Aside0.mk ((by rw[hg];exact(below_size (by repeat(first|(with_reducible first|exact HB.out|apply below_alloc|apply pw_below_drewN|apply below_drew1|refine below_set ?_ GE588.out)|exact HB.out))):w.heap.size≤gb589));have n4_:=Aside0.mk ((by rw[hg];exact(below_size (by repeat(first|(with_reducible first|exact HB.out|apply below_alloc|apply pw_below_drewN|apply below_drew1|refine below_set ?_ GE588.out)|exact HB.out))):w.heap.size≤gb589));have n5_:=Aside0.mk ((by rw[hg];exact Nat.ne_of_lt (blk_lt (g:=gb588) (o:= .cells #[.int .i64 a0_0, .bool a0_1, .slice A0_2 l0_2.length c0_2] 24 (0,0)) (by(with_reducible repeat(first|refine blk_drewN ?_ _|refine blk_drew ?_|refine blk_alloc ?_ _));exact BK588.out)):gb588≠gb589));have n6_:=Aside0.mk ((by rw[hg];exact Nat.ne_of_gt (blk_lt (g:=gb588) (o:= .cells #[.int .i64 a0_0, .bool a0_1, .slice A0_2 l0_2.length c0_2] 24 (0,0)) (by(with_reducible repeat(first|refine blk_drewN ?_ _|refine blk_drew ?_|refine blk_alloc ?_ _));exact BK588.out)):gb589≠gb588));clear BK588;clear HB;have BK588:=n0_;have HB:=n1_;have BK589:=n2_;have GW589:=n3_;have GE589:=n4_;have NB588_589:=n5_;have NB589_588:=n6_;clear n0_ n1_ n2_ n3_ n4_ n5_ n6_;clear hb hbox hg;have hnb9:=NB589_588.out;have hnc9:=NB588_589.out;have hcz10_0:w8.cell? ⟨gb589,0,none⟩=some (.int .i64 a2_0):=(blk_cell BK589.out 0).trans rfl;have hcz10_1:w8.cell? ⟨gb589,1,none⟩=some (.bool true):=(blk_cell BK589.out 1).trans rfl;have hfz10_0:=blk_frozen BK589.out 0;have hfz10_1:=blk_frozen BK589.out 1;have p590:0≤(a2_0:Int):=of_decide_eq_true (by first|(with_reducible assumption)|assumption);have q590:a2_0<(l1.length:Int):=of_decide_eq_true (by first|(with_reducible assumption)|assumption);obtain⟨ad590,e590,hx590_0⟩:=Kd.at_int HR1.out a2_0 p590 q590;cases e590;replace hx590_0:=(HB.out.cell (World.block_lt_of_cell? w _ hx590_0)).trans hx590_0;replace p590:=eq_true p590;replace q590:=eq_true q590))
  repeat(go_quiet (first|((with_reducible refine gate_dst (N:=3) rfl ?_);refine box_event ?hg (N:=3) ?hd (cs:= #[.int .i64 a0_0, .bool a0_1, .slice A0_2 l0_2.length c0_2]) (t:=24) ?hr ?_;(case hd=>rfl);(case hg=>rfl);(case hr=>first|(go_simp;done)|(go_simp;rfl));intro gb588 hg w7 hbox hb;have n0_:=Aside0.mk (below_step (by repeat(first|(with_reducible first|exact HB.out|apply below_alloc|apply pw_below_drewN|apply below_drew1)|exact HB.out)) hb);have n1_:=Aside0.mk (hbox);have n2_:=Aside0.mk ((by rw[hg];exact(below_size (by repeat(first|(with_reducible first|exact HB.out|apply below_alloc|apply pw_below_drewN|apply below_drew1)|exact HB.out))):w.heap.size≤gb588));have n3_:=Aside0.mk ((by rw[hg];exact(below_size (by repeat(first|(with_reducible first|exact HB.out|apply below_alloc|apply pw_below_drewN|apply below_drew1)|exact HB.out))):w.heap.size≤gb588));clear HB;have HB:=n0_;have BK588:=n1_;have GW588:=n2_;have GE588:=n3_;clear n0_ n1_ n2_ n3_;clear hb hbox hg)|((with_reducible refine gate_dst (N:=5) rfl ?_);refine box_event ?hg (N:=5) ?hd (cs:= #[.int .i64 a2_0, .bool true]) (t:=38) ?hr ?_;(case hd=>rfl);(case hg=>rfl);(case hr=>first|(go_simp;done)|(go_simp;rfl));intro gb589 hg w8 hbox hb;have n0_:=Aside0.mk (blk_below (g:=gb588) (o:= .cells #[.int .i64 a0_0, .bool a0_1, .slice A0_2 l0_2.length c0_2] 24 (0,0)) (by(with_reducible repeat(first|refine blk_drewN ?_ _|refine blk_drew ?_|refine blk_alloc ?_ _));exact BK588.out) hb);have n1_:=Aside0.mk (below_step (by repeat(first|(with_reducible first|exact HB.out|apply below_alloc|apply pw_below_drewN|apply below_drew1|refine below_set ?_ GE588.out)|exact HB.out)) hb);have n2_:=Aside0.mk (hbox);have n3_:=Aside0.mk ((by rw[hg];exact(below_size (by repeat(first|(with_reducible first|exact HB.out|apply below_alloc|apply pw_below_drewN|apply below_drew1|refine below_set ?_ GE588.out)|exact HB.out))):w.heap.size≤gb589));have n4_:=Aside0.mk ((by rw[hg];exact(below_size (by repeat(first|(with_reducible first|exact HB.out|apply below_alloc|apply pw_below_drewN|apply below_drew1|refine below_set ?_ GE588.out)|exact HB.out))):w.heap.size≤gb589));have n5_:=Aside0.mk ((by rw[hg];exact Nat.ne_of_lt (blk_lt (g:=gb588) (o:= .cells #[.int .i64 a0_0, .bool a0_1, .slice A0_2 l0_2.length c0_2] 24 (0,0)) (by(with_reducible repeat(first|refine blk_drewN ?_ _|refine blk_drew ?_|refine blk_alloc ?_ _));exact BK588.out)):gb588≠gb589));have n6_:=Aside0.mk ((by rw[hg];exact Nat.ne_of_gt (blk_lt (g:=gb588) (o:= .cells #[.int .i64 a0_0, .bool a0_1, .slice A0_2 l0_2.length c0_2] 24 (0,0)) (by(with_reducible repeat(first|refine blk_drewN ?_ _|refine blk_drew ?_|refine blk_alloc ?_ _));exact BK588.out)):gb589≠gb588));clear BK588;clear HB;have BK588:=n0_;have HB:=n1_;have BK589:=n2_;have GW589:=n3_;have GE589:=n4_;have NB588_589:=n5_;have NB589_588:=n6_;clear n0_ n1_ n2_ n3_ n4_ n5_ n6_;clear hb hbox hg;have hnb9:=NB589_588.out;have hnc9:=NB588_589.out;have hcz10_0:w8.cell? ⟨gb589,0,none⟩=some (.int .i64 a2_0):=(blk_cell BK589.out 0).trans rfl;have hcz10_1:w8.cell? ⟨gb589,1,none⟩=some (.bool true):=(blk_cell BK589.out 1).trans rfl;have hfz10_0:=blk_frozen BK589.out 0;have hfz10_1:=blk_frozen BK589.out 1;have p590:0≤(a2_0:Int):=of_decide_eq_true (by first|(with_reducible assumption)|assumption);have q590:a2_0<(l1.length:Int):=of_decide_eq_true (by first|(with_reducible assumption)|assumption);obtain⟨ad590,e590,hx590_0⟩:=Kd.at_int HR1.out a2_0 p590 q590;cases e590;replace hx590_0:=(HB.out.cell (World.block_lt_of_cell? w _ hx590_0)).trans hx590_0;replace p590:=eq_true p590;replace q590:=eq_true q590));try go_wp2_with (first|((with_reducible refine gate_dst (N:=3) rfl ?_);refine box_event ?hg (N:=3) ?hd (cs:= #[.int .i64 a0_0, .bool a0_1, .slice A0_2 l0_2.length c0_2]) (t:=24) ?hr ?_;(case hd=>rfl);(case hg=>rfl);(case hr=>first|(go_simp;done)|(go_simp;rfl));intro gb588 hg w7 hbox hb;have n0_:=Aside0.mk (below_step (by repeat(first|(with_reducible first|exact HB.out|apply below_alloc|apply pw_below_drewN|apply below_drew1)|exact HB.out)) hb);have n1_:=Aside0.mk (hbox);have n2_:=Aside0.mk ((by rw[hg];exact(below_size (by repeat(first|(with_reducible first|exact HB.out|apply below_alloc|apply pw_below_drewN|apply below_drew1)|exact HB.out))):w.heap.size≤gb588));have n3_:=Aside0.mk ((by rw[hg];exact(below_size (by repeat(first|(with_reducible first|exact HB.out|apply below_alloc|apply pw_below_drewN|apply below_drew1)|exact HB.out))):w.heap.size≤gb588));clear HB;have HB:=n0_;have BK588:=n1_;have GW588:=n2_;have GE588:=n3_;clear n0_ n1_ n2_ n3_;clear hb hbox hg)|((with_reducible refine gate_dst (N:=5) rfl ?_);refine box_event ?hg (N:=5) ?hd (cs:= #[.int .i64 a2_0, .bool true]) (t:=38) ?hr ?_;(case hd=>rfl);(case hg=>rfl);(case hr=>first|(go_simp;done)|(go_simp;rfl));intro gb589 hg w8 hbox hb;have n0_:=Aside0.mk (blk_below (g:=gb588) (o:= .cells #[.int .i64 a0_0, .bool a0_1, .slice A0_2 l0_2.length c0_2] 24 (0,0)) (by(with_reducible repeat(first|refine blk_drewN ?_ _|refine blk_drew ?_|refine blk_alloc ?_ _));exact BK588.out) hb);have n1_:=Aside0.mk (below_step (by repeat(first|(with_reducible first|exact HB.out|apply below_alloc|apply pw_below_drewN|apply below_drew1|refine below_set ?_ GE588.out)|exact HB.out)) hb);have n2_:=Aside0.mk (hbox);have n3_:=Aside0.mk ((by rw[hg];exact(below_size (by repeat(first|(with_reducible first|exact HB.out|apply below_alloc|apply pw_below_drewN|apply below_drew1|refine below_set ?_ GE588.out)|exact HB.out))):w.heap.size≤gb589));have n4_:=Aside0.mk ((by rw[hg];exact(below_size (by repeat(first|(with_reducible first|exact HB.out|apply below_alloc|apply pw_below_drewN|apply below_drew1|refine below_set ?_ GE588.out)|exact HB.out))):w.heap.size≤gb589));have n5_:=Aside0.mk ((by rw[hg];exact Nat.ne_of_lt (blk_lt (g:=gb588) (o:= .cells #[.int .i64 a0_0, .bool a0_1, .slice A0_2 l0_2.length c0_2] 24 (0,0)) (by(with_reducible repeat(first|refine blk_drewN ?_ _|refine blk_drew ?_|refine blk_alloc ?_ _));exact BK588.out)):gb588≠gb589));have n6_:=Aside0.mk ((by rw[hg];exact Nat.ne_of_gt (blk_lt (g:=gb588) (o:= .cells #[.int .i64 a0_0, .bool a0_1, .slice A0_2 l0_2.length c0_2] 24 (0,0)) (by(with_reducible repeat(first|refine blk_drewN ?_ _|refine blk_drew ?_|refine blk_alloc ?_ _));exact BK588.out)):gb589≠gb588));clear BK588;clear HB;have BK588:=n0_;have HB:=n1_;have BK589:=n2_;have GW589:=n3_;have GE589:=n4_;have NB588_589:=n5_;have NB589_588:=n6_;clear n0_ n1_ n2_ n3_ n4_ n5_ n6_;clear hb hbox hg;have hnb9:=NB589_588.out;have hnc9:=NB588_589.out;have hcz10_0:w8.cell? ⟨gb589,0,none⟩=some (.int .i64 a2_0):=(blk_cell BK589.out 0).trans rfl;have hcz10_1:w8.cell? ⟨gb589,1,none⟩=some (.bool true):=(blk_cell BK589.out 1).trans rfl;have hfz10_0:=blk_frozen BK589.out 0;have hfz10_1:=blk_frozen BK589.out 1;have p590:0≤(a2_0:Int):=of_decide_eq_true (by first|(with_reducible assumption)|assumption);have q590:a2_0<(l1.length:Int):=of_decide_eq_true (by first|(with_reducible assumption)|assumption);obtain⟨ad590,e590,hx590_0⟩:=Kd.at_int HR1.out a2_0 p590 q590;cases e590;replace hx590_0:=(HB.out.cell (World.block_lt_of_cell? w _ hx590_0)).trans hx590_0;replace p590:=eq_true p590;replace q590:=eq_true q590)))
  go_ret
  exact⟨by first|rfl|(simp[errW_none,errW_some]<;>rfl)|(simp[*,errW_none,errW_some]<;>rfl),by repeat(first|(with_reducible first|exact HB.out|apply below_alloc|apply pw_below_drewN|apply below_drew1|refine below_set ?_ GE588.out|refine below_set ?_ GE589.out)|exact HB.out)⟩
 replace c4:=Bool.eq_false_iff.mpr c4
 subst c4
 have H1:(if 0≤a2_0 then(if a2_0<(l0_2.length:Int) then(if a2_0<(l1.length:Int) then(some (wrap64 (((rd_T74 l0_2 a2_0).f2) - (rd l1 a2_0)))) else(none)) else(none)) else(none))=some r:=by rw[if_neg (show ¬ (false=true) by decide)] at H;exact H
 clear H
 have H:=H1
 clear H1
 by_cases c11:0≤a2_0
 rotate_left
 ·rw[if_neg c11] at H
  exact absurd H (by simp)
 rw[if_pos c11] at H
 have c11b0:decide (0≤a2_0)=true:=decide_eq_true c11
 clear c11
 by_cases c12:a2_0<(l0_2.length:Int)
 rotate_left
 ·rw[if_neg c12] at H
  exact absurd H (by simp)
 rw[if_pos c12] at H
 have c12b0:decide (a2_0<(l0_2.length:Int))=true:=decide_eq_true c12
 clear c12
 by_cases c13:a2_0<(l1.length:Int)
 rotate_left
 ·rw[if_neg c13] at H
  exact absurd H (by simp)
 rw[if_pos c13] at H
 have c13b0:decide (a2_0<(l1.length:Int))=true:=decide_eq_true c13
 clear c13
 obtain rfl:=Option.some.inj H
 go_enter Try.func113,Try.ntmps113
 go_wp2_with (first|((with_reducible refine gate_dst (N:=3) rfl ?_);refine box_event ?hg (N:=3) ?hd (cs:= #[.int .i64 a0_0, .bool a0_1, .slice A0_2 l0_2.length c0_2]) (t:=24) ?hr ?_;(case hd=>rfl);(case hg=>rfl);(case hr=>first|(go_simp;done)|(go_simp;rfl));intro gb588 hg w14 hbox hb;have n0_:=Aside0.mk (below_step (by repeat(first|(with_reducible first|exact HB.out|apply below_alloc|apply pw_below_drewN|apply below_drew1)|exact HB.out)) hb);have n1_:=Aside0.mk (hbox);have n2_:=Aside0.mk ((by rw[hg];exact(below_size (by repeat(first|(with_reducible first|exact HB.out|apply below_alloc|apply pw_below_drewN|apply below_drew1)|exact HB.out))):w.heap.size≤gb588));have n3_:=Aside0.mk ((by rw[hg];exact(below_size (by repeat(first|(with_reducible first|exact HB.out|apply below_alloc|apply pw_below_drewN|apply below_drew1)|exact HB.out))):w.heap.size≤gb588));clear HB;have HB:=n0_;have BK588:=n1_;have GW588:=n2_;have GE588:=n3_;clear n0_ n1_ n2_ n3_;clear hb hbox hg)|((with_reducible refine gate_dst (N:=5) rfl ?_);refine box_event ?hg (N:=5) ?hd (cs:= #[.int .i64 a2_0, .bool false]) (t:=38) ?hr ?_;(case hd=>rfl);(case hg=>rfl);(case hr=>first|(go_simp;done)|(go_simp;rfl));intro gb589 hg w15 hbox hb;have n0_:=Aside0.mk (blk_below (g:=gb588) (o:= .cells #[.int .i64 a0_0, .bool a0_1, .slice A0_2 l0_2.length c0_2] 24 (0,0)) (by(with_reducible repeat(first|refine blk_drewN ?_ _|refine blk_drew ?_|refine blk_alloc ?_ _));exact BK588.out) hb);have n1_:=Aside0.mk (below_step (by repeat(first|(with_reducible first|exact HB.out|apply below_alloc|apply pw_below_drewN|apply below_drew1|refine below_set ?_ GE588.out)|exact HB.out)) hb);have n2_:=Aside0.mk (hbox);have n3_:=Aside0.mk ((by rw[hg];exact(below_size (by repeat(first|(with_reducible first|exact HB.out|apply below_alloc|apply pw_below_drewN|apply below_drew1|refine below_set ?_ GE588.out)|exact HB.out))):w.heap.size≤gb589));have n4_:=Aside0.mk ((by rw[hg];exact(below_size (by repeat(first|(with_reducible first|exact HB.out|apply below_alloc|apply pw_below_drewN|apply below_drew1|refine below_set ?_ GE588.out)|exact HB.out))):w.heap.size≤gb589));have n5_:=Aside0.mk ((by rw[hg];exact Nat.ne_of_lt (blk_lt (g:=gb588) (o:= .cells #[.int .i64 a0_0, .bool a0_1, .slice A0_2 l0_2.length c0_2] 24 (0,0)) (by(with_reducible repeat(first|refine blk_drewN ?_ _|refine blk_drew ?_|refine blk_alloc ?_ _));exact BK588.out)):gb588≠gb589));have n6_:=Aside0.mk ((by rw[hg];exact Nat.ne_of_gt (blk_lt (g:=gb588) (o:= .cells #[.int .i64 a0_0, .bool a0_1, .slice A0_2 l0_2.length c0_2] 24 (0,0)) (by(with_reducible repeat(first|refine blk_drewN ?_ _|refine blk_drew ?_|refine blk_alloc ?_ _));exact BK588.out)):gb589≠gb588));clear BK588;clear HB;have BK588:=n0_;have HB:=n1_;have BK589:=n2_;have GW589:=n3_;have GE589:=n4_;have NB588_589:=n5_;have NB589_588:=n6_;clear n0_ n1_ n2_ n3_ n4_ n5_ n6_;clear hb hbox hg;have hnb16:=NB589_588.out;have hnc16:=NB588_589.out;have hcz17_0:w15.cell? ⟨gb589,0,none⟩=some (.int .i64 a2_0):=(blk_cell BK589.out 0).trans rfl;have hcz17_1:w15.cell? ⟨gb589,1,none⟩=some (.bool false):=(blk_cell BK589.out 1).trans rfl;have hfz17_0:=blk_frozen BK589.out 0;have hfz17_1:=blk_frozen BK589.out 1;have hcz18_0:w15.cell? ⟨gb588,0,none⟩=some (.int .i64 a0_0):=(blk_cell BK588.out 0).trans rfl;have hcz18_1:w15.cell? ⟨gb588,1,none⟩=some (.bool a0_1):=(blk_cell BK588.out 1).trans rfl;have hcz18_2:w15.cell? ⟨gb588,2,none⟩=some (.slice A0_2 l0_2.length c0_2):=(blk_cell BK588.out 2).trans rfl;have hfz18_0:=blk_frozen BK588.out 0;have hfz18_1:=blk_frozen BK588.out 1;have hfz18_2:=blk_frozen BK588.out 2;have p591:0≤(a2_0:Int):=of_decide_eq_true (by first|(with_reducible assumption)|assumption);have q591:a2_0<(l0_2.length:Int):=of_decide_eq_true (by first|(with_reducible assumption)|assumption);obtain⟨ad591,e591,hx591_0,hx591_1,hx591_2,hx591_3⟩:=at_T74 HR0_2.out a2_0 p591 q591;cases e591;replace hx591_0:=(HB.out.cell (World.block_lt_of_cell? w _ hx591_0)).trans hx591_0;replace hx591_1:=(HB.out.cell (World.block_lt_of_cell? w _ hx591_1)).trans hx591_1;replace hx591_2:=(HB.out.cell (World.block_lt_of_cell? w _ hx591_2)).trans hx591_2;replace hx591_3:=(HB.out.cell (World.block_lt_of_cell? w _ hx591_3)).trans hx591_3;replace p591:=eq_true p591;replace q591:=eq_true q591;have p592:0≤(a2_0:Int):=of_decide_eq_true (by first|(with_reducible assumption)|assumption);have q592:a2_0<(l1.length:Int):=of_decide_eq_true (by first|(with_reducible assumption)|assumption);obtain⟨ad592,e592,hx592_0⟩:=Kd.at_int HR1.out a2_0 p592 q592;cases e592;replace hx592_0:=(HB.out.cell (World.block_lt_of_cell? w _ hx592_0)).trans hx592_0;replace p592:=eq_true p592;replace q592:=eq_true q592))
 repeat(go_quiet (first|((with_reducible refine gate_dst (N:=3) rfl ?_);refine box_event ?hg (N:=3) ?hd (cs:= #[.int .i64 a0_0, .bool a0_1, .slice A0_2 l0_2.length c0_2]) (t:=24) ?hr ?_;(case hd=>rfl);(case hg=>rfl);(case hr=>first|(go_simp;done)|(go_simp;rfl));intro gb588 hg w14 hbox hb;have n0_:=Aside0.mk (below_step (by repeat(first|(with_reducible first|exact HB.out|apply below_alloc|apply pw_below_drewN|apply below_drew1)|exact HB.out)) hb);have n1_:=Aside0.mk (hbox);have n2_:=Aside0.mk ((by rw[hg];exact(below_size (by repeat(first|(with_reducible first|exact HB.out|apply below_alloc|apply pw_below_drewN|apply below_drew1)|exact HB.out))):w.heap.size≤gb588));have n3_:=Aside0.mk ((by rw[hg];exact(below_size (by repeat(first|(with_reducible first|exact HB.out|apply below_alloc|apply pw_below_drewN|apply below_drew1)|exact HB.out))):w.heap.size≤gb588));clear HB;have HB:=n0_;have BK588:=n1_;have GW588:=n2_;have GE588:=n3_;clear n0_ n1_ n2_ n3_;clear hb hbox hg)|((with_reducible refine gate_dst (N:=5) rfl ?_);refine box_event ?hg (N:=5) ?hd (cs:= #[.int .i64 a2_0, .bool false]) (t:=38) ?hr ?_;(case hd=>rfl);(case hg=>rfl);(case hr=>first|(go_simp;done)|(go_simp;rfl));intro gb589 hg w15 hbox hb;have n0_:=Aside0.mk (blk_below (g:=gb588) (o:= .cells #[.int .i64 a0_0, .bool a0_1, .slice A0_2 l0_2.length c0_2] 24 (0,0)) (by(with_reducible repeat(first|refine blk_drewN ?_ _|refine blk_drew ?_|refine blk_alloc ?_ _));exact BK588.out) hb);have n1_:=Aside0.mk (below_step (by repeat(first|(with_reducible first|exact HB.out|apply below_alloc|apply pw_below_drewN|apply below_drew1|refine below_set ?_ GE588.out)|exact HB.out)) hb);have n2_:=Aside0.mk (hbox);have n3_:=Aside0.mk ((by rw[hg];exact(below_size (by repeat(first|(with_reducible first|exact HB.out|apply below_alloc|apply pw_below_drewN|apply below_drew1|refine below_set ?_ GE588.out)|exact HB.out))):w.heap.size≤gb589));have n4_:=Aside0.mk ((by rw[hg];exact(below_size (by repeat(first|(with_reducible first|exact HB.out|apply below_alloc|apply pw_below_drewN|apply below_drew1|refine below_set ?_ GE588.out)|exact HB.out))):w.heap.size≤gb589));have n5_:=Aside0.mk ((by rw[hg];exact Nat.ne_of_lt (blk_lt (g:=gb588) (o:= .cells #[.int .i64 a0_0, .bool a0_1, .slice A0_2 l0_2.length c0_2] 24 (0,0)) (by(with_reducible repeat(first|refine blk_drewN ?_ _|refine blk_drew ?_|refine blk_alloc ?_ _));exact BK588.out)):gb588≠gb589));have n6_:=Aside0.mk ((by rw[hg];exact Nat.ne_of_gt (blk_lt (g:=gb588) (o:= .cells #[.int .i64 a0_0, .bool a0_1, .slice A0_2 l0_2.length c0_2] 24 (0,0)) (by(with_reducible repeat(first|refine blk_drewN ?_ _|refine blk_drew ?_|refine blk_alloc ?_ _));exact BK588.out)):gb589≠gb588));clear BK588;clear HB;have BK588:=n0_;have HB:=n1_;have BK589:=n2_;have GW589:=n3_;have GE589:=n4_;have NB588_589:=n5_;have NB589_588:=n6_;clear n0_ n1_ n2_ n3_ n4_ n5_ n6_;clear hb hbox hg;have hnb16:=NB589_588.out;have hnc16:=NB588_589.out;have hcz17_0:w15.cell? ⟨gb589,0,none⟩=some (.int .i64 a2_0):=(blk_cell BK589.out 0).trans rfl;have hcz17_1:w15.cell? ⟨gb589,1,none⟩=some (.bool false):=(blk_cell BK589.out 1).trans rfl;have hfz17_0:=blk_frozen BK589.out 0;have hfz17_1:=blk_frozen BK589.out 1;have hcz18_0:w15.cell? ⟨gb588,0,none⟩=some (.int .i64 a0_0):=(blk_cell BK588.out 0).trans rfl;have hcz18_1:w15.cell? ⟨gb588,1,none⟩=some (.bool a0_1):=(blk_cell BK588.out 1).trans rfl;have hcz18_2:w15.cell? ⟨gb588,2,none⟩=some (.slice A0_2 l0_2.length c0_2):=(blk_cell BK588.out 2).trans rfl;have hfz18_0:=blk_frozen BK588.out 0;have hfz18_1:=blk_frozen BK588.out 1;have hfz18_2:=blk_frozen BK588.out 2;have p591:0≤(a2_0:Int):=of_decide_eq_true (by first|(with_reducible assumption)|assumption);have q591:a2_0<(l0_2.length:Int):=of_decide_eq_true (by first|(with_reducible assumption)|assumption);obtain⟨ad591,e591,hx591_0,hx591_1,hx591_2,hx591_3⟩:=at_T74 HR0_2.out a2_0 p591 q591;cases e591;replace hx591_0:=(HB.out.cell (World.block_lt_of_cell? w _ hx591_0)).trans hx591_0;replace hx591_1:=(HB.out.cell (World.block_lt_of_cell? w _ hx591_1)).trans hx591_1;replace hx591_2:=(HB.out.cell (World.block_lt_of_cell? w _ hx591_2)).trans hx591_2;replace hx591_3:=(HB.out.cell (World.block_lt_of_cell? w _ hx591_3)).trans hx591_3;replace p591:=eq_true p591;replace q591:=eq_true q591;have p592:0≤(a2_0:Int):=of_decide_eq_true (by first|(with_reducible assumption)|assumption);have q592:a2_0<(l1.length:Int):=of_decide_eq_true (by first|(with_reducible assumption)|assumption);obtain⟨ad592,e592,hx592_0⟩:=Kd.at_int HR1.out a2_0 p592 q592;cases e592;replace hx592_0:=(HB.out.cell (World.block_lt_of_cell? w _ hx592_0)).trans hx592_0;replace p592:=eq_true p592;replace q592:=eq_true q592));try go_wp2_with (first|((with_reducible refine gate_dst (N:=3) rfl ?_);refine box_event ?hg (N:=3) ?hd (cs:= #[.int .i64 a0_0, .bool a0_1, .slice A0_2 l0_2.length c0_2]) (t:=24) ?hr ?_;(case hd=>rfl);(case hg=>rfl);(case hr=>first|(go_simp;done)|(go_simp;rfl));intro gb588 hg w14 hbox hb;have n0_:=Aside0.mk (below_step (by repeat(first|(with_reducible first|exact HB.out|apply below_alloc|apply pw_below_drewN|apply below_drew1)|exact HB.out)) hb);have n1_:=Aside0.mk (hbox);have n2_:=Aside0.mk ((by rw[hg];exact(below_size (by repeat(first|(with_reducible first|exact HB.out|apply below_alloc|apply pw_below_drewN|apply below_drew1)|exact HB.out))):w.heap.size≤gb588));have n3_:=Aside0.mk ((by rw[hg];exact(below_size (by repeat(first|(with_reducible first|exact HB.out|apply below_alloc|apply pw_below_drewN|apply below_drew1)|exact HB.out))):w.heap.size≤gb588));clear HB;have HB:=n0_;have BK588:=n1_;have GW588:=n2_;have GE588:=n3_;clear n0_ n1_ n2_ n3_;clear hb hbox hg)|((with_reducible refine gate_dst (N:=5) rfl ?_);refine box_event ?hg (N:=5) ?hd (cs:= #[.int .i64 a2_0, .bool false]) (t:=38) ?hr ?_;(case hd=>rfl);(case hg=>rfl);(case hr=>first|(go_simp;done)|(go_simp;rfl));intro gb589 hg w15 hbox hb;have n0_:=Aside0.mk (blk_below (g:=gb588) (o:= .cells #[.int .i64 a0_0, .bool a0_1, .slice A0_2 l0_2.length c0_2] 24 (0,0)) (by(with_reducible repeat(first|refine blk_drewN ?_ _|refine blk_drew ?_|refine blk_alloc ?_ _));exact BK588.out) hb);have n1_:=Aside0.mk (below_step (by repeat(first|(with_reducible first|exact HB.out|apply below_alloc|apply pw_below_drewN|apply below_drew1|refine below_set ?_ GE588.out)|exact HB.out)) hb);have n2_:=Aside0.mk (hbox);have n3_:=Aside0.mk ((by rw[hg];exact(below_size (by repeat(first|(with_reducible first|exact HB.out|apply below_alloc|apply pw_below_drewN|apply below_drew1|refine below_set ?_ GE588.out)|exact HB.out))):w.heap.size≤gb589));have n4_:=Aside0.mk ((by rw[hg];exact(below_size (by repeat(first|(with_reducible first|exact HB.out|apply below_alloc|apply pw_below_drewN|apply below_drew1|refine below_set ?_ GE588.out)|exact HB.out))):w.heap.size≤gb589));have n5_:=Aside0.mk ((by rw[hg];exact Nat.ne_of_lt (blk_lt (g:=gb588) (o:= .cells #[.int .i64 a0_0, .bool a0_1, .slice A0_2 l0_2.length c0_2] 24 (0,0)) (by(with_reducible repeat(first|refine blk_drewN ?_ _|refine blk_drew ?_|refine blk_alloc ?_ _));exact BK588.out)):gb588≠gb589));have n6_:=Aside0.mk ((by rw[hg];exact Nat.ne_of_gt (blk_lt (g:=gb588) (o:= .cells #[.int .i64 a0_0, .bool a0_1, .slice A0_2 l0_2.length c0_2] 24 (0,0)) (by(with_reducible repeat(first|refine blk_drewN ?_ _|refine blk_drew ?_|refine blk_alloc ?_ _));exact BK588.out)):gb589≠gb588));clear BK588;clear HB;have BK588:=n0_;have HB:=n1_;have BK589:=n2_;have GW589:=n3_;have GE589:=n4_;have NB588_589:=n5_;have NB589_588:=n6_;clear n0_ n1_ n2_ n3_ n4_ n5_ n6_;clear hb hbox hg;have hnb16:=NB589_588.out;have hnc16:=NB588_589.out;have hcz17_0:w15.cell? ⟨gb589,0,none⟩=some (.int .i64 a2_0):=(blk_cell BK589.out 0).trans rfl;have hcz17_1:w15.cell? ⟨gb589,1,none⟩=some (.bool false):=(blk_cell BK589.out 1).trans rfl;have hfz17_0:=blk_frozen BK589.out 0;have hfz17_1:=blk_frozen BK589.out 1;have hcz18_0:w15.cell? ⟨gb588,0,none⟩=some (.int .i64 a0_0):=(blk_cell BK588.out 0).trans rfl;have hcz18_1:w15.cell? ⟨gb588,1,none⟩=some (.bool a0_1):=(blk_cell BK588.out 1).trans rfl;have hcz18_2:w15.cell? ⟨gb588,2,none⟩=some (.slice A0_2 l0_2.length c0_2):=(blk_cell BK588.out 2).trans rfl;have hfz18_0:=blk_frozen BK588.out 0;have hfz18_1:=blk_frozen BK588.out 1;have hfz18_2:=blk_frozen BK588.out 2;have p591:0≤(a2_0:Int):=of_decide_eq_true (by first|(with_reducible assumption)|assumption);have q591:a2_0<(l0_2.length:Int):=of_decide_eq_true (by first|(with_reducible assumption)|assumption);obtain⟨ad591,e591,hx591_0,hx591_1,hx591_2,hx591_3⟩:=at_T74 HR0_2.out a2_0 p591 q591;cases e591;replace hx591_0:=(HB.out.cell (World.block_lt_of_cell? w _ hx591_0)).trans hx591_0;replace hx591_1:=(HB.out.cell (World.block_lt_of_cell? w _ hx591_1)).trans hx591_1;replace hx591_2:=(HB.out.cell (World.block_lt_of_cell? w _ hx591_2)).trans hx591_2;replace hx591_3:=(HB.out.cell (World.block_lt_of_cell? w _ hx591_3)).trans hx591_3;replace p591:=eq_true p591;replace q591:=eq_true q591;have p592:0≤(a2_0:Int):=of_decide_eq_true (by first|(with_reducible assumption)|assumption);have q592:a2_0<(l1.length:Int):=of_decide_eq_true (by first|(with_reducible assumption)|assumption);obtain⟨ad592,e592,hx592_0⟩:=Kd.at_int HR1.out a2_0 p592 q592;cases e592;replace hx592_0:=(HB.out.cell (World.block_lt_of_cell? w _ hx592_0)).trans hx592_0;replace p592:=eq_true p592;replace q592:=eq_true q592)))
 go_ret
 exact⟨by first|rfl|(simp[errW_none,errW_some]<;>rfl)|(simp[*,errW_none,errW_some]<;>rfl),by repeat(first|(with_reducible first|exact HB.out|apply below_alloc|apply pw_below_drewN|apply below_drew1|refine below_set ?_ GE588.out|refine below_set ?_ GE589.out)|exact HB.out)⟩
end Go.Proofs.Ytkcpanpdipmmmaa.P
namespace Go.Proofs.Ytkcpanpdipmmmaa.P
open Go.RowKit Go.Proofs.YtkcpanpdipmmmaaW.PrintWords Go.Proofs.YtkcpanpdipmmmaaW.PrintLast Go.Proofs.YtkcpanpdipmmmaaW.PrintMore
attribute [local go_sem] max2_int min2_int max_two min_two max_three min_three max_four min_four
def ebbtideref08_Bottle.l0:Nat→List Int→List (S38)→Int→Int→Int→Bool→List (S74)→Option (Int)
 |0,_,_,_,_,_,_,_=>none
 |k+1,x1,x2,x7,x8,x662000,x662001,x662002=>if x8<(x2.length:Int) then(if 0≤x8 then((ebbtideref07_Left.f x662000 x662001 x662002 x1 ((rd_T38 x2 x8).f0) ((rd_T38 x2 x8).f1)).bind fun t665=>(ebbtideref08_Bottle.l0 k x1 x2 (mn x7 t665) (wrap64 (x8+1)) x662000 x662001 x662002)) else(none)) else(some x7)
def ebbtideref08_Bottle.f (k:Nat) (a0_0:Int) (a0_1:Bool) (l0_2:List (S74)) (l1:List Int) (l2:List (S38)):Option (Int):=if 0<(l2.length:Int) then((ebbtideref07_Left.f a0_0 a0_1 l0_2 l1 ((rd_T38 l2 0).f0) ((rd_T38 l2 0).f1)).bind fun t663=>(ebbtideref08_Bottle.l0 k l1 l2 t663 1 a0_0 a0_1 l0_2)) else(none)
def ebbtideref08_Bottle.T5:Bool × List (List Nat × List Nat):=(true,[([],[]),([],[]),([],[]),([],[]),([],[]),([3,4],[3,4]),([5],[5]),([1,2,6],[1,2,6]),([0,7],[0,7]),([8,7,0,1,2,3,4,5,6,7,8],[0,8])])
def ebbtideref08_Bottle.B5:List Nat:=[0,0,0,0,0,24,56,126,255,511]
theorem ebbtideref08_Bottle.tab5:rtab .any (opsOf Try.f61 5)=ebbtideref08_Bottle.T5:=by kernel_rfl
theorem ebbtideref08_Bottle.bits5:waitsOk ebbtideref08_Bottle.T5.2 ebbtideref08_Bottle.B5=true:=by kernel_rfl
set_option maxHeartbeats 8000000 in
set_option maxRecDepth 100000 in
theorem ebbtideref08_Bottle.calls (k:Nat) (a0_0:Int) (a0_1:Bool) (A0_2:Option Addr) (c0_2:Nat) (l0_2:List (S74)) (A1:Option Addr) (c1:Nat) (l1:List Int) (A2:Option Addr) (c2:Nat) (l2:List (S38)) (r:Int) (w:World) (hr0_2:Kd.C k74 w A0_2 l0_2.length l0_2) (hc0_2:l0_2.length≤c0_2) (hr1:Kd.C (Kd.int .i64) w A1 l1.length l1) (hc1:l1.length≤c1) (hr2:Kd.C k38 w A2 l2.length l2) (hc2:l2.length≤c2) (h:ebbtideref08_Bottle.f k a0_0 a0_1 l0_2 l1 l2=some r):
  Calls Try.prog 61 #[.agg #[.int .i64 a0_0, .bool a0_1, .slice A0_2 l0_2.length c0_2], .slice A1 l1.length c1, .slice A2 l2.length c2] w fun e w'=>e= .returned (.int .i64 r)∧Below w.heap.size w w':=by
 have hu24:=Try.underlying24
 have hu38:=Try.underlying38
 have HR0_2:=Aside0.mk hr0_2
 have HC0_2:=Aside0.mk hc0_2
 clear hr0_2 hc0_2
 have HR1:=Aside0.mk hr1
 have HC1:=Aside0.mk hc1
 clear hr1 hc1
 have HR2:=Aside0.mk hr2
 have HC2:=Aside0.mk hc2
 clear hr2 hc2
 have HB:=Aside0.mk (Below.refl w.heap.size w)
 have H:(if 0<(l2.length:Int) then((ebbtideref07_Left.f a0_0 a0_1 l0_2 l1 ((rd_T38 l2 0).f0) ((rd_T38 l2 0).f1)).bind fun t663=>(ebbtideref08_Bottle.l0 k l1 l2 t663 1 a0_0 a0_1 l0_2)) else(none))=some r:=h
 clear h
 by_cases c4:0<(l2.length:Int)
 rotate_left
 ·rw[if_neg c4] at H
  exact absurd H (by simp)
 rw[if_pos c4] at H
 have c4b0:decide (0<(l2.length:Int))=true:=decide_eq_true c4
 have c4b1:decide (0<l2.length)=true:=decide_eq_true (by omega)
 clear c4
 replace H:=Option.bind_eq_some_iff.mp H
 obtain⟨t663,A50,H⟩:=H
 replace H:(ebbtideref08_Bottle.l0 k l1 l2 t663 1 a0_0 a0_1 l0_2)=some r:=H
 have A5:=Aside0.mk A50
 clear A50
 have H':=Aside0.mk H
 clear H
 go_enter Try.func61,Try.ntmps61
 try go_wp2_with (first|((with_reducible refine gate_dst (N:=3) rfl ?_);refine box_event ?hg (N:=3) ?hd (cs:= #[.int .i64 a0_0, .bool a0_1, .slice A0_2 l0_2.length c0_2]) (t:=24) ?hr ?_;(case hd=>rfl);(case hg=>rfl);(case hr=>first|(go_simp;done)|(go_simp;rfl));intro gb661 hg w6 hbox hb;have n0_:=Aside0.mk (below_step (by repeat(first|(with_reducible first|exact HB.out|apply below_alloc|apply pw_below_drewN|apply below_drew1)|exact HB.out)) hb);have n1_:=Aside0.mk (hbox);have n2_:=Aside0.mk ((by rw[hg];exact(below_size (by repeat(first|(with_reducible first|exact HB.out|apply below_alloc|apply pw_below_drewN|apply below_drew1)|exact HB.out))):w.heap.size≤gb661));have n3_:=Aside0.mk ((by rw[hg];exact(below_size (by repeat(first|(with_reducible first|exact HB.out|apply below_alloc|apply pw_below_drewN|apply below_drew1)|exact HB.out))):w.heap.size≤gb661));clear HB;have HB:=n0_;have BK661:=n1_;have GW661:=n2_;have GE661:=n3_;clear n0_ n1_ n2_ n3_;clear hb hbox hg))
 have n0_:=Aside0.mk (blk_drew BK661.out)
 have n1_:=Aside0.mk (below_drew1 HB.out)
 clear BK661
 clear HB
 have BK661:=n0_
 have HB:=n1_
 clear n0_ n1_
 have p662:0≤(0:Int):=(by omega)
 have q662:0<(l2.length:Int):=of_decide_eq_true (by first|(with_reducible assumption)|assumption)
 obtain⟨ad662,e662,hx662_0,hx662_1⟩:=at_T38 HR2.out 0 p662 q662
 have hw662_1:=hx662_1
 (try rw[show ((0:Int)).toNat=0 from rfl] at hw662_1)
 (try rw[show 0 * 2=0 from rfl] at hw662_1)
 (try rw[Addr.add_zero'] at hw662_1)
 have hw662_0:=hx662_0
 (try rw[show ((0:Int)).toNat=0 from rfl] at hw662_0)
 (try rw[show 0 * 2=0 from rfl] at hw662_0)
 (try rw[Addr.add_zero'] at hw662_0)
 cases e662
 have qi662:(0<l2.length)=True:=eq_true (by omega)
 (try rw[show ((0:Int)).toNat=0 from rfl] at hx662_0)
 (try rw[show 0 * 2=0 from rfl] at hx662_0)
 (try rw[Addr.add_zero'] at hx662_0)
 (try rw[show ((0:Int)).toNat=0 from rfl] at hx662_1)
 (try rw[show 0 * 2=0 from rfl] at hx662_1)
 (try rw[Addr.add_zero'] at hx662_1)
 replace hx662_0:=(HB.out.cell (World.block_lt_of_cell? w _ hx662_0)).trans hx662_0
 replace hx662_1:=(HB.out.cell (World.block_lt_of_cell? w _ hx662_1)).trans hx662_1
 replace p662:=eq_true p662
 replace q662:=eq_true q662
 refine start_ (n:=7) (S:=fun w'=>w'.cell? ⟨gb661,0,none⟩=some (.int .i64 a0_0)∧w'.cell? ⟨gb661,1,none⟩=some (.bool a0_1)∧w'.cell? ⟨gb661,2,none⟩=some (.slice A0_2 l0_2.length c0_2)∧w'.cell? ad662=some (.int .i64 ((rd_T38 l2 0).f0))∧w'.cell? ⟨ad662.block,ad662.off+1,none⟩=some (.bool ((rd_T38 l2 0).f1))) (ds:=[]) #[false,false,false,false,false,false,false] (by kernel_rfl) rfl rfl ⟨(blk_cell BK661.out 0).trans rfl,(blk_cell BK661.out 1).trans rfl,(blk_cell BK661.out 2).trans rfl,((HB.out.cell (World.block_lt_of_cell? w _ hw662_0)).trans hw662_0),((HB.out.cell (World.block_lt_of_cell? w _ hw662_1)).trans hw662_1)⟩ (fun hHeld=> ?_)
 generalize w6.drew=w7 at BK661 HB hx662_0 hx662_1 hHeld ⊢
 refine pure_ (i:=1) (N:=some 10) (v:= ?_) (a':= ?_) #[false,true,false,false,false,false,false] rfl rfl (by kernel_rfl) (fun _ _ _ h=>h) (Or.inl ⟨by rfl,?_⟩) ?_ ?_
 rotate_left
 ·intro w'
  go_simp
  with_reducible rfl
 rotate_left
 ·simp only[Act.put,List.setIfInBounds_toArray,List.set_cons_zero,List.set_cons_succ,i64_w,i32_w]
  rfl
 refine pure_ (i:=2) (N:=some 11) (v:= ?_) (a':= ?_) #[false,true,true,false,false,false,false] rfl rfl (by kernel_rfl) (fun _ _ _ h=>h) (Or.inl ⟨by rfl,?_⟩) ?_ ?_
 rotate_left
 ·intro w'
  go_simp
  with_reducible rfl
 rotate_left
 ·simp only[Act.put,List.setIfInBounds_toArray,List.set_cons_zero,List.set_cons_succ,i64_w,i32_w]
  rfl
 refine pure_ (i:=3) (N:=some 12) (v:= ?_) (a':= ?_) #[false,true,true,true,false,false,false] rfl rfl (by kernel_rfl) (fun _ _ _ h=>h) (Or.inl ⟨by rfl,?_⟩) ?_ ?_
 rotate_left
 ·intro w'
  go_simp
  with_reducible rfl
 rotate_left
 ·simp only[Act.put,List.setIfInBounds_toArray,List.set_cons_zero,List.set_cons_succ,i64_w,i32_w]
  rfl
 refine take_ (i:=0) (N:=some 9) (v:= ?_) (a':= ?_) #[true,true,true,true,false,false,false] rfl rfl (by kernel_rfl) (fun _ _ _ h=>h) (Or.inl ⟨by rfl,?_⟩) hHeld ?_ ?_
 rotate_left
 ·rintro w' ⟨s0,s1,s2,s3,s4⟩
  go_simp
  with_reducible rfl
 rotate_left
 ·simp only[Act.put,List.setIfInBounds_toArray,List.set_cons_zero,List.set_cons_succ,i64_w,i32_w]
  rfl
 refine take_ (i:=4) (N:=some 13) (v:= ?_) (a':= ?_) #[true,true,true,true,true,false,false] rfl rfl (by kernel_rfl) (fun _ _ _ h=>h) (Or.inl ⟨by rfl,?_⟩) hHeld ?_ ?_
 rotate_left
 ·rintro w' ⟨s0,s1,s2,s3,s4⟩
  go_simp
  with_reducible rfl
 rotate_left
 ·simp only[Act.put,List.setIfInBounds_toArray,List.set_cons_zero,List.set_cons_succ,i64_w,i32_w]
  rfl
 refine one_ (i:=5) (N:=some 14) #[true,true,true,true,true,true,false] rfl rfl (by kernel_rfl) (by decide) (fun K hK=> ?_)
 refine goes_ Try.func113 (by kernel_rfl) rfl #[.agg #[.int .i64 a0_0, .bool a0_1, .slice A0_2 l0_2.length c0_2], .slice A1 l1.length c1, .agg #[.int .i64 ((rd_T38 l2 0).f0), .bool ((rd_T38 l2 0).f1)]] (by rfl) rfl rfl (by(try simp only[List.map_toArray,List.map_cons,List.map_nil]);first|done|rfl|(simp only[List.length_drop,List.length_take];rfl)) ?_
 with_reducible refine(ebbtideref07_Left.calls a0_0 a0_1 _ _ l0_2 _ _ l1 ((rd_T38 l2 0).f0) ((rd_T38 l2 0).f1) t663 _ ?side1 ?side2 ?side3 ?side4 A5.out).mono ?_
 (case side1=>repeat(first|exact(Kd.C_below HR0_2.out HB.out)|(with_reducible refine Kd.C_alloc ?_ _)|(with_reducible refine Kd.C_drewN ?_ _)|(with_reducible refine Kd.C_drew ?_)))
 (case side2=>exact HC0_2.out)
 (case side3=>repeat(first|exact(Kd.C_below HR1.out HB.out)|(with_reducible refine Kd.C_alloc ?_ _)|(with_reducible refine Kd.C_drewN ?_ _)|(with_reducible refine Kd.C_drew ?_)))
 (case side4=>exact HC1.out)
 rintro e w8 ⟨rfl,hb⟩
 refine⟨_,rfl,?_⟩
 have n0_:=Aside0.mk (blk_below (g:=gb661) (o:= .cells #[.int .i64 a0_0, .bool a0_1, .slice A0_2 l0_2.length c0_2] 24 (0,0)) (by(with_reducible repeat(first|refine blk_drewN ?_ _|refine blk_drew ?_|refine blk_alloc ?_ _));exact BK661.out) hb)
 have n1_:=Aside0.mk (below_step (by repeat(first|(with_reducible first|exact HB.out|apply below_alloc|apply pw_below_drewN|apply below_drew1|refine below_set ?_ GE661.out)|exact HB.out)) hb)
 clear BK661
 clear HB
 have BK661:=n0_
 have HB:=n1_
 clear n0_ n1_
 (try clear hb)
 (try clear hb2)
 (try clear hk)
 (try clear hi)
 refine hK.out _ _ ⟨(blk_cell BK661.out 0).trans rfl,(blk_cell BK661.out 1).trans rfl,(blk_cell BK661.out 2).trans rfl,((HB.out.cell (World.block_lt_of_cell? w _ hw662_0)).trans hw662_0),((HB.out.cell (World.block_lt_of_cell? w _ hw662_1)).trans hw662_1)⟩ (fun hHeld=> ?_)
 clear hK K
 refine norm_ (a':= ?_) ?_ ?_
 rotate_left
 ·show Act.put _ (some 14) _=_
  simp only[Act.put,List.setIfInBounds_toArray,List.set_cons_zero,List.set_cons_succ,i64_w,i32_w]
  rfl
 refine pure_ (i:=6) (N:=some 7) (v:= ?_) (a':= ?_) #[true,true,true,true,true,true,true] rfl rfl (by kernel_rfl) (fun _ _ _ h=>h) (Or.inl ⟨by rfl,?_⟩) ?_ ?_
 rotate_left
 ·intro w'
  go_simp
  with_reducible rfl
 rotate_left
 ·simp only[Act.put,List.setIfInBounds_toArray,List.set_cons_zero,List.set_cons_succ,i64_w,i32_w]
  rfl
 refine done_ (by kernel_rfl) ?_
 try go_wp2
 go_loopg [7,8] k (fun kq v7 v8 w'=> ∃ (x7_1:Int) (x8_1:Int),v7= .int .i64 x7_1∧v8= .int .i64 x8_1∧Aside0 (ebbtideref08_Bottle.l0 kq l1 l2 x7_1 x8_1 a0_0 a0_1 l0_2=some r)∧Aside0 (kq≤k)∧Aside0 (w'.heap[gb661]? =some (.cells #[.int .i64 a0_0, .bool a0_1,(.slice A0_2 l0_2.length c0_2)] 24 (0,0)))∧Aside0 (Below w.heap.size w w'))
 case atStart=>exact⟨(t663),(1),(by first|rfl|(simp;done)|(simp[*];done)),(by first|rfl|(simp;done)|(simp[*];done)),H',⟨Nat.le_refl _⟩,⟨by(with_reducible repeat(first|refine blk_drewN ?_ _|refine blk_drew ?_|refine blk_alloc ?_ _));exact BK661.out⟩,⟨by repeat(first|(with_reducible first|exact HB.out|apply below_alloc|apply pw_below_drewN|apply below_drew1|refine below_set ?_ GE661.out)|exact HB.out)⟩⟩
 case round=>
  clear H'
  try clear c1
  try clear c2
  try clear p2
  try clear c4
  try clear c4b0
  try clear c4b1
  try clear c6
  try clear p6
  try clear q6
  try clear hx6
  try clear qi6
  try clear hx662_0
  try clear hx662_1
  try clear p662
  try clear q662
  obtain⟨x7_1,x8_1,rfl,rfl,HA,HK1,BK661,HB⟩:=hrel
  cases gk with
  |zero=>exact absurd HA.out (by simp[ebbtideref08_Bottle.l0])
  |succ k1=>
   have H:=HA.out
   clear HA
   simp only[ebbtideref08_Bottle.l0] at H
   by_cases c9:x8_1<(l2.length:Int)
   rotate_left
   ·rw[if_neg c9] at H
    have c9b0:decide (x8_1<(l2.length:Int))=false:=decide_eq_false c9
    clear c9
    obtain rfl:=Option.some.inj H
    go_wp2
    go_ret
    exact⟨by first|rfl|(simp[errW_none,errW_some]<;>rfl)|(simp[*,errW_none,errW_some]<;>rfl),by repeat(first|(with_reducible first|exact HB.out|apply below_alloc|apply pw_below_drewN|apply below_drew1|refine below_set ?_ GE661.out)|exact HB.out)⟩
   rw[if_pos c9] at H
   have c9b0:decide (x8_1<(l2.length:Int))=true:=decide_eq_true c9
   clear c9
   by_cases c10:0≤x8_1
   rotate_left
   ·rw[if_neg c10] at H
    exact absurd H (by simp)
   rw[if_pos c10] at H
   have c10b0:decide (0≤x8_1)=true:=decide_eq_true c10
   clear c10
   replace H:=Option.bind_eq_some_iff.mp H
   obtain⟨t665,A110,H⟩:=H
   replace H:(ebbtideref08_Bottle.l0 k1 l1 l2 (mn x7_1 t665) (wrap64 (x8_1+1)) a0_0 a0_1 l0_2)=some r:=H
   have A11:=Aside0.mk A110
   clear A110
   obtain⟨ji12,hji12⟩: ∃ j_:Int,(mn x7_1 t665)=j_:=⟨_,rfl⟩
   replace H:(ebbtideref08_Bottle.l0 k1 l1 l2 ji12 (wrap64 (x8_1+1)) a0_0 a0_1 l0_2)=some r:=by first|(rw[hji12] at H;exact H)|(simp only[hji12] at H ⊢;exact H)
   (try rw[hji12] at A11)
   have hji12_:(if t665<x7_1 then t665 else x7_1)=ji12:=hji12
   have H':=Aside0.mk H
   clear H
   try go_wp2
   have n0_:=Aside0.mk (blk_drew BK661.out)
   have n1_:=Aside0.mk (below_drew1 HB.out)
   clear BK661
   clear HB
   have BK661:=n0_
   have HB:=n1_
   clear n0_ n1_
   have p664:0≤(x8_1:Int):=of_decide_eq_true (by first|(with_reducible assumption)|assumption)
   have q664:x8_1<(l2.length:Int):=of_decide_eq_true (by first|(with_reducible assumption)|assumption)
   obtain⟨ad664,e664,hx664_0,hx664_1⟩:=at_T38 HR2.out x8_1 p664 q664
   have hw664_1:=hx664_1
   have hw664_0:=hx664_0
   obtain rfl:ad662=ad664:=(by injection e664)
   replace hx664_0:=(HB.out.cell (World.block_lt_of_cell? w _ hx664_0)).trans hx664_0
   replace hx664_1:=(HB.out.cell (World.block_lt_of_cell? w _ hx664_1)).trans hx664_1
   replace p664:=eq_true p664
   replace q664:=eq_true q664
   refine start_ (n:=10) (S:=fun w'=>w'.cell? ⟨gb661,0,none⟩=some (.int .i64 a0_0)∧w'.cell? ⟨gb661,1,none⟩=some (.bool a0_1)∧w'.cell? ⟨gb661,2,none⟩=some (.slice A0_2 l0_2.length c0_2)∧w'.cell? (ad662.add ((x8_1).toNat * 2))=some (.int .i64 ((rd_T38 l2 x8_1).f0))∧w'.cell? ⟨(ad662.add ((x8_1).toNat * 2)).block,(ad662.add ((x8_1).toNat * 2)).off+1,none⟩=some (.bool ((rd_T38 l2 x8_1).f1))) (ds:=[]) #[false,false,false,false,false,false,false,false,false,false] (by kernel_rfl) rfl rfl ⟨(blk_cell BK661.out 0).trans rfl,(blk_cell BK661.out 1).trans rfl,(blk_cell BK661.out 2).trans rfl,((HB.out.cell (World.block_lt_of_cell? w _ hw664_0)).trans hw664_0),((HB.out.cell (World.block_lt_of_cell? w _ hw664_1)).trans hw664_1)⟩ (fun hHeld=> ?_);refine with_tabW ebbtideref08_Bottle.tab5 ebbtideref08_Bottle.bits5 (fun HT_ HW_=> ?_)
   generalize wr.drew=w13 at BK661 HB hx664_0 hx664_1 hHeld ⊢
   refine pure_ (i:=0) (N:=some 21) (v:= ?_) (a':= ?_) #[true,false,false,false,false,false,false,false,false,false] rfl rfl (any_of HT_.out (by kernel_rfl)) (fun _ _ _ h=>h) (Or.inl ⟨by rfl,?_⟩) ?_ ?_
   rotate_left
   ·intro w'
    go_simp
    with_reducible rfl
   rotate_left
   ·simp only[Act.put,List.setIfInBounds_toArray,List.set_cons_zero,List.set_cons_succ,i64_w,i32_w]
    rfl
   refine pure_ (i:=2) (N:=some 23) (v:= ?_) (a':= ?_) #[true,false,true,false,false,false,false,false,false,false] rfl rfl (any_of HT_.out (by kernel_rfl)) (fun _ _ _ h=>h) (Or.inl ⟨by rfl,?_⟩) ?_ ?_
   rotate_left
   ·intro w'
    go_simp
    with_reducible rfl
   rotate_left
   ·simp only[Act.put,List.setIfInBounds_toArray,List.set_cons_zero,List.set_cons_succ,i64_w,i32_w]
    rfl
   refine pure_ (i:=3) (N:=some 24) (v:= ?_) (a':= ?_) #[true,false,true,true,false,false,false,false,false,false] rfl rfl (any_of HT_.out (by kernel_rfl)) (fun _ _ _ h=>h) (Or.inl ⟨by rfl,?_⟩) ?_ ?_
   rotate_left
   ·intro w'
    go_simp
    with_reducible rfl
   rotate_left
   ·simp only[Act.put,List.setIfInBounds_toArray,List.set_cons_zero,List.set_cons_succ,i64_w,i32_w]
    rfl
   refine pure_ (i:=4) (N:=some 25) (v:= ?_) (a':= ?_) #[true,false,true,true,true,false,false,false,false,false] rfl rfl (any_of HT_.out (by kernel_rfl)) (fun _ _ _ h=>h) (Or.inl ⟨by rfl,?_⟩) ?_ ?_
   rotate_left
   ·intro w'
    go_simp
    with_reducible rfl
   rotate_left
   ·simp only[Act.put,List.setIfInBounds_toArray,List.set_cons_zero,List.set_cons_succ,i64_w,i32_w]
    rfl
   refine pure_ (i:=5) (N:=some 26) (v:= ?_) (a':= ?_) #[true,false,true,true,true,true,false,false,false,false] rfl rfl (any_of HT_.out (by kernel_rfl)) (fun _ _ _ h=>h) (Or.inl ⟨by rfl,?_⟩) ?_ ?_
   rotate_left
   ·intro w'
    go_simp
    with_reducible rfl
   rotate_left
   ·simp only[Act.put,List.setIfInBounds_toArray,List.set_cons_zero,List.set_cons_succ,i64_w,i32_w]
    rfl
   refine take_ (i:=1) (N:=some 22) (v:= ?_) (a':= ?_) #[true,true,true,true,true,true,false,false,false,false] rfl rfl (take_ofW HT_.out HW_.out (by kernel_rfl)) (fun _ _ _ h=>h) (Or.inl ⟨by rfl,?_⟩) hHeld ?_ ?_
   rotate_left
   ·rintro w' ⟨s0,s1,s2,s3,s4⟩
    go_simp
    with_reducible rfl
   rotate_left
   ·simp only[Act.put,List.setIfInBounds_toArray,List.set_cons_zero,List.set_cons_succ,i64_w,i32_w]
    rfl
   refine take_ (i:=6) (N:=some 27) (v:= ?_) (a':= ?_) #[true,true,true,true,true,true,true,false,false,false] rfl rfl (take_ofW HT_.out HW_.out (by kernel_rfl)) (fun _ _ _ h=>h) (Or.inl ⟨by rfl,?_⟩) hHeld ?_ ?_
   rotate_left
   ·rintro w' ⟨s0,s1,s2,s3,s4⟩
    go_simp
    with_reducible rfl
   rotate_left
   ·simp only[Act.put,List.setIfInBounds_toArray,List.set_cons_zero,List.set_cons_succ,i64_w,i32_w]
    rfl
   refine one_ (i:=7) (N:=some 28) #[true,true,true,true,true,true,true,true,false,false] rfl rfl (one_of HT_.out (by kernel_rfl)) (by decide) (fun K hK=> ?_)
   refine goes_ Try.func113 (by kernel_rfl) rfl #[.agg #[.int .i64 a0_0, .bool a0_1, .slice A0_2 l0_2.length c0_2], .slice A1 l1.length c1, .agg #[.int .i64 ((rd_T38 l2 x8_1).f0), .bool ((rd_T38 l2 x8_1).f1)]] (by rfl) rfl rfl (by(try simp only[List.map_toArray,List.map_cons,List.map_nil]);first|done|rfl|(simp only[List.length_drop,List.length_take];rfl)) ?_
   with_reducible refine(ebbtideref07_Left.calls a0_0 a0_1 _ _ l0_2 _ _ l1 ((rd_T38 l2 x8_1).f0) ((rd_T38 l2 x8_1).f1) t665 _ ?side1 ?side2 ?side3 ?side4 A11.out).mono ?_
   (case side1=>repeat(first|exact(Kd.C_below HR0_2.out HB.out)|(with_reducible refine Kd.C_alloc ?_ _)|(with_reducible refine Kd.C_drewN ?_ _)|(with_reducible refine Kd.C_drew ?_)))
   (case side2=>exact HC0_2.out)
   (case side3=>repeat(first|exact(Kd.C_below HR1.out HB.out)|(with_reducible refine Kd.C_alloc ?_ _)|(with_reducible refine Kd.C_drewN ?_ _)|(with_reducible refine Kd.C_drew ?_)))
   (case side4=>exact HC1.out)
   rintro e w14 ⟨rfl,hb⟩
   refine⟨_,rfl,?_⟩
   have n0_:=Aside0.mk (blk_below (g:=gb661) (o:= .cells #[.int .i64 a0_0, .bool a0_1, .slice A0_2 l0_2.length c0_2] 24 (0,0)) (by(with_reducible repeat(first|refine blk_drewN ?_ _|refine blk_drew ?_|refine blk_alloc ?_ _));exact BK661.out) hb)
   have n1_:=Aside0.mk (below_step (by repeat(first|(with_reducible first|exact HB.out|apply below_alloc|apply pw_below_drewN|apply below_drew1|refine below_set ?_ GE661.out)|exact HB.out)) hb)
   clear BK661
   clear HB
   have BK661:=n0_
   have HB:=n1_
   clear n0_ n1_
   (try clear hb)
   (try clear hb2)
   (try clear hk)
   (try clear hi)
   refine hK.out _ _ ⟨(blk_cell BK661.out 0).trans rfl,(blk_cell BK661.out 1).trans rfl,(blk_cell BK661.out 2).trans rfl,((HB.out.cell (World.block_lt_of_cell? w _ hw664_0)).trans hw664_0),((HB.out.cell (World.block_lt_of_cell? w _ hw664_1)).trans hw664_1)⟩ (fun hHeld=> ?_)
   clear hK K
   refine norm_ (a':= ?_) ?_ ?_
   rotate_left
   ·show Act.put _ (some 28) _=_
    simp only[Act.put,List.setIfInBounds_toArray,List.set_cons_zero,List.set_cons_succ,i64_w,i32_w]
    rfl
   refine pure_ (i:=8) (N:=some 29) (v:= ?_) (a':= ?_) #[true,true,true,true,true,true,true,true,true,false] rfl rfl (any_of HT_.out (by kernel_rfl)) (fun _ _ _ h=>h) (Or.inl ⟨by rfl,?_⟩) ?_ ?_
   rotate_left
   ·intro w'
    go_simp
    with_reducible rfl
   rotate_left
   ·simp only[Act.put,List.setIfInBounds_toArray,List.set_cons_zero,List.set_cons_succ,i64_w,i32_w]
    rfl
   refine pure_ (i:=9) (N:=some 7) (v:= ?_) (a':= ?_) #[true,true,true,true,true,true,true,true,true,true] rfl rfl (any_of HT_.out (by kernel_rfl)) (fun _ _ _ h=>h) (Or.inl ⟨by rfl,?_⟩) ?_ ?_
   rotate_left
   ·intro w'
    go_simp
    with_reducible rfl
   rotate_left
   ·simp only[Act.put,List.setIfInBounds_toArray,List.set_cons_zero,List.set_cons_succ,i64_w,i32_w]
    rfl
   refine done_ (done_of HT_.out (by kernel_rfl)) ?_
   try go_wp2
   go_roundg k1
   case measure=>have:=HK1.out;omega
   case rel=>exact⟨(ji12),(wrap64 (x8_1+1)),(by first|rfl|(simp;done)|(simp only[← hji12]<;>(first|rfl|simp))|(simp[*];done)),(by first|rfl|(simp;done)|(simp[*];done)),H',⟨by have:=HK1.out;omega⟩,⟨by(with_reducible repeat(first|refine blk_drewN ?_ _|refine blk_drew ?_|refine blk_alloc ?_ _));exact BK661.out⟩,⟨by repeat(first|(with_reducible first|exact HB.out|apply below_alloc|apply pw_below_drewN|apply below_drew1|refine below_set ?_ GE661.out)|exact HB.out)⟩⟩
end Go.Proofs.Ytkcpanpdipmmmaa.P
