/- What the law's row needs of these texts, taken out of them by wip/tool/mini.py: P48 QBfsLaw QWayLaw QDownLaw P50 QBfLaw QLists QStepsLaw QSetLaw QQuietB QSetBase QRefLaw P55 QFlowB QPushLaw QCutLaw QFlowLaw QLevelDef QSoughtLaw QQueGrow QFarsWalk. -/
import Derived.Test.YtjaoknhhoicigaaMaoiegm
import Derived.Test.YtjaoknhhoicigaaMegcdhb
import Derived.Test.YtjaoknhhoicigaaProg
import Derived.RegionTactic
import Derived.ChangeAlike
import Derived.BigRegion
import Derived.LoopTactic
import Derived.WalkKit
import Derived.Laws.AppendOwn
import Derived.Test.YtjaoknhhoicigaaVcdbijf
import Derived.Deep.QuietTactic
import Derived.Deep.RegionWith
import Derived.Deep.RegionHeld3
import Derived.StillTailTactics
import Derived.WalkMore
import Derived.Deep.RegionLaw
import Derived.Deep.AppendLies
import Derived.IntWalk
import Derived.Laws.IdiomCopy
import Derived.Laws.CopyOwn
import Derived.Deep.DeepCutAuto
set_option linter.unusedVariables false
set_option linter.unusedSimpArgs false
open Go.RowKit Go.Proofs.YtjaoknhhoicigaaW.PrintWords Go.Proofs.YtjaoknhhoicigaaW.PrintLast Go.Proofs.YtjaoknhhoicigaaW.PrintMore
namespace Go.Proofs.Ytjaoknhhoicigaa
namespace P
attribute [local go_sem] max2_int min2_int max_two min_two max_three min_three max_four min_four
mutual
def ebbtideref08_sought.l0:Nat→List (S113)→Int→Int→Bool→List (S73)→List Int→List (S113)→Option (List Int × (List (S113)))
 |0,_,_,_,_,_,_,_=>none
 |k+1,x2,x8,x457000,x457001,x457002,x459000,x459001=>if x8<(x459000.length:Int) then(ebbtideref08_sought.l1 k x2 x8 0 x457000 x457001 x457002 x459000 x459001) else(some (x459000,x459001))
def ebbtideref08_sought.l1:Nat→List (S113)→Int→Int→Int→Bool→List (S73)→List Int→List (S113)→Option (List Int × (List (S113)))
 |0,_,_,_,_,_,_,_,_=>none
 |k+1,x2,x8,x9,x457000,x457001,x457002,x459000,x459001=>if x9<(x2.length:Int) then(if 0≤x9 then((ebbtideref07_From.f x457000 x457001 x457002 ((rd_T113 x2 x9).f0) ((rd_T113 x2 x9).f1)).bind fun t466=>(if 0≤x8 then(if x8<(x459000.length:Int) then(if t466=(rd x459000 x8) then((ebbtideref07_To.f x457000 x457001 x457002 ((rd_T113 x2 x9).f0) ((rd_T113 x2 x9).f1)).bind fun t469=>((ebbtideref08_found_has.f k x459000 x459001 t469).bind fun t470=>(if t470<0 then((ebbtideref07_To.f x457000 x457001 x457002 ((rd_T113 x2 x9).f0) ((rd_T113 x2 x9).f1)).bind fun t472=>(if x459000.length<17592186044416 then(if x459001.length<8796093022208 then(ebbtideref08_sought.l1 k x2 x8 (wrap64 (x9+1)) x457000 x457001 x457002 (x459000 ++ [t472]) (x459001 ++ [(⟨(rd_T113 x2 x9).f0,(rd_T113 x2 x9).f1⟩:S113)])) else(none)) else(none))) else(ebbtideref08_sought.l1 k x2 x8 (wrap64 (x9+1)) x457000 x457001 x457002 x459000 x459001)))) else(ebbtideref08_sought.l1 k x2 x8 (wrap64 (x9+1)) x457000 x457001 x457002 x459000 x459001)) else(none)) else(none))) else(none)) else(ebbtideref08_sought.l0 k x2 (wrap64 (x8+1)) x457000 x457001 x457002 x459000 x459001)
end
def ebbtideref08_sought.f (k:Nat) (Zb:Int) (Zc:Bool) (Za:List (S73)) (a1:Int) (l2:List (S113)):Option (List Int × (List (S113))):=if ([]:List Int).length<17592186044416 then(if ([]:List (S113)).length<8796093022208 then(ebbtideref08_sought.l0 k l2 0 Zb Zc Za (([]:List Int) ++ [a1]) (([]:List (S113)) ++ [(⟨0,false⟩:S113)])) else(none)) else(none)
def ebbtideref08_sought.T10:Bool × List (List Nat × List Nat):=(true,[([],[]),([],[]),([],[]),([1,2],[1,2]),([3],[3]),([0,4],[0,4]),([],[]),([6],[6]),([],[]),([7,8],[7,8]),([9],[9]),([5,10],[5,10]),([11,5],[11]),([12],[12]),([12],[12]),([12],[12]),([12],[12]),([15,16,12],[12,15,16]),([17,12],[12,17]),([14,18,12,12],[12,14,18]),([13,19,19,12],[12,13,19]),([20,12],[12,20]),([12,21],[12,21])])
def ebbtideref08_sought.B10:List Nat:=[0,0,0,6,14,31,0,64,0,448,960,2047,4095,8191,8191,8191,8191,106495,237567,516095,1048575,2097151,4194303]
theorem ebbtideref08_sought.tab10:rtab .any (opsOf Try.f50 10)=ebbtideref08_sought.T10:=by kernel_rfl
theorem ebbtideref08_sought.bits10:waitsOk ebbtideref08_sought.T10.2 ebbtideref08_sought.B10=true:=by kernel_rfl
def ebbtideref08_sought.T11:Bool × List (List Nat × List Nat):=(true,[([],[]),([0],[0]),([],[]),([],[]),([],[]),([3,4],[3,4]),([5],[5]),([2,6],[2,6]),([7],[7]),([1,8,7],[1,8]),([0,1,2,3,4,5,6,7,8,9],[]),([10,9,9,0,1,2,3,4,5,6,7,8,9],[9,10])])
def ebbtideref08_sought.B11:List Nat:=[0,1,0,0,0,24,56,124,252,511,1023,2047]
theorem ebbtideref08_sought.tab11:rtab .any (opsOf Try.f50 11)=ebbtideref08_sought.T11:=by kernel_rfl
theorem ebbtideref08_sought.bits11:waitsOk ebbtideref08_sought.T11.2 ebbtideref08_sought.B11=true:=by kernel_rfl
def ebbtideref08_sought.T12:Bool × List (List Nat × List Nat):=(true,[([],[]),([0],[0]),([],[]),([],[]),([2,3],[2,3]),([4],[4]),([5],[5]),([1,6],[1,6]),([0,1,2,3,4,5,6,7],[]),([8,7,7,0,1,2,3,4,5,6,7],[7,8])])
def ebbtideref08_sought.B12:List Nat:=[0,1,0,0,12,28,60,127,255,511]
theorem ebbtideref08_sought.tab12:rtab .any (opsOf Try.f50 12)=ebbtideref08_sought.T12:=by kernel_rfl
theorem ebbtideref08_sought.bits12:waitsOk ebbtideref08_sought.T12.2 ebbtideref08_sought.B12=true:=by kernel_rfl
set_option maxHeartbeats 8000000 in
set_option maxRecDepth 100000 in
theorem ebbtideref08_sought.calls (k:Nat) (Zb:Int) (Zc:Bool) (Ze:Option Addr) (Zd:Nat) (Za:List (S73)) (a1:Int) (A2:Option Addr) (c2:Nat) (l2:List (S113)) (r1:List Int) (r2:List (S113)) (w:World) (Zx:Kd.C k73 w Ze Za.length Za) (Zy:Za.length≤Zd) (hr2:Kd.C k113 w A2 l2.length l2) (hc2:l2.length≤c2) (h:ebbtideref08_sought.f k Zb Zc Za a1 l2=some (r1,r2)):
  Calls Try.prog 50 #[.agg #[.int .i64 Zb, .bool Zc, .slice Ze Za.length Zd], .int .i64 a1, .slice A2 l2.length c2] w fun e w'=> ∃ v0_ v1_:Value,e= .returned (.agg #[v0_,v1_])∧Kd.R (Kd.int .i64) 3 w' w.heap.size (fun _=>True) v0_ r1∧Kd.R k113 113 w' w.heap.size (fun _=>True) v1_ r2∧Below w.heap.size w w':=by
 have hu32:=Try.underlying32;have hu109:=Try.underlying109;have hu113:=Try.underlying113;have Zo:=Ya Zx;have Zz:=Ya Zy;clear Zx Zy;have HR2:=Ya hr2;have HC2:=Ya hc2;clear hr2 hc2;have HB:=Ya (Yo w.heap.size w);have H:(if ([]:List Int).length<17592186044416 then(if ([]:List (S113)).length<8796093022208 then(ebbtideref08_sought.l0 k l2 0 Zb Zc Za (([]:List Int) ++ [a1]) (([]:List (S113)) ++ [(⟨0,false⟩:S113)])) else(none)) else(none))=some (r1,r2):=h;clear h;by_cases c4:([]:List Int).length<17592186044416
 rotate_left
 ·rw[Yy c4] at H
  exact absurd H (by simp)
 rw[Yx c4] at H;have LMc4:=Ya c4;clear c4;obtain⟨y459,hy459⟩: ∃ y_:List Int,y_=(([]:List Int) ++ [a1]):=⟨_,rfl⟩;replace H:(if ([]:List (S113)).length<8796093022208 then(ebbtideref08_sought.l0 k l2 0 Zb Zc Za y459 (([]:List (S113)) ++ [(⟨0,false⟩:S113)])) else(none))=some (r1,r2):=by first|(rw[hy459];with_reducible exact H)|(have H2_:=(Option.bind_some _ _).symm.trans H;rw[hy459];with_reducible exact H2_)|(have H2_:=(Option.bind_some _ _).symm.trans H;with_reducible exact H2_)|with_reducible exact H|(rw[hy459];exact H)|exact H
 have Ny459:=Ya hy459;clear hy459;by_cases c5:([]:List (S113)).length<8796093022208
 rotate_left
 ·rw[Yy c5] at H
  exact absurd H (by simp)
 rw[Yx c5] at H;have LMc5:=Ya c5;clear c5;obtain⟨y462,hy462⟩: ∃ y_:List (S113),y_=(([]:List (S113)) ++ [(⟨0,false⟩:S113)]):=⟨_,rfl⟩;replace H:(ebbtideref08_sought.l0 k l2 0 Zb Zc Za y459 y462)=some (r1,r2):=by first|(rw[hy462];with_reducible exact H)|(have H2_:=(Option.bind_some _ _).symm.trans H;rw[hy462];with_reducible exact H2_)|(have H2_:=(Option.bind_some _ _).symm.trans H;with_reducible exact H2_)|with_reducible exact H|(rw[hy462];exact H)|exact H
 have Ny462:=Ya hy462;clear hy462;have H':=Ya H;clear H;go_enter Try.func50,Try.ntmps50;go_wp2_with (first|((with_reducible refine gate_dst (N:=3) rfl ?_);refine Yz ?hg (N:=3) ?hd (cs:= #[.int .i64 Zb, .bool Zc, .slice Ze Za.length Zd]) (t:=32) ?hr ?_;(case hd=>rfl);(case hg=>rfl);(case hr=>first|(go_simp;done)|(go_simp;rfl));intro Wy hg w6 Zf hb;have n0_:=Ya (Yk (by repeat(first|(with_reducible first|exact HB.out|apply Ye|apply Yd|apply Yg)|exact HB.out)) hb);have n1_:=Ya (Zf);have n2_:=Ya ((by rw[hg];exact(Yi (by repeat(first|(with_reducible first|exact HB.out|apply Ye|apply Yd|apply Yg)|exact HB.out))):w.heap.size≤Wy));have n3_:=Ya ((by rw[hg];exact(Yi (by repeat(first|(with_reducible first|exact HB.out|apply Ye|apply Yd|apply Yg)|exact HB.out))):w.heap.size≤Wy));clear HB;have HB:=n0_;have Zk:=n1_;have GW456:=n2_;have Uf:=n3_;clear n0_ n1_ n2_ n3_;clear hb Zf hg)|((with_reducible refine gate_dst (N:=6) rfl ?_);refine Yz ?hg (N:=6) ?hd (cs:= #[.slice none 0 0, .slice none 0 0]) (t:=109) ?hr ?_;(case hd=>rfl);(case hg=>rfl);(case hr=>first|(go_simp;done)|(go_simp;rfl));intro Ub hg w7 Zf hb;have n0_:=Ya (Yn (g:=Wy) (o:= .cells #[.int .i64 Zb, .bool Zc, .slice Ze Za.length Zd] 32 (0,0)) (by(with_reducible repeat(first|refine Yl ?_ _|refine Ym ?_|refine Yj ?_ _));exact Zk.out) hb);have n1_:=Ya (Yk (by repeat(first|(with_reducible first|exact HB.out|apply Ye|apply Yd|apply Yg|refine Yh ?_ Uf.out)|exact HB.out)) hb);have n2_:=Ya (Zf);have n3_:=Ya ((by rw[hg];exact(Yi (by repeat(first|(with_reducible first|exact HB.out|apply Ye|apply Yd|apply Yg|refine Yh ?_ Uf.out)|exact HB.out))):w.heap.size≤Ub));have n4_:=Ya ((by rw[hg];exact(Yi (by repeat(first|(with_reducible first|exact HB.out|apply Ye|apply Yd|apply Yg|refine Yh ?_ Uf.out)|exact HB.out))):w.heap.size≤Ub));have n5_:=Ya ((by rw[hg];exact Nat.ne_of_lt (blk_lt (g:=Wy) (o:= .cells #[.int .i64 Zb, .bool Zc, .slice Ze Za.length Zd] 32 (0,0)) (by(with_reducible repeat(first|refine Yl ?_ _|refine Ym ?_|refine Yj ?_ _));exact Zk.out)):Wy≠Ub));have n6_:=Ya ((by rw[hg];exact Nat.ne_of_gt (blk_lt (g:=Wy) (o:= .cells #[.int .i64 Zb, .bool Zc, .slice Ze Za.length Zd] 32 (0,0)) (by(with_reducible repeat(first|refine Yl ?_ _|refine Ym ?_|refine Yj ?_ _));exact Zk.out)):Ub≠Wy));clear Zk;clear HB;have Zk:=n0_;have HB:=n1_;have Xa:=n2_;have GW457:=n3_;have Uz:=n4_;have NB456_457:=n5_;have NB457_456:=n6_;clear n0_ n1_ n2_ n3_ n4_ n5_ n6_;clear hb Zf hg)|((with_reducible refine gate_dst (N:=7) rfl ?_);refine Yz ?hg (N:=7) ?hd (cs:= #[.slice none 0 0, .slice none 0 0]) (t:=109) ?hr ?_;(case hd=>rfl);(case hg=>rfl);(case hr=>first|(go_simp;done)|(go_simp;rfl));intro Xs hg w8 Zf hb;have n0_:=Ya (Yn (g:=Wy) (o:= .cells #[.int .i64 Zb, .bool Zc, .slice Ze Za.length Zd] 32 (0,0)) (by(with_reducible repeat(first|refine Yl ?_ _|refine Ym ?_|refine Yj ?_ _));exact Zk.out) hb);have n1_:=Ya (Yn (g:=Ub) (o:= .cells #[.slice none 0 0, .slice none 0 0] 109 (0,0)) (by(with_reducible repeat(first|refine Yl ?_ _|refine Ym ?_|refine Yj ?_ _));exact Xa.out) hb);have n2_:=Ya (Yk (by repeat(first|(with_reducible first|exact HB.out|apply Ye|apply Yd|apply Yg|refine Yh ?_ Uf.out|refine Yh ?_ Uz.out)|exact HB.out)) hb);have n3_:=Ya (Zf);have n4_:=Ya ((by rw[hg];exact(Yi (by repeat(first|(with_reducible first|exact HB.out|apply Ye|apply Yd|apply Yg|refine Yh ?_ Uf.out|refine Yh ?_ Uz.out)|exact HB.out))):w.heap.size≤Xs));have n5_:=Ya ((by rw[hg];exact(Yi (by repeat(first|(with_reducible first|exact HB.out|apply Ye|apply Yd|apply Yg|refine Yh ?_ Uf.out|refine Yh ?_ Uz.out)|exact HB.out))):w.heap.size≤Xs));have n6_:=Ya ((by rw[hg];exact Nat.ne_of_lt (blk_lt (g:=Wy) (o:= .cells #[.int .i64 Zb, .bool Zc, .slice Ze Za.length Zd] 32 (0,0)) (by(with_reducible repeat(first|refine Yl ?_ _|refine Ym ?_|refine Yj ?_ _));exact Zk.out)):Wy≠Xs));have n7_:=Ya ((by rw[hg];exact Nat.ne_of_gt (blk_lt (g:=Wy) (o:= .cells #[.int .i64 Zb, .bool Zc, .slice Ze Za.length Zd] 32 (0,0)) (by(with_reducible repeat(first|refine Yl ?_ _|refine Ym ?_|refine Yj ?_ _));exact Zk.out)):Xs≠Wy));have n8_:=Ya ((by rw[hg];exact Nat.ne_of_lt (blk_lt (g:=Ub) (o:= .cells #[.slice none 0 0, .slice none 0 0] 109 (0,0)) (by(with_reducible repeat(first|refine Yl ?_ _|refine Ym ?_|refine Yj ?_ _));exact Xa.out)):Ub≠Xs));have n9_:=Ya ((by rw[hg];exact Nat.ne_of_gt (blk_lt (g:=Ub) (o:= .cells #[.slice none 0 0, .slice none 0 0] 109 (0,0)) (by(with_reducible repeat(first|refine Yl ?_ _|refine Ym ?_|refine Yj ?_ _));exact Xa.out)):Xs≠Ub));clear Zk;clear Xa;clear HB;have Zk:=n0_;have Xa:=n1_;have HB:=n2_;have Zi:=n3_;have GW458:=n4_;have GE458:=n5_;have NB456_458:=n6_;have NB458_456:=n7_;have NB457_458:=n8_;have NB458_457:=n9_;clear n0_ n1_ n2_ n3_ n4_ n5_ n6_ n7_ n8_ n9_;clear hb Zf hg;have hnb9:=NB458_456.out;have hnc9:=NB456_458.out;have hnb10:=NB458_457.out;have hnc10:=NB457_458.out;have hcz11_0:w8.cell? ⟨Xs,0,none⟩=some (.slice none 0 0):=(Yc Zi.out 0).trans rfl;have hcz11_1:w8.cell? ⟨Xs,1,none⟩=some (.slice none 0 0):=(Yc Zi.out 1).trans rfl;have hfz11_0:=Yf Zi.out 0;have hfz11_1:=Yf Zi.out 1)|((with_reducible refine gate_builtin (b:= .append) (xs:= #[.tmp 11, .tmp 13]) rfl ?_);at_builtin;refine Kd.R_append (Kd.int .i64) (w0:=w) w.heap.size rfl (.tmp 11) (.tmp 13) 56 3 (.int .i64 0) 8 rfl Try.underlying56 info3 rfl (by decide) (by omega) (.slice none 0 0) ([]:List Int) a1 [.int .i64 a1] (fun _=>True) (fun _=>False) rfl rfl ?aP (fun _ hk=>hk.elim) ?aF ?aO ?aB ?aS ?aL ?_;(case aP=>exact rfl);(case aB=>exact(by repeat(first|(with_reducible first|exact HB.out|apply Ye|apply Yd|apply Yg|refine Yh ?_ Uf.out|refine Yh ?_ Uz.out|refine Yh ?_ GE458.out)|exact HB.out)));(case aF=>exact(fun _ _=>trivial));(case aO=>exact((Kd.R_nil _ _ _ _ (fun _=>True))));(case aS=>exact(Yi (by repeat(first|(with_reducible first|exact HB.out|apply Ye|apply Yd|apply Yg|refine Yh ?_ Uf.out|refine Yh ?_ Uz.out|refine Yh ?_ GE458.out)|exact HB.out))));(case aL=>have:=LMc4.out;omega);intro v460 w12 ho hb hg hat;rw[← Ny459.out] at ho;have n0_:=Ya (blk_grown (g:=Wy) (o:= .cells #[.int .i64 Zb, .bool Zc, .slice Ze Za.length Zd] 32 (0,0)) (by(with_reducible repeat(first|refine Yl ?_ _|refine Ym ?_|refine Yj ?_ _));exact Zk.out) hg (by simp[Value.ownBlock]));have n1_:=Ya (blk_grown (g:=Ub) (o:= .cells #[.slice none 0 0, .slice none 0 0] 109 (0,0)) (by(with_reducible repeat(first|refine Yl ?_ _|refine Ym ?_|refine Yj ?_ _));exact Xa.out) hg (by simp[Value.ownBlock]));have n2_:=Ya (blk_grown (g:=Xs) (o:= .cells #[.slice none 0 0, .slice none 0 0] 109 (0,0)) (by(with_reducible repeat(first|refine Yl ?_ _|refine Ym ?_|refine Yj ?_ _));exact Zi.out) hg (by simp[Value.ownBlock]));have n3_:=Ya (hb);have n4_:=Ya (ho);clear Zk;clear Xa;clear Zi;clear HB;have Zk:=n0_;have Xa:=n1_;have Zi:=n2_;have HB:=n3_;have HO461:=n4_;clear n0_ n1_ n2_ n3_ n4_;clear ho hb hg hat;obtain⟨Ao13,co13,eo13⟩:=Kd.R_slice HO461.out;subst eo13;have hcz14_0:w12.cell? ⟨Xs,0,none⟩=some (.slice none 0 0):=(Yc Zi.out 0).trans rfl;have hcz14_1:w12.cell? ⟨Xs,1,none⟩=some (.slice none 0 0):=(Yc Zi.out 1).trans rfl;have hfz14_0:=Yf Zi.out 0;have hfz14_1:=Yf Zi.out 1)|((with_reducible refine gate_builtin (b:= .append) (xs:= #[.tmp 17, .tmp 19]) rfl ?_);at_builtin;refine Kd.R_append k113 (w0:=w) w.heap.size rfl (.tmp 17) (.tmp 19) 96 113 (.agg #[(.int .i64 0),(.bool false)]) 16 rfl Try.underlying96 info113 rfl (by decide) (by omega) (.slice none 0 0) ([]:List (S113)) (⟨0,false⟩:S113) [.int .i64 0, .bool false] (fun _=>True) (fun _=>False) rfl (by first|(go_simp;done)|(go_simp;rfl)) ?aP (fun _ hk=>hk.elim) ?aF ?aO ?aB ?aS ?aL ?_;(case aP=>exact k113_mkM _ _ _ (⟨0,false⟩:S113));(case aB=>exact(by repeat(first|(with_reducible first|exact HB.out|apply Ye|apply Yd|apply Yg|refine Yh ?_ Uf.out|refine Yh ?_ Uz.out|refine Yh ?_ GE458.out)|exact HB.out)));(case aF=>exact(fun _ _=>trivial));(case aO=>exact((Kd.R_nil _ _ _ _ (fun _=>True))));(case aS=>exact(Yi (by repeat(first|(with_reducible first|exact HB.out|apply Ye|apply Yd|apply Yg|refine Yh ?_ Uf.out|refine Yh ?_ Uz.out|refine Yh ?_ GE458.out)|exact HB.out))));(case aL=>have:=LMc5.out;omega);intro v463 w15 ho hb hg hat;rw[← Ny462.out] at ho;have n0_:=Ya (blk_grown (g:=Wy) (o:= .cells #[.int .i64 Zb, .bool Zc, .slice Ze Za.length Zd] 32 (0,0)) (by(with_reducible repeat(first|refine Yl ?_ _|refine Ym ?_|refine Yj ?_ _));refine blk_far ?_ NB456_458.out _;(with_reducible repeat(first|refine Yl ?_ _|refine Ym ?_|refine Yj ?_ _));exact Zk.out) hg (by simp[Value.ownBlock]));have n1_:=Ya (blk_grown (g:=Ub) (o:= .cells #[.slice none 0 0, .slice none 0 0] 109 (0,0)) (by(with_reducible repeat(first|refine Yl ?_ _|refine Ym ?_|refine Yj ?_ _));refine blk_far ?_ NB457_458.out _;(with_reducible repeat(first|refine Yl ?_ _|refine Ym ?_|refine Yj ?_ _));exact Xa.out) hg (by simp[Value.ownBlock]));have n2_:=Ya (blk_grown (g:=Xs) (o:= .cells #[.slice Ao13 y459.length co13, .slice none 0 0] 109 (0,0)) (by(with_reducible repeat(first|refine Yl ?_ _|refine Ym ?_|refine Yj ?_ _));refine YA (cs:= #[.slice none 0 0, .slice none 0 0]) ?_ 0 _ rfl;(with_reducible repeat(first|refine Yl ?_ _|refine Ym ?_|refine Yj ?_ _));exact Zi.out) hg (by simp[Value.ownBlock]));have n3_:=Ya (Kd.R_grown (by(with_reducible repeat(first|apply Yr|apply Yq|apply Yp));exact(Kd.R_mono (Kd.R_far (p:=⟨Xs,0,none⟩) (Kd.R_types HO461.out Zi.out (by decide)) (fun _ hk=>hk.2) (.slice Ao13 y459.length co13)) (fun _ h_=>h_.1))) hg (fun _ _=>by simp[Value.ownBlock]));have n4_:=Ya (hb);have n5_:=Ya (ho);clear Zk;clear Xa;clear Zi;clear HO461;clear HB;have Zk:=n0_;have Xa:=n1_;have Zi:=n2_;have HO461:=n3_;have HB:=n4_;have HO464:=n5_;clear n0_ n1_ n2_ n3_ n4_ n5_;clear ho hb hg hat;obtain⟨Ao16,co16,eo16⟩:=Kd.R_slice HO464.out;subst eo16;have Vj:w15.cell? ⟨Xs,0,none⟩=some (.slice Ao13 y459.length co13):=(Yc Zi.out 0).trans rfl;have Vk:w15.cell? ⟨Xs,1,none⟩=some (.slice none 0 0):=(Yc Zi.out 1).trans rfl;have Vl:=Yf Zi.out 0;have Vm:=Yf Zi.out 1));go_loopg [8] k (fun kq v8 w'=> ∃ (Zg:Int) (Uh:List Int) (x459001_1:List (S113)) (u459000:Value) (u459001:Value),v8= .int .i64 Zg∧Aside0 (ebbtideref08_sought.l0 kq l2 Zg Zb Zc Za Uh x459001_1=some (r1,r2))∧Aside0 (kq≤k)∧Aside0 (Kd.R (Kd.int .i64) 3 w' w.heap.size (fun _=>True) u459000 Uh)∧Aside0 (Kd.R k113 113 w' w.heap.size (fun _=>True) u459001 x459001_1)∧Aside0 (w'.heap[Wy]? =some (.cells #[.int .i64 Zb, .bool Zc,(.slice Ze Za.length Zd)] 32 (0,0)))∧Aside0 (w'.heap[Ub]? =some (.cells #[(.slice none 0 0),(.slice none 0 0)] 109 (0,0)))∧Aside0 (w'.heap[Xs]? =some (.cells #[u459000,u459001] 109 (0,0)))∧Aside0 (Below w.heap.size w w'))
 case atStart=>exact⟨(0),(y459),(y462),(.slice Ao13 y459.length co13),(.slice Ao16 y462.length co16),(by first|rfl|(simp;done)|(simp[*];done)),H',⟨Nat.le_refl _⟩,⟨by(with_reducible repeat(first|apply Yr|apply Yq|apply Yp));exact Kd.R_mono (Kd.R_far (p:=⟨Xs,1,none⟩) (Kd.R_types HO461.out Zi.out (by decide)) (fun _ hk=>hk.2) (.slice Ao16 y462.length co16)) (fun _ hk=>trivial)⟩,⟨by(with_reducible repeat(first|apply Yr|apply Yq|apply Yp));exact Kd.R_mono (Kd.R_far (p:=⟨Xs,1,none⟩) (Kd.R_types HO464.out Zi.out (by decide)) (fun _ hk=>hk.2) (.slice Ao16 y462.length co16)) (fun _ hk=>trivial)⟩,⟨by(with_reducible repeat(first|refine Yl ?_ _|refine Ym ?_|refine Yj ?_ _));refine blk_far ?_ NB456_458.out _;(with_reducible repeat(first|refine Yl ?_ _|refine Ym ?_|refine Yj ?_ _));exact Zk.out⟩,⟨by(with_reducible repeat(first|refine Yl ?_ _|refine Ym ?_|refine Yj ?_ _));refine blk_far ?_ NB457_458.out _;(with_reducible repeat(first|refine Yl ?_ _|refine Ym ?_|refine Yj ?_ _));exact Xa.out⟩,⟨by(with_reducible repeat(first|refine Yl ?_ _|refine Ym ?_|refine Yj ?_ _));refine YA (cs:= #[.slice Ao13 y459.length co13, .slice none 0 0]) ?_ 1 _ rfl;(with_reducible repeat(first|refine Yl ?_ _|refine Ym ?_|refine Yj ?_ _));exact Zi.out⟩,⟨by repeat(first|(with_reducible first|exact HB.out|apply Ye|apply Yd|apply Yg|refine Yh ?_ Uf.out|refine Yh ?_ Uz.out|refine Yh ?_ GE458.out)|exact HB.out)⟩⟩
 case round=>
  clear H';try clear c1
  try clear c2
  try clear p2
  try clear c4
  try clear c5
  try clear c9
  try clear c10
  try clear hcz11_0
  try clear hcz11_1
  try clear hcz14_0
  try clear hcz14_1
  try clear Vj
  try clear Vk
  try clear hfz11_0
  try clear hfz11_1
  try clear hfz14_0
  try clear hfz14_1
  try clear Vl
  try clear Vm
  obtain⟨Zg,Uh,x459001_1,u459000,u459001,rfl,HA,HK1,HO_459000,HO_459001,Zk,Xa,Zi,HB⟩:=hrel;cases gk with
  |zero=>exact absurd HA.out (by simp[ebbtideref08_sought.l0])
  |succ k1=>
   have H:=HA.out;clear HA;simp only[ebbtideref08_sought.l0] at H;by_cases c18:Zg<(Uh.length:Int)
   rotate_left
   ·rw[Yy c18] at H
    have c18b0:decide (Zg<(Uh.length:Int))=false:=Yw c18;clear c18;simp only[Option.some.injEq,Prod.mk.injEq] at H;obtain⟨rfl,rfl⟩:=H;have hnb60:=NB458_456.out;have hnc60:=NB456_458.out;have hnb61:=NB458_457.out;have hnc61:=NB457_458.out;have hcz62_0:wr.cell? ⟨Xs,0,none⟩=some (u459000):=(Yc Zi.out 0).trans rfl;have hcz62_1:wr.cell? ⟨Xs,1,none⟩=some (u459001):=(Yc Zi.out 1).trans rfl;have hfz62_0:=Yf Zi.out 0;have hfz62_1:=Yf Zi.out 1;obtain⟨Ao63,co63,eo63⟩:=Kd.R_slice HO_459000.out;subst eo63;have hnb64:=NB457_456.out;have hnc64:=NB456_457.out;have hcz65_0:wr.cell? ⟨Ub,0,none⟩=some (.slice none 0 0):=(Yc Xa.out 0).trans rfl;have hcz65_1:wr.cell? ⟨Ub,1,none⟩=some (.slice none 0 0):=(Yc Xa.out 1).trans rfl;have hfz65_0:=Yf Xa.out 0;have hfz65_1:=Yf Xa.out 1;obtain⟨Ao66,co66,eo66⟩:=Kd.R_slice HO_459001.out;subst eo66;go_wp2;refine bodyPost_ret (results_cell_row rfl _ _ Ub 109 #[.slice Ao63 Uh.length co63, .slice Ao66 x459001_1.length co66] (0,0) _ rfl (by(with_reducible repeat(first|refine Yl ?_ _|refine Ym ?_|refine Yj ?_ _));refine YA (cs:= #[.slice Ao63 Uh.length co63, .slice none 0 0]) ?_ 1 _ rfl;(with_reducible repeat(first|refine Yl ?_ _|refine Ym ?_|refine Yj ?_ _));refine YA (cs:= #[.slice none 0 0, .slice none 0 0]) ?_ 0 _ rfl;(with_reducible repeat(first|refine Yl ?_ _|refine Ym ?_|refine Yj ?_ _));exact Xa.out) Try.underlying109 rfl (by kernel_rfl)) rfl ?_;exact⟨_,_,by first|rfl|(simp[errW_none,errW_some]<;>rfl)|(simp[*,errW_none,errW_some]<;>rfl),by(with_reducible repeat(first|apply Yr|apply Yq|apply Yp));exact Kd.R_mono (Kd.R_far (p:=⟨Ub,1,none⟩) (Kd.R_far (p:=⟨Ub,0,none⟩) (Kd.R_types HO_459000.out Xa.out (by decide)) (fun _ hk=>hk.2) (.slice Ao63 Uh.length co63)) (fun _ hk=>hk.2) (.slice Ao66 x459001_1.length co66)) (fun _ hk=>trivial),by(with_reducible repeat(first|apply Yr|apply Yq|apply Yp));exact Kd.R_mono (Kd.R_far (p:=⟨Ub,1,none⟩) (Kd.R_far (p:=⟨Ub,0,none⟩) (Kd.R_types HO_459001.out Xa.out (by decide)) (fun _ hk=>hk.2) (.slice Ao63 Uh.length co63)) (fun _ hk=>hk.2) (.slice Ao66 x459001_1.length co66)) (fun _ hk=>trivial),by repeat(first|(with_reducible first|exact HB.out|apply Ye|apply Yd|apply Yg|refine Yh ?_ Uf.out|refine Yh ?_ Uz.out|refine Yh ?_ GE458.out)|exact HB.out)⟩
   rw[Yx c18] at H;have c18b0:decide (Zg<(Uh.length:Int))=true:=Yv c18;clear c18;have H':=Ya H;clear H;have hnb19:=NB458_456.out;have hnc19:=NB456_458.out;have hnb20:=NB458_457.out;have hnc20:=NB457_458.out;have hcz21_0:wr.cell? ⟨Xs,0,none⟩=some (u459000):=(Yc Zi.out 0).trans rfl;have hcz21_1:wr.cell? ⟨Xs,1,none⟩=some (u459001):=(Yc Zi.out 1).trans rfl;have hfz21_0:=Yf Zi.out 0;have hfz21_1:=Yf Zi.out 1;obtain⟨Ao22,co22,eo22⟩:=Kd.R_slice HO_459000.out;subst eo22;go_wp2;go_loopg [9] k1 (fun kq v9 w'=> ∃ (Zv:Int) (Zh:List Int) (Zq:List (S113)) (u459000:Value) (u459001:Value),v9= .int .i64 Zv∧Aside0 (ebbtideref08_sought.l1 kq l2 Zg Zv Zb Zc Za Zh Zq=some (r1,r2))∧Aside0 (kq≤k1)∧Aside0 (Kd.R (Kd.int .i64) 3 w' w.heap.size (fun _=>True) u459000 Zh)∧Aside0 (Kd.R k113 113 w' w.heap.size (fun _=>True) u459001 Zq)∧Aside0 (w'.heap[Wy]? =some (.cells #[.int .i64 Zb, .bool Zc,(.slice Ze Za.length Zd)] 32 (0,0)))∧Aside0 (w'.heap[Ub]? =some (.cells #[(.slice none 0 0),(.slice none 0 0)] 109 (0,0)))∧Aside0 (w'.heap[Xs]? =some (.cells #[u459000,u459001] 109 (0,0)))∧Aside0 (Below w.heap.size w w'))
   case atStart=>exact⟨(0),(Uh),(x459001_1),(.slice Ao22 Uh.length co22),(u459001),(by first|rfl|(simp;done)|(simp[*];done)),H',⟨Nat.le_refl _⟩,⟨by(with_reducible repeat(first|apply Yr|apply Yq|apply Yp));exact HO_459000.out⟩,⟨by(with_reducible repeat(first|apply Yr|apply Yq|apply Yp));exact HO_459001.out⟩,⟨by(with_reducible repeat(first|refine Yl ?_ _|refine Ym ?_|refine Yj ?_ _));exact Zk.out⟩,⟨by(with_reducible repeat(first|refine Yl ?_ _|refine Ym ?_|refine Yj ?_ _));exact Xa.out⟩,⟨by(with_reducible repeat(first|refine Yl ?_ _|refine Ym ?_|refine Yj ?_ _));exact Zi.out⟩,⟨by repeat(first|(with_reducible first|exact HB.out|apply Ye|apply Yd|apply Yg|refine Yh ?_ Uf.out|refine Yh ?_ Uz.out|refine Yh ?_ GE458.out)|exact HB.out)⟩⟩
   case round=>
    clear H';try clear c1
    try clear c2
    try clear p2
    try clear c4
    try clear c5
    try clear c9
    try clear c10
    try clear c18
    try clear c18b0
    try clear c19
    try clear c20
    try clear hcz11_0
    try clear hcz11_1
    try clear hcz14_0
    try clear hcz14_1
    try clear Vj
    try clear Vk
    try clear hcz21_0
    try clear hcz21_1
    try clear hfz11_0
    try clear hfz11_1
    try clear hfz14_0
    try clear hfz14_1
    try clear Vl
    try clear Vm
    try clear hfz21_0
    try clear hfz21_1
    try clear p2
    obtain⟨Zv,Zh,Zq,u459000,u459001,rfl,HA,HK2,HO_459000,HO_459001,Zk,Xa,Zi,HB⟩:=hrel;cases gk with
    |zero=>exact absurd HA.out (by simp[ebbtideref08_sought.l1])
    |succ k2=>
     have H:=HA.out;clear HA;simp only[ebbtideref08_sought.l1] at H;by_cases c23:Zv<(l2.length:Int)
     rotate_left
     ·rw[Yy c23] at H
      have c23b0:decide (Zv<(l2.length:Int))=false:=Yw c23;clear c23;have H':=Ya H;clear H;go_wp2;go_roundg k2
      case measure=>have:=HK1.out;have:=HK2.out;omega
      case rel=>exact⟨(wrap64 (Zg+1)),(Zh),(Zq),(u459000),(u459001),(by first|rfl|(simp;done)|(simp[*];done)),H',⟨by have:=HK1.out;have:=HK2.out;omega⟩,⟨by(with_reducible repeat(first|apply Yr|apply Yq|apply Yp));exact HO_459000.out⟩,⟨by(with_reducible repeat(first|apply Yr|apply Yq|apply Yp));exact HO_459001.out⟩,⟨by(with_reducible repeat(first|refine Yl ?_ _|refine Ym ?_|refine Yj ?_ _));exact Zk.out⟩,⟨by(with_reducible repeat(first|refine Yl ?_ _|refine Ym ?_|refine Yj ?_ _));exact Xa.out⟩,⟨by(with_reducible repeat(first|refine Yl ?_ _|refine Ym ?_|refine Yj ?_ _));exact Zi.out⟩,⟨by repeat(first|(with_reducible first|exact HB.out|apply Ye|apply Yd|apply Yg|refine Yh ?_ Uf.out|refine Yh ?_ Uz.out|refine Yh ?_ GE458.out)|exact HB.out)⟩⟩
     rw[Yx c23] at H;have c23b0:decide (Zv<(l2.length:Int))=true:=Yv c23;clear c23;by_cases c24:0≤Zv
     rotate_left
     ·rw[Yy c24] at H
      exact absurd H (by simp)
     rw[Yx c24] at H;have c24b0:decide (0≤Zv)=true:=Yv c24;clear c24;replace H:=Option.bind_eq_some_iff.mp H;obtain⟨t466,A250,H⟩:=H;replace H:(if 0≤Zg then(if Zg<(Zh.length:Int) then(if t466=(rd Zh Zg) then((ebbtideref07_To.f Zb Zc Za ((rd_T113 l2 Zv).f0) ((rd_T113 l2 Zv).f1)).bind fun t469=>((ebbtideref08_found_has.f k2 Zh Zq t469).bind fun t470=>(if t470<0 then((ebbtideref07_To.f Zb Zc Za ((rd_T113 l2 Zv).f0) ((rd_T113 l2 Zv).f1)).bind fun t472=>(if Zh.length<17592186044416 then(if Zq.length<8796093022208 then(ebbtideref08_sought.l1 k2 l2 Zg (wrap64 (Zv+1)) Zb Zc Za (Zh ++ [t472]) (Zq ++ [(⟨(rd_T113 l2 Zv).f0,(rd_T113 l2 Zv).f1⟩:S113)])) else(none)) else(none))) else(ebbtideref08_sought.l1 k2 l2 Zg (wrap64 (Zv+1)) Zb Zc Za Zh Zq)))) else(ebbtideref08_sought.l1 k2 l2 Zg (wrap64 (Zv+1)) Zb Zc Za Zh Zq)) else(none)) else(none))=some (r1,r2):=H;have A25:=Ya A250;clear A250;by_cases c26:0≤Zg
     rotate_left
     ·rw[Yy c26] at H
      exact absurd H (by simp)
     rw[Yx c26] at H;have c26b0:decide (0≤Zg)=true:=Yv c26;clear c26;by_cases c27:Zg<(Zh.length:Int)
     rotate_left
     ·rw[Yy c27] at H
      exact absurd H (by simp)
     rw[Yx c27] at H;have c27b0:decide (Zg<(Zh.length:Int))=true:=Yv c27;clear c27;by_cases c28:t466=(rd Zh Zg)
     rotate_left
     ·rw[Yy c28] at H
      have c28b0:(t466 == (rd Zh Zg))=false:=beq_eq_false_iff_ne.mpr c28;have c28b1:(t466 != (rd Zh Zg))=true:=bne_iff_ne.mpr c28;have H':=Ya H;clear H;try go_wp2
      have n0_:=Ya (Yp HO_459000.out);have n1_:=Ya (Yp HO_459001.out);have n2_:=Ya (Ym Zk.out);have n3_:=Ya (Ym Xa.out);have n4_:=Ya (Ym Zi.out);have n5_:=Ya (Yg HB.out);clear HO_459000;clear HO_459001;clear Zk;clear Xa;clear Zi;clear HB;have HO_459000:=n0_;have HO_459001:=n1_;have Zk:=n2_;have Xa:=n3_;have Zi:=n4_;have HB:=n5_;clear n0_ n1_ n2_ n3_ n4_ n5_;have p465:0≤(Zv:Int):=Yu (by first|(with_reducible assumption)|assumption);have q465:Zv<(l2.length:Int):=Yu (by first|(with_reducible assumption)|assumption);obtain⟨Ja,e465,Uo,Up⟩:=at_T113 HR2.out Zv p465 q465;have Vb:=Up;have Vc:=Uo;cases e465;replace Uo:=(HB.out.cell (Yb w _ Uo)).trans Uo;replace Up:=(HB.out.cell (Yb w _ Up)).trans Up;replace p465:=eq_true p465;replace q465:=eq_true q465;obtain⟨Ao58,co58,eo58⟩:=Kd.R_slice HO_459000.out
      (first|subst eo58|(injection eo58 with f1_ f2_ f3_;have f4_:=f1_.symm;have f5_:=f3_.symm;clear f1_ f2_ f3_;subst f4_;subst f5_))
      have p467:0≤(Zg:Int):=Yu (by first|(with_reducible assumption)|assumption);have q467:Zg<(Zh.length:Int):=Yu (by first|(with_reducible assumption)|assumption);obtain⟨Jx,e467,hx467_0⟩:=Kd.at_int (Kd.R_reads' HO_459000.out).2.2 Zg p467 q467;cases e467;replace p467:=eq_true p467;replace q467:=eq_true q467;refine start_ (n:=23) (S:=fun w'=>w'.cell? ⟨Wy,0,none⟩=some (.int .i64 Zb)∧w'.cell? ⟨Wy,1,none⟩=some (.bool Zc)∧w'.cell? ⟨Wy,2,none⟩=some (.slice Ze Za.length Zd)∧w'.cell? ⟨Xs,0,none⟩=some (.slice (some Jx) Zh.length co58)∧w'.cell? ⟨Xs,1,none⟩=some (u459001)∧w'.cell? (Ja.add ((Zv).toNat * 2))=some (.int .i64 ((rd_T113 l2 Zv).f0))∧w'.cell? ⟨(Ja.add ((Zv).toNat * 2)).block,(Ja.add ((Zv).toNat * 2)).off+1,none⟩=some (.bool ((rd_T113 l2 Zv).f1))∧w'.cell? (Jx.add (Zg).toNat)=some (.int .i64 (rd Zh Zg))) (ds:=[]) #[false,false,false,false,false,false,false,false,false,false,false,false,false,false,false,false,false,false,false,false,false,false,false] (by kernel_rfl) rfl rfl ⟨(Yc Zk.out 0).trans rfl,(Yc Zk.out 1).trans rfl,(Yc Zk.out 2).trans rfl,(Yc Zi.out 0).trans rfl,(Yc Zi.out 1).trans rfl,((HB.out.cell (Yb w _ Vc)).trans Vc),((HB.out.cell (Yb w _ Vb)).trans Vb),hx467_0⟩ (fun hHeld=> ?_);refine with_tabW ebbtideref08_sought.tab10 ebbtideref08_sought.bits10 (fun HT_ HW_=> ?_);generalize wr.drew=w57 at HO_459000 HO_459001 Zk Xa Zi HB Uo Up hx467_0 hHeld ⊢;refine pure_ (i:=1) (N:=some 36) (v:= ?_) (a':= ?_) #[false,true,false,false,false,false,false,false,false,false,false,false,false,false,false,false,false,false,false,false,false,false,false] rfl rfl (any_of HT_.out (by kernel_rfl)) (fun _ _ _ h=>h) (Or.inl ⟨by rfl,?_⟩) ?_ ?_
      rotate_left
      ·intro w'
       go_simp
       with_reducible rfl
      rotate_left
      ·simp only[Act.put,List.setIfInBounds_toArray,List.set_cons_zero,List.set_cons_succ,i64_w,i32_w]
       rfl
      refine pure_ (i:=2) (N:=some 37) (v:= ?_) (a':= ?_) #[false,true,true,false,false,false,false,false,false,false,false,false,false,false,false,false,false,false,false,false,false,false,false] rfl rfl (any_of HT_.out (by kernel_rfl)) (fun _ _ _ h=>h) (Or.inl ⟨by rfl,?_⟩) ?_ ?_
      rotate_left
      ·intro w'
       go_simp
       with_reducible rfl
      rotate_left
      ·simp only[Act.put,List.setIfInBounds_toArray,List.set_cons_zero,List.set_cons_succ,i64_w,i32_w]
       rfl
      refine pure_ (i:=3) (N:=some 38) (v:= ?_) (a':= ?_) #[false,true,true,true,false,false,false,false,false,false,false,false,false,false,false,false,false,false,false,false,false,false,false] rfl rfl (any_of HT_.out (by kernel_rfl)) (fun _ _ _ h=>h) (Or.inl ⟨by rfl,?_⟩) ?_ ?_
      rotate_left
      ·intro w'
       go_simp
       with_reducible rfl
      rotate_left
      ·simp only[Act.put,List.setIfInBounds_toArray,List.set_cons_zero,List.set_cons_succ,i64_w,i32_w]
       rfl
      refine pure_ (i:=6) (N:=some 41) (v:= ?_) (a':= ?_) #[false,true,true,true,false,false,true,false,false,false,false,false,false,false,false,false,false,false,false,false,false,false,false] rfl rfl (any_of HT_.out (by kernel_rfl)) (fun _ _ _ h=>h) (Or.inl ⟨by rfl,?_⟩) ?_ ?_
      rotate_left
      ·intro w'
       go_simp
       with_reducible rfl
      rotate_left
      ·simp only[Act.put,List.setIfInBounds_toArray,List.set_cons_zero,List.set_cons_succ,i64_w,i32_w]
       rfl
      refine pure_ (i:=8) (N:=some 43) (v:= ?_) (a':= ?_) #[false,true,true,true,false,false,true,false,true,false,false,false,false,false,false,false,false,false,false,false,false,false,false] rfl rfl (any_of HT_.out (by kernel_rfl)) (fun _ _ _ h=>h) (Or.inl ⟨by rfl,?_⟩) ?_ ?_
      rotate_left
      ·intro w'
       go_simp
       with_reducible rfl
      rotate_left
      ·simp only[Act.put,List.setIfInBounds_toArray,List.set_cons_zero,List.set_cons_succ,i64_w,i32_w]
       rfl
      refine take_ (i:=0) (N:=some 35) (v:= ?_) (a':= ?_) #[true,true,true,true,false,false,true,false,true,false,false,false,false,false,false,false,false,false,false,false,false,false,false] rfl rfl (take_ofW HT_.out HW_.out (by kernel_rfl)) (fun _ _ _ h=>h) (Or.inl ⟨by rfl,?_⟩) hHeld ?_ ?_
      rotate_left
      ·rintro w' ⟨s0,s1,s2,s3,s4,s5,s6,s7⟩
       go_simp
       with_reducible rfl
      rotate_left
      ·simp only[Act.put,List.setIfInBounds_toArray,List.set_cons_zero,List.set_cons_succ,i64_w,i32_w]
       rfl
      refine take_ (i:=4) (N:=some 39) (v:= ?_) (a':= ?_) #[true,true,true,true,true,false,true,false,true,false,false,false,false,false,false,false,false,false,false,false,false,false,false] rfl rfl (take_ofW HT_.out HW_.out (by kernel_rfl)) (fun _ _ _ h=>h) (Or.inl ⟨by rfl,?_⟩) hHeld ?_ ?_
      rotate_left
      ·rintro w' ⟨s0,s1,s2,s3,s4,s5,s6,s7⟩
       go_simp
       with_reducible rfl
      rotate_left
      ·simp only[Act.put,List.setIfInBounds_toArray,List.set_cons_zero,List.set_cons_succ,i64_w,i32_w]
       rfl
      refine take_ (i:=7) (N:=some 42) (v:= ?_) (a':= ?_) #[true,true,true,true,true,false,true,true,true,false,false,false,false,false,false,false,false,false,false,false,false,false,false] rfl rfl (take_ofW HT_.out HW_.out (by kernel_rfl)) (fun _ _ _ h=>h) (Or.inl ⟨by rfl,?_⟩) hHeld ?_ ?_
      rotate_left
      ·rintro w' ⟨s0,s1,s2,s3,s4,s5,s6,s7⟩
       go_simp
       with_reducible rfl
      rotate_left
      ·simp only[Act.put,List.setIfInBounds_toArray,List.set_cons_zero,List.set_cons_succ,i64_w,i32_w]
       rfl
      refine pure_ (i:=9) (N:=some 44) (v:= ?_) (a':= ?_) #[true,true,true,true,true,false,true,true,true,true,false,false,false,false,false,false,false,false,false,false,false,false,false] rfl rfl (any_of HT_.out (by kernel_rfl)) (fun _ _ _ h=>h) (Or.inl ⟨by rfl,?_⟩) ?_ ?_
      rotate_left
      ·intro w'
       go_simp
       with_reducible rfl
      rotate_left
      ·simp only[Act.put,List.setIfInBounds_toArray,List.set_cons_zero,List.set_cons_succ,i64_w,i32_w]
       rfl
      refine take_ (i:=10) (N:=some 45) (v:= ?_) (a':= ?_) #[true,true,true,true,true,false,true,true,true,true,true,false,false,false,false,false,false,false,false,false,false,false,false] rfl rfl (take_ofW HT_.out HW_.out (by kernel_rfl)) (fun _ _ _ h=>h) (Or.inl ⟨by rfl,?_⟩) hHeld ?_ ?_
      rotate_left
      ·rintro w' ⟨s0,s1,s2,s3,s4,s5,s6,s7⟩
       go_simp
       with_reducible rfl
      rotate_left
      ·simp only[Act.put,List.setIfInBounds_toArray,List.set_cons_zero,List.set_cons_succ,i64_w,i32_w]
       rfl
      refine one_ (i:=5) (N:=some 40) #[true,true,true,true,true,true,true,true,true,true,true,false,false,false,false,false,false,false,false,false,false,false,false] rfl rfl (one_of HT_.out (by kernel_rfl)) (by decide) (fun K hK=> ?_);refine goes_ Try.func52 (by kernel_rfl) rfl #[.agg #[.int .i64 Zb, .bool Zc, .slice Ze Za.length Zd], .agg #[.int .i64 ((rd_T113 l2 Zv).f0), .bool ((rd_T113 l2 Zv).f1)]] (by rfl) rfl rfl (by(try simp only[List.map_toArray,List.map_cons,List.map_nil]);first|done|rfl|(simp only[List.length_drop,List.length_take];rfl)) ?_
      with_reducible refine(ebbtideref07_From.calls Zb Zc _ _ Za ((rd_T113 l2 Zv).f0) ((rd_T113 l2 Zv).f1) t466 _ ?side1 ?side2 A25.out).mono ?_
      (case side1=>repeat(first|exact(Yt Zo.out HB.out)|(with_reducible refine Kd.C_alloc ?_ _)|(with_reducible refine Kd.C_drewN ?_ _)|(with_reducible refine Kd.C_drew ?_)))
      (case side2=>exact Zz.out)
      rintro e w59 ⟨rfl,hb⟩;have HS7_:=(hb.cell (Yb _ _ (hHeld.2.2.2.2.2.2.2))).trans (hHeld.2.2.2.2.2.2.2);refine⟨_,rfl,?_⟩;have n0_:=Ya (Ys (by(with_reducible repeat(first|apply Yr|apply Yq|apply Yp));exact HO_459000.out) hb);have n1_:=Ya (Ys (by(with_reducible repeat(first|apply Yr|apply Yq|apply Yp));exact HO_459001.out) hb);have n2_:=Ya (Yn (g:=Wy) (o:= .cells #[.int .i64 Zb, .bool Zc, .slice Ze Za.length Zd] 32 (0,0)) (by(with_reducible repeat(first|refine Yl ?_ _|refine Ym ?_|refine Yj ?_ _));exact Zk.out) hb);have n3_:=Ya (Yn (g:=Ub) (o:= .cells #[.slice none 0 0, .slice none 0 0] 109 (0,0)) (by(with_reducible repeat(first|refine Yl ?_ _|refine Ym ?_|refine Yj ?_ _));exact Xa.out) hb);have n4_:=Ya (Yn (g:=Xs) (o:= .cells #[.slice (some Jx) Zh.length co58,u459001] 109 (0,0)) (by(with_reducible repeat(first|refine Yl ?_ _|refine Ym ?_|refine Yj ?_ _));exact Zi.out) hb);have n5_:=Ya (Yk (by repeat(first|(with_reducible first|exact HB.out|apply Ye|apply Yd|apply Yg|refine Yh ?_ Uf.out|refine Yh ?_ Uz.out|refine Yh ?_ GE458.out)|exact HB.out)) hb);clear HO_459000;clear HO_459001;clear Zk;clear Xa;clear Zi;clear HB;have HO_459000:=n0_;have HO_459001:=n1_;have Zk:=n2_;have Xa:=n3_;have Zi:=n4_;have HB:=n5_;clear n0_ n1_ n2_ n3_ n4_ n5_
      (try clear hb)
      (try clear hb2)
      (try clear hk)
      (try clear hi)
      refine hK.out _ _ ⟨(Yc Zk.out 0).trans rfl,(Yc Zk.out 1).trans rfl,(Yc Zk.out 2).trans rfl,(Yc Zi.out 0).trans rfl,(Yc Zi.out 1).trans rfl,((HB.out.cell (Yb w _ Vc)).trans Vc),((HB.out.cell (Yb w _ Vb)).trans Vb),HS7_⟩ (fun hHeld=> ?_);clear hK K;refine norm_ (a':= ?_) ?_ ?_
      rotate_left
      ·show Act.put _ (some 40) _=_
       simp only[Act.put,List.setIfInBounds_toArray,List.set_cons_zero,List.set_cons_succ,i64_w,i32_w];rfl
      refine pure_ (i:=11) (N:=some 46) (v:= ?_) (a':= ?_) #[true,true,true,true,true,true,true,true,true,true,true,true,false,false,false,false,false,false,false,false,false,false,false] rfl rfl (any_of HT_.out (by kernel_rfl)) (fun _ _ _ h=>h) (Or.inl ⟨by rfl,?_⟩) ?_ ?_
      rotate_left
      ·intro w'
       go_simp
       with_reducible rfl
      rotate_left
      ·simp only[Act.put,List.setIfInBounds_toArray,List.set_cons_zero,List.set_cons_succ,i64_w,i32_w]
       rfl
      refine pure_ (i:=12) (N:=some 47) (v:= ?_) (a':= ?_) #[true,true,true,true,true,true,true,true,true,true,true,true,true,false,false,false,false,false,false,false,false,false,false] rfl rfl (any_of HT_.out (by kernel_rfl)) (fun _ _ _ h=>h) (Or.inl ⟨by rfl,?_⟩) ?_ ?_
      rotate_left
      ·intro w'
       go_simp
       with_reducible rfl
      rotate_left
      ·simp only[Act.put,List.setIfInBounds_toArray,List.set_cons_zero,List.set_cons_succ,i64_w,i32_w]
       rfl
      refine pure_ (i:=13) (N:=some 48) (v:=undef) (a':= ?_) #[true,true,true,true,true,true,true,true,true,true,true,true,true,true,false,false,false,false,false,false,false,false,false] rfl rfl (any_of HT_.out (by kernel_rfl)) (fun _ _ _ h=>h) (Or.inr ⟨by rfl,rfl⟩) ?_ ?_
      rotate_left
      ·simp only[Act.put,List.setIfInBounds_toArray,List.set_cons_zero,List.set_cons_succ,i64_w,i32_w]
       rfl
      refine pure_ (i:=14) (N:=some 49) (v:=undef) (a':= ?_) #[true,true,true,true,true,true,true,true,true,true,true,true,true,true,true,false,false,false,false,false,false,false,false] rfl rfl (any_of HT_.out (by kernel_rfl)) (fun _ _ _ h=>h) (Or.inr ⟨by rfl,rfl⟩) ?_ ?_
      rotate_left
      ·simp only[Act.put,List.setIfInBounds_toArray,List.set_cons_zero,List.set_cons_succ,i64_w,i32_w]
       rfl
      refine pure_ (i:=15) (N:=some 50) (v:=undef) (a':= ?_) #[true,true,true,true,true,true,true,true,true,true,true,true,true,true,true,true,false,false,false,false,false,false,false] rfl rfl (any_of HT_.out (by kernel_rfl)) (fun _ _ _ h=>h) (Or.inr ⟨by rfl,rfl⟩) ?_ ?_
      rotate_left
      ·simp only[Act.put,List.setIfInBounds_toArray,List.set_cons_zero,List.set_cons_succ,i64_w,i32_w]
       rfl
      refine pure_ (i:=16) (N:=some 51) (v:=undef) (a':= ?_) #[true,true,true,true,true,true,true,true,true,true,true,true,true,true,true,true,true,false,false,false,false,false,false] rfl rfl (any_of HT_.out (by kernel_rfl)) (fun _ _ _ h=>h) (Or.inr ⟨by rfl,rfl⟩) ?_ ?_
      rotate_left
      ·simp only[Act.put,List.setIfInBounds_toArray,List.set_cons_zero,List.set_cons_succ,i64_w,i32_w]
       rfl
      refine pure_ (i:=17) (N:=some 52) (v:=undef) (a':= ?_) #[true,true,true,true,true,true,true,true,true,true,true,true,true,true,true,true,true,true,false,false,false,false,false] rfl rfl (any_of HT_.out (by kernel_rfl)) (fun _ _ _ h=>h) (Or.inr ⟨by rfl,rfl⟩) ?_ ?_
      rotate_left
      ·simp only[Act.put,List.setIfInBounds_toArray,List.set_cons_zero,List.set_cons_succ,i64_w,i32_w]
       rfl
      refine pure_ (i:=18) (N:=some 53) (v:=undef) (a':= ?_) #[true,true,true,true,true,true,true,true,true,true,true,true,true,true,true,true,true,true,true,false,false,false,false] rfl rfl (any_of HT_.out (by kernel_rfl)) (fun _ _ _ h=>h) (Or.inr ⟨by rfl,rfl⟩) ?_ ?_
      rotate_left
      ·simp only[Act.put,List.setIfInBounds_toArray,List.set_cons_zero,List.set_cons_succ,i64_w,i32_w]
       rfl
      refine pure_ (i:=19) (N:=some 54) (v:=undef) (a':= ?_) #[true,true,true,true,true,true,true,true,true,true,true,true,true,true,true,true,true,true,true,true,false,false,false] rfl rfl (any_of HT_.out (by kernel_rfl)) (fun _ _ _ h=>h) (Or.inr ⟨by rfl,rfl⟩) ?_ ?_
      rotate_left
      ·simp only[Act.put,List.setIfInBounds_toArray,List.set_cons_zero,List.set_cons_succ,i64_w,i32_w]
       rfl
      refine pure_ (i:=20) (N:=some 55) (v:=undef) (a':= ?_) #[true,true,true,true,true,true,true,true,true,true,true,true,true,true,true,true,true,true,true,true,true,false,false] rfl rfl (any_of HT_.out (by kernel_rfl)) (fun _ _ _ h=>h) (Or.inr ⟨by rfl,rfl⟩) ?_ ?_
      rotate_left
      ·simp only[Act.put,List.setIfInBounds_toArray,List.set_cons_zero,List.set_cons_succ,i64_w,i32_w]
       rfl
      refine pure_ (i:=21) (N:=some 56) (v:=undef) (a':= ?_) #[true,true,true,true,true,true,true,true,true,true,true,true,true,true,true,true,true,true,true,true,true,true,false] rfl rfl (any_of HT_.out (by kernel_rfl)) (fun _ _ _ h=>h) (Or.inr ⟨by rfl,rfl⟩) ?_ ?_
      rotate_left
      ·simp only[Act.put,List.setIfInBounds_toArray,List.set_cons_zero,List.set_cons_succ,i64_w,i32_w]
       rfl
      refine pure_ (i:=22) (N:=some 57) (v:= ?_) (a':= ?_) #[true,true,true,true,true,true,true,true,true,true,true,true,true,true,true,true,true,true,true,true,true,true,true] rfl rfl (any_of HT_.out (by kernel_rfl)) (fun _ _ _ h=>h) (Or.inl ⟨by rfl,?_⟩) ?_ ?_
      rotate_left
      ·intro w'
       go_simp
       with_reducible rfl
      rotate_left
      ·simp only[Act.put,List.setIfInBounds_toArray,List.set_cons_zero,List.set_cons_succ,i64_w,i32_w]
       rfl
      refine done_ (done_of HT_.out (by kernel_rfl)) ?_;try go_wp2
      go_roundg k2
      case measure=>have:=HK1.out;have:=HK2.out;omega
      case rel=>exact⟨(wrap64 (Zv+1)),(Zh),(Zq),(.slice (some Jx) Zh.length co58),(u459001),(by first|rfl|(simp;done)|(simp[*];done)),H',⟨by have:=HK1.out;have:=HK2.out;omega⟩,⟨by(with_reducible repeat(first|apply Yr|apply Yq|apply Yp));exact HO_459000.out⟩,⟨by(with_reducible repeat(first|apply Yr|apply Yq|apply Yp));exact HO_459001.out⟩,⟨by(with_reducible repeat(first|refine Yl ?_ _|refine Ym ?_|refine Yj ?_ _));exact Zk.out⟩,⟨by(with_reducible repeat(first|refine Yl ?_ _|refine Ym ?_|refine Yj ?_ _));exact Xa.out⟩,⟨by(with_reducible repeat(first|refine Yl ?_ _|refine Ym ?_|refine Yj ?_ _));exact Zi.out⟩,⟨by repeat(first|(with_reducible first|exact HB.out|apply Ye|apply Yd|apply Yg|refine Yh ?_ Uf.out|refine Yh ?_ Uz.out|refine Yh ?_ GE458.out)|exact HB.out)⟩⟩
     rw[Yx c28] at H;have c28b0:(t466 == (rd Zh Zg))=true:=beq_iff_eq.mpr c28;have c28b1:(t466 != (rd Zh Zg))=false:=bne_eq_false_iff_eq.mpr c28;clear c28;replace H:=Option.bind_eq_some_iff.mp H;obtain⟨t469,A290,H⟩:=H;replace H:((ebbtideref08_found_has.f k2 Zh Zq t469).bind fun t470=>(if t470<0 then((ebbtideref07_To.f Zb Zc Za ((rd_T113 l2 Zv).f0) ((rd_T113 l2 Zv).f1)).bind fun t472=>(if Zh.length<17592186044416 then(if Zq.length<8796093022208 then(ebbtideref08_sought.l1 k2 l2 Zg (wrap64 (Zv+1)) Zb Zc Za (Zh ++ [t472]) (Zq ++ [(⟨(rd_T113 l2 Zv).f0,(rd_T113 l2 Zv).f1⟩:S113)])) else(none)) else(none))) else(ebbtideref08_sought.l1 k2 l2 Zg (wrap64 (Zv+1)) Zb Zc Za Zh Zq)))=some (r1,r2):=H;have A29:=Ya A290;clear A290;replace H:=Option.bind_eq_some_iff.mp H;obtain⟨t470,A300,H⟩:=H;replace H:(if t470<0 then((ebbtideref07_To.f Zb Zc Za ((rd_T113 l2 Zv).f0) ((rd_T113 l2 Zv).f1)).bind fun t472=>(if Zh.length<17592186044416 then(if Zq.length<8796093022208 then(ebbtideref08_sought.l1 k2 l2 Zg (wrap64 (Zv+1)) Zb Zc Za (Zh ++ [t472]) (Zq ++ [(⟨(rd_T113 l2 Zv).f0,(rd_T113 l2 Zv).f1⟩:S113)])) else(none)) else(none))) else(ebbtideref08_sought.l1 k2 l2 Zg (wrap64 (Zv+1)) Zb Zc Za Zh Zq))=some (r1,r2):=H;have A30:=Ya A300;clear A300;by_cases c31:t470<0
     rotate_left
     ·rw[Yy c31] at H
      have c31b0:decide (t470<0)=false:=Yw c31;clear c31;have H':=Ya H;clear H;try go_wp2
      have n0_:=Ya (Yp HO_459000.out);have n1_:=Ya (Yp HO_459001.out);have n2_:=Ya (Ym Zk.out);have n3_:=Ya (Ym Xa.out);have n4_:=Ya (Ym Zi.out);have n5_:=Ya (Yg HB.out);clear HO_459000;clear HO_459001;clear Zk;clear Xa;clear Zi;clear HB;have HO_459000:=n0_;have HO_459001:=n1_;have Zk:=n2_;have Xa:=n3_;have Zi:=n4_;have HB:=n5_;clear n0_ n1_ n2_ n3_ n4_ n5_;have p465:0≤(Zv:Int):=Yu (by first|(with_reducible assumption)|assumption);have q465:Zv<(l2.length:Int):=Yu (by first|(with_reducible assumption)|assumption);obtain⟨Ja,e465,Uo,Up⟩:=at_T113 HR2.out Zv p465 q465;have Vb:=Up;have Vc:=Uo;cases e465;replace Uo:=(HB.out.cell (Yb w _ Uo)).trans Uo;replace Up:=(HB.out.cell (Yb w _ Up)).trans Up;replace p465:=eq_true p465;replace q465:=eq_true q465;obtain⟨Ao52,co52,eo52⟩:=Kd.R_slice HO_459000.out
      (first|subst eo52|(injection eo52 with f1_ f2_ f3_;have f4_:=f1_.symm;have f5_:=f3_.symm;clear f1_ f2_ f3_;subst f4_;subst f5_))
      have p467:0≤(Zg:Int):=Yu (by first|(with_reducible assumption)|assumption);have q467:Zg<(Zh.length:Int):=Yu (by first|(with_reducible assumption)|assumption);obtain⟨Jx,e467,hx467_0⟩:=Kd.at_int (Kd.R_reads' HO_459000.out).2.2 Zg p467 q467;cases e467;replace p467:=eq_true p467;replace q467:=eq_true q467;have p468:0≤(Zv:Int):=Yu (by first|(with_reducible assumption)|assumption);have q468:Zv<(l2.length:Int):=Yu (by first|(with_reducible assumption)|assumption);obtain⟨ad468,e468,hx468_0,hx468_1⟩:=at_T113 HR2.out Zv p468 q468;have Uq:=hx468_1;have Ur:=hx468_0;obtain rfl:Ja=ad468:=(by injection e468);replace hx468_0:=(HB.out.cell (Yb w _ hx468_0)).trans hx468_0;replace hx468_1:=(HB.out.cell (Yb w _ hx468_1)).trans hx468_1;replace p468:=eq_true p468;replace q468:=eq_true q468;refine start_ (n:=23) (S:=fun w'=>w'.cell? ⟨Wy,0,none⟩=some (.int .i64 Zb)∧w'.cell? ⟨Wy,1,none⟩=some (.bool Zc)∧w'.cell? ⟨Wy,2,none⟩=some (.slice Ze Za.length Zd)∧w'.cell? ⟨Xs,0,none⟩=some (.slice (some Jx) Zh.length co52)∧w'.cell? ⟨Xs,1,none⟩=some (u459001)∧w'.cell? (Ja.add ((Zv).toNat * 2))=some (.int .i64 ((rd_T113 l2 Zv).f0))∧w'.cell? ⟨(Ja.add ((Zv).toNat * 2)).block,(Ja.add ((Zv).toNat * 2)).off+1,none⟩=some (.bool ((rd_T113 l2 Zv).f1))∧w'.cell? (Jx.add (Zg).toNat)=some (.int .i64 (rd Zh Zg))∧w'.cell? (Ja.add ((Zv).toNat * 2))=some (.int .i64 ((rd_T113 l2 Zv).f0))∧w'.cell? ⟨(Ja.add ((Zv).toNat * 2)).block,(Ja.add ((Zv).toNat * 2)).off+1,none⟩=some (.bool ((rd_T113 l2 Zv).f1))) (ds:=[]) #[false,false,false,false,false,false,false,false,false,false,false,false,false,false,false,false,false,false,false,false,false,false,false] (by kernel_rfl) rfl rfl ⟨(Yc Zk.out 0).trans rfl,(Yc Zk.out 1).trans rfl,(Yc Zk.out 2).trans rfl,(Yc Zi.out 0).trans rfl,(Yc Zi.out 1).trans rfl,((HB.out.cell (Yb w _ Vc)).trans Vc),((HB.out.cell (Yb w _ Vb)).trans Vb),hx467_0,((HB.out.cell (Yb w _ Ur)).trans Ur),((HB.out.cell (Yb w _ Uq)).trans Uq)⟩ (fun hHeld=> ?_);refine with_tabW ebbtideref08_sought.tab10 ebbtideref08_sought.bits10 (fun HT_ HW_=> ?_);generalize wr.drew=w51 at HO_459000 HO_459001 Zk Xa Zi HB Uo Up hx467_0 hx468_0 hx468_1 hHeld ⊢;refine pure_ (i:=1) (N:=some 36) (v:= ?_) (a':= ?_) #[false,true,false,false,false,false,false,false,false,false,false,false,false,false,false,false,false,false,false,false,false,false,false] rfl rfl (any_of HT_.out (by kernel_rfl)) (fun _ _ _ h=>h) (Or.inl ⟨by rfl,?_⟩) ?_ ?_
      rotate_left
      ·intro w'
       go_simp
       with_reducible rfl
      rotate_left
      ·simp only[Act.put,List.setIfInBounds_toArray,List.set_cons_zero,List.set_cons_succ,i64_w,i32_w]
       rfl
      refine pure_ (i:=2) (N:=some 37) (v:= ?_) (a':= ?_) #[false,true,true,false,false,false,false,false,false,false,false,false,false,false,false,false,false,false,false,false,false,false,false] rfl rfl (any_of HT_.out (by kernel_rfl)) (fun _ _ _ h=>h) (Or.inl ⟨by rfl,?_⟩) ?_ ?_
      rotate_left
      ·intro w'
       go_simp
       with_reducible rfl
      rotate_left
      ·simp only[Act.put,List.setIfInBounds_toArray,List.set_cons_zero,List.set_cons_succ,i64_w,i32_w]
       rfl
      refine pure_ (i:=3) (N:=some 38) (v:= ?_) (a':= ?_) #[false,true,true,true,false,false,false,false,false,false,false,false,false,false,false,false,false,false,false,false,false,false,false] rfl rfl (any_of HT_.out (by kernel_rfl)) (fun _ _ _ h=>h) (Or.inl ⟨by rfl,?_⟩) ?_ ?_
      rotate_left
      ·intro w'
       go_simp
       with_reducible rfl
      rotate_left
      ·simp only[Act.put,List.setIfInBounds_toArray,List.set_cons_zero,List.set_cons_succ,i64_w,i32_w]
       rfl
      refine pure_ (i:=6) (N:=some 41) (v:= ?_) (a':= ?_) #[false,true,true,true,false,false,true,false,false,false,false,false,false,false,false,false,false,false,false,false,false,false,false] rfl rfl (any_of HT_.out (by kernel_rfl)) (fun _ _ _ h=>h) (Or.inl ⟨by rfl,?_⟩) ?_ ?_
      rotate_left
      ·intro w'
       go_simp
       with_reducible rfl
      rotate_left
      ·simp only[Act.put,List.setIfInBounds_toArray,List.set_cons_zero,List.set_cons_succ,i64_w,i32_w]
       rfl
      refine pure_ (i:=8) (N:=some 43) (v:= ?_) (a':= ?_) #[false,true,true,true,false,false,true,false,true,false,false,false,false,false,false,false,false,false,false,false,false,false,false] rfl rfl (any_of HT_.out (by kernel_rfl)) (fun _ _ _ h=>h) (Or.inl ⟨by rfl,?_⟩) ?_ ?_
      rotate_left
      ·intro w'
       go_simp
       with_reducible rfl
      rotate_left
      ·simp only[Act.put,List.setIfInBounds_toArray,List.set_cons_zero,List.set_cons_succ,i64_w,i32_w]
       rfl
      refine take_ (i:=0) (N:=some 35) (v:= ?_) (a':= ?_) #[true,true,true,true,false,false,true,false,true,false,false,false,false,false,false,false,false,false,false,false,false,false,false] rfl rfl (take_ofW HT_.out HW_.out (by kernel_rfl)) (fun _ _ _ h=>h) (Or.inl ⟨by rfl,?_⟩) hHeld ?_ ?_
      rotate_left
      ·rintro w' ⟨s0,s1,s2,s3,s4,s5,s6,s7,s8,s9⟩
       go_simp
       with_reducible rfl
      rotate_left
      ·simp only[Act.put,List.setIfInBounds_toArray,List.set_cons_zero,List.set_cons_succ,i64_w,i32_w]
       rfl
      refine take_ (i:=4) (N:=some 39) (v:= ?_) (a':= ?_) #[true,true,true,true,true,false,true,false,true,false,false,false,false,false,false,false,false,false,false,false,false,false,false] rfl rfl (take_ofW HT_.out HW_.out (by kernel_rfl)) (fun _ _ _ h=>h) (Or.inl ⟨by rfl,?_⟩) hHeld ?_ ?_
      rotate_left
      ·rintro w' ⟨s0,s1,s2,s3,s4,s5,s6,s7,s8,s9⟩
       go_simp
       with_reducible rfl
      rotate_left
      ·simp only[Act.put,List.setIfInBounds_toArray,List.set_cons_zero,List.set_cons_succ,i64_w,i32_w]
       rfl
      refine take_ (i:=7) (N:=some 42) (v:= ?_) (a':= ?_) #[true,true,true,true,true,false,true,true,true,false,false,false,false,false,false,false,false,false,false,false,false,false,false] rfl rfl (take_ofW HT_.out HW_.out (by kernel_rfl)) (fun _ _ _ h=>h) (Or.inl ⟨by rfl,?_⟩) hHeld ?_ ?_
      rotate_left
      ·rintro w' ⟨s0,s1,s2,s3,s4,s5,s6,s7,s8,s9⟩
       go_simp
       with_reducible rfl
      rotate_left
      ·simp only[Act.put,List.setIfInBounds_toArray,List.set_cons_zero,List.set_cons_succ,i64_w,i32_w]
       rfl
      refine pure_ (i:=9) (N:=some 44) (v:= ?_) (a':= ?_) #[true,true,true,true,true,false,true,true,true,true,false,false,false,false,false,false,false,false,false,false,false,false,false] rfl rfl (any_of HT_.out (by kernel_rfl)) (fun _ _ _ h=>h) (Or.inl ⟨by rfl,?_⟩) ?_ ?_
      rotate_left
      ·intro w'
       go_simp
       with_reducible rfl
      rotate_left
      ·simp only[Act.put,List.setIfInBounds_toArray,List.set_cons_zero,List.set_cons_succ,i64_w,i32_w]
       rfl
      refine take_ (i:=10) (N:=some 45) (v:= ?_) (a':= ?_) #[true,true,true,true,true,false,true,true,true,true,true,false,false,false,false,false,false,false,false,false,false,false,false] rfl rfl (take_ofW HT_.out HW_.out (by kernel_rfl)) (fun _ _ _ h=>h) (Or.inl ⟨by rfl,?_⟩) hHeld ?_ ?_
      rotate_left
      ·rintro w' ⟨s0,s1,s2,s3,s4,s5,s6,s7,s8,s9⟩
       go_simp
       with_reducible rfl
      rotate_left
      ·simp only[Act.put,List.setIfInBounds_toArray,List.set_cons_zero,List.set_cons_succ,i64_w,i32_w]
       rfl
      refine one_ (i:=5) (N:=some 40) #[true,true,true,true,true,true,true,true,true,true,true,false,false,false,false,false,false,false,false,false,false,false,false] rfl rfl (one_of HT_.out (by kernel_rfl)) (by decide) (fun K hK=> ?_);refine goes_ Try.func52 (by kernel_rfl) rfl #[.agg #[.int .i64 Zb, .bool Zc, .slice Ze Za.length Zd], .agg #[.int .i64 ((rd_T113 l2 Zv).f0), .bool ((rd_T113 l2 Zv).f1)]] (by rfl) rfl rfl (by(try simp only[List.map_toArray,List.map_cons,List.map_nil]);first|done|rfl|(simp only[List.length_drop,List.length_take];rfl)) ?_
      with_reducible refine(ebbtideref07_From.calls Zb Zc _ _ Za ((rd_T113 l2 Zv).f0) ((rd_T113 l2 Zv).f1) t466 _ ?side1 ?side2 A25.out).mono ?_
      (case side1=>repeat(first|exact(Yt Zo.out HB.out)|(with_reducible refine Kd.C_alloc ?_ _)|(with_reducible refine Kd.C_drewN ?_ _)|(with_reducible refine Kd.C_drew ?_)))
      (case side2=>exact Zz.out)
      rintro e w53 ⟨rfl,hb⟩;have HS7_:=(hb.cell (Yb _ _ (hHeld.2.2.2.2.2.2.2.1))).trans (hHeld.2.2.2.2.2.2.2.1);refine⟨_,rfl,?_⟩;have n0_:=Ya (Ys (by(with_reducible repeat(first|apply Yr|apply Yq|apply Yp));exact HO_459000.out) hb);have n1_:=Ya (Ys (by(with_reducible repeat(first|apply Yr|apply Yq|apply Yp));exact HO_459001.out) hb);have n2_:=Ya (Yn (g:=Wy) (o:= .cells #[.int .i64 Zb, .bool Zc, .slice Ze Za.length Zd] 32 (0,0)) (by(with_reducible repeat(first|refine Yl ?_ _|refine Ym ?_|refine Yj ?_ _));exact Zk.out) hb);have n3_:=Ya (Yn (g:=Ub) (o:= .cells #[.slice none 0 0, .slice none 0 0] 109 (0,0)) (by(with_reducible repeat(first|refine Yl ?_ _|refine Ym ?_|refine Yj ?_ _));exact Xa.out) hb);have n4_:=Ya (Yn (g:=Xs) (o:= .cells #[.slice (some Jx) Zh.length co52,u459001] 109 (0,0)) (by(with_reducible repeat(first|refine Yl ?_ _|refine Ym ?_|refine Yj ?_ _));exact Zi.out) hb);have n5_:=Ya (Yk (by repeat(first|(with_reducible first|exact HB.out|apply Ye|apply Yd|apply Yg|refine Yh ?_ Uf.out|refine Yh ?_ Uz.out|refine Yh ?_ GE458.out)|exact HB.out)) hb);clear HO_459000;clear HO_459001;clear Zk;clear Xa;clear Zi;clear HB;have HO_459000:=n0_;have HO_459001:=n1_;have Zk:=n2_;have Xa:=n3_;have Zi:=n4_;have HB:=n5_;clear n0_ n1_ n2_ n3_ n4_ n5_
      (try clear hb)
      (try clear hb2)
      (try clear hk)
      (try clear hi)
      refine hK.out _ _ ⟨(Yc Zk.out 0).trans rfl,(Yc Zk.out 1).trans rfl,(Yc Zk.out 2).trans rfl,(Yc Zi.out 0).trans rfl,(Yc Zi.out 1).trans rfl,((HB.out.cell (Yb w _ Vc)).trans Vc),((HB.out.cell (Yb w _ Vb)).trans Vb),HS7_,((HB.out.cell (Yb w _ Ur)).trans Ur),((HB.out.cell (Yb w _ Uq)).trans Uq)⟩ (fun hHeld=> ?_);clear hK K;refine norm_ (a':= ?_) ?_ ?_
      rotate_left
      ·show Act.put _ (some 40) _=_
       simp only[Act.put,List.setIfInBounds_toArray,List.set_cons_zero,List.set_cons_succ,i64_w,i32_w];rfl
      refine pure_ (i:=11) (N:=some 46) (v:= ?_) (a':= ?_) #[true,true,true,true,true,true,true,true,true,true,true,true,false,false,false,false,false,false,false,false,false,false,false] rfl rfl (any_of HT_.out (by kernel_rfl)) (fun _ _ _ h=>h) (Or.inl ⟨by rfl,?_⟩) ?_ ?_
      rotate_left
      ·intro w'
       go_simp
       with_reducible rfl
      rotate_left
      ·simp only[Act.put,List.setIfInBounds_toArray,List.set_cons_zero,List.set_cons_succ,i64_w,i32_w]
       rfl
      refine pure_ (i:=12) (N:=some 47) (v:= ?_) (a':= ?_) #[true,true,true,true,true,true,true,true,true,true,true,true,true,false,false,false,false,false,false,false,false,false,false] rfl rfl (any_of HT_.out (by kernel_rfl)) (fun _ _ _ h=>h) (Or.inl ⟨by rfl,?_⟩) ?_ ?_
      rotate_left
      ·intro w'
       go_simp
       with_reducible rfl
      rotate_left
      ·simp only[Act.put,List.setIfInBounds_toArray,List.set_cons_zero,List.set_cons_succ,i64_w,i32_w]
       rfl
      refine pure_ (i:=15) (N:=some 50) (v:= ?_) (a':= ?_) #[true,true,true,true,true,true,true,true,true,true,true,true,true,false,false,true,false,false,false,false,false,false,false] rfl rfl (any_of HT_.out (by kernel_rfl)) (fun _ _ _ h=>h) (Or.inl ⟨by rfl,?_⟩) ?_ ?_
      rotate_left
      ·intro w'
       go_simp
       with_reducible rfl
      rotate_left
      ·simp only[Act.put,List.setIfInBounds_toArray,List.set_cons_zero,List.set_cons_succ,i64_w,i32_w]
       rfl
      refine pure_ (i:=16) (N:=some 51) (v:= ?_) (a':= ?_) #[true,true,true,true,true,true,true,true,true,true,true,true,true,false,false,true,true,false,false,false,false,false,false] rfl rfl (any_of HT_.out (by kernel_rfl)) (fun _ _ _ h=>h) (Or.inl ⟨by rfl,?_⟩) ?_ ?_
      rotate_left
      ·intro w'
       go_simp
       with_reducible rfl
      rotate_left
      ·simp only[Act.put,List.setIfInBounds_toArray,List.set_cons_zero,List.set_cons_succ,i64_w,i32_w]
       rfl
      refine pure_ (i:=17) (N:=some 52) (v:= ?_) (a':= ?_) #[true,true,true,true,true,true,true,true,true,true,true,true,true,false,false,true,true,true,false,false,false,false,false] rfl rfl (any_of HT_.out (by kernel_rfl)) (fun _ _ _ h=>h) (Or.inl ⟨by rfl,?_⟩) ?_ ?_
      rotate_left
      ·intro w'
       go_simp
       with_reducible rfl
      rotate_left
      ·simp only[Act.put,List.setIfInBounds_toArray,List.set_cons_zero,List.set_cons_succ,i64_w,i32_w]
       rfl
      refine take_ (i:=13) (N:=some 48) (v:= ?_) (a':= ?_) #[true,true,true,true,true,true,true,true,true,true,true,true,true,true,false,true,true,true,false,false,false,false,false] rfl rfl (take_ofW HT_.out HW_.out (by kernel_rfl)) (fun _ _ _ h=>h) (Or.inl ⟨by rfl,?_⟩) hHeld ?_ ?_
      rotate_left
      ·rintro w' ⟨s0,s1,s2,s3,s4,s5,s6,s7,s8,s9⟩
       go_simp
       with_reducible rfl
      rotate_left
      ·simp only[Act.put,List.setIfInBounds_toArray,List.set_cons_zero,List.set_cons_succ,i64_w,i32_w]
       rfl
      refine take_ (i:=14) (N:=some 49) (v:= ?_) (a':= ?_) #[true,true,true,true,true,true,true,true,true,true,true,true,true,true,true,true,true,true,false,false,false,false,false] rfl rfl (take_ofW HT_.out HW_.out (by kernel_rfl)) (fun _ _ _ h=>h) (Or.inl ⟨by rfl,?_⟩) hHeld ?_ ?_
      rotate_left
      ·rintro w' ⟨s0,s1,s2,s3,s4,s5,s6,s7,s8,s9⟩
       go_simp
       with_reducible rfl
      rotate_left
      ·simp only[Act.put,List.setIfInBounds_toArray,List.set_cons_zero,List.set_cons_succ,i64_w,i32_w]
       rfl
      refine take_ (i:=18) (N:=some 53) (v:= ?_) (a':= ?_) #[true,true,true,true,true,true,true,true,true,true,true,true,true,true,true,true,true,true,true,false,false,false,false] rfl rfl (take_ofW HT_.out HW_.out (by kernel_rfl)) (fun _ _ _ h=>h) (Or.inl ⟨by rfl,?_⟩) hHeld ?_ ?_
      rotate_left
      ·rintro w' ⟨s0,s1,s2,s3,s4,s5,s6,s7,s8,s9⟩
       go_simp
       with_reducible rfl
      rotate_left
      ·simp only[Act.put,List.setIfInBounds_toArray,List.set_cons_zero,List.set_cons_succ,i64_w,i32_w]
       rfl
      refine one_ (i:=19) (N:=some 54) #[true,true,true,true,true,true,true,true,true,true,true,true,true,true,true,true,true,true,true,true,false,false,false] rfl rfl (one_of HT_.out (by kernel_rfl)) (by decide) (fun K hK=> ?_);refine goes_ Try.func58 (by kernel_rfl) rfl #[.agg #[.int .i64 Zb, .bool Zc, .slice Ze Za.length Zd], .agg #[.int .i64 ((rd_T113 l2 Zv).f0), .bool ((rd_T113 l2 Zv).f1)]] (by rfl) rfl rfl (by(try simp only[List.map_toArray,List.map_cons,List.map_nil]);first|done|rfl|(simp only[List.length_drop,List.length_take];rfl)) ?_
      with_reducible refine(ebbtideref07_To.calls Zb Zc _ _ Za ((rd_T113 l2 Zv).f0) ((rd_T113 l2 Zv).f1) t469 _ ?side1 ?side2 A29.out).mono ?_
      (case side1=>repeat(first|exact(Yt Zo.out HB.out)|(with_reducible refine Kd.C_alloc ?_ _)|(with_reducible refine Kd.C_drewN ?_ _)|(with_reducible refine Kd.C_drew ?_)))
      (case side2=>exact Zz.out)
      rintro e w54 ⟨rfl,hb⟩;have HS7_:=(hb.cell (Yb _ _ (hHeld.2.2.2.2.2.2.2.1))).trans (hHeld.2.2.2.2.2.2.2.1);refine⟨_,rfl,?_⟩;have n0_:=Ya (Ys (by(with_reducible repeat(first|apply Yr|apply Yq|apply Yp));exact HO_459000.out) hb);have n1_:=Ya (Ys (by(with_reducible repeat(first|apply Yr|apply Yq|apply Yp));exact HO_459001.out) hb);have n2_:=Ya (Yn (g:=Wy) (o:= .cells #[.int .i64 Zb, .bool Zc, .slice Ze Za.length Zd] 32 (0,0)) (by(with_reducible repeat(first|refine Yl ?_ _|refine Ym ?_|refine Yj ?_ _));exact Zk.out) hb);have n3_:=Ya (Yn (g:=Ub) (o:= .cells #[.slice none 0 0, .slice none 0 0] 109 (0,0)) (by(with_reducible repeat(first|refine Yl ?_ _|refine Ym ?_|refine Yj ?_ _));exact Xa.out) hb);have n4_:=Ya (Yn (g:=Xs) (o:= .cells #[.slice (some Jx) Zh.length co52,u459001] 109 (0,0)) (by(with_reducible repeat(first|refine Yl ?_ _|refine Ym ?_|refine Yj ?_ _));exact Zi.out) hb);have n5_:=Ya (Yk (by repeat(first|(with_reducible first|exact HB.out|apply Ye|apply Yd|apply Yg|refine Yh ?_ Uf.out|refine Yh ?_ Uz.out|refine Yh ?_ GE458.out)|exact HB.out)) hb);clear HO_459000;clear HO_459001;clear Zk;clear Xa;clear Zi;clear HB;have HO_459000:=n0_;have HO_459001:=n1_;have Zk:=n2_;have Xa:=n3_;have Zi:=n4_;have HB:=n5_;clear n0_ n1_ n2_ n3_ n4_ n5_
      (try clear hb)
      (try clear hb2)
      (try clear hk)
      (try clear hi)
      obtain⟨Ao55,co55,eo55⟩:=Kd.R_slice HO_459001.out
      (first|subst eo55|(injection eo55 with f1_ f2_ f3_;have f4_:=f1_.symm;have f5_:=f3_.symm;clear f1_ f2_ f3_;subst f4_;subst f5_))
      refine hK.out _ _ ⟨(Yc Zk.out 0).trans rfl,(Yc Zk.out 1).trans rfl,(Yc Zk.out 2).trans rfl,(Yc Zi.out 0).trans rfl,(Yc Zi.out 1).trans rfl,((HB.out.cell (Yb w _ Vc)).trans Vc),((HB.out.cell (Yb w _ Vb)).trans Vb),HS7_,((HB.out.cell (Yb w _ Ur)).trans Ur),((HB.out.cell (Yb w _ Uq)).trans Uq)⟩ (fun hHeld=> ?_);clear hK K;refine norm_ (a':= ?_) ?_ ?_
      rotate_left
      ·show Act.put _ (some 54) _=_
       simp only[Act.put,List.setIfInBounds_toArray,List.set_cons_zero,List.set_cons_succ,i64_w,i32_w];rfl
      refine one_ (i:=20) (N:=some 55) #[true,true,true,true,true,true,true,true,true,true,true,true,true,true,true,true,true,true,true,true,true,false,false] rfl rfl (one_of HT_.out (by kernel_rfl)) (by decide) (fun K hK=> ?_);refine goes_ Try.func51 (by kernel_rfl) rfl #[.agg #[.slice (some Jx) Zh.length co52, .slice Ao55 Zq.length co55], .int .i64 t469] (by rfl) rfl rfl (by(try simp only[List.map_toArray,List.map_cons,List.map_nil]);first|done|rfl|(simp only[List.length_drop,List.length_take];rfl)) ?_
      with_reducible refine(ebbtideref08_found_has.calls k2 _ _ Zh _ _ Zq t469 t470 _ ?side1 ?side2 ?side3 ?side4 A30.out).mono ?_
      (case side1=>repeat(first|exact(Kd.R_reads' HO_459000.out).2.2|(with_reducible refine Kd.C_alloc ?_ _)|(with_reducible refine Kd.C_drewN ?_ _)|(with_reducible refine Kd.C_drew ?_)))
      (case side2=>exact(Kd.R_reads' HO_459000.out).2.1)
      (case side3=>repeat(first|exact(Kd.R_reads' HO_459001.out).2.2|(with_reducible refine Kd.C_alloc ?_ _)|(with_reducible refine Kd.C_drewN ?_ _)|(with_reducible refine Kd.C_drew ?_)))
      (case side4=>exact(Kd.R_reads' HO_459001.out).2.1)
      rintro e w56 ⟨rfl,hb⟩;have HS7_:=(hb.cell (Yb _ _ (hHeld.2.2.2.2.2.2.2.1))).trans (hHeld.2.2.2.2.2.2.2.1);refine⟨_,rfl,?_⟩;have n0_:=Ya (Ys (by(with_reducible repeat(first|apply Yr|apply Yq|apply Yp));exact HO_459000.out) hb);have n1_:=Ya (Ys (by(with_reducible repeat(first|apply Yr|apply Yq|apply Yp));exact HO_459001.out) hb);have n2_:=Ya (Yn (g:=Wy) (o:= .cells #[.int .i64 Zb, .bool Zc, .slice Ze Za.length Zd] 32 (0,0)) (by(with_reducible repeat(first|refine Yl ?_ _|refine Ym ?_|refine Yj ?_ _));exact Zk.out) hb);have n3_:=Ya (Yn (g:=Ub) (o:= .cells #[.slice none 0 0, .slice none 0 0] 109 (0,0)) (by(with_reducible repeat(first|refine Yl ?_ _|refine Ym ?_|refine Yj ?_ _));exact Xa.out) hb);have n4_:=Ya (Yn (g:=Xs) (o:= .cells #[.slice (some Jx) Zh.length co52, .slice Ao55 Zq.length co55] 109 (0,0)) (by(with_reducible repeat(first|refine Yl ?_ _|refine Ym ?_|refine Yj ?_ _));exact Zi.out) hb);have n5_:=Ya (Yk (by repeat(first|(with_reducible first|exact HB.out|apply Ye|apply Yd|apply Yg|refine Yh ?_ Uf.out|refine Yh ?_ Uz.out|refine Yh ?_ GE458.out)|exact HB.out)) hb);clear HO_459000;clear HO_459001;clear Zk;clear Xa;clear Zi;clear HB;have HO_459000:=n0_;have HO_459001:=n1_;have Zk:=n2_;have Xa:=n3_;have Zi:=n4_;have HB:=n5_;clear n0_ n1_ n2_ n3_ n4_ n5_
      (try clear hb)
      (try clear hb2)
      (try clear hk)
      (try clear hi)
      refine hK.out _ _ ⟨(Yc Zk.out 0).trans rfl,(Yc Zk.out 1).trans rfl,(Yc Zk.out 2).trans rfl,(Yc Zi.out 0).trans rfl,(Yc Zi.out 1).trans rfl,((HB.out.cell (Yb w _ Vc)).trans Vc),((HB.out.cell (Yb w _ Vb)).trans Vb),HS7_,((HB.out.cell (Yb w _ Ur)).trans Ur),((HB.out.cell (Yb w _ Uq)).trans Uq)⟩ (fun hHeld=> ?_);clear hK K;refine norm_ (a':= ?_) ?_ ?_
      rotate_left
      ·show Act.put _ (some 55) _=_
       simp only[Act.put,List.setIfInBounds_toArray,List.set_cons_zero,List.set_cons_succ,i64_w,i32_w];rfl
      refine pure_ (i:=21) (N:=some 56) (v:= ?_) (a':= ?_) #[true,true,true,true,true,true,true,true,true,true,true,true,true,true,true,true,true,true,true,true,true,true,false] rfl rfl (any_of HT_.out (by kernel_rfl)) (fun _ _ _ h=>h) (Or.inl ⟨by rfl,?_⟩) ?_ ?_
      rotate_left
      ·intro w'
       go_simp
       with_reducible rfl
      rotate_left
      ·simp only[Act.put,List.setIfInBounds_toArray,List.set_cons_zero,List.set_cons_succ,i64_w,i32_w]
       rfl
      refine pure_ (i:=22) (N:=some 57) (v:= ?_) (a':= ?_) #[true,true,true,true,true,true,true,true,true,true,true,true,true,true,true,true,true,true,true,true,true,true,true] rfl rfl (any_of HT_.out (by kernel_rfl)) (fun _ _ _ h=>h) (Or.inl ⟨by rfl,?_⟩) ?_ ?_
      rotate_left
      ·intro w'
       go_simp
       with_reducible rfl
      rotate_left
      ·simp only[Act.put,List.setIfInBounds_toArray,List.set_cons_zero,List.set_cons_succ,i64_w,i32_w]
       rfl
      refine done_ (done_of HT_.out (by kernel_rfl)) ?_;try go_wp2
      go_roundg k2
      case measure=>have:=HK1.out;have:=HK2.out;omega
      case rel=>exact⟨(wrap64 (Zv+1)),(Zh),(Zq),(.slice (some Jx) Zh.length co52),(.slice Ao55 Zq.length co55),(by first|rfl|(simp;done)|(simp[*];done)),H',⟨by have:=HK1.out;have:=HK2.out;omega⟩,⟨by(with_reducible repeat(first|apply Yr|apply Yq|apply Yp));exact HO_459000.out⟩,⟨by(with_reducible repeat(first|apply Yr|apply Yq|apply Yp));exact HO_459001.out⟩,⟨by(with_reducible repeat(first|refine Yl ?_ _|refine Ym ?_|refine Yj ?_ _));exact Zk.out⟩,⟨by(with_reducible repeat(first|refine Yl ?_ _|refine Ym ?_|refine Yj ?_ _));exact Xa.out⟩,⟨by(with_reducible repeat(first|refine Yl ?_ _|refine Ym ?_|refine Yj ?_ _));exact Zi.out⟩,⟨by repeat(first|(with_reducible first|exact HB.out|apply Ye|apply Yd|apply Yg|refine Yh ?_ Uf.out|refine Yh ?_ Uz.out|refine Yh ?_ GE458.out)|exact HB.out)⟩⟩
     rw[Yx c31] at H;have c31b0:decide (t470<0)=true:=Yv c31;clear c31;replace H:=Option.bind_eq_some_iff.mp H;obtain⟨t472,A320,H⟩:=H;replace H:(if Zh.length<17592186044416 then(if Zq.length<8796093022208 then(ebbtideref08_sought.l1 k2 l2 Zg (wrap64 (Zv+1)) Zb Zc Za (Zh ++ [t472]) (Zq ++ [(⟨(rd_T113 l2 Zv).f0,(rd_T113 l2 Zv).f1⟩:S113)])) else(none)) else(none))=some (r1,r2):=H;have A32:=Ya A320;clear A320;by_cases c33:Zh.length<17592186044416
     rotate_left
     ·rw[Yy c33] at H
      exact absurd H (by simp)
     rw[Yx c33] at H;have LMc33:=Ya c33;clear c33;obtain⟨y473,hy473⟩: ∃ y_:List Int,y_=(Zh ++ [t472]):=⟨_,rfl⟩;replace H:(if Zq.length<8796093022208 then(ebbtideref08_sought.l1 k2 l2 Zg (wrap64 (Zv+1)) Zb Zc Za y473 (Zq ++ [(⟨(rd_T113 l2 Zv).f0,(rd_T113 l2 Zv).f1⟩:S113)])) else(none))=some (r1,r2):=by first|(rw[hy473];with_reducible exact H)|(have H2_:=(Option.bind_some _ _).symm.trans H;rw[hy473];with_reducible exact H2_)|(have H2_:=(Option.bind_some _ _).symm.trans H;with_reducible exact H2_)|with_reducible exact H|(rw[hy473];exact H)|exact H
     have Ny473:=Ya hy473;clear hy473;by_cases c34:Zq.length<8796093022208
     rotate_left
     ·rw[Yy c34] at H
      exact absurd H (by simp)
     rw[Yx c34] at H;have LMc34:=Ya c34;clear c34;obtain⟨y477,hy477⟩: ∃ y_:List (S113),y_=(Zq ++ [(⟨(rd_T113 l2 Zv).f0,(rd_T113 l2 Zv).f1⟩:S113)]):=⟨_,rfl⟩;replace H:(ebbtideref08_sought.l1 k2 l2 Zg (wrap64 (Zv+1)) Zb Zc Za y473 y477)=some (r1,r2):=by first|(rw[hy477];with_reducible exact H)|(have H2_:=(Option.bind_some _ _).symm.trans H;rw[hy477];with_reducible exact H2_)|(have H2_:=(Option.bind_some _ _).symm.trans H;with_reducible exact H2_)|with_reducible exact H|(rw[hy477];exact H)|exact H
     have Ny477:=Ya hy477;clear hy477;have H':=Ya H;clear H;try go_wp2
     have n0_:=Ya (Yp HO_459000.out);have n1_:=Ya (Yp HO_459001.out);have n2_:=Ya (Ym Zk.out);have n3_:=Ya (Ym Xa.out);have n4_:=Ya (Ym Zi.out);have n5_:=Ya (Yg HB.out);clear HO_459000;clear HO_459001;clear Zk;clear Xa;clear Zi;clear HB;have HO_459000:=n0_;have HO_459001:=n1_;have Zk:=n2_;have Xa:=n3_;have Zi:=n4_;have HB:=n5_;clear n0_ n1_ n2_ n3_ n4_ n5_;have p465:0≤(Zv:Int):=Yu (by first|(with_reducible assumption)|assumption);have q465:Zv<(l2.length:Int):=Yu (by first|(with_reducible assumption)|assumption);obtain⟨Ja,e465,Uo,Up⟩:=at_T113 HR2.out Zv p465 q465;have Vb:=Up;have Vc:=Uo;cases e465;replace Uo:=(HB.out.cell (Yb w _ Uo)).trans Uo;replace Up:=(HB.out.cell (Yb w _ Up)).trans Up;replace p465:=eq_true p465;replace q465:=eq_true q465;obtain⟨Ao36,co36,eo36⟩:=Kd.R_slice HO_459000.out
     (first|subst eo36|(injection eo36 with f1_ f2_ f3_;have f4_:=f1_.symm;have f5_:=f3_.symm;clear f1_ f2_ f3_;subst f4_;subst f5_))
     have p467:0≤(Zg:Int):=Yu (by first|(with_reducible assumption)|assumption);have q467:Zg<(Zh.length:Int):=Yu (by first|(with_reducible assumption)|assumption);obtain⟨Jx,e467,hx467_0⟩:=Kd.at_int (Kd.R_reads' HO_459000.out).2.2 Zg p467 q467;cases e467;replace p467:=eq_true p467;replace q467:=eq_true q467;have p468:0≤(Zv:Int):=Yu (by first|(with_reducible assumption)|assumption);have q468:Zv<(l2.length:Int):=Yu (by first|(with_reducible assumption)|assumption);obtain⟨ad468,e468,hx468_0,hx468_1⟩:=at_T113 HR2.out Zv p468 q468;have Uq:=hx468_1;have Ur:=hx468_0;obtain rfl:Ja=ad468:=(by injection e468);replace hx468_0:=(HB.out.cell (Yb w _ hx468_0)).trans hx468_0;replace hx468_1:=(HB.out.cell (Yb w _ hx468_1)).trans hx468_1;replace p468:=eq_true p468;replace q468:=eq_true q468;refine start_ (n:=23) (S:=fun w'=>w'.cell? ⟨Wy,0,none⟩=some (.int .i64 Zb)∧w'.cell? ⟨Wy,1,none⟩=some (.bool Zc)∧w'.cell? ⟨Wy,2,none⟩=some (.slice Ze Za.length Zd)∧w'.cell? ⟨Xs,0,none⟩=some (.slice (some Jx) Zh.length co36)∧w'.cell? ⟨Xs,1,none⟩=some (u459001)∧w'.cell? (Ja.add ((Zv).toNat * 2))=some (.int .i64 ((rd_T113 l2 Zv).f0))∧w'.cell? ⟨(Ja.add ((Zv).toNat * 2)).block,(Ja.add ((Zv).toNat * 2)).off+1,none⟩=some (.bool ((rd_T113 l2 Zv).f1))∧w'.cell? (Jx.add (Zg).toNat)=some (.int .i64 (rd Zh Zg))∧w'.cell? (Ja.add ((Zv).toNat * 2))=some (.int .i64 ((rd_T113 l2 Zv).f0))∧w'.cell? ⟨(Ja.add ((Zv).toNat * 2)).block,(Ja.add ((Zv).toNat * 2)).off+1,none⟩=some (.bool ((rd_T113 l2 Zv).f1))) (ds:=[]) #[false,false,false,false,false,false,false,false,false,false,false,false,false,false,false,false,false,false,false,false,false,false,false] (by kernel_rfl) rfl rfl ⟨(Yc Zk.out 0).trans rfl,(Yc Zk.out 1).trans rfl,(Yc Zk.out 2).trans rfl,(Yc Zi.out 0).trans rfl,(Yc Zi.out 1).trans rfl,((HB.out.cell (Yb w _ Vc)).trans Vc),((HB.out.cell (Yb w _ Vb)).trans Vb),hx467_0,((HB.out.cell (Yb w _ Ur)).trans Ur),((HB.out.cell (Yb w _ Uq)).trans Uq)⟩ (fun hHeld=> ?_);refine with_tabW ebbtideref08_sought.tab10 ebbtideref08_sought.bits10 (fun HT_ HW_=> ?_);generalize wr.drew=w35 at HO_459000 HO_459001 Zk Xa Zi HB Uo Up hx467_0 hx468_0 hx468_1 hHeld ⊢;refine pure_ (i:=1) (N:=some 36) (v:= ?_) (a':= ?_) #[false,true,false,false,false,false,false,false,false,false,false,false,false,false,false,false,false,false,false,false,false,false,false] rfl rfl (any_of HT_.out (by kernel_rfl)) (fun _ _ _ h=>h) (Or.inl ⟨by rfl,?_⟩) ?_ ?_
     rotate_left
     ·intro w'
      go_simp
      with_reducible rfl
     rotate_left
     ·simp only[Act.put,List.setIfInBounds_toArray,List.set_cons_zero,List.set_cons_succ,i64_w,i32_w]
      rfl
     refine pure_ (i:=2) (N:=some 37) (v:= ?_) (a':= ?_) #[false,true,true,false,false,false,false,false,false,false,false,false,false,false,false,false,false,false,false,false,false,false,false] rfl rfl (any_of HT_.out (by kernel_rfl)) (fun _ _ _ h=>h) (Or.inl ⟨by rfl,?_⟩) ?_ ?_
     rotate_left
     ·intro w'
      go_simp
      with_reducible rfl
     rotate_left
     ·simp only[Act.put,List.setIfInBounds_toArray,List.set_cons_zero,List.set_cons_succ,i64_w,i32_w]
      rfl
     refine pure_ (i:=3) (N:=some 38) (v:= ?_) (a':= ?_) #[false,true,true,true,false,false,false,false,false,false,false,false,false,false,false,false,false,false,false,false,false,false,false] rfl rfl (any_of HT_.out (by kernel_rfl)) (fun _ _ _ h=>h) (Or.inl ⟨by rfl,?_⟩) ?_ ?_
     rotate_left
     ·intro w'
      go_simp
      with_reducible rfl
     rotate_left
     ·simp only[Act.put,List.setIfInBounds_toArray,List.set_cons_zero,List.set_cons_succ,i64_w,i32_w]
      rfl
     refine pure_ (i:=6) (N:=some 41) (v:= ?_) (a':= ?_) #[false,true,true,true,false,false,true,false,false,false,false,false,false,false,false,false,false,false,false,false,false,false,false] rfl rfl (any_of HT_.out (by kernel_rfl)) (fun _ _ _ h=>h) (Or.inl ⟨by rfl,?_⟩) ?_ ?_
     rotate_left
     ·intro w'
      go_simp
      with_reducible rfl
     rotate_left
     ·simp only[Act.put,List.setIfInBounds_toArray,List.set_cons_zero,List.set_cons_succ,i64_w,i32_w]
      rfl
     refine pure_ (i:=8) (N:=some 43) (v:= ?_) (a':= ?_) #[false,true,true,true,false,false,true,false,true,false,false,false,false,false,false,false,false,false,false,false,false,false,false] rfl rfl (any_of HT_.out (by kernel_rfl)) (fun _ _ _ h=>h) (Or.inl ⟨by rfl,?_⟩) ?_ ?_
     rotate_left
     ·intro w'
      go_simp
      with_reducible rfl
     rotate_left
     ·simp only[Act.put,List.setIfInBounds_toArray,List.set_cons_zero,List.set_cons_succ,i64_w,i32_w]
      rfl
     refine take_ (i:=0) (N:=some 35) (v:= ?_) (a':= ?_) #[true,true,true,true,false,false,true,false,true,false,false,false,false,false,false,false,false,false,false,false,false,false,false] rfl rfl (take_ofW HT_.out HW_.out (by kernel_rfl)) (fun _ _ _ h=>h) (Or.inl ⟨by rfl,?_⟩) hHeld ?_ ?_
     rotate_left
     ·rintro w' ⟨s0,s1,s2,s3,s4,s5,s6,s7,s8,s9⟩
      go_simp
      with_reducible rfl
     rotate_left
     ·simp only[Act.put,List.setIfInBounds_toArray,List.set_cons_zero,List.set_cons_succ,i64_w,i32_w]
      rfl
     refine take_ (i:=4) (N:=some 39) (v:= ?_) (a':= ?_) #[true,true,true,true,true,false,true,false,true,false,false,false,false,false,false,false,false,false,false,false,false,false,false] rfl rfl (take_ofW HT_.out HW_.out (by kernel_rfl)) (fun _ _ _ h=>h) (Or.inl ⟨by rfl,?_⟩) hHeld ?_ ?_
     rotate_left
     ·rintro w' ⟨s0,s1,s2,s3,s4,s5,s6,s7,s8,s9⟩
      go_simp
      with_reducible rfl
     rotate_left
     ·simp only[Act.put,List.setIfInBounds_toArray,List.set_cons_zero,List.set_cons_succ,i64_w,i32_w]
      rfl
     refine take_ (i:=7) (N:=some 42) (v:= ?_) (a':= ?_) #[true,true,true,true,true,false,true,true,true,false,false,false,false,false,false,false,false,false,false,false,false,false,false] rfl rfl (take_ofW HT_.out HW_.out (by kernel_rfl)) (fun _ _ _ h=>h) (Or.inl ⟨by rfl,?_⟩) hHeld ?_ ?_
     rotate_left
     ·rintro w' ⟨s0,s1,s2,s3,s4,s5,s6,s7,s8,s9⟩
      go_simp
      with_reducible rfl
     rotate_left
     ·simp only[Act.put,List.setIfInBounds_toArray,List.set_cons_zero,List.set_cons_succ,i64_w,i32_w]
      rfl
     refine pure_ (i:=9) (N:=some 44) (v:= ?_) (a':= ?_) #[true,true,true,true,true,false,true,true,true,true,false,false,false,false,false,false,false,false,false,false,false,false,false] rfl rfl (any_of HT_.out (by kernel_rfl)) (fun _ _ _ h=>h) (Or.inl ⟨by rfl,?_⟩) ?_ ?_
     rotate_left
     ·intro w'
      go_simp
      with_reducible rfl
     rotate_left
     ·simp only[Act.put,List.setIfInBounds_toArray,List.set_cons_zero,List.set_cons_succ,i64_w,i32_w]
      rfl
     refine take_ (i:=10) (N:=some 45) (v:= ?_) (a':= ?_) #[true,true,true,true,true,false,true,true,true,true,true,false,false,false,false,false,false,false,false,false,false,false,false] rfl rfl (take_ofW HT_.out HW_.out (by kernel_rfl)) (fun _ _ _ h=>h) (Or.inl ⟨by rfl,?_⟩) hHeld ?_ ?_
     rotate_left
     ·rintro w' ⟨s0,s1,s2,s3,s4,s5,s6,s7,s8,s9⟩
      go_simp
      with_reducible rfl
     rotate_left
     ·simp only[Act.put,List.setIfInBounds_toArray,List.set_cons_zero,List.set_cons_succ,i64_w,i32_w]
      rfl
     refine one_ (i:=5) (N:=some 40) #[true,true,true,true,true,true,true,true,true,true,true,false,false,false,false,false,false,false,false,false,false,false,false] rfl rfl (one_of HT_.out (by kernel_rfl)) (by decide) (fun K hK=> ?_);refine goes_ Try.func52 (by kernel_rfl) rfl #[.agg #[.int .i64 Zb, .bool Zc, .slice Ze Za.length Zd], .agg #[.int .i64 ((rd_T113 l2 Zv).f0), .bool ((rd_T113 l2 Zv).f1)]] (by rfl) rfl rfl (by(try simp only[List.map_toArray,List.map_cons,List.map_nil]);first|done|rfl|(simp only[List.length_drop,List.length_take];rfl)) ?_
     with_reducible refine(ebbtideref07_From.calls Zb Zc _ _ Za ((rd_T113 l2 Zv).f0) ((rd_T113 l2 Zv).f1) t466 _ ?side1 ?side2 A25.out).mono ?_
     (case side1=>repeat(first|exact(Yt Zo.out HB.out)|(with_reducible refine Kd.C_alloc ?_ _)|(with_reducible refine Kd.C_drewN ?_ _)|(with_reducible refine Kd.C_drew ?_)))
     (case side2=>exact Zz.out)
     rintro e w37 ⟨rfl,hb⟩;have HS7_:=(hb.cell (Yb _ _ (hHeld.2.2.2.2.2.2.2.1))).trans (hHeld.2.2.2.2.2.2.2.1);refine⟨_,rfl,?_⟩;have n0_:=Ya (Ys (by(with_reducible repeat(first|apply Yr|apply Yq|apply Yp));exact HO_459000.out) hb);have n1_:=Ya (Ys (by(with_reducible repeat(first|apply Yr|apply Yq|apply Yp));exact HO_459001.out) hb);have n2_:=Ya (Yn (g:=Wy) (o:= .cells #[.int .i64 Zb, .bool Zc, .slice Ze Za.length Zd] 32 (0,0)) (by(with_reducible repeat(first|refine Yl ?_ _|refine Ym ?_|refine Yj ?_ _));exact Zk.out) hb);have n3_:=Ya (Yn (g:=Ub) (o:= .cells #[.slice none 0 0, .slice none 0 0] 109 (0,0)) (by(with_reducible repeat(first|refine Yl ?_ _|refine Ym ?_|refine Yj ?_ _));exact Xa.out) hb);have n4_:=Ya (Yn (g:=Xs) (o:= .cells #[.slice (some Jx) Zh.length co36,u459001] 109 (0,0)) (by(with_reducible repeat(first|refine Yl ?_ _|refine Ym ?_|refine Yj ?_ _));exact Zi.out) hb);have n5_:=Ya (Yk (by repeat(first|(with_reducible first|exact HB.out|apply Ye|apply Yd|apply Yg|refine Yh ?_ Uf.out|refine Yh ?_ Uz.out|refine Yh ?_ GE458.out)|exact HB.out)) hb);clear HO_459000;clear HO_459001;clear Zk;clear Xa;clear Zi;clear HB;have HO_459000:=n0_;have HO_459001:=n1_;have Zk:=n2_;have Xa:=n3_;have Zi:=n4_;have HB:=n5_;clear n0_ n1_ n2_ n3_ n4_ n5_
     (try clear hb)
     (try clear hb2)
     (try clear hk)
     (try clear hi)
     refine hK.out _ _ ⟨(Yc Zk.out 0).trans rfl,(Yc Zk.out 1).trans rfl,(Yc Zk.out 2).trans rfl,(Yc Zi.out 0).trans rfl,(Yc Zi.out 1).trans rfl,((HB.out.cell (Yb w _ Vc)).trans Vc),((HB.out.cell (Yb w _ Vb)).trans Vb),HS7_,((HB.out.cell (Yb w _ Ur)).trans Ur),((HB.out.cell (Yb w _ Uq)).trans Uq)⟩ (fun hHeld=> ?_);clear hK K;refine norm_ (a':= ?_) ?_ ?_
     rotate_left
     ·show Act.put _ (some 40) _=_
      simp only[Act.put,List.setIfInBounds_toArray,List.set_cons_zero,List.set_cons_succ,i64_w,i32_w];rfl
     refine pure_ (i:=11) (N:=some 46) (v:= ?_) (a':= ?_) #[true,true,true,true,true,true,true,true,true,true,true,true,false,false,false,false,false,false,false,false,false,false,false] rfl rfl (any_of HT_.out (by kernel_rfl)) (fun _ _ _ h=>h) (Or.inl ⟨by rfl,?_⟩) ?_ ?_
     rotate_left
     ·intro w'
      go_simp
      with_reducible rfl
     rotate_left
     ·simp only[Act.put,List.setIfInBounds_toArray,List.set_cons_zero,List.set_cons_succ,i64_w,i32_w]
      rfl
     refine pure_ (i:=12) (N:=some 47) (v:= ?_) (a':= ?_) #[true,true,true,true,true,true,true,true,true,true,true,true,true,false,false,false,false,false,false,false,false,false,false] rfl rfl (any_of HT_.out (by kernel_rfl)) (fun _ _ _ h=>h) (Or.inl ⟨by rfl,?_⟩) ?_ ?_
     rotate_left
     ·intro w'
      go_simp
      with_reducible rfl
     rotate_left
     ·simp only[Act.put,List.setIfInBounds_toArray,List.set_cons_zero,List.set_cons_succ,i64_w,i32_w]
      rfl
     refine pure_ (i:=15) (N:=some 50) (v:= ?_) (a':= ?_) #[true,true,true,true,true,true,true,true,true,true,true,true,true,false,false,true,false,false,false,false,false,false,false] rfl rfl (any_of HT_.out (by kernel_rfl)) (fun _ _ _ h=>h) (Or.inl ⟨by rfl,?_⟩) ?_ ?_
     rotate_left
     ·intro w'
      go_simp
      with_reducible rfl
     rotate_left
     ·simp only[Act.put,List.setIfInBounds_toArray,List.set_cons_zero,List.set_cons_succ,i64_w,i32_w]
      rfl
     refine pure_ (i:=16) (N:=some 51) (v:= ?_) (a':= ?_) #[true,true,true,true,true,true,true,true,true,true,true,true,true,false,false,true,true,false,false,false,false,false,false] rfl rfl (any_of HT_.out (by kernel_rfl)) (fun _ _ _ h=>h) (Or.inl ⟨by rfl,?_⟩) ?_ ?_
     rotate_left
     ·intro w'
      go_simp
      with_reducible rfl
     rotate_left
     ·simp only[Act.put,List.setIfInBounds_toArray,List.set_cons_zero,List.set_cons_succ,i64_w,i32_w]
      rfl
     refine pure_ (i:=17) (N:=some 52) (v:= ?_) (a':= ?_) #[true,true,true,true,true,true,true,true,true,true,true,true,true,false,false,true,true,true,false,false,false,false,false] rfl rfl (any_of HT_.out (by kernel_rfl)) (fun _ _ _ h=>h) (Or.inl ⟨by rfl,?_⟩) ?_ ?_
     rotate_left
     ·intro w'
      go_simp
      with_reducible rfl
     rotate_left
     ·simp only[Act.put,List.setIfInBounds_toArray,List.set_cons_zero,List.set_cons_succ,i64_w,i32_w]
      rfl
     refine take_ (i:=13) (N:=some 48) (v:= ?_) (a':= ?_) #[true,true,true,true,true,true,true,true,true,true,true,true,true,true,false,true,true,true,false,false,false,false,false] rfl rfl (take_ofW HT_.out HW_.out (by kernel_rfl)) (fun _ _ _ h=>h) (Or.inl ⟨by rfl,?_⟩) hHeld ?_ ?_
     rotate_left
     ·rintro w' ⟨s0,s1,s2,s3,s4,s5,s6,s7,s8,s9⟩
      go_simp
      with_reducible rfl
     rotate_left
     ·simp only[Act.put,List.setIfInBounds_toArray,List.set_cons_zero,List.set_cons_succ,i64_w,i32_w]
      rfl
     refine take_ (i:=14) (N:=some 49) (v:= ?_) (a':= ?_) #[true,true,true,true,true,true,true,true,true,true,true,true,true,true,true,true,true,true,false,false,false,false,false] rfl rfl (take_ofW HT_.out HW_.out (by kernel_rfl)) (fun _ _ _ h=>h) (Or.inl ⟨by rfl,?_⟩) hHeld ?_ ?_
     rotate_left
     ·rintro w' ⟨s0,s1,s2,s3,s4,s5,s6,s7,s8,s9⟩
      go_simp
      with_reducible rfl
     rotate_left
     ·simp only[Act.put,List.setIfInBounds_toArray,List.set_cons_zero,List.set_cons_succ,i64_w,i32_w]
      rfl
     refine take_ (i:=18) (N:=some 53) (v:= ?_) (a':= ?_) #[true,true,true,true,true,true,true,true,true,true,true,true,true,true,true,true,true,true,true,false,false,false,false] rfl rfl (take_ofW HT_.out HW_.out (by kernel_rfl)) (fun _ _ _ h=>h) (Or.inl ⟨by rfl,?_⟩) hHeld ?_ ?_
     rotate_left
     ·rintro w' ⟨s0,s1,s2,s3,s4,s5,s6,s7,s8,s9⟩
      go_simp
      with_reducible rfl
     rotate_left
     ·simp only[Act.put,List.setIfInBounds_toArray,List.set_cons_zero,List.set_cons_succ,i64_w,i32_w]
      rfl
     refine one_ (i:=19) (N:=some 54) #[true,true,true,true,true,true,true,true,true,true,true,true,true,true,true,true,true,true,true,true,false,false,false] rfl rfl (one_of HT_.out (by kernel_rfl)) (by decide) (fun K hK=> ?_);refine goes_ Try.func58 (by kernel_rfl) rfl #[.agg #[.int .i64 Zb, .bool Zc, .slice Ze Za.length Zd], .agg #[.int .i64 ((rd_T113 l2 Zv).f0), .bool ((rd_T113 l2 Zv).f1)]] (by rfl) rfl rfl (by(try simp only[List.map_toArray,List.map_cons,List.map_nil]);first|done|rfl|(simp only[List.length_drop,List.length_take];rfl)) ?_
     with_reducible refine(ebbtideref07_To.calls Zb Zc _ _ Za ((rd_T113 l2 Zv).f0) ((rd_T113 l2 Zv).f1) t469 _ ?side1 ?side2 A29.out).mono ?_
     (case side1=>repeat(first|exact(Yt Zo.out HB.out)|(with_reducible refine Kd.C_alloc ?_ _)|(with_reducible refine Kd.C_drewN ?_ _)|(with_reducible refine Kd.C_drew ?_)))
     (case side2=>exact Zz.out)
     rintro e w38 ⟨rfl,hb⟩;have HS7_:=(hb.cell (Yb _ _ (hHeld.2.2.2.2.2.2.2.1))).trans (hHeld.2.2.2.2.2.2.2.1);refine⟨_,rfl,?_⟩;have n0_:=Ya (Ys (by(with_reducible repeat(first|apply Yr|apply Yq|apply Yp));exact HO_459000.out) hb);have n1_:=Ya (Ys (by(with_reducible repeat(first|apply Yr|apply Yq|apply Yp));exact HO_459001.out) hb);have n2_:=Ya (Yn (g:=Wy) (o:= .cells #[.int .i64 Zb, .bool Zc, .slice Ze Za.length Zd] 32 (0,0)) (by(with_reducible repeat(first|refine Yl ?_ _|refine Ym ?_|refine Yj ?_ _));exact Zk.out) hb);have n3_:=Ya (Yn (g:=Ub) (o:= .cells #[.slice none 0 0, .slice none 0 0] 109 (0,0)) (by(with_reducible repeat(first|refine Yl ?_ _|refine Ym ?_|refine Yj ?_ _));exact Xa.out) hb);have n4_:=Ya (Yn (g:=Xs) (o:= .cells #[.slice (some Jx) Zh.length co36,u459001] 109 (0,0)) (by(with_reducible repeat(first|refine Yl ?_ _|refine Ym ?_|refine Yj ?_ _));exact Zi.out) hb);have n5_:=Ya (Yk (by repeat(first|(with_reducible first|exact HB.out|apply Ye|apply Yd|apply Yg|refine Yh ?_ Uf.out|refine Yh ?_ Uz.out|refine Yh ?_ GE458.out)|exact HB.out)) hb);clear HO_459000;clear HO_459001;clear Zk;clear Xa;clear Zi;clear HB;have HO_459000:=n0_;have HO_459001:=n1_;have Zk:=n2_;have Xa:=n3_;have Zi:=n4_;have HB:=n5_;clear n0_ n1_ n2_ n3_ n4_ n5_
     (try clear hb)
     (try clear hb2)
     (try clear hk)
     (try clear hi)
     obtain⟨Ao39,co39,eo39⟩:=Kd.R_slice HO_459001.out
     (first|subst eo39|(injection eo39 with f1_ f2_ f3_;have f4_:=f1_.symm;have f5_:=f3_.symm;clear f1_ f2_ f3_;subst f4_;subst f5_))
     refine hK.out _ _ ⟨(Yc Zk.out 0).trans rfl,(Yc Zk.out 1).trans rfl,(Yc Zk.out 2).trans rfl,(Yc Zi.out 0).trans rfl,(Yc Zi.out 1).trans rfl,((HB.out.cell (Yb w _ Vc)).trans Vc),((HB.out.cell (Yb w _ Vb)).trans Vb),HS7_,((HB.out.cell (Yb w _ Ur)).trans Ur),((HB.out.cell (Yb w _ Uq)).trans Uq)⟩ (fun hHeld=> ?_);clear hK K;refine norm_ (a':= ?_) ?_ ?_
     rotate_left
     ·show Act.put _ (some 54) _=_
      simp only[Act.put,List.setIfInBounds_toArray,List.set_cons_zero,List.set_cons_succ,i64_w,i32_w];rfl
     refine one_ (i:=20) (N:=some 55) #[true,true,true,true,true,true,true,true,true,true,true,true,true,true,true,true,true,true,true,true,true,false,false] rfl rfl (one_of HT_.out (by kernel_rfl)) (by decide) (fun K hK=> ?_);refine goes_ Try.func51 (by kernel_rfl) rfl #[.agg #[.slice (some Jx) Zh.length co36, .slice Ao39 Zq.length co39], .int .i64 t469] (by rfl) rfl rfl (by(try simp only[List.map_toArray,List.map_cons,List.map_nil]);first|done|rfl|(simp only[List.length_drop,List.length_take];rfl)) ?_
     with_reducible refine(ebbtideref08_found_has.calls k2 _ _ Zh _ _ Zq t469 t470 _ ?side1 ?side2 ?side3 ?side4 A30.out).mono ?_
     (case side1=>repeat(first|exact(Kd.R_reads' HO_459000.out).2.2|(with_reducible refine Kd.C_alloc ?_ _)|(with_reducible refine Kd.C_drewN ?_ _)|(with_reducible refine Kd.C_drew ?_)))
     (case side2=>exact(Kd.R_reads' HO_459000.out).2.1)
     (case side3=>repeat(first|exact(Kd.R_reads' HO_459001.out).2.2|(with_reducible refine Kd.C_alloc ?_ _)|(with_reducible refine Kd.C_drewN ?_ _)|(with_reducible refine Kd.C_drew ?_)))
     (case side4=>exact(Kd.R_reads' HO_459001.out).2.1)
     rintro e w40 ⟨rfl,hb⟩;have HS7_:=(hb.cell (Yb _ _ (hHeld.2.2.2.2.2.2.2.1))).trans (hHeld.2.2.2.2.2.2.2.1);refine⟨_,rfl,?_⟩;have n0_:=Ya (Ys (by(with_reducible repeat(first|apply Yr|apply Yq|apply Yp));exact HO_459000.out) hb);have n1_:=Ya (Ys (by(with_reducible repeat(first|apply Yr|apply Yq|apply Yp));exact HO_459001.out) hb);have n2_:=Ya (Yn (g:=Wy) (o:= .cells #[.int .i64 Zb, .bool Zc, .slice Ze Za.length Zd] 32 (0,0)) (by(with_reducible repeat(first|refine Yl ?_ _|refine Ym ?_|refine Yj ?_ _));exact Zk.out) hb);have n3_:=Ya (Yn (g:=Ub) (o:= .cells #[.slice none 0 0, .slice none 0 0] 109 (0,0)) (by(with_reducible repeat(first|refine Yl ?_ _|refine Ym ?_|refine Yj ?_ _));exact Xa.out) hb);have n4_:=Ya (Yn (g:=Xs) (o:= .cells #[.slice (some Jx) Zh.length co36, .slice Ao39 Zq.length co39] 109 (0,0)) (by(with_reducible repeat(first|refine Yl ?_ _|refine Ym ?_|refine Yj ?_ _));exact Zi.out) hb);have n5_:=Ya (Yk (by repeat(first|(with_reducible first|exact HB.out|apply Ye|apply Yd|apply Yg|refine Yh ?_ Uf.out|refine Yh ?_ Uz.out|refine Yh ?_ GE458.out)|exact HB.out)) hb);clear HO_459000;clear HO_459001;clear Zk;clear Xa;clear Zi;clear HB;have HO_459000:=n0_;have HO_459001:=n1_;have Zk:=n2_;have Xa:=n3_;have Zi:=n4_;have HB:=n5_;clear n0_ n1_ n2_ n3_ n4_ n5_
     (try clear hb)
     (try clear hb2)
     (try clear hk)
     (try clear hi)
     refine hK.out _ _ ⟨(Yc Zk.out 0).trans rfl,(Yc Zk.out 1).trans rfl,(Yc Zk.out 2).trans rfl,(Yc Zi.out 0).trans rfl,(Yc Zi.out 1).trans rfl,((HB.out.cell (Yb w _ Vc)).trans Vc),((HB.out.cell (Yb w _ Vb)).trans Vb),HS7_,((HB.out.cell (Yb w _ Ur)).trans Ur),((HB.out.cell (Yb w _ Uq)).trans Uq)⟩ (fun hHeld=> ?_);clear hK K;refine norm_ (a':= ?_) ?_ ?_
     rotate_left
     ·show Act.put _ (some 55) _=_
      simp only[Act.put,List.setIfInBounds_toArray,List.set_cons_zero,List.set_cons_succ,i64_w,i32_w];rfl
     refine pure_ (i:=21) (N:=some 56) (v:= ?_) (a':= ?_) #[true,true,true,true,true,true,true,true,true,true,true,true,true,true,true,true,true,true,true,true,true,true,false] rfl rfl (any_of HT_.out (by kernel_rfl)) (fun _ _ _ h=>h) (Or.inl ⟨by rfl,?_⟩) ?_ ?_
     rotate_left
     ·intro w'
      go_simp
      with_reducible rfl
     rotate_left
     ·simp only[Act.put,List.setIfInBounds_toArray,List.set_cons_zero,List.set_cons_succ,i64_w,i32_w]
      rfl
     refine pure_ (i:=22) (N:=some 57) (v:= ?_) (a':= ?_) #[true,true,true,true,true,true,true,true,true,true,true,true,true,true,true,true,true,true,true,true,true,true,true] rfl rfl (any_of HT_.out (by kernel_rfl)) (fun _ _ _ h=>h) (Or.inl ⟨by rfl,?_⟩) ?_ ?_
     rotate_left
     ·intro w'
      go_simp
      with_reducible rfl
     rotate_left
     ·simp only[Act.put,List.setIfInBounds_toArray,List.set_cons_zero,List.set_cons_succ,i64_w,i32_w]
      rfl
     refine done_ (done_of HT_.out (by kernel_rfl)) ?_;try go_wp2
     have n0_:=Ya (Yp HO_459000.out);have n1_:=Ya (Yp HO_459001.out);have n2_:=Ya (Ym Zk.out);have n3_:=Ya (Ym Xa.out);have n4_:=Ya (Ym Zi.out);have n5_:=Ya (Yg HB.out);clear HO_459000;clear HO_459001;clear Zk;clear Xa;clear Zi;clear HB;have HO_459000:=n0_;have HO_459001:=n1_;have Zk:=n2_;have Xa:=n3_;have Zi:=n4_;have HB:=n5_;clear n0_ n1_ n2_ n3_ n4_ n5_;have p471:0≤(Zv:Int):=Yu (by first|(with_reducible assumption)|assumption);have q471:Zv<(l2.length:Int):=Yu (by first|(with_reducible assumption)|assumption);obtain⟨ad471,e471,hx471_0,hx471_1⟩:=at_T113 HR2.out Zv p471 q471;have hw471_1:=hx471_1;have hw471_0:=hx471_0;obtain rfl:Ja=ad471:=(by injection e471);replace hx471_0:=(HB.out.cell (Yb w _ hx471_0)).trans hx471_0;replace hx471_1:=(HB.out.cell (Yb w _ hx471_1)).trans hx471_1;replace p471:=eq_true p471;replace q471:=eq_true q471;refine start_ (n:=12) (S:=fun w'=>w'.cell? ⟨Xs,0,none⟩=some (.slice (some Jx) Zh.length co36)∧w'.cell? ⟨Xs,1,none⟩=some (.slice Ao39 Zq.length co39)∧w'.cell? ⟨Wy,0,none⟩=some (.int .i64 Zb)∧w'.cell? ⟨Wy,1,none⟩=some (.bool Zc)∧w'.cell? ⟨Wy,2,none⟩=some (.slice Ze Za.length Zd)∧w'.cell? (Ja.add ((Zv).toNat * 2))=some (.int .i64 ((rd_T113 l2 Zv).f0))∧w'.cell? ⟨(Ja.add ((Zv).toNat * 2)).block,(Ja.add ((Zv).toNat * 2)).off+1,none⟩=some (.bool ((rd_T113 l2 Zv).f1))) (ds:=[11]) #[false,false,false,false,false,false,false,false,false,false,false,false] (by kernel_rfl) rfl rfl ⟨(Yc Zi.out 0).trans rfl,(Yc Zi.out 1).trans rfl,(Yc Zk.out 0).trans rfl,(Yc Zk.out 1).trans rfl,(Yc Zk.out 2).trans rfl,((HB.out.cell (Yb w _ hw471_0)).trans hw471_0),((HB.out.cell (Yb w _ hw471_1)).trans hw471_1)⟩ (fun hHeld=> ?_);refine with_tabW ebbtideref08_sought.tab11 ebbtideref08_sought.bits11 (fun HT_ HW_=> ?_);generalize w40.drew=w41 at HO_459000 HO_459001 Zk Xa Zi HB hx471_0 hx471_1 hHeld ⊢;refine pure_ (i:=0) (N:=some 58) (v:= ?_) (a':= ?_) #[true,false,false,false,false,false,false,false,false,false,false,false] rfl rfl (any_of HT_.out (by kernel_rfl)) (fun _ _ _ h=>h) (Or.inl ⟨by rfl,?_⟩) ?_ ?_
     rotate_left
     ·intro w'
      go_simp
      with_reducible rfl
     rotate_left
     ·simp only[Act.put,List.setIfInBounds_toArray,List.set_cons_zero,List.set_cons_succ,i64_w,i32_w]
      rfl
     refine pure_ (i:=3) (N:=some 61) (v:= ?_) (a':= ?_) #[true,false,false,true,false,false,false,false,false,false,false,false] rfl rfl (any_of HT_.out (by kernel_rfl)) (fun _ _ _ h=>h) (Or.inl ⟨by rfl,?_⟩) ?_ ?_
     rotate_left
     ·intro w'
      go_simp
      with_reducible rfl
     rotate_left
     ·simp only[Act.put,List.setIfInBounds_toArray,List.set_cons_zero,List.set_cons_succ,i64_w,i32_w]
      rfl
     refine pure_ (i:=4) (N:=some 62) (v:= ?_) (a':= ?_) #[true,false,false,true,true,false,false,false,false,false,false,false] rfl rfl (any_of HT_.out (by kernel_rfl)) (fun _ _ _ h=>h) (Or.inl ⟨by rfl,?_⟩) ?_ ?_
     rotate_left
     ·intro w'
      go_simp
      with_reducible rfl
     rotate_left
     ·simp only[Act.put,List.setIfInBounds_toArray,List.set_cons_zero,List.set_cons_succ,i64_w,i32_w]
      rfl
     refine pure_ (i:=5) (N:=some 63) (v:= ?_) (a':= ?_) #[true,false,false,true,true,true,false,false,false,false,false,false] rfl rfl (any_of HT_.out (by kernel_rfl)) (fun _ _ _ h=>h) (Or.inl ⟨by rfl,?_⟩) ?_ ?_
     rotate_left
     ·intro w'
      go_simp
      with_reducible rfl
     rotate_left
     ·simp only[Act.put,List.setIfInBounds_toArray,List.set_cons_zero,List.set_cons_succ,i64_w,i32_w]
      rfl
     refine take_ (i:=1) (N:=some 59) (v:= ?_) (a':= ?_) #[true,true,false,true,true,true,false,false,false,false,false,false] rfl rfl (take_ofW HT_.out HW_.out (by kernel_rfl)) (fun _ _ _ h=>h) (Or.inl ⟨by rfl,?_⟩) hHeld ?_ ?_
     rotate_left
     ·rintro w' ⟨s0,s1,s2,s3,s4,s5,s6⟩
      go_simp
      with_reducible rfl
     rotate_left
     ·simp only[Act.put,List.setIfInBounds_toArray,List.set_cons_zero,List.set_cons_succ,i64_w,i32_w]
      rfl
     refine take_ (i:=2) (N:=some 60) (v:= ?_) (a':= ?_) #[true,true,true,true,true,true,false,false,false,false,false,false] rfl rfl (take_ofW HT_.out HW_.out (by kernel_rfl)) (fun _ _ _ h=>h) (Or.inl ⟨by rfl,?_⟩) hHeld ?_ ?_
     rotate_left
     ·rintro w' ⟨s0,s1,s2,s3,s4,s5,s6⟩
      go_simp
      with_reducible rfl
     rotate_left
     ·simp only[Act.put,List.setIfInBounds_toArray,List.set_cons_zero,List.set_cons_succ,i64_w,i32_w]
      rfl
     refine take_ (i:=6) (N:=some 64) (v:= ?_) (a':= ?_) #[true,true,true,true,true,true,true,false,false,false,false,false] rfl rfl (take_ofW HT_.out HW_.out (by kernel_rfl)) (fun _ _ _ h=>h) (Or.inl ⟨by rfl,?_⟩) hHeld ?_ ?_
     rotate_left
     ·rintro w' ⟨s0,s1,s2,s3,s4,s5,s6⟩
      go_simp
      with_reducible rfl
     rotate_left
     ·simp only[Act.put,List.setIfInBounds_toArray,List.set_cons_zero,List.set_cons_succ,i64_w,i32_w]
      rfl
     refine one_ (i:=7) (N:=some 65) #[true,true,true,true,true,true,true,true,false,false,false,false] rfl rfl (one_of HT_.out (by kernel_rfl)) (by decide) (fun K hK=> ?_);refine goes_ Try.func58 (by kernel_rfl) rfl #[.agg #[.int .i64 Zb, .bool Zc, .slice Ze Za.length Zd], .agg #[.int .i64 ((rd_T113 l2 Zv).f0), .bool ((rd_T113 l2 Zv).f1)]] (by rfl) rfl rfl (by(try simp only[List.map_toArray,List.map_cons,List.map_nil]);first|done|rfl|(simp only[List.length_drop,List.length_take];rfl)) ?_
     with_reducible refine(ebbtideref07_To.calls Zb Zc _ _ Za ((rd_T113 l2 Zv).f0) ((rd_T113 l2 Zv).f1) t472 _ ?side1 ?side2 A32.out).mono ?_
     (case side1=>repeat(first|exact(Yt Zo.out HB.out)|(with_reducible refine Kd.C_alloc ?_ _)|(with_reducible refine Kd.C_drewN ?_ _)|(with_reducible refine Kd.C_drew ?_)))
     (case side2=>exact Zz.out)
     rintro e w42 ⟨rfl,hb⟩;refine⟨_,rfl,?_⟩;have n0_:=Ya (Ys (by(with_reducible repeat(first|apply Yr|apply Yq|apply Yp));exact HO_459000.out) hb);have n1_:=Ya (Ys (by(with_reducible repeat(first|apply Yr|apply Yq|apply Yp));exact HO_459001.out) hb);have n2_:=Ya (Yn (g:=Wy) (o:= .cells #[.int .i64 Zb, .bool Zc, .slice Ze Za.length Zd] 32 (0,0)) (by(with_reducible repeat(first|refine Yl ?_ _|refine Ym ?_|refine Yj ?_ _));exact Zk.out) hb);have n3_:=Ya (Yn (g:=Ub) (o:= .cells #[.slice none 0 0, .slice none 0 0] 109 (0,0)) (by(with_reducible repeat(first|refine Yl ?_ _|refine Ym ?_|refine Yj ?_ _));exact Xa.out) hb);have n4_:=Ya (Yn (g:=Xs) (o:= .cells #[.slice (some Jx) Zh.length co36, .slice Ao39 Zq.length co39] 109 (0,0)) (by(with_reducible repeat(first|refine Yl ?_ _|refine Ym ?_|refine Yj ?_ _));exact Zi.out) hb);have n5_:=Ya (Yk (by repeat(first|(with_reducible first|exact HB.out|apply Ye|apply Yd|apply Yg|refine Yh ?_ Uf.out|refine Yh ?_ Uz.out|refine Yh ?_ GE458.out)|exact HB.out)) hb);clear HO_459000;clear HO_459001;clear Zk;clear Xa;clear Zi;clear HB;have HO_459000:=n0_;have HO_459001:=n1_;have Zk:=n2_;have Xa:=n3_;have Zi:=n4_;have HB:=n5_;clear n0_ n1_ n2_ n3_ n4_ n5_
     (try clear hb)
     (try clear hb2)
     (try clear hk)
     (try clear hi)
     refine hK.out _ _ ⟨(Yc Zi.out 0).trans rfl,(Yc Zi.out 1).trans rfl,(Yc Zk.out 0).trans rfl,(Yc Zk.out 1).trans rfl,(Yc Zk.out 2).trans rfl,((HB.out.cell (Yb w _ hw471_0)).trans hw471_0),((HB.out.cell (Yb w _ hw471_1)).trans hw471_1)⟩ (fun hHeld=> ?_);clear hK K;refine norm_ (a':= ?_) ?_ ?_
     rotate_left
     ·show Act.put _ (some 65) _=_
      simp only[Act.put,List.setIfInBounds_toArray,List.set_cons_zero,List.set_cons_succ,i64_w,i32_w];rfl
     refine one_ (i:=8) (N:=some 66) #[true,true,true,true,true,true,true,true,true,false,false,false] rfl rfl (one_of HT_.out (by kernel_rfl)) (by decide) (fun K hK=> ?_);refine value_ (w1:= ?_) (v:= ?_) (by rfl) rfl ?_ ?_
     rotate_left 2
     ·go_simp
      constructor
      ·rfl
      ·rfl
     refine hK.out _ _ ⟨(Yc (Yj Zi.out _) 0).trans rfl,(Yc (Yj Zi.out _) 1).trans rfl,(Yc (Yj Zk.out _) 0).trans rfl,(Yc (Yj Zk.out _) 1).trans rfl,(Yc (Yj Zk.out _) 2).trans rfl,(World.cell?_alloc_lt _ _ _ (Yb _ _ (((HB.out.cell (Yb w _ hw471_0)).trans hw471_0)))).trans (((HB.out.cell (Yb w _ hw471_0)).trans hw471_0)),(World.cell?_alloc_lt _ _ _ (Yb _ _ (((HB.out.cell (Yb w _ hw471_1)).trans hw471_1)))).trans (((HB.out.cell (Yb w _ hw471_1)).trans hw471_1))⟩ (fun hHeld=> ?_);clear hK K;refine norm_ (a':= ?_) ?_ ?_
     rotate_left
     ·show Act.put _ (some 66) _=_
      simp only[Act.put,List.setIfInBounds_toArray,List.set_cons_zero,List.set_cons_succ,i64_w,i32_w];rfl
     refine one_ (i:=9) (N:=some 67) #[true,true,true,true,true,true,true,true,true,true,false,false] rfl rfl (one_of HT_.out (by kernel_rfl)) (by decide) (fun K hK=> ?_);refine Kd.R_append_step (Kd.int .i64) (w0:=w) w.heap.size (by rfl) (.tmp 59) (.tmp 66) 56 3 (.int .i64 0) 8 rfl Try.underlying56 info3 rfl (by decide) (by omega) (.slice (some Jx) Zh.length co36) Zh t472 [.int .i64 t472] (fun _=>True) (fun _=>False) rfl rfl ?aP (fun _ hk=>hk.elim) ?aF ?aO ?aB ?aS ?aL ?_
     (case aP=>exact rfl)
     (case aB=>exact(by repeat(first|(with_reducible first|exact HB.out|apply Ye|apply Yd|apply Yg|refine Yh ?_ Uf.out|refine Yh ?_ Uz.out|refine Yh ?_ GE458.out)|exact HB.out)))
     (case aF=>exact(fun _ _=>trivial))
     (case aO=>exact(by(with_reducible repeat(first|apply Yr|apply Yq|apply Yp));exact HO_459000.out))
     (case aS=>exact(Yi (by repeat(first|(with_reducible first|exact HB.out|apply Ye|apply Yd|apply Yg|refine Yh ?_ Uf.out|refine Yh ?_ Uz.out|refine Yh ?_ GE458.out)|exact HB.out))))
     (case aL=>have:=LMc33.out;omega)
     intro v474 w43 ho hb hg hat
     rw[← Ny473.out] at ho;have n0_:=Ya (Kd.R_over' (by(with_reducible repeat(first|apply Yr|apply Yq|apply Yp));exact HO_459001.out) (Kd.R_typed (by(with_reducible repeat(first|apply Yr|apply Yq|apply Yp));exact HO_459000.out)) (by decide) hg);have n1_:=Ya (blk_grown (g:=Wy) (o:= .cells #[.int .i64 Zb, .bool Zc, .slice Ze Za.length Zd] 32 (0,0)) (by(with_reducible repeat(first|refine Yl ?_ _|refine Ym ?_|refine Yj ?_ _));exact Zk.out) hg (Kd.R_ne HO_459000.out Zk.out (by decide)));have n2_:=Ya (blk_grown (g:=Ub) (o:= .cells #[.slice none 0 0, .slice none 0 0] 109 (0,0)) (by(with_reducible repeat(first|refine Yl ?_ _|refine Ym ?_|refine Yj ?_ _));exact Xa.out) hg (Kd.R_ne HO_459000.out Xa.out (by decide)));have n3_:=Ya (blk_grown (g:=Xs) (o:= .cells #[.slice (some Jx) Zh.length co36, .slice Ao39 Zq.length co39] 109 (0,0)) (by(with_reducible repeat(first|refine Yl ?_ _|refine Ym ?_|refine Yj ?_ _));exact Zi.out) hg (Kd.R_ne HO_459000.out Zi.out (by decide)));have n4_:=Ya (hb);have n5_:=Ya (ho);clear HO_459001;clear Zk;clear Xa;clear Zi;clear HB;clear HO_459000;have HO_459001:=n0_;have Zk:=n1_;have Xa:=n2_;have Zi:=n3_;have HB:=n4_;have HO475:=n5_;clear n0_ n1_ n2_ n3_ n4_ n5_;clear ho hb hg hat
     obtain⟨Ao44,co44,eo44⟩:=Kd.R_slice HO475.out
     (first|subst eo44|(injection eo44 with f1_ f2_ f3_;have f4_:=f1_.symm;have f5_:=f3_.symm;clear f1_ f2_ f3_;subst f4_;subst f5_))
     refine hK.out _ _ ⟨(Yc Zi.out 0).trans rfl,(Yc Zi.out 1).trans rfl,(Yc Zk.out 0).trans rfl,(Yc Zk.out 1).trans rfl,(Yc Zk.out 2).trans rfl,((HB.out.cell (Yb w _ hw471_0)).trans hw471_0),((HB.out.cell (Yb w _ hw471_1)).trans hw471_1)⟩ (fun hHeld=> ?_);clear hK K;refine norm_ (a':= ?_) ?_ ?_
     rotate_left
     ·show Act.put _ (some 67) _=_
      simp only[Act.put,List.setIfInBounds_toArray,List.set_cons_zero,List.set_cons_succ,i64_w,i32_w];rfl
     refine pure_ (i:=10) (N:=some 68) (v:= ?_) (a':= ?_) #[true,true,true,true,true,true,true,true,true,true,true,false] rfl rfl (any_of HT_.out (by kernel_rfl)) (fun _ _ _ h=>h) (Or.inl ⟨by rfl,?_⟩) ?_ ?_
     rotate_left
     ·intro w'
      go_simp
      with_reducible rfl
     rotate_left
     ·simp only[Act.put,List.setIfInBounds_toArray,List.set_cons_zero,List.set_cons_succ,i64_w,i32_w]
      rfl
     refine last_ (i:=11) (N:=none) #[true,true,true,true,true,true,true,true,true,true,true,true] rfl rfl (one_of HT_.out (by kernel_rfl)) (by decide) (fun K hK=> ?_);have hs45:w43.cell? ⟨Xs,0,none⟩=some (.slice (some Jx) Zh.length co36):=(Yc Zi.out 0).trans rfl;have hfs45:=Yf Zi.out 0;have hns45_0:=NB456_458.out;have hns45_1:=NB457_458.out;have hms45_0:=NB458_456.out;have hms45_1:=NB458_457.out;refine skip_ (w1:= ?_) (by rfl) rfl ?_ ?_
     rotate_left
     ·go_simp
      rfl
     refine hK.out _ _ ?_;clear hK K;refine done_ (done_of HT_.out (by kernel_rfl)) ?_;try go_wp2
     have n0_:Aside0 (Kd.R k113 113 (w43.setCell ⟨Xs,0,none⟩ (.slice Ao44 y473.length co44)) w.heap.size (fun _=>True) (.slice Ao39 Zq.length co39) Zq):=⟨by(with_reducible repeat(first|apply Yr|apply Yq|apply Yp));exact Kd.R_mono (Kd.R_far (p:=⟨Xs,0,none⟩) (Kd.R_types HO_459001.out Zi.out (by decide)) (fun _ hk=>hk.2) (.slice Ao44 y473.length co44)) (fun _ hk=>trivial)⟩;have n1_:Aside0 (Kd.R (Kd.int .i64) 3 (w43.setCell ⟨Xs,0,none⟩ (.slice Ao44 y473.length co44)) w.heap.size (fun _=>True) (.slice Ao44 y473.length co44) y473):=⟨by(with_reducible repeat(first|apply Yr|apply Yq|apply Yp));exact Kd.R_mono (Kd.R_far (p:=⟨Xs,0,none⟩) (Kd.R_types HO475.out Zi.out (by decide)) (fun _ hk=>hk.2) (.slice Ao44 y473.length co44)) (fun _ hk=>trivial)⟩;have n2_:Aside0 ((w43.setCell ⟨Xs,0,none⟩ (.slice Ao44 y473.length co44)).heap[Wy]? =some (.cells #[.int .i64 Zb, .bool Zc, .slice Ze Za.length Zd] 32 (0,0))):=⟨by(with_reducible repeat(first|refine Yl ?_ _|refine Ym ?_|refine Yj ?_ _));refine blk_far ?_ NB456_458.out _;(with_reducible repeat(first|refine Yl ?_ _|refine Ym ?_|refine Yj ?_ _));exact Zk.out⟩;have n3_:Aside0 ((w43.setCell ⟨Xs,0,none⟩ (.slice Ao44 y473.length co44)).heap[Ub]? =some (.cells #[.slice none 0 0, .slice none 0 0] 109 (0,0))):=⟨by(with_reducible repeat(first|refine Yl ?_ _|refine Ym ?_|refine Yj ?_ _));refine blk_far ?_ NB457_458.out _;(with_reducible repeat(first|refine Yl ?_ _|refine Ym ?_|refine Yj ?_ _));exact Xa.out⟩;have n4_:Aside0 ((w43.setCell ⟨Xs,0,none⟩ (.slice Ao44 y473.length co44)).heap[Xs]? =some (.cells #[.slice Ao44 y473.length co44, .slice Ao39 Zq.length co39] 109 (0,0))):=⟨by(with_reducible repeat(first|refine Yl ?_ _|refine Ym ?_|refine Yj ?_ _));refine YA (cs:= #[.slice (some Jx) Zh.length co36, .slice Ao39 Zq.length co39]) ?_ 0 _ rfl;(with_reducible repeat(first|refine Yl ?_ _|refine Ym ?_|refine Yj ?_ _));exact Zi.out⟩;have n5_:Aside0 (Below w.heap.size w (w43.setCell ⟨Xs,0,none⟩ (.slice Ao44 y473.length co44))):=⟨by repeat(first|(with_reducible first|exact HB.out|apply Ye|apply Yd|apply Yg|refine Yh ?_ Uf.out|refine Yh ?_ Uz.out|refine Yh ?_ GE458.out)|exact HB.out)⟩
     (try clear HO_459001)
     (try clear HO475)
     (try clear Zk)
     (try clear Xa)
     (try clear Zi)
     (try clear HB)
     generalize (w43.setCell ⟨Xs,0,none⟩ (.slice Ao44 y473.length co44))=w46 at n0_ n1_ n2_ n3_ n4_ n5_ ⊢;have HO_459001:=n0_;have HO475:=n1_;have Zk:=n2_;have Xa:=n3_;have Zi:=n4_;have HB:=n5_;clear n0_ n1_ n2_ n3_ n4_ n5_;have n0_:=Ya (Yp HO_459001.out);have n1_:=Ya (Yp HO475.out);have n2_:=Ya (Ym Zk.out);have n3_:=Ya (Ym Xa.out);have n4_:=Ya (Ym Zi.out);have n5_:=Ya (Yg HB.out);clear HO_459001;clear HO475;clear Zk;clear Xa;clear Zi;clear HB;have HO_459001:=n0_;have HO475:=n1_;have Zk:=n2_;have Xa:=n3_;have Zi:=n4_;have HB:=n5_;clear n0_ n1_ n2_ n3_ n4_ n5_;have p476:0≤(Zv:Int):=Yu (by first|(with_reducible assumption)|assumption);have q476:Zv<(l2.length:Int):=Yu (by first|(with_reducible assumption)|assumption);obtain⟨ad476,e476,hx476_0,hx476_1⟩:=at_T113 HR2.out Zv p476 q476;have hw476_1:=hx476_1;have hw476_0:=hx476_0;obtain rfl:Ja=ad476:=(by injection e476);replace hx476_0:=(HB.out.cell (Yb w _ hx476_0)).trans hx476_0;replace hx476_1:=(HB.out.cell (Yb w _ hx476_1)).trans hx476_1;replace p476:=eq_true p476;replace q476:=eq_true q476;refine start_ (n:=10) (S:=fun w'=>w'.cell? ⟨Xs,0,none⟩=some (.slice Ao44 y473.length co44)∧w'.cell? ⟨Xs,1,none⟩=some (.slice Ao39 Zq.length co39)∧w'.cell? (Ja.add ((Zv).toNat * 2))=some (.int .i64 ((rd_T113 l2 Zv).f0))∧w'.cell? ⟨(Ja.add ((Zv).toNat * 2)).block,(Ja.add ((Zv).toNat * 2)).off+1,none⟩=some (.bool ((rd_T113 l2 Zv).f1))) (ds:=[9]) #[false,false,false,false,false,false,false,false,false,false] (by kernel_rfl) rfl rfl ⟨(Yc Zi.out 0).trans rfl,(Yc Zi.out 1).trans rfl,((HB.out.cell (Yb w _ hw476_0)).trans hw476_0),((HB.out.cell (Yb w _ hw476_1)).trans hw476_1)⟩ (fun hHeld=> ?_);refine with_tabW ebbtideref08_sought.tab12 ebbtideref08_sought.bits12 (fun HT_ HW_=> ?_);generalize w46.drew=w47 at HO_459001 HO475 Zk Xa Zi HB hx476_0 hx476_1 hHeld ⊢;refine pure_ (i:=0) (N:=some 69) (v:= ?_) (a':= ?_) #[true,false,false,false,false,false,false,false,false,false] rfl rfl (any_of HT_.out (by kernel_rfl)) (fun _ _ _ h=>h) (Or.inl ⟨by rfl,?_⟩) ?_ ?_
     rotate_left
     ·intro w'
      go_simp
      with_reducible rfl
     rotate_left
     ·simp only[Act.put,List.setIfInBounds_toArray,List.set_cons_zero,List.set_cons_succ,i64_w,i32_w]
      rfl
     refine pure_ (i:=2) (N:=some 71) (v:= ?_) (a':= ?_) #[true,false,true,false,false,false,false,false,false,false] rfl rfl (any_of HT_.out (by kernel_rfl)) (fun _ _ _ h=>h) (Or.inl ⟨by rfl,?_⟩) ?_ ?_
     rotate_left
     ·intro w'
      go_simp
      with_reducible rfl
     rotate_left
     ·simp only[Act.put,List.setIfInBounds_toArray,List.set_cons_zero,List.set_cons_succ,i64_w,i32_w]
      rfl
     refine pure_ (i:=3) (N:=some 72) (v:= ?_) (a':= ?_) #[true,false,true,true,false,false,false,false,false,false] rfl rfl (any_of HT_.out (by kernel_rfl)) (fun _ _ _ h=>h) (Or.inl ⟨by rfl,?_⟩) ?_ ?_
     rotate_left
     ·intro w'
      go_simp
      with_reducible rfl
     rotate_left
     ·simp only[Act.put,List.setIfInBounds_toArray,List.set_cons_zero,List.set_cons_succ,i64_w,i32_w]
      rfl
     refine pure_ (i:=4) (N:=some 73) (v:= ?_) (a':= ?_) #[true,false,true,true,true,false,false,false,false,false] rfl rfl (any_of HT_.out (by kernel_rfl)) (fun _ _ _ h=>h) (Or.inl ⟨by rfl,?_⟩) ?_ ?_
     rotate_left
     ·intro w'
      go_simp
      with_reducible rfl
     rotate_left
     ·simp only[Act.put,List.setIfInBounds_toArray,List.set_cons_zero,List.set_cons_succ,i64_w,i32_w]
      rfl
     refine take_ (i:=1) (N:=some 70) (v:= ?_) (a':= ?_) #[true,true,true,true,true,false,false,false,false,false] rfl rfl (take_ofW HT_.out HW_.out (by kernel_rfl)) (fun _ _ _ h=>h) (Or.inl ⟨by rfl,?_⟩) hHeld ?_ ?_
     rotate_left
     ·rintro w' ⟨s0,s1,s2,s3⟩
      go_simp
      with_reducible rfl
     rotate_left
     ·simp only[Act.put,List.setIfInBounds_toArray,List.set_cons_zero,List.set_cons_succ,i64_w,i32_w]
      rfl
     refine take_ (i:=5) (N:=some 74) (v:= ?_) (a':= ?_) #[true,true,true,true,true,true,false,false,false,false] rfl rfl (take_ofW HT_.out HW_.out (by kernel_rfl)) (fun _ _ _ h=>h) (Or.inl ⟨by rfl,?_⟩) hHeld ?_ ?_
     rotate_left
     ·rintro w' ⟨s0,s1,s2,s3⟩
      go_simp
      with_reducible rfl
     rotate_left
     ·simp only[Act.put,List.setIfInBounds_toArray,List.set_cons_zero,List.set_cons_succ,i64_w,i32_w]
      rfl
     refine one_ (i:=6) (N:=some 75) #[true,true,true,true,true,true,true,false,false,false] rfl rfl (one_of HT_.out (by kernel_rfl)) (by decide) (fun K hK=> ?_);refine value_ (w1:= ?_) (v:= ?_) (by rfl) rfl ?_ ?_
     rotate_left 2
     ·go_simp
      constructor
      ·rfl
      ·rfl
     refine hK.out _ _ ⟨(Yc (Yj Zi.out _) 0).trans rfl,(Yc (Yj Zi.out _) 1).trans rfl,(World.cell?_alloc_lt _ _ _ (Yb _ _ (((HB.out.cell (Yb w _ hw476_0)).trans hw476_0)))).trans (((HB.out.cell (Yb w _ hw476_0)).trans hw476_0)),(World.cell?_alloc_lt _ _ _ (Yb _ _ (((HB.out.cell (Yb w _ hw476_1)).trans hw476_1)))).trans (((HB.out.cell (Yb w _ hw476_1)).trans hw476_1))⟩ (fun hHeld=> ?_);clear hK K;refine norm_ (a':= ?_) ?_ ?_
     rotate_left
     ·show Act.put _ (some 75) _=_
      simp only[Act.put,List.setIfInBounds_toArray,List.set_cons_zero,List.set_cons_succ,i64_w,i32_w];rfl
     refine one_ (i:=7) (N:=some 76) #[true,true,true,true,true,true,true,true,false,false] rfl rfl (one_of HT_.out (by kernel_rfl)) (by decide) (fun K hK=> ?_);refine Kd.R_append_step k113 (w0:=w) w.heap.size (by rfl) (.tmp 70) (.tmp 75) 96 113 (.agg #[(.int .i64 0),(.bool false)]) 16 rfl Try.underlying96 info113 rfl (by decide) (by omega) (.slice Ao39 Zq.length co39) Zq (⟨(rd_T113 l2 Zv).f0,(rd_T113 l2 Zv).f1⟩:S113) [.int .i64 ((rd_T113 l2 Zv).f0), .bool ((rd_T113 l2 Zv).f1)] (fun _=>True) (fun _=>False) rfl rfl ?aP (fun _ hk=>hk.elim) ?aF ?aO ?aB ?aS ?aL ?_
     (case aP=>exact k113_mkM _ _ _ (⟨(rd_T113 l2 Zv).f0,(rd_T113 l2 Zv).f1⟩:S113))
     (case aB=>exact(by repeat(first|(with_reducible first|exact HB.out|apply Ye|apply Yd|apply Yg|refine Yh ?_ Uf.out|refine Yh ?_ Uz.out|refine Yh ?_ GE458.out)|exact HB.out)))
     (case aF=>exact(fun _ _=>trivial))
     (case aO=>exact(by(with_reducible repeat(first|apply Yr|apply Yq|apply Yp));exact HO_459001.out))
     (case aS=>exact(Yi (by repeat(first|(with_reducible first|exact HB.out|apply Ye|apply Yd|apply Yg|refine Yh ?_ Uf.out|refine Yh ?_ Uz.out|refine Yh ?_ GE458.out)|exact HB.out))))
     (case aL=>have:=LMc34.out;omega)
     intro v478 w48 ho hb hg hat
     rw[← Ny477.out] at ho;have n0_:=Ya (blk_grown (g:=Wy) (o:= .cells #[.int .i64 Zb, .bool Zc, .slice Ze Za.length Zd] 32 (0,0)) (by(with_reducible repeat(first|refine Yl ?_ _|refine Ym ?_|refine Yj ?_ _));exact Zk.out) hg (Kd.R_ne HO_459001.out Zk.out (by decide)));have n1_:=Ya (blk_grown (g:=Ub) (o:= .cells #[.slice none 0 0, .slice none 0 0] 109 (0,0)) (by(with_reducible repeat(first|refine Yl ?_ _|refine Ym ?_|refine Yj ?_ _));exact Xa.out) hg (Kd.R_ne HO_459001.out Xa.out (by decide)));have n2_:=Ya (blk_grown (g:=Xs) (o:= .cells #[.slice Ao44 y473.length co44, .slice Ao39 Zq.length co39] 109 (0,0)) (by(with_reducible repeat(first|refine Yl ?_ _|refine Ym ?_|refine Yj ?_ _));exact Zi.out) hg (Kd.R_ne HO_459001.out Zi.out (by decide)));have n3_:=Ya (Kd.R_over' (by(with_reducible repeat(first|apply Yr|apply Yq|apply Yp));exact HO475.out) (Kd.R_typed (by(with_reducible repeat(first|apply Yr|apply Yq|apply Yp));exact HO_459001.out)) (by decide) hg);have n4_:=Ya (hb);have n5_:=Ya (ho);clear Zk;clear Xa;clear Zi;clear HO475;clear HB;clear HO_459001;have Zk:=n0_;have Xa:=n1_;have Zi:=n2_;have HO475:=n3_;have HB:=n4_;have HO479:=n5_;clear n0_ n1_ n2_ n3_ n4_ n5_;clear ho hb hg hat
     obtain⟨Ao49,co49,eo49⟩:=Kd.R_slice HO479.out
     (first|subst eo49|(injection eo49 with f1_ f2_ f3_;have f4_:=f1_.symm;have f5_:=f3_.symm;clear f1_ f2_ f3_;subst f4_;subst f5_))
     refine hK.out _ _ ⟨(Yc Zi.out 0).trans rfl,(Yc Zi.out 1).trans rfl,((HB.out.cell (Yb w _ hw476_0)).trans hw476_0),((HB.out.cell (Yb w _ hw476_1)).trans hw476_1)⟩ (fun hHeld=> ?_);clear hK K;refine norm_ (a':= ?_) ?_ ?_
     rotate_left
     ·show Act.put _ (some 76) _=_
      simp only[Act.put,List.setIfInBounds_toArray,List.set_cons_zero,List.set_cons_succ,i64_w,i32_w];rfl
     refine pure_ (i:=8) (N:=some 77) (v:= ?_) (a':= ?_) #[true,true,true,true,true,true,true,true,true,false] rfl rfl (any_of HT_.out (by kernel_rfl)) (fun _ _ _ h=>h) (Or.inl ⟨by rfl,?_⟩) ?_ ?_
     rotate_left
     ·intro w'
      go_simp
      with_reducible rfl
     rotate_left
     ·simp only[Act.put,List.setIfInBounds_toArray,List.set_cons_zero,List.set_cons_succ,i64_w,i32_w]
      rfl
     refine last_ (i:=9) (N:=none) #[true,true,true,true,true,true,true,true,true,true] rfl rfl (one_of HT_.out (by kernel_rfl)) (by decide) (fun K hK=> ?_);have hs50:w48.cell? ⟨Xs,1,none⟩=some (.slice Ao39 Zq.length co39):=(Yc Zi.out 1).trans rfl;have hfs50:=Yf Zi.out 1;have hns50_0:=NB456_458.out;have hns50_1:=NB457_458.out;have hms50_0:=NB458_456.out;have hms50_1:=NB458_457.out;refine skip_ (w1:= ?_) (by rfl) rfl ?_ ?_
     rotate_left
     ·go_simp
      rfl
     refine hK.out _ _ ?_;clear hK K;refine done_ (done_of HT_.out (by kernel_rfl)) ?_;try go_wp2
     go_roundg k2
     case measure=>have:=HK1.out;have:=HK2.out;omega
     case rel=>exact⟨(wrap64 (Zv+1)),(y473),(y477),(.slice Ao44 y473.length co44),(.slice Ao49 y477.length co49),(by first|rfl|(simp;done)|(simp[*];done)),H',⟨by have:=HK1.out;have:=HK2.out;omega⟩,⟨by(with_reducible repeat(first|apply Yr|apply Yq|apply Yp));exact Kd.R_mono (Kd.R_far (p:=⟨Xs,1,none⟩) (Kd.R_types HO475.out Zi.out (by decide)) (fun _ hk=>hk.2) (.slice Ao49 y477.length co49)) (fun _ hk=>trivial)⟩,⟨by(with_reducible repeat(first|apply Yr|apply Yq|apply Yp));exact Kd.R_mono (Kd.R_far (p:=⟨Xs,1,none⟩) (Kd.R_types HO479.out Zi.out (by decide)) (fun _ hk=>hk.2) (.slice Ao49 y477.length co49)) (fun _ hk=>trivial)⟩,⟨by(with_reducible repeat(first|refine Yl ?_ _|refine Ym ?_|refine Yj ?_ _));refine blk_far ?_ NB456_458.out _;(with_reducible repeat(first|refine Yl ?_ _|refine Ym ?_|refine Yj ?_ _));exact Zk.out⟩,⟨by(with_reducible repeat(first|refine Yl ?_ _|refine Ym ?_|refine Yj ?_ _));refine blk_far ?_ NB457_458.out _;(with_reducible repeat(first|refine Yl ?_ _|refine Ym ?_|refine Yj ?_ _));exact Xa.out⟩,⟨by(with_reducible repeat(first|refine Yl ?_ _|refine Ym ?_|refine Yj ?_ _));refine YA (cs:= #[.slice Ao44 y473.length co44, .slice Ao39 Zq.length co39]) ?_ 1 _ rfl;(with_reducible repeat(first|refine Yl ?_ _|refine Ym ?_|refine Yj ?_ _));exact Zi.out⟩,⟨by repeat(first|(with_reducible first|exact HB.out|apply Ye|apply Yd|apply Yg|refine Yh ?_ Uf.out|refine Yh ?_ Uz.out|refine Yh ?_ GE458.out)|exact HB.out)⟩⟩
end P
namespace H
theorem pigeonN (n:Nat): ∀ L:List Nat,L.Nodup→(∀ x,x∈L→x<n)→L.length≤n:=by
 induction n with
 |zero=>
  intro L _ h;cases L with
  |nil=>simp
  |cons x L=>exact absurd (h x List.mem_cons_self) (Nat.not_lt_zero _)
 |succ n ih=>
  intro L hn h;by_cases hm:n∈L
  ·have h1:=ih (L.erase n) (hn.erase n) (fun x hx=>by
    have h2:=(hn.mem_erase_iff).1 hx;have:=h x h2.2;have:=h2.1;omega)
   rw[List.length_erase_of_mem hm] at h1;omega
  ·have:=ih L hn (fun x hx=>by
    have h1:=h x hx;have:x≠n:=fun e=>hm (e▸hx)
    omega)
   omega
section
variable {α:Type}
structure Fd (α:Type) where
 v:Nat
 by_:α
 lv:Nat
def nodes (st:List (Fd α)):List Nat:=st.map Fd.v
def vis (to_:α→Nat) (lv:Nat) (st:List (Fd α)) (e:α):List (Fd α):=if to_ e∈nodes st then st else st ++ [⟨to_ e,e,lv+1⟩]
def proc (to_:α→Nat) (es:Nat→List α) (st:List (Fd α)) (x:Fd α):List (Fd α):=(es x.v).foldl (vis to_ x.lv) st
def bfs (to_:α→Nat) (es:Nat→List α):Nat→Nat→List (Fd α)→List (Fd α)
 |0,_,st=>st
 |n+1,i,st=>match st[i]? with
  |none=>st
  |some x=>bfs to_ es n (i+1) (proc to_ es st x)
theorem vis_pre (to_:α→Nat) (lv:Nat) (st:List (Fd α)) (e:α): ∃ r,vis to_ lv st e=st ++ r:=by
 unfold vis;split
 ·exact⟨[],(List.append_nil _).symm⟩
 ·exact⟨_,rfl⟩
theorem fold_pre (to_:α→Nat) (lv:Nat) (l:List α) (st:List (Fd α)): ∃ r,l.foldl (vis to_ lv) st=st ++ r:=by
 induction l generalizing st with
 |nil=>exact⟨[],(List.append_nil _).symm⟩
 |cons e l ih=>
  obtain⟨r,hr⟩:=vis_pre to_ lv st e;obtain⟨q,hq⟩:=ih (vis to_ lv st e);exact⟨r ++ q,by rw[List.foldl_cons,hq,hr,List.append_assoc]⟩
structure Fds (from_ to_:α→Nat) (es:Nat→List α) (s:Nat) (st:List (Fd α)):Prop where
 nodup:(nodes st).Nodup
 head: ∃ x r,st=x::r∧x.v=s∧x.lv=0
 by_ok: ∀ (j:Nat) (x:Fd α),st[j+1]? =some x→to_ x.by_=x.v∧ ∃ (k:Nat) (y:Fd α),k≤j∧st[k]? =some y∧x.by_∈es y.v∧x.lv=y.lv+1
 up: ∀ (j:Nat) (x y:Fd α),st[j]? =some x→st[j+1]? =some y→x.lv≤y.lv
theorem mem_nodes {st:List (Fd α)} {v:Nat} :v∈nodes st↔ ∃ (j:Nat) (x:Fd α),st[j]? =some x∧x.v=v:=by
 unfold nodes;rw[List.mem_map];constructor
 ·rintro⟨x,hx,rfl⟩
  obtain⟨j,hj⟩:=List.getElem?_of_mem hx;exact⟨j,x,hj,rfl⟩
 ·rintro⟨j,x,hj,rfl⟩
  exact⟨x,List.mem_of_getElem? hj,rfl⟩
theorem Fds.vis {from_ to_:α→Nat} {es:Nat→List α} {s:Nat} {st:List (Fd α)} (h:Fds from_ to_ es s st) {i:Nat} {x:Fd α} (hx:st[i]? =some x) (hm: ∀ y,y∈st→y.lv≤x.lv+1) {e:α} (he:e∈es x.v):
  Fds from_ to_ es s (vis to_ x.lv st e)∧ ∀ y,y∈H.vis to_ x.lv st e→y.lv≤x.lv+1:=by
 unfold H.vis;split
 ·exact⟨h,hm⟩
 ·rename_i hn
  have hil:=(List.getElem?_eq_some_iff.1 hx).1;have hsm: ∀ (j:Nat) (y:Fd α),(st ++ [⟨to_ e,e,x.lv+1⟩])[j]? =some y→(j<st.length∧st[j]? =some y)∨(j=st.length∧y=⟨to_ e,e,x.lv+1⟩):=by
   intro j y hy;rcases Nat.lt_or_ge j st.length with hj|hj
   ·rw[List.getElem?_append_left hj] at hy;exact .inl ⟨hj,hy⟩
   ·rw[List.getElem?_append_right hj] at hy
    have hj0:j - st.length=0:=by
     have:=(List.getElem?_eq_some_iff.1 hy).1;simp at this;omega
    rw[hj0] at hy;injection hy with hy
    exact .inr ⟨by omega,hy.symm⟩
  refine⟨⟨?_,?_,?_,?_⟩,?_⟩
  ·show (nodes (st ++ [_])).Nodup
   unfold nodes;rw[List.map_append];refine List.nodup_append.2 ⟨h.nodup,by simp,?_⟩;intro a ha b hb;simp at hb;subst hb;intro e';subst e';exact hn ha
  ·obtain⟨y,r,hr,h1,h2⟩:=h.head
   exact⟨y,r ++ [_],by rw[hr];rfl,h1,h2⟩
  ·intro j y hy
   rcases hsm _ _ hy with ⟨hj,hy⟩|⟨hj,rfl⟩
   ·obtain⟨h1,k,z,hk,hz,h2,h3⟩:=h.by_ok j y hy
    exact⟨h1,k,z,hk,by rw[List.getElem?_append_left (by omega)];exact hz,h2,h3⟩
   ·exact⟨rfl,i,x,by omega,by rw[List.getElem?_append_left hil];exact hx,he,rfl⟩
  ·intro j y z hy hz
   rcases hsm _ _ hz with ⟨hj,hz⟩|⟨hj,rfl⟩
   ·rw[List.getElem?_append_left (by omega)] at hy
    exact h.up j y z hy hz
   ·rw[List.getElem?_append_left (by omega)] at hy
    exact hm y (List.mem_of_getElem? hy)
  ·intro y hy
   rcases List.mem_append.1 hy with hy|hy
   ·exact hm y hy
   ·rw[List.mem_singleton.1 hy]
    exact Nat.le_refl _
theorem Fds.fold {from_ to_:α→Nat} {es:Nat→List α} {s:Nat} {x:Fd α} (l:List α): ∀ {st:List (Fd α)} (h:Fds from_ to_ es s st) {i:Nat} (hx:st[i]? =some x) (hm: ∀ y,y∈st→y.lv≤x.lv+1) (he: ∀ e,e∈l→e∈es x.v),
  Fds from_ to_ es s (l.foldl (H.vis to_ x.lv) st)∧ ∀ y,y∈l.foldl (H.vis to_ x.lv) st→y.lv≤x.lv+1:=by
 induction l with
 |nil=>intro st h i hx hm he;exact⟨h,hm⟩
 |cons e l ih=>
  intro st h i hx hm he;obtain⟨h1,h2⟩:=h.vis hx hm (he e List.mem_cons_self);obtain⟨r,hr⟩:=vis_pre to_ x.lv st e;have hx':(H.vis to_ x.lv st e)[i]? =some x:=by rw[hr,List.getElem?_append_left (List.getElem?_eq_some_iff.1 hx).1];exact hx
  exact ih h1 hx' h2 (fun e he'=>he e (List.mem_cons_of_mem _ he'))
theorem fold_mem (to_:α→Nat) (lv:Nat) (l:List α) (st:List (Fd α)) {e:α} (he:e∈l):to_ e∈nodes (l.foldl (vis to_ lv) st):=by
 induction l generalizing st with
 |nil=>cases he
 |cons f l ih=>
  rcases List.mem_cons.1 he with rfl|he
  ·obtain⟨r,hr⟩:=fold_pre to_ lv l (vis to_ lv st e)
   rw[List.foldl_cons,hr];have:to_ e∈nodes (vis to_ lv st e):=by
    unfold vis;split
    ·assumption
    ·unfold nodes;rw[List.map_append];exact List.mem_append_right _ (by simp)
   unfold nodes at this ⊢;rw[List.map_append];exact List.mem_append_left _ this
  ·exact ih _ he
structure Upto (from_ to_:α→Nat) (es:Nat→List α) (s i:Nat) (st:List (Fd α)):Prop where
 fds:Fds from_ to_ es s st
 most: ∀ (x:Fd α),st[i]? =some x→ ∀ y,y∈st→y.lv≤x.lv+1
 seen: ∀ (j:Nat) (x:Fd α),j<i→st[j]? =some x→ ∀ e,e∈es x.v→ ∃ (k:Nat) (y:Fd α),st[k]? =some y∧y.v=to_ e∧y.lv≤x.lv+1
theorem upto_start (from_ to_:α→Nat) (es:Nat→List α) (s:Nat) (e0:α):Upto from_ to_ es s 0 [⟨s,e0,0⟩]:=by
 refine⟨⟨by simp[nodes],⟨_,[],rfl,rfl,rfl⟩,?_,?_⟩,?_,?_⟩
 ·intro j x h;simp at h
 ·intro j x y h1 h2;simp at h2
 ·intro x h y hy
  rw[List.mem_singleton.1 hy];exact Nat.zero_le _
 ·intro j x h;exact absurd h (Nat.not_lt_zero _)
theorem Upto.next {from_ to_:α→Nat} {es:Nat→List α} {s i:Nat} {st:List (Fd α)} (h:Upto from_ to_ es s i st) {x:Fd α} (hx:st[i]? =some x):Upto from_ to_ es s (i+1) (proc to_ es st x):=by
 obtain⟨h1,h2⟩:=Fds.fold (es x.v) h.fds hx (h.most x hx) (fun e he=>he);obtain⟨r,hr⟩:=fold_pre to_ x.lv (es x.v) st;have hil:=(List.getElem?_eq_some_iff.1 hx).1;have hx':(proc to_ es st x)[i]? =some x:=by unfold proc;rw[hr,List.getElem?_append_left hil];exact hx
 refine⟨h1,?_,?_⟩
 ·intro y hy z hz
  have h3:=h1.up i x y hx' hy;have h4:=h2 z hz;omega
 ·intro j y hj hy e he
  rcases Nat.lt_or_ge j i with hji|hji
  ·unfold proc at hy ⊢
   rw[hr,List.getElem?_append_left (by omega)] at hy;obtain⟨k,z,hk,hv,hl⟩:=h.seen j y hji hy e he;exact⟨k,z,by rw[hr,List.getElem?_append_left (List.getElem?_eq_some_iff.1 hk).1];exact hk,hv,hl⟩
  ·have hji':j=i:=by omega
   subst hji';rw[hx'] at hy;injection hy with hy
   subst hy;obtain⟨k,z,hk,hv⟩:=mem_nodes.1 (fold_mem to_ x.lv (es x.v) st he);exact⟨k,z,hk,hv,h2 z (List.mem_of_getElem? hk)⟩
theorem bfs_done {from_ to_:α→Nat} {es:Nat→List α} {s N:Nat} (hN: ∀ (u:Nat) (e:α),e∈es u→to_ e<N) (hs:s<N) (n:Nat): ∀ (i:Nat) (st:List (Fd α)),Upto from_ to_ es s i st→N≤i+n→Upto from_ to_ es s (bfs to_ es n i st).length (bfs to_ es n i st):=by
 have hlen: ∀ (st:List (Fd α)),Fds from_ to_ es s st→st.length≤N:=by
  intro st h;have:(nodes st).length≤N:=by
   refine pigeonN N _ h.nodup ?_;intro v hv;obtain⟨j,x,hj,rfl⟩:=mem_nodes.1 hv;cases j with
   |zero=>
    obtain⟨y,r,hr,h1,_⟩:=h.head;rw[hr] at hj;injection hj with hj
    rw[← hj,h1];exact hs
   |succ j=>
    obtain⟨h1,k,y,_,_,h2,_⟩:=h.by_ok j x hj;rw[← h1];exact hN _ _ h2
  unfold nodes at this;rw[List.length_map] at this;exact this
 induction n with
 |zero=>
  intro i st h hi;have hl:=hlen st h.fds;show Upto from_ to_ es s st.length st;exact⟨h.fds,fun x hx=>by have:=(List.getElem?_eq_some_iff.1 hx).1;omega,fun j x hj hx=>h.seen j x (by omega) hx⟩
 |succ n ih=>
  intro i st h hi;unfold bfs;cases hx:st[i]? with
  |none=>
   have hl:=List.getElem?_eq_none_iff.1 hx;show Upto from_ to_ es s st.length st;exact⟨h.fds,fun x hx=>by have:=(List.getElem?_eq_some_iff.1 hx).1;omega,fun j x hj hx=>h.seen j x (by omega) hx⟩
  |some x=>exact ih (i+1) _ (h.next hx) (by omega)
end
end H
namespace H
section
variable {α:Type}
def fnd (st:List (Fd α)) (v:Nat):Option (Fd α):=st.find? fun x=>x.v == v
theorem fnd_some {st:List (Fd α)} {v:Nat} {x:Fd α} (h:fnd st v=some x):x∈st∧x.v=v:=by
 have h1:=List.find?_some h;exact⟨List.mem_of_find?_eq_some h,by simpa using h1⟩
theorem fnd_none {st:List (Fd α)} {v:Nat} :fnd st v=none↔v ∉ nodes st:=by
 unfold fnd nodes;rw[List.find?_eq_none];constructor
 ·intro h hm
  obtain⟨x,hx,rfl⟩:=List.mem_map.1 hm;exact h x hx (by simp)
 ·intro h x hx e
  exact h (List.mem_map.2 ⟨x,hx,by simpa using e⟩)
theorem nodup_inj {st:List (Fd α)} (h:(nodes st).Nodup) {x y:Fd α} (hx:x∈st) (hy:y∈st) (e:x.v=y.v):x=y:=by
 induction st with
 |nil=>cases hx
 |cons z st ih=>
  have h':z.v ∉ nodes st∧(nodes st).Nodup:=List.nodup_cons.1 h;rcases List.mem_cons.1 hx with h1|h1<;>rcases List.mem_cons.1 hy with h2|h2
  ·rw[h1,h2]
  ·exact(h'.1 (List.mem_map.2 ⟨y,h2,by rw[← e,h1]⟩)).elim
  ·exact(h'.1 (List.mem_map.2 ⟨x,h1,by rw[e,h2]⟩)).elim
  ·exact ih h'.2 h1 h2
theorem fnd_of {st:List (Fd α)} (h:(nodes st).Nodup) {x:Fd α} (hx:x∈st):fnd st x.v=some x:=by
 cases hf:fnd st x.v with
 |none=>exact absurd (List.mem_map.2 ⟨x,hx,rfl⟩) (fnd_none.1 hf)
 |some y=>
  obtain⟨h1,h2⟩:=fnd_some hf;rw[nodup_inj h h1 hx h2]
theorem fnd_app {st r:List (Fd α)} {v:Nat} (h:v∈nodes st):fnd (st ++ r) v=fnd st v:=by
 unfold fnd;rw[List.find?_append];cases hf:fnd st v with
 |none=>exact absurd h (fnd_none.1 hf)
 |some x=>unfold fnd at hf;rw[hf];rfl
theorem nodes_app (st r:List (Fd α)):nodes (st ++ r)=nodes st ++ nodes r:=List.map_append
def backL (fr:α→Nat) (st:List (Fd α)) (s:Nat):Nat→Nat→List α
 |0,_=>[]
 |k+1,v=>if v=s then [] else match fnd st v with
  |none=>[]
  |some x=>x.by_::backL fr st s k (fr x.by_)
def wayL (fr:α→Nat) (st:List (Fd α)) (s v:Nat):List α:=(backL fr st s st.length v).reverse
def Leads (to_:α→Nat) (es:Nat→List α):Nat→List α→Nat→Prop
 |u,[],t=>u=t
 |u,e::L,t=>e∈es u∧Leads to_ es (to_ e) L t
theorem Leads.snoc {to_:α→Nat} {es:Nat→List α} {L:List α} {e:α} : ∀ {u v:Nat},Leads to_ es u L v→e∈es v→Leads to_ es u (L ++ [e]) (to_ e):=by
 induction L with
 |nil=>intro u v h he;cases h;exact⟨he,rfl⟩
 |cons f L ih=>intro u v h he;exact⟨h.1,ih h.2 he⟩
theorem Fds.mem_lv {fr to_:α→Nat} {es:Nat→List α} {s:Nat} {st:List (Fd α)} (h:Fds fr to_ es s st) {x:Fd α} (hx:x∈st):
  (x.v=s∧x.lv=0)∨(x.v≠s∧to_ x.by_=x.v∧ ∃ y,y∈st∧x.by_∈es y.v∧x.lv=y.lv+1):=by
 obtain⟨j,hj⟩:=List.getElem?_of_mem hx;obtain⟨z,r,hr,h1,h2⟩:=h.head;have hz:z∈st:=by rw[hr];exact List.mem_cons_self
 cases j with
 |zero=>
  rw[hr] at hj;injection hj with hj
  rw[← hj];exact .inl ⟨h1,h2⟩
 |succ j=>
  obtain⟨h3,k,y,_,hy,h4,h5⟩:=h.by_ok j x hj;refine .inr ⟨?_,h3,y,List.mem_of_getElem? hy,h4,h5⟩;intro e;have:=nodup_inj h.nodup hx hz (by rw[e,h1]);rw[this,h2] at h5;omega
theorem lv_lt {fr to_:α→Nat} {es:Nat→List α} {s:Nat} {st:List (Fd α)} (h:Fds fr to_ es s st) {x:Fd α} (hx:x∈st):x.lv<st.length:=by
 obtain⟨z,r,hr,h1,h2⟩:=h.head;have aux: ∀ (j:Nat) (y:Fd α),st[j]? =some y→y.lv≤j:=by
  intro j
  induction j using Nat.strongRecOn with
  |_ j ih=>
   intro y hy;cases j with
   |zero=>
    rw[hr] at hy;injection hy with hy
    rw[← hy,h2];exact Nat.le_refl _
   |succ j=>
    obtain⟨_,k,w,hk,hw,_,h5⟩:=h.by_ok j y hy;have:=ih k (by omega) w hw;omega
 obtain⟨j,hj⟩:=List.getElem?_of_mem hx;have:=aux j x hj;have:=(List.getElem?_eq_some_iff.1 hj).1;omega
theorem backL_spec {fr to_:α→Nat} {es:Nat→List α} {s:Nat} {st:List (Fd α)} (h:Fds fr to_ es s st) (hes: ∀ u e,e∈es u→fr e=u) (k:Nat): ∀ {x:Fd α},x∈st→x.lv≤k→
  (backL fr st s k x.v).length=x.lv∧Leads to_ es s (backL fr st s k x.v).reverse x.v:=by
 induction k with
 |zero=>
  intro x hx hk;rcases h.mem_lv hx with ⟨h1,h2⟩|⟨_,_,y,_,_,h5⟩
  ·exact⟨by rw[h2];rfl,h1.symm⟩
  ·omega
 |succ k ih=>
  intro x hx hk;unfold backL;rcases h.mem_lv hx with ⟨h1,h2⟩|⟨h1,h3,y,hy,h4,h5⟩
  ·rw[Yx h1,h2]
   exact⟨rfl,h1.symm⟩
  ·rw[Yy h1,fnd_of h.nodup hx]
   show (_::_).length=_∧Leads to_ es s (_::_).reverse _;rw[hes _ _ h4];obtain⟨i1,i2⟩:=ih hy (by omega);refine⟨by rw[List.length_cons,i1,h5],?_⟩;rw[List.reverse_cons, ← h3];exact i2.snoc h4
theorem backL_more {fr to_:α→Nat} {es:Nat→List α} {s:Nat} {st:List (Fd α)} (h:Fds fr to_ es s st) (hes: ∀ u e,e∈es u→fr e=u) (r:List (Fd α)) (k:Nat): ∀ {k':Nat} {x:Fd α},x∈st→x.lv≤k→x.lv≤k'→
  backL fr (st ++ r) s k' x.v=backL fr st s k x.v:=by
 induction k with
 |zero=>
  intro k' x hx hk hk';rcases h.mem_lv hx with ⟨h1,h2⟩|⟨_,_,y,_,_,h5⟩
  ·cases k' with
   |zero=>rfl
   |succ k'=>unfold backL;rw[Yx h1]
  ·omega
 |succ k ih=>
  intro k' x hx hk hk';rcases h.mem_lv hx with ⟨h1,h2⟩|⟨h1,h3,y,hy,h4,h5⟩
  ·cases k' with
   |zero=>unfold backL;rw[Yx h1]
   |succ k'=>unfold backL;rw[Yx h1,Yx h1]
  ·cases k' with
   |zero=>omega
   |succ k'=>
    unfold backL;rw[Yy h1,Yy h1,fnd_app (List.mem_map.2 ⟨x,hx,rfl⟩),fnd_of h.nodup hx];show _::_=_::_;rw[hes _ _ h4,ih hy (by omega) (by omega)]
def dOf (n:Nat) (st:List (Fd α)):List Int:=(List.range n).map fun v=>match fnd st v with
 |some x=>(x.lv:Int)
 |none=> -1
theorem dOf_get {n v:Nat} (st:List (Fd α)) (d:Int) (hv:v<n):(dOf n st).getD v d=match fnd st v with
  |some x=>(x.lv:Int)
  |none=> -1:=by
 unfold dOf;rw[List.getD_eq_getElem?_getD,List.getElem?_map,List.getElem?_range hv];rfl
theorem dOf_mem {n:Nat} {st:List (Fd α)} (h:(nodes st).Nodup) {x:Fd α} (hx:x∈st) (d:Int) (hv:x.v<n):(dOf n st).getD x.v d=x.lv:=by
 rw[dOf_get st d hv,fnd_of h hx]
def bfsN (to_:α→Nat) (es:Nat→List α) (z:α) (n s:Nat):List (Fd α):=bfs to_ es n 0 [⟨s,z,0⟩]
theorem bfsN_upto {fr to_:α→Nat} {es:Nat→List α} {z:α} {n s:Nat} (hN: ∀ (u:Nat) (e:α),e∈es u→to_ e<n) (hs:s<n):Upto fr to_ es s (bfsN to_ es z n s).length (bfsN to_ es z n s):=
 bfs_done hN hs n 0 _ (upto_start fr to_ es s z) (by omega)
theorem bfsN_closed {to_:α→Nat} {es:Nat→List α} {z:α} {n s:Nat} (hN: ∀ (u:Nat) (e:α),e∈es u→to_ e<n) (hs:s<n) {x:Fd α} (hx:x∈bfsN to_ es z n s) {e:α} (he:e∈es x.v):
  ∃ y,y∈bfsN to_ es z n s∧y.v=to_ e∧y.lv≤x.lv+1:=by
 obtain⟨j,hj⟩:=List.getElem?_of_mem hx;obtain⟨k,y,hk,h1,h2⟩:=(bfsN_upto (fr:=fun _=>0) (z:=z) hN hs).seen j x (List.getElem?_eq_some_iff.1 hj).1 hj e he;exact⟨y,List.mem_of_getElem? hk,h1,h2⟩
theorem fds_lt {fr to_:α→Nat} {es:Nat→List α} {n s:Nat} {st:List (Fd α)} (h:Fds fr to_ es s st) (hN: ∀ (u:Nat) (e:α),e∈es u→to_ e<n) (hs:s<n): ∀ v,v∈nodes st→v<n:=by
 intro v hv;obtain⟨x,hx,rfl⟩:=List.mem_map.1 hv;rcases h.mem_lv hx with ⟨h1,_⟩|⟨_,h3,y,_,h4,_⟩
 ·rw[h1];exact hs
 ·rw[← h3];exact hN _ _ h4
theorem fds_len {fr to_:α→Nat} {es:Nat→List α} {n s:Nat} {st:List (Fd α)} (h:Fds fr to_ es s st) (hN: ∀ (u:Nat) (e:α),e∈es u→to_ e<n) (hs:s<n):st.length≤n:=by
 have:=pigeonN n (nodes st) h.nodup (fds_lt h hN hs);unfold nodes at this
 rwa [List.length_map] at this
end
end H
namespace H
section
variable {α:Type}
structure Net_ (α:Type) where
 rows:Nat→List α
 to_:α→Nat
 fr:α→Nat
 D:Nat→Int
 ok:α→Bool
def Net_.adm (g:Net_ α) (u:Nat) (e:α):Bool:=decide (g.D (g.to_ e)=g.D u+1) && g.ok e
theorem adm_lv {g:Net_ α} {u:Nat} {e:α} (h:g.adm u e=true):g.D (g.to_ e)=g.D u+1∧g.ok e=true:=by
 unfold Net_.adm at h;rw[Bool.and_eq_true,decide_eq_true_eq] at h;exact h
end
end H
namespace P
attribute [local go_sem] max2_int min2_int max_two min_two max_three min_three max_four min_four
def ebbtideref07_Steps.l0:Nat→List Int→List (S113)→Int→Int→Bool→List (S73)→Option ((List (S113)))
 |0,_,_,_,_,_,_=>none
 |k+1,x1,x5,x6,x482000,x482001,x482002=>if x6<(x1.length:Int) then(if 0≤x6 then(if x6<(x482002.length:Int) then(if ((rd_T73 x482002 x6).f2)>(rd x1 x6) then(if x5.length<8796093022208 then((some (x5 ++ [(⟨x6,false⟩:S113)]:List (S113))).bind fun y484=>(if (rd x1 x6)>0 then(if y484.length<8796093022208 then(ebbtideref07_Steps.l0 k x1 (y484 ++ [(⟨x6,true⟩:S113)]) (wrap64 (x6+1)) x482000 x482001 x482002) else(none)) else(ebbtideref07_Steps.l0 k x1 y484 (wrap64 (x6+1)) x482000 x482001 x482002))) else(none)) else(if (rd x1 x6)>0 then(if x5.length<8796093022208 then(ebbtideref07_Steps.l0 k x1 (x5 ++ [(⟨x6,true⟩:S113)]) (wrap64 (x6+1)) x482000 x482001 x482002) else(none)) else(ebbtideref07_Steps.l0 k x1 x5 (wrap64 (x6+1)) x482000 x482001 x482002))) else(none)) else(none)) else(some x5)
def ebbtideref07_Steps.f (k:Nat) (Zb:Int) (Zc:Bool) (Za:List (S73)) (l1:List Int):Option ((List (S113))):=ebbtideref07_Steps.l0 k l1 ([]:List (S113)) 0 Zb Zc Za
set_option maxHeartbeats 8000000 in
set_option maxRecDepth 100000 in
theorem ebbtideref07_Steps.calls (k:Nat) (Zb:Int) (Zc:Bool) (Ze:Option Addr) (Zd:Nat) (Za:List (S73)) (A1:Option Addr) (c1:Nat) (l1:List Int) (r:List (S113)) (w:World) (Zx:Kd.C k73 w Ze Za.length Za) (Zy:Za.length≤Zd) (hr1:Kd.C (Kd.int .i64) w A1 l1.length l1) (hc1:l1.length≤c1) (h:ebbtideref07_Steps.f k Zb Zc Za l1=some r):
  Calls Try.prog 41 #[.agg #[.int .i64 Zb, .bool Zc, .slice Ze Za.length Zd], .slice A1 l1.length c1] w fun e w'=> ∃ v0_:Value,e= .returned (v0_)∧Kd.R k113 113 w' w.heap.size (fun _=>True) v0_ r∧Below w.heap.size w w':=by
 have hu32:=Try.underlying32;have hu113:=Try.underlying113;have Zo:=Ya Zx;have Zz:=Ya Zy;clear Zx Zy;have HR1:=Ya hr1;have HC1:=Ya hc1;clear hr1 hc1;have HB:=Ya (Yo w.heap.size w);have H:(ebbtideref07_Steps.l0 k l1 ([]:List (S113)) 0 Zb Zc Za)=some r:=h;clear h;have H':=Ya H;clear H;go_enter Try.func41,Try.ntmps41;go_wp2_with (first|((with_reducible refine gate_dst (N:=2) rfl ?_);refine Yz ?hg (N:=2) ?hd (cs:= #[.int .i64 Zb, .bool Zc, .slice Ze Za.length Zd]) (t:=32) ?hr ?_;(case hd=>rfl);(case hg=>rfl);(case hr=>first|(go_simp;done)|(go_simp;rfl));intro Vs hg w3 Zf hb;have n0_:=Ya (Yk (by repeat(first|(with_reducible first|exact HB.out|apply Ye|apply Yd|apply Yg)|exact HB.out)) hb);have n1_:=Ya (Zf);have n2_:=Ya ((by rw[hg];exact(Yi (by repeat(first|(with_reducible first|exact HB.out|apply Ye|apply Yd|apply Yg)|exact HB.out))):w.heap.size≤Vs));have n3_:=Ya ((by rw[hg];exact(Yi (by repeat(first|(with_reducible first|exact HB.out|apply Ye|apply Yd|apply Yg)|exact HB.out))):w.heap.size≤Vs));clear HB;have HB:=n0_;have Xb:=n1_;have GW481:=n2_;have Vz:=n3_;clear n0_ n1_ n2_ n3_;clear hb Zf hg));repeat(go_quiet (first|((with_reducible refine gate_dst (N:=2) rfl ?_);refine Yz ?hg (N:=2) ?hd (cs:= #[.int .i64 Zb, .bool Zc, .slice Ze Za.length Zd]) (t:=32) ?hr ?_;(case hd=>rfl);(case hg=>rfl);(case hr=>first|(go_simp;done)|(go_simp;rfl));intro Vs hg w3 Zf hb;have n0_:=Ya (Yk (by repeat(first|(with_reducible first|exact HB.out|apply Ye|apply Yd|apply Yg)|exact HB.out)) hb);have n1_:=Ya (Zf);have n2_:=Ya ((by rw[hg];exact(Yi (by repeat(first|(with_reducible first|exact HB.out|apply Ye|apply Yd|apply Yg)|exact HB.out))):w.heap.size≤Vs));have n3_:=Ya ((by rw[hg];exact(Yi (by repeat(first|(with_reducible first|exact HB.out|apply Ye|apply Yd|apply Yg)|exact HB.out))):w.heap.size≤Vs));clear HB;have HB:=n0_;have Xb:=n1_;have GW481:=n2_;have Vz:=n3_;clear n0_ n1_ n2_ n3_;clear hb Zf hg));try go_wp2_with (first|((with_reducible refine gate_dst (N:=2) rfl ?_);refine Yz ?hg (N:=2) ?hd (cs:= #[.int .i64 Zb, .bool Zc, .slice Ze Za.length Zd]) (t:=32) ?hr ?_;(case hd=>rfl);(case hg=>rfl);(case hr=>first|(go_simp;done)|(go_simp;rfl));intro Vs hg w3 Zf hb;have n0_:=Ya (Yk (by repeat(first|(with_reducible first|exact HB.out|apply Ye|apply Yd|apply Yg)|exact HB.out)) hb);have n1_:=Ya (Zf);have n2_:=Ya ((by rw[hg];exact(Yi (by repeat(first|(with_reducible first|exact HB.out|apply Ye|apply Yd|apply Yg)|exact HB.out))):w.heap.size≤Vs));have n3_:=Ya ((by rw[hg];exact(Yi (by repeat(first|(with_reducible first|exact HB.out|apply Ye|apply Yd|apply Yg)|exact HB.out))):w.heap.size≤Vs));clear HB;have HB:=n0_;have Xb:=n1_;have GW481:=n2_;have Vz:=n3_;clear n0_ n1_ n2_ n3_;clear hb Zf hg)))
 go_loopg [5,6] k (fun kq v5 v6 w'=> ∃ (Wd:List (S113)) (Xd:Int),v6= .int .i64 Xd∧Aside0 (ebbtideref07_Steps.l0 kq l1 Wd Xd Zb Zc Za=some r)∧Aside0 (kq≤k)∧Aside0 (Kd.R k113 113 w' w.heap.size (fun _=>True) v5 Wd)∧Aside0 (w'.heap[Vs]? =some (.cells #[.int .i64 Zb, .bool Zc,(.slice Ze Za.length Zd)] 32 (0,0)))∧Aside0 (Below w.heap.size w w'))
 case atStart=>exact⟨(([]:List (S113))),(0),(by first|rfl|(simp;done)|(simp[*];done)),H',⟨Nat.le_refl _⟩,⟨by first|exact Kd.R_nil _ _ _ _ _|exact Kd.N_nil _ _ _ _ _|exact Kd.V_nil _ _ _ _ _|exact Kd.Q_nil _ _ _ _ _|exact Kd.S_nil _ _ _ _ _⟩,⟨by(with_reducible repeat(first|refine Yl ?_ _|refine Ym ?_|refine Yj ?_ _));exact Xb.out⟩,⟨by repeat(first|(with_reducible first|exact HB.out|apply Ye|apply Yd|apply Yg|refine Yh ?_ Vz.out)|exact HB.out)⟩⟩
 case round=>
  clear H';try clear c1
  try clear p2
  obtain⟨Wd,Xd,rfl,HA,HK1,HO_5,Xb,HB⟩:=hrel;cases gk with
  |zero=>exact absurd HA.out (by simp[ebbtideref07_Steps.l0])
  |succ k1=>
   have H:=HA.out;clear HA;simp only[ebbtideref07_Steps.l0] at H;by_cases c4:Xd<(l1.length:Int)
   rotate_left
   ·rw[Yy c4] at H
    have c4b0:decide (Xd<(l1.length:Int))=false:=Yw c4;clear c4;obtain rfl:=Option.some.inj H;go_wp2;repeat(go_quiet (fail);try go_wp2)
    go_ret;exact⟨_,by first|rfl|(simp[errW_none,errW_some]<;>rfl)|(simp[*,errW_none,errW_some]<;>rfl),by(with_reducible repeat(first|apply Yr|apply Yq|apply Yp));exact HO_5.out,by repeat(first|(with_reducible first|exact HB.out|apply Ye|apply Yd|apply Yg|refine Yh ?_ Vz.out)|exact HB.out)⟩
   rw[Yx c4] at H;have c4b0:decide (Xd<(l1.length:Int))=true:=Yv c4;clear c4;by_cases c5:0≤Xd
   rotate_left
   ·rw[Yy c5] at H
    exact absurd H (by simp)
   rw[Yx c5] at H;have c5b0:decide (0≤Xd)=true:=Yv c5;clear c5;by_cases c6:Xd<(Za.length:Int)
   rotate_left
   ·rw[Yy c6] at H
    exact absurd H (by simp)
   rw[Yx c6] at H;have c6b0:decide (Xd<(Za.length:Int))=true:=Yv c6;clear c6;by_cases c7:((rd_T73 Za Xd).f2)>(rd l1 Xd)
   ·rw[Yx c7] at H
    have c7b0:decide ((rd l1 Xd)<((rd_T73 Za Xd).f2))=true:=Yv c7;clear c7;by_cases c8:Wd.length<8796093022208
    rotate_left
    ·rw[Yy c8] at H
     exact absurd H (by simp)
    rw[Yx c8] at H;have LMc8:=Ya c8;clear c8;obtain⟨y484,hy484⟩: ∃ y_:List (S113),y_=(Wd ++ [(⟨Xd,false⟩:S113)]):=⟨_,rfl⟩;replace H:(if (rd l1 Xd)>0 then(if y484.length<8796093022208 then(ebbtideref07_Steps.l0 k1 l1 (y484 ++ [(⟨Xd,true⟩:S113)]) (wrap64 (Xd+1)) Zb Zc Za) else(none)) else(ebbtideref07_Steps.l0 k1 l1 y484 (wrap64 (Xd+1)) Zb Zc Za))=some r:=by first|(rw[hy484];with_reducible exact H)|(have H2_:=(Option.bind_some _ _).symm.trans H;rw[hy484];with_reducible exact H2_)|(have H2_:=(Option.bind_some _ _).symm.trans H;with_reducible exact H2_)|with_reducible exact H|(rw[hy484];exact H)|exact H
    have Ny484:=Ya hy484;clear hy484;by_cases c9:(rd l1 Xd)>0
    rotate_left
    ·rw[Yy c9] at H
     have c9b0:decide (0<(rd l1 Xd))=false:=Yw c9;clear c9;have H':=Ya H;clear H;have hcz14_0:wr.cell? ⟨Vs,0,none⟩=some (.int .i64 Zb):=(Yc Xb.out 0).trans rfl;have hcz14_1:wr.cell? ⟨Vs,1,none⟩=some (.bool Zc):=(Yc Xb.out 1).trans rfl;have hcz14_2:wr.cell? ⟨Vs,2,none⟩=some (.slice Ze Za.length Zd):=(Yc Xb.out 2).trans rfl;have hfz14_0:=Yf Xb.out 0;have hfz14_1:=Yf Xb.out 1;have hfz14_2:=Yf Xb.out 2;have p482:0≤(Xd:Int):=Yu (by first|(with_reducible assumption)|assumption);have q482:Xd<(Za.length:Int):=Yu (by first|(with_reducible assumption)|assumption);obtain⟨ad482,e482,Jm,Jn,Jo,Jp⟩:=at_T73 Zo.out Xd p482 q482;cases e482;replace Jm:=(HB.out.cell (Yb w _ Jm)).trans Jm;replace Jn:=(HB.out.cell (Yb w _ Jn)).trans Jn;replace Jo:=(HB.out.cell (Yb w _ Jo)).trans Jo;replace Jp:=(HB.out.cell (Yb w _ Jp)).trans Jp;replace p482:=eq_true p482;replace q482:=eq_true q482;have p483:0≤(Xd:Int):=Yu (by first|(with_reducible assumption)|assumption);have q483:Xd<(l1.length:Int):=Yu (by first|(with_reducible assumption)|assumption);obtain⟨ad483,e483,Jq⟩:=Kd.at_int HR1.out Xd p483 q483;cases e483;replace Jq:=(HB.out.cell (Yb w _ Jq)).trans Jq;replace p483:=eq_true p483;replace q483:=eq_true q483;go_wp2_with (first|((with_reducible refine gate_builtin (b:= .append) (xs:= #[.tmp 24, .tmp 27]) rfl ?_);at_builtin;refine Kd.R_append k113 (w0:=w) w.heap.size rfl (.tmp 24) (.tmp 27) 96 113 (.agg #[(.int .i64 0),(.bool false)]) 16 rfl Try.underlying96 info113 rfl (by decide) (by omega) u5 Wd (⟨Xd,false⟩:S113) [.int .i64 Xd, .bool false] (fun _=>True) (fun _=>False) rfl rfl ?aP (fun _ hk=>hk.elim) ?aF ?aO ?aB ?aS ?aL ?_;(case aP=>exact k113_mkM _ _ _ (⟨Xd,false⟩:S113));(case aB=>exact(by repeat(first|(with_reducible first|exact HB.out|apply Ye|apply Yd|apply Yg|refine Yh ?_ Vz.out)|exact HB.out)));(case aF=>exact(fun _ _=>trivial));(case aO=>exact(by(with_reducible repeat(first|apply Yr|apply Yq|apply Yp));exact HO_5.out));(case aS=>exact(Yi (by repeat(first|(with_reducible first|exact HB.out|apply Ye|apply Yd|apply Yg|refine Yh ?_ Vz.out)|exact HB.out))));(case aL=>have:=LMc8.out;omega);intro v485 w15 ho hb hg hat;rw[← Ny484.out] at ho;have n0_:=Ya (blk_grown (g:=Vs) (o:= .cells #[.int .i64 Zb, .bool Zc, .slice (some ad482) Za.length Zd] 32 (0,0)) (by(with_reducible repeat(first|refine Yl ?_ _|refine Ym ?_|refine Yj ?_ _));exact Xb.out) hg (Kd.R_ne HO_5.out Xb.out (by decide)));have n1_:=Ya (hb);have n2_:=Ya (ho);clear Xb;clear HB;clear HO_5;have Xb:=n0_;have HB:=n1_;have HO486:=n2_;clear n0_ n1_ n2_;clear ho hb hg hat;have p487:0≤(Xd:Int):=Yu (by first|(with_reducible assumption)|assumption);have q487:Xd<(l1.length:Int):=Yu (by first|(with_reducible assumption)|assumption);obtain⟨ad487,e487,Wz⟩:=Kd.at_int HR1.out Xd p487 q487;obtain rfl:ad483=ad487:=(by injection e487);replace Wz:=(HB.out.cell (Yb w _ Wz)).trans Wz;replace p487:=eq_true p487;replace q487:=eq_true q487));repeat(go_quiet (first|((with_reducible refine gate_builtin (b:= .append) (xs:= #[.tmp 24, .tmp 27]) rfl ?_);at_builtin;refine Kd.R_append k113 (w0:=w) w.heap.size rfl (.tmp 24) (.tmp 27) 96 113 (.agg #[(.int .i64 0),(.bool false)]) 16 rfl Try.underlying96 info113 rfl (by decide) (by omega) u5 Wd (⟨Xd,false⟩:S113) [.int .i64 Xd, .bool false] (fun _=>True) (fun _=>False) rfl rfl ?aP (fun _ hk=>hk.elim) ?aF ?aO ?aB ?aS ?aL ?_;(case aP=>exact k113_mkM _ _ _ (⟨Xd,false⟩:S113));(case aB=>exact(by repeat(first|(with_reducible first|exact HB.out|apply Ye|apply Yd|apply Yg|refine Yh ?_ Vz.out)|exact HB.out)));(case aF=>exact(fun _ _=>trivial));(case aO=>exact(by(with_reducible repeat(first|apply Yr|apply Yq|apply Yp));exact HO_5.out));(case aS=>exact(Yi (by repeat(first|(with_reducible first|exact HB.out|apply Ye|apply Yd|apply Yg|refine Yh ?_ Vz.out)|exact HB.out))));(case aL=>have:=LMc8.out;omega);intro v485 w15 ho hb hg hat;rw[← Ny484.out] at ho;have n0_:=Ya (blk_grown (g:=Vs) (o:= .cells #[.int .i64 Zb, .bool Zc, .slice (some ad482) Za.length Zd] 32 (0,0)) (by(with_reducible repeat(first|refine Yl ?_ _|refine Ym ?_|refine Yj ?_ _));exact Xb.out) hg (Kd.R_ne HO_5.out Xb.out (by decide)));have n1_:=Ya (hb);have n2_:=Ya (ho);clear Xb;clear HB;clear HO_5;have Xb:=n0_;have HB:=n1_;have HO486:=n2_;clear n0_ n1_ n2_;clear ho hb hg hat;have p487:0≤(Xd:Int):=Yu (by first|(with_reducible assumption)|assumption);have q487:Xd<(l1.length:Int):=Yu (by first|(with_reducible assumption)|assumption);obtain⟨ad487,e487,Wz⟩:=Kd.at_int HR1.out Xd p487 q487;obtain rfl:ad483=ad487:=(by injection e487);replace Wz:=(HB.out.cell (Yb w _ Wz)).trans Wz;replace p487:=eq_true p487;replace q487:=eq_true q487));try go_wp2_with (first|((with_reducible refine gate_builtin (b:= .append) (xs:= #[.tmp 24, .tmp 27]) rfl ?_);at_builtin;refine Kd.R_append k113 (w0:=w) w.heap.size rfl (.tmp 24) (.tmp 27) 96 113 (.agg #[(.int .i64 0),(.bool false)]) 16 rfl Try.underlying96 info113 rfl (by decide) (by omega) u5 Wd (⟨Xd,false⟩:S113) [.int .i64 Xd, .bool false] (fun _=>True) (fun _=>False) rfl rfl ?aP (fun _ hk=>hk.elim) ?aF ?aO ?aB ?aS ?aL ?_;(case aP=>exact k113_mkM _ _ _ (⟨Xd,false⟩:S113));(case aB=>exact(by repeat(first|(with_reducible first|exact HB.out|apply Ye|apply Yd|apply Yg|refine Yh ?_ Vz.out)|exact HB.out)));(case aF=>exact(fun _ _=>trivial));(case aO=>exact(by(with_reducible repeat(first|apply Yr|apply Yq|apply Yp));exact HO_5.out));(case aS=>exact(Yi (by repeat(first|(with_reducible first|exact HB.out|apply Ye|apply Yd|apply Yg|refine Yh ?_ Vz.out)|exact HB.out))));(case aL=>have:=LMc8.out;omega);intro v485 w15 ho hb hg hat;rw[← Ny484.out] at ho;have n0_:=Ya (blk_grown (g:=Vs) (o:= .cells #[.int .i64 Zb, .bool Zc, .slice (some ad482) Za.length Zd] 32 (0,0)) (by(with_reducible repeat(first|refine Yl ?_ _|refine Ym ?_|refine Yj ?_ _));exact Xb.out) hg (Kd.R_ne HO_5.out Xb.out (by decide)));have n1_:=Ya (hb);have n2_:=Ya (ho);clear Xb;clear HB;clear HO_5;have Xb:=n0_;have HB:=n1_;have HO486:=n2_;clear n0_ n1_ n2_;clear ho hb hg hat;have p487:0≤(Xd:Int):=Yu (by first|(with_reducible assumption)|assumption);have q487:Xd<(l1.length:Int):=Yu (by first|(with_reducible assumption)|assumption);obtain⟨ad487,e487,Wz⟩:=Kd.at_int HR1.out Xd p487 q487;obtain rfl:ad483=ad487:=(by injection e487);replace Wz:=(HB.out.cell (Yb w _ Wz)).trans Wz;replace p487:=eq_true p487;replace q487:=eq_true q487)))
     go_roundg k1
     case measure=>have:=HK1.out;omega
     case rel=>exact⟨(y484),(wrap64 (Xd+1)),(by first|rfl|(simp;done)|(simp[*];done)),H',⟨by have:=HK1.out;omega⟩,⟨by(with_reducible repeat(first|apply Yr|apply Yq|apply Yp));exact HO486.out⟩,⟨by(with_reducible repeat(first|refine Yl ?_ _|refine Ym ?_|refine Yj ?_ _));exact Xb.out⟩,⟨by repeat(first|(with_reducible first|exact HB.out|apply Ye|apply Yd|apply Yg|refine Yh ?_ Vz.out)|exact HB.out)⟩⟩
    rw[Yx c9] at H;have c9b0:decide (0<(rd l1 Xd))=true:=Yv c9;clear c9;by_cases c10:y484.length<8796093022208
    rotate_left
    ·rw[Yy c10] at H
     exact absurd H (by simp)
    rw[Yx c10] at H;have LMc10:=Ya c10;clear c10;obtain⟨y488,hy488⟩: ∃ y_:List (S113),y_=(y484 ++ [(⟨Xd,true⟩:S113)]):=⟨_,rfl⟩;replace H:(ebbtideref07_Steps.l0 k1 l1 y488 (wrap64 (Xd+1)) Zb Zc Za)=some r:=by first|(rw[hy488];with_reducible exact H)|(have H2_:=(Option.bind_some _ _).symm.trans H;rw[hy488];with_reducible exact H2_)|(have H2_:=(Option.bind_some _ _).symm.trans H;with_reducible exact H2_)|with_reducible exact H|(rw[hy488];exact H)|exact H
    have Ny488:=Ya hy488;clear hy488;have H':=Ya H;clear H;have hcz11_0:wr.cell? ⟨Vs,0,none⟩=some (.int .i64 Zb):=(Yc Xb.out 0).trans rfl;have hcz11_1:wr.cell? ⟨Vs,1,none⟩=some (.bool Zc):=(Yc Xb.out 1).trans rfl;have hcz11_2:wr.cell? ⟨Vs,2,none⟩=some (.slice Ze Za.length Zd):=(Yc Xb.out 2).trans rfl;have hfz11_0:=Yf Xb.out 0;have hfz11_1:=Yf Xb.out 1;have hfz11_2:=Yf Xb.out 2;have p482:0≤(Xd:Int):=Yu (by first|(with_reducible assumption)|assumption);have q482:Xd<(Za.length:Int):=Yu (by first|(with_reducible assumption)|assumption);obtain⟨ad482,e482,Jm,Jn,Jo,Jp⟩:=at_T73 Zo.out Xd p482 q482;cases e482;replace Jm:=(HB.out.cell (Yb w _ Jm)).trans Jm;replace Jn:=(HB.out.cell (Yb w _ Jn)).trans Jn;replace Jo:=(HB.out.cell (Yb w _ Jo)).trans Jo;replace Jp:=(HB.out.cell (Yb w _ Jp)).trans Jp;replace p482:=eq_true p482;replace q482:=eq_true q482;have p483:0≤(Xd:Int):=Yu (by first|(with_reducible assumption)|assumption);have q483:Xd<(l1.length:Int):=Yu (by first|(with_reducible assumption)|assumption);obtain⟨ad483,e483,Jq⟩:=Kd.at_int HR1.out Xd p483 q483;cases e483;replace Jq:=(HB.out.cell (Yb w _ Jq)).trans Jq;replace p483:=eq_true p483;replace q483:=eq_true q483;go_wp2_with (first|((with_reducible refine gate_builtin (b:= .append) (xs:= #[.tmp 24, .tmp 27]) rfl ?_);at_builtin;refine Kd.R_append k113 (w0:=w) w.heap.size rfl (.tmp 24) (.tmp 27) 96 113 (.agg #[(.int .i64 0),(.bool false)]) 16 rfl Try.underlying96 info113 rfl (by decide) (by omega) u5 Wd (⟨Xd,false⟩:S113) [.int .i64 Xd, .bool false] (fun _=>True) (fun _=>False) rfl rfl ?aP (fun _ hk=>hk.elim) ?aF ?aO ?aB ?aS ?aL ?_;(case aP=>exact k113_mkM _ _ _ (⟨Xd,false⟩:S113));(case aB=>exact(by repeat(first|(with_reducible first|exact HB.out|apply Ye|apply Yd|apply Yg|refine Yh ?_ Vz.out)|exact HB.out)));(case aF=>exact(fun _ _=>trivial));(case aO=>exact(by(with_reducible repeat(first|apply Yr|apply Yq|apply Yp));exact HO_5.out));(case aS=>exact(Yi (by repeat(first|(with_reducible first|exact HB.out|apply Ye|apply Yd|apply Yg|refine Yh ?_ Vz.out)|exact HB.out))));(case aL=>have:=LMc8.out;omega);intro v485 w12 ho hb hg hat;rw[← Ny484.out] at ho;have n0_:=Ya (blk_grown (g:=Vs) (o:= .cells #[.int .i64 Zb, .bool Zc, .slice (some ad482) Za.length Zd] 32 (0,0)) (by(with_reducible repeat(first|refine Yl ?_ _|refine Ym ?_|refine Yj ?_ _));exact Xb.out) hg (Kd.R_ne HO_5.out Xb.out (by decide)));have n1_:=Ya (hb);have n2_:=Ya (ho);clear Xb;clear HB;clear HO_5;have Xb:=n0_;have HB:=n1_;have HO486:=n2_;clear n0_ n1_ n2_;clear ho hb hg hat;have p487:0≤(Xd:Int):=Yu (by first|(with_reducible assumption)|assumption);have q487:Xd<(l1.length:Int):=Yu (by first|(with_reducible assumption)|assumption);obtain⟨ad487,e487,Wz⟩:=Kd.at_int HR1.out Xd p487 q487;obtain rfl:ad483=ad487:=(by injection e487);replace Wz:=(HB.out.cell (Yb w _ Wz)).trans Wz;replace p487:=eq_true p487;replace q487:=eq_true q487)|((with_reducible refine gate_builtin (b:= .append) (xs:= #[.tmp 34, .tmp 37]) rfl ?_);at_builtin;refine Kd.R_append k113 (w0:=w) w.heap.size rfl (.tmp 34) (.tmp 37) 96 113 (.agg #[(.int .i64 0),(.bool false)]) 16 rfl Try.underlying96 info113 rfl (by decide) (by omega) v485 y484 (⟨Xd,true⟩:S113) [.int .i64 Xd, .bool true] (fun _=>True) (fun _=>False) rfl rfl ?aP (fun _ hk=>hk.elim) ?aF ?aO ?aB ?aS ?aL ?_;(case aP=>exact k113_mkM _ _ _ (⟨Xd,true⟩:S113));(case aB=>exact(by repeat(first|(with_reducible first|exact HB.out|apply Ye|apply Yd|apply Yg|refine Yh ?_ Vz.out)|exact HB.out)));(case aF=>exact(fun _ _=>trivial));(case aO=>exact(by(with_reducible repeat(first|apply Yr|apply Yq|apply Yp));exact HO486.out));(case aS=>exact(Yi (by repeat(first|(with_reducible first|exact HB.out|apply Ye|apply Yd|apply Yg|refine Yh ?_ Vz.out)|exact HB.out))));(case aL=>have:=LMc10.out;omega);intro v489 w13 ho hb hg hat;rw[← Ny488.out] at ho;have n0_:=Ya (blk_grown (g:=Vs) (o:= .cells #[.int .i64 Zb, .bool Zc, .slice (some ad482) Za.length Zd] 32 (0,0)) (by(with_reducible repeat(first|refine Yl ?_ _|refine Ym ?_|refine Yj ?_ _));exact Xb.out) hg (Kd.R_ne HO486.out Xb.out (by decide)));have n1_:=Ya (hb);have n2_:=Ya (ho);clear Xb;clear HB;clear HO486;have Xb:=n0_;have HB:=n1_;have HO490:=n2_;clear n0_ n1_ n2_;clear ho hb hg hat));repeat(go_quiet (first|((with_reducible refine gate_builtin (b:= .append) (xs:= #[.tmp 24, .tmp 27]) rfl ?_);at_builtin;refine Kd.R_append k113 (w0:=w) w.heap.size rfl (.tmp 24) (.tmp 27) 96 113 (.agg #[(.int .i64 0),(.bool false)]) 16 rfl Try.underlying96 info113 rfl (by decide) (by omega) u5 Wd (⟨Xd,false⟩:S113) [.int .i64 Xd, .bool false] (fun _=>True) (fun _=>False) rfl rfl ?aP (fun _ hk=>hk.elim) ?aF ?aO ?aB ?aS ?aL ?_;(case aP=>exact k113_mkM _ _ _ (⟨Xd,false⟩:S113));(case aB=>exact(by repeat(first|(with_reducible first|exact HB.out|apply Ye|apply Yd|apply Yg|refine Yh ?_ Vz.out)|exact HB.out)));(case aF=>exact(fun _ _=>trivial));(case aO=>exact(by(with_reducible repeat(first|apply Yr|apply Yq|apply Yp));exact HO_5.out));(case aS=>exact(Yi (by repeat(first|(with_reducible first|exact HB.out|apply Ye|apply Yd|apply Yg|refine Yh ?_ Vz.out)|exact HB.out))));(case aL=>have:=LMc8.out;omega);intro v485 w12 ho hb hg hat;rw[← Ny484.out] at ho;have n0_:=Ya (blk_grown (g:=Vs) (o:= .cells #[.int .i64 Zb, .bool Zc, .slice (some ad482) Za.length Zd] 32 (0,0)) (by(with_reducible repeat(first|refine Yl ?_ _|refine Ym ?_|refine Yj ?_ _));exact Xb.out) hg (Kd.R_ne HO_5.out Xb.out (by decide)));have n1_:=Ya (hb);have n2_:=Ya (ho);clear Xb;clear HB;clear HO_5;have Xb:=n0_;have HB:=n1_;have HO486:=n2_;clear n0_ n1_ n2_;clear ho hb hg hat;have p487:0≤(Xd:Int):=Yu (by first|(with_reducible assumption)|assumption);have q487:Xd<(l1.length:Int):=Yu (by first|(with_reducible assumption)|assumption);obtain⟨ad487,e487,Wz⟩:=Kd.at_int HR1.out Xd p487 q487;obtain rfl:ad483=ad487:=(by injection e487);replace Wz:=(HB.out.cell (Yb w _ Wz)).trans Wz;replace p487:=eq_true p487;replace q487:=eq_true q487)|((with_reducible refine gate_builtin (b:= .append) (xs:= #[.tmp 34, .tmp 37]) rfl ?_);at_builtin;refine Kd.R_append k113 (w0:=w) w.heap.size rfl (.tmp 34) (.tmp 37) 96 113 (.agg #[(.int .i64 0),(.bool false)]) 16 rfl Try.underlying96 info113 rfl (by decide) (by omega) v485 y484 (⟨Xd,true⟩:S113) [.int .i64 Xd, .bool true] (fun _=>True) (fun _=>False) rfl rfl ?aP (fun _ hk=>hk.elim) ?aF ?aO ?aB ?aS ?aL ?_;(case aP=>exact k113_mkM _ _ _ (⟨Xd,true⟩:S113));(case aB=>exact(by repeat(first|(with_reducible first|exact HB.out|apply Ye|apply Yd|apply Yg|refine Yh ?_ Vz.out)|exact HB.out)));(case aF=>exact(fun _ _=>trivial));(case aO=>exact(by(with_reducible repeat(first|apply Yr|apply Yq|apply Yp));exact HO486.out));(case aS=>exact(Yi (by repeat(first|(with_reducible first|exact HB.out|apply Ye|apply Yd|apply Yg|refine Yh ?_ Vz.out)|exact HB.out))));(case aL=>have:=LMc10.out;omega);intro v489 w13 ho hb hg hat;rw[← Ny488.out] at ho;have n0_:=Ya (blk_grown (g:=Vs) (o:= .cells #[.int .i64 Zb, .bool Zc, .slice (some ad482) Za.length Zd] 32 (0,0)) (by(with_reducible repeat(first|refine Yl ?_ _|refine Ym ?_|refine Yj ?_ _));exact Xb.out) hg (Kd.R_ne HO486.out Xb.out (by decide)));have n1_:=Ya (hb);have n2_:=Ya (ho);clear Xb;clear HB;clear HO486;have Xb:=n0_;have HB:=n1_;have HO490:=n2_;clear n0_ n1_ n2_;clear ho hb hg hat));try go_wp2_with (first|((with_reducible refine gate_builtin (b:= .append) (xs:= #[.tmp 24, .tmp 27]) rfl ?_);at_builtin;refine Kd.R_append k113 (w0:=w) w.heap.size rfl (.tmp 24) (.tmp 27) 96 113 (.agg #[(.int .i64 0),(.bool false)]) 16 rfl Try.underlying96 info113 rfl (by decide) (by omega) u5 Wd (⟨Xd,false⟩:S113) [.int .i64 Xd, .bool false] (fun _=>True) (fun _=>False) rfl rfl ?aP (fun _ hk=>hk.elim) ?aF ?aO ?aB ?aS ?aL ?_;(case aP=>exact k113_mkM _ _ _ (⟨Xd,false⟩:S113));(case aB=>exact(by repeat(first|(with_reducible first|exact HB.out|apply Ye|apply Yd|apply Yg|refine Yh ?_ Vz.out)|exact HB.out)));(case aF=>exact(fun _ _=>trivial));(case aO=>exact(by(with_reducible repeat(first|apply Yr|apply Yq|apply Yp));exact HO_5.out));(case aS=>exact(Yi (by repeat(first|(with_reducible first|exact HB.out|apply Ye|apply Yd|apply Yg|refine Yh ?_ Vz.out)|exact HB.out))));(case aL=>have:=LMc8.out;omega);intro v485 w12 ho hb hg hat;rw[← Ny484.out] at ho;have n0_:=Ya (blk_grown (g:=Vs) (o:= .cells #[.int .i64 Zb, .bool Zc, .slice (some ad482) Za.length Zd] 32 (0,0)) (by(with_reducible repeat(first|refine Yl ?_ _|refine Ym ?_|refine Yj ?_ _));exact Xb.out) hg (Kd.R_ne HO_5.out Xb.out (by decide)));have n1_:=Ya (hb);have n2_:=Ya (ho);clear Xb;clear HB;clear HO_5;have Xb:=n0_;have HB:=n1_;have HO486:=n2_;clear n0_ n1_ n2_;clear ho hb hg hat;have p487:0≤(Xd:Int):=Yu (by first|(with_reducible assumption)|assumption);have q487:Xd<(l1.length:Int):=Yu (by first|(with_reducible assumption)|assumption);obtain⟨ad487,e487,Wz⟩:=Kd.at_int HR1.out Xd p487 q487;obtain rfl:ad483=ad487:=(by injection e487);replace Wz:=(HB.out.cell (Yb w _ Wz)).trans Wz;replace p487:=eq_true p487;replace q487:=eq_true q487)|((with_reducible refine gate_builtin (b:= .append) (xs:= #[.tmp 34, .tmp 37]) rfl ?_);at_builtin;refine Kd.R_append k113 (w0:=w) w.heap.size rfl (.tmp 34) (.tmp 37) 96 113 (.agg #[(.int .i64 0),(.bool false)]) 16 rfl Try.underlying96 info113 rfl (by decide) (by omega) v485 y484 (⟨Xd,true⟩:S113) [.int .i64 Xd, .bool true] (fun _=>True) (fun _=>False) rfl rfl ?aP (fun _ hk=>hk.elim) ?aF ?aO ?aB ?aS ?aL ?_;(case aP=>exact k113_mkM _ _ _ (⟨Xd,true⟩:S113));(case aB=>exact(by repeat(first|(with_reducible first|exact HB.out|apply Ye|apply Yd|apply Yg|refine Yh ?_ Vz.out)|exact HB.out)));(case aF=>exact(fun _ _=>trivial));(case aO=>exact(by(with_reducible repeat(first|apply Yr|apply Yq|apply Yp));exact HO486.out));(case aS=>exact(Yi (by repeat(first|(with_reducible first|exact HB.out|apply Ye|apply Yd|apply Yg|refine Yh ?_ Vz.out)|exact HB.out))));(case aL=>have:=LMc10.out;omega);intro v489 w13 ho hb hg hat;rw[← Ny488.out] at ho;have n0_:=Ya (blk_grown (g:=Vs) (o:= .cells #[.int .i64 Zb, .bool Zc, .slice (some ad482) Za.length Zd] 32 (0,0)) (by(with_reducible repeat(first|refine Yl ?_ _|refine Ym ?_|refine Yj ?_ _));exact Xb.out) hg (Kd.R_ne HO486.out Xb.out (by decide)));have n1_:=Ya (hb);have n2_:=Ya (ho);clear Xb;clear HB;clear HO486;have Xb:=n0_;have HB:=n1_;have HO490:=n2_;clear n0_ n1_ n2_;clear ho hb hg hat)))
    go_roundg k1
    case measure=>have:=HK1.out;omega
    case rel=>exact⟨(y488),(wrap64 (Xd+1)),(by first|rfl|(simp;done)|(simp[*];done)),H',⟨by have:=HK1.out;omega⟩,⟨by(with_reducible repeat(first|apply Yr|apply Yq|apply Yp));exact HO490.out⟩,⟨by(with_reducible repeat(first|refine Yl ?_ _|refine Ym ?_|refine Yj ?_ _));exact Xb.out⟩,⟨by repeat(first|(with_reducible first|exact HB.out|apply Ye|apply Yd|apply Yg|refine Yh ?_ Vz.out)|exact HB.out)⟩⟩
   rw[Yy c7] at H;have c7b0:decide ((rd l1 Xd)<((rd_T73 Za Xd).f2))=false:=Yw c7;clear c7;by_cases c16:(rd l1 Xd)>0
   rotate_left
   ·rw[Yy c16] at H
    have c16b0:decide (0<(rd l1 Xd))=false:=Yw c16;clear c16;have H':=Ya H;clear H;have hcz20_0:wr.cell? ⟨Vs,0,none⟩=some (.int .i64 Zb):=(Yc Xb.out 0).trans rfl;have hcz20_1:wr.cell? ⟨Vs,1,none⟩=some (.bool Zc):=(Yc Xb.out 1).trans rfl;have hcz20_2:wr.cell? ⟨Vs,2,none⟩=some (.slice Ze Za.length Zd):=(Yc Xb.out 2).trans rfl;have hfz20_0:=Yf Xb.out 0;have hfz20_1:=Yf Xb.out 1;have hfz20_2:=Yf Xb.out 2;have p482:0≤(Xd:Int):=Yu (by first|(with_reducible assumption)|assumption);have q482:Xd<(Za.length:Int):=Yu (by first|(with_reducible assumption)|assumption);obtain⟨ad482,e482,Jm,Jn,Jo,Jp⟩:=at_T73 Zo.out Xd p482 q482;cases e482;replace Jm:=(HB.out.cell (Yb w _ Jm)).trans Jm;replace Jn:=(HB.out.cell (Yb w _ Jn)).trans Jn;replace Jo:=(HB.out.cell (Yb w _ Jo)).trans Jo;replace Jp:=(HB.out.cell (Yb w _ Jp)).trans Jp;replace p482:=eq_true p482;replace q482:=eq_true q482;have p483:0≤(Xd:Int):=Yu (by first|(with_reducible assumption)|assumption);have q483:Xd<(l1.length:Int):=Yu (by first|(with_reducible assumption)|assumption);obtain⟨ad483,e483,Jq⟩:=Kd.at_int HR1.out Xd p483 q483;cases e483;replace Jq:=(HB.out.cell (Yb w _ Jq)).trans Jq;replace p483:=eq_true p483;replace q483:=eq_true q483;have p491:0≤(Xd:Int):=Yu (by first|(with_reducible assumption)|assumption);have q491:Xd<(l1.length:Int):=Yu (by first|(with_reducible assumption)|assumption);obtain⟨ad491,e491,hx491_0⟩:=Kd.at_int HR1.out Xd p491 q491;obtain rfl:ad483=ad491:=(by injection e491);replace hx491_0:=(HB.out.cell (Yb w _ hx491_0)).trans hx491_0;replace p491:=eq_true p491;replace q491:=eq_true q491;go_wp2;repeat(go_quiet (fail);try go_wp2)
    go_roundg k1
    case measure=>have:=HK1.out;omega
    case rel=>exact⟨(Wd),(wrap64 (Xd+1)),(by first|rfl|(simp;done)|(simp[*];done)),H',⟨by have:=HK1.out;omega⟩,⟨by(with_reducible repeat(first|apply Yr|apply Yq|apply Yp));exact HO_5.out⟩,⟨by(with_reducible repeat(first|refine Yl ?_ _|refine Ym ?_|refine Yj ?_ _));exact Xb.out⟩,⟨by repeat(first|(with_reducible first|exact HB.out|apply Ye|apply Yd|apply Yg|refine Yh ?_ Vz.out)|exact HB.out)⟩⟩
   rw[Yx c16] at H;have c16b0:decide (0<(rd l1 Xd))=true:=Yv c16;clear c16;by_cases c17:Wd.length<8796093022208
   rotate_left
   ·rw[Yy c17] at H
    exact absurd H (by simp)
   rw[Yx c17] at H;have LMc17:=Ya c17;clear c17;obtain⟨y492,hy492⟩: ∃ y_:List (S113),y_=(Wd ++ [(⟨Xd,true⟩:S113)]):=⟨_,rfl⟩;replace H:(ebbtideref07_Steps.l0 k1 l1 y492 (wrap64 (Xd+1)) Zb Zc Za)=some r:=by first|(rw[hy492];with_reducible exact H)|(have H2_:=(Option.bind_some _ _).symm.trans H;rw[hy492];with_reducible exact H2_)|(have H2_:=(Option.bind_some _ _).symm.trans H;with_reducible exact H2_)|with_reducible exact H|(rw[hy492];exact H)|exact H
   have Ny492:=Ya hy492;clear hy492;have H':=Ya H;clear H;have hcz18_0:wr.cell? ⟨Vs,0,none⟩=some (.int .i64 Zb):=(Yc Xb.out 0).trans rfl;have hcz18_1:wr.cell? ⟨Vs,1,none⟩=some (.bool Zc):=(Yc Xb.out 1).trans rfl;have hcz18_2:wr.cell? ⟨Vs,2,none⟩=some (.slice Ze Za.length Zd):=(Yc Xb.out 2).trans rfl;have hfz18_0:=Yf Xb.out 0;have hfz18_1:=Yf Xb.out 1;have hfz18_2:=Yf Xb.out 2;have p482:0≤(Xd:Int):=Yu (by first|(with_reducible assumption)|assumption);have q482:Xd<(Za.length:Int):=Yu (by first|(with_reducible assumption)|assumption);obtain⟨ad482,e482,Jm,Jn,Jo,Jp⟩:=at_T73 Zo.out Xd p482 q482;cases e482;replace Jm:=(HB.out.cell (Yb w _ Jm)).trans Jm;replace Jn:=(HB.out.cell (Yb w _ Jn)).trans Jn;replace Jo:=(HB.out.cell (Yb w _ Jo)).trans Jo;replace Jp:=(HB.out.cell (Yb w _ Jp)).trans Jp;replace p482:=eq_true p482;replace q482:=eq_true q482;have p483:0≤(Xd:Int):=Yu (by first|(with_reducible assumption)|assumption);have q483:Xd<(l1.length:Int):=Yu (by first|(with_reducible assumption)|assumption);obtain⟨ad483,e483,Jq⟩:=Kd.at_int HR1.out Xd p483 q483;cases e483;replace Jq:=(HB.out.cell (Yb w _ Jq)).trans Jq;replace p483:=eq_true p483;replace q483:=eq_true q483;have p491:0≤(Xd:Int):=Yu (by first|(with_reducible assumption)|assumption);have q491:Xd<(l1.length:Int):=Yu (by first|(with_reducible assumption)|assumption);obtain⟨ad491,e491,hx491_0⟩:=Kd.at_int HR1.out Xd p491 q491;obtain rfl:ad483=ad491:=(by injection e491);replace hx491_0:=(HB.out.cell (Yb w _ hx491_0)).trans hx491_0;replace p491:=eq_true p491;replace q491:=eq_true q491;go_wp2_with (first|((with_reducible refine gate_builtin (b:= .append) (xs:= #[.tmp 34, .tmp 37]) rfl ?_);at_builtin;refine Kd.R_append k113 (w0:=w) w.heap.size rfl (.tmp 34) (.tmp 37) 96 113 (.agg #[(.int .i64 0),(.bool false)]) 16 rfl Try.underlying96 info113 rfl (by decide) (by omega) u5 Wd (⟨Xd,true⟩:S113) [.int .i64 Xd, .bool true] (fun _=>True) (fun _=>False) rfl rfl ?aP (fun _ hk=>hk.elim) ?aF ?aO ?aB ?aS ?aL ?_;(case aP=>exact k113_mkM _ _ _ (⟨Xd,true⟩:S113));(case aB=>exact(by repeat(first|(with_reducible first|exact HB.out|apply Ye|apply Yd|apply Yg|refine Yh ?_ Vz.out)|exact HB.out)));(case aF=>exact(fun _ _=>trivial));(case aO=>exact(by(with_reducible repeat(first|apply Yr|apply Yq|apply Yp));exact HO_5.out));(case aS=>exact(Yi (by repeat(first|(with_reducible first|exact HB.out|apply Ye|apply Yd|apply Yg|refine Yh ?_ Vz.out)|exact HB.out))));(case aL=>have:=LMc17.out;omega);intro v493 w19 ho hb hg hat;rw[← Ny492.out] at ho;have n0_:=Ya (blk_grown (g:=Vs) (o:= .cells #[.int .i64 Zb, .bool Zc, .slice (some ad482) Za.length Zd] 32 (0,0)) (by(with_reducible repeat(first|refine Yl ?_ _|refine Ym ?_|refine Yj ?_ _));exact Xb.out) hg (Kd.R_ne HO_5.out Xb.out (by decide)));have n1_:=Ya (hb);have n2_:=Ya (ho);clear Xb;clear HB;clear HO_5;have Xb:=n0_;have HB:=n1_;have HO494:=n2_;clear n0_ n1_ n2_;clear ho hb hg hat));repeat(go_quiet (first|((with_reducible refine gate_builtin (b:= .append) (xs:= #[.tmp 34, .tmp 37]) rfl ?_);at_builtin;refine Kd.R_append k113 (w0:=w) w.heap.size rfl (.tmp 34) (.tmp 37) 96 113 (.agg #[(.int .i64 0),(.bool false)]) 16 rfl Try.underlying96 info113 rfl (by decide) (by omega) u5 Wd (⟨Xd,true⟩:S113) [.int .i64 Xd, .bool true] (fun _=>True) (fun _=>False) rfl rfl ?aP (fun _ hk=>hk.elim) ?aF ?aO ?aB ?aS ?aL ?_;(case aP=>exact k113_mkM _ _ _ (⟨Xd,true⟩:S113));(case aB=>exact(by repeat(first|(with_reducible first|exact HB.out|apply Ye|apply Yd|apply Yg|refine Yh ?_ Vz.out)|exact HB.out)));(case aF=>exact(fun _ _=>trivial));(case aO=>exact(by(with_reducible repeat(first|apply Yr|apply Yq|apply Yp));exact HO_5.out));(case aS=>exact(Yi (by repeat(first|(with_reducible first|exact HB.out|apply Ye|apply Yd|apply Yg|refine Yh ?_ Vz.out)|exact HB.out))));(case aL=>have:=LMc17.out;omega);intro v493 w19 ho hb hg hat;rw[← Ny492.out] at ho;have n0_:=Ya (blk_grown (g:=Vs) (o:= .cells #[.int .i64 Zb, .bool Zc, .slice (some ad482) Za.length Zd] 32 (0,0)) (by(with_reducible repeat(first|refine Yl ?_ _|refine Ym ?_|refine Yj ?_ _));exact Xb.out) hg (Kd.R_ne HO_5.out Xb.out (by decide)));have n1_:=Ya (hb);have n2_:=Ya (ho);clear Xb;clear HB;clear HO_5;have Xb:=n0_;have HB:=n1_;have HO494:=n2_;clear n0_ n1_ n2_;clear ho hb hg hat));try go_wp2_with (first|((with_reducible refine gate_builtin (b:= .append) (xs:= #[.tmp 34, .tmp 37]) rfl ?_);at_builtin;refine Kd.R_append k113 (w0:=w) w.heap.size rfl (.tmp 34) (.tmp 37) 96 113 (.agg #[(.int .i64 0),(.bool false)]) 16 rfl Try.underlying96 info113 rfl (by decide) (by omega) u5 Wd (⟨Xd,true⟩:S113) [.int .i64 Xd, .bool true] (fun _=>True) (fun _=>False) rfl rfl ?aP (fun _ hk=>hk.elim) ?aF ?aO ?aB ?aS ?aL ?_;(case aP=>exact k113_mkM _ _ _ (⟨Xd,true⟩:S113));(case aB=>exact(by repeat(first|(with_reducible first|exact HB.out|apply Ye|apply Yd|apply Yg|refine Yh ?_ Vz.out)|exact HB.out)));(case aF=>exact(fun _ _=>trivial));(case aO=>exact(by(with_reducible repeat(first|apply Yr|apply Yq|apply Yp));exact HO_5.out));(case aS=>exact(Yi (by repeat(first|(with_reducible first|exact HB.out|apply Ye|apply Yd|apply Yg|refine Yh ?_ Vz.out)|exact HB.out))));(case aL=>have:=LMc17.out;omega);intro v493 w19 ho hb hg hat;rw[← Ny492.out] at ho;have n0_:=Ya (blk_grown (g:=Vs) (o:= .cells #[.int .i64 Zb, .bool Zc, .slice (some ad482) Za.length Zd] 32 (0,0)) (by(with_reducible repeat(first|refine Yl ?_ _|refine Ym ?_|refine Yj ?_ _));exact Xb.out) hg (Kd.R_ne HO_5.out Xb.out (by decide)));have n1_:=Ya (hb);have n2_:=Ya (ho);clear Xb;clear HB;clear HO_5;have Xb:=n0_;have HB:=n1_;have HO494:=n2_;clear n0_ n1_ n2_;clear ho hb hg hat)))
   go_roundg k1
   case measure=>have:=HK1.out;omega
   case rel=>exact⟨(y492),(wrap64 (Xd+1)),(by first|rfl|(simp;done)|(simp[*];done)),H',⟨by have:=HK1.out;omega⟩,⟨by(with_reducible repeat(first|apply Yr|apply Yq|apply Yp));exact HO494.out⟩,⟨by(with_reducible repeat(first|refine Yl ?_ _|refine Ym ?_|refine Yj ?_ _));exact Xb.out⟩,⟨by repeat(first|(with_reducible first|exact HB.out|apply Ye|apply Yd|apply Yg|refine Yh ?_ Vz.out)|exact HB.out)⟩⟩
end P
namespace H
abbrev Ed:=Nat × Nat × Int
abbrev Tm:=Nat→Option Int
def trig (σ:Tm) (e:Ed):Bool:=
 match σ e.1 with
 |none=>false
 |some x=>match σ e.2.1 with
  |none=>true
  |some y=>decide (x+e.2.2<y)
def relax (σ:Tm) (e:Ed):Tm:=if trig σ e then(fun v=>if v=e.2.1 then some ((σ e.1).getD 0+e.2.2) else σ v) else σ
def pass (E:List Ed) (σ:Tm):Tm:=E.foldl relax σ
def Path (E:List Ed):Nat→List Ed→Nat→Prop
 |a,[],b=>a=b
 |a,e::l,b=>e∈E∧e.1=a∧Path E e.2.1 l b
def long:List Ed→Int
 |[]=>0
 |e::l=>e.2.2+long l
theorem long_app (l m:List Ed):long (l ++ m)=long l+long m:=by
 induction l with
 |nil=>simp[long]
 |cons e l ih=>simp only[List.cons_append,long,ih];omega
def its (E:List Ed):Nat→Tm→Tm
 |0,σ=>σ
 |k+1,σ=>its E k (pass E σ)
structure NoGain (E:List Ed) (r:Nat→Prop):Prop where
 on: ∀ e,e∈E→r e.1→r e.2.1
 cyc: ∀ (a:Nat) (l:List Ed),r a→Path E a l a→0≤long l
def visits (a:Nat) (l:List Ed):List Nat:=a::l.map (fun e=>e.2.1)
theorem path_split {E:List Ed} {a b x:Nat} {l:List Ed} (h:Path E a l b) (hx:x∈visits a l): ∃ l1 l2,l=l1 ++ l2∧Path E a l1 x∧Path E x l2 b:=by
 induction l generalizing a with
 |nil=>
  rcases List.mem_cons.1 hx with rfl|hx
  ·exact⟨[],[],rfl,rfl,h⟩
  ·cases hx
 |cons e l ih=>
  rcases List.mem_cons.1 hx with rfl|hx
  ·exact⟨[],e::l,rfl,rfl,h⟩
  ·obtain⟨he,hu,hp⟩:=h
   have hx':x∈visits e.2.1 l:=by simpa [visits] using hx
   obtain⟨l1,l2,e1,h1,h2⟩:=ih hp hx';exact⟨e::l1,l2,by rw[e1];rfl,⟨he,hu,h1⟩,h2⟩
theorem cut_or {E:List Ed} {r:Nat→Prop} (ht:NoGain E r) {a b:Nat} {l:List Ed} (h:Path E a l b) (ha:r a):
  (∃ l',l'.length<l.length∧Path E a l' b∧long l'≤long l)∨(visits a l).Nodup:=by
 induction l generalizing a with
 |nil=>right;simp[visits]
 |cons e l ih=>
  obtain⟨he,hu,hp⟩:=h;have hr:=ht.on e he (hu▸ha);by_cases hm:a∈visits e.2.1 l
  ·left
   obtain⟨l1,l2,e1,h1,h2⟩:=path_split hp hm;refine⟨l2,by rw[e1];simp;omega,h2,?_⟩;have hc:=ht.cyc a (e::l1) ha ⟨he,hu,h1⟩;rw[e1];simp only[long,long_app] at hc ⊢;omega
  ·rcases ih hp hr with ⟨l',h1,h2,h3⟩|hn
   ·left
    refine⟨e::l',by simp;omega,⟨he,hu,h2⟩,?_⟩;simp only[long];omega
   ·right
    show (a::visits e.2.1 l).Nodup;exact List.nodup_cons.2 ⟨hm,hn⟩
theorem pigeon (n:Nat): ∀ L:List Nat,L.Nodup→(∀ x,x∈L→x<n)→L.length≤n:=by
 induction n with
 |zero=>
  intro L _ h;cases L with
  |nil=>simp
  |cons x L=>exact absurd (h x List.mem_cons_self) (Nat.not_lt_zero _)
 |succ n ih=>
  intro L hn h;by_cases hm:n∈L
  ·have h1:=ih (L.erase n) (hn.erase n) (fun x hx=>by
    have h2:=(hn.mem_erase_iff).1 hx;have:=h x h2.2;have:=h2.1;omega)
   rw[List.length_erase_of_mem hm] at h1;omega
  ·have:=ih L hn (fun x hx=>by
    have h1:=h x hx;have:x≠n:=fun e=>hm (e▸hx)
    omega)
   omega
theorem path_nodes {E:List Ed} {n:Nat} (hE: ∀ e,e∈E→e.1<n∧e.2.1<n) {a b:Nat} {l:List Ed} (h:Path E a l b) (ha:a<n): ∀ x,x∈visits a l→x<n:=by
 induction l generalizing a with
 |nil=>intro x hx;rcases List.mem_cons.1 hx with rfl|hx;exact ha;cases hx
 |cons e l ih=>
  intro x hx;obtain⟨he,hu,hp⟩:=h;rcases List.mem_cons.1 hx with rfl|hx
  ·exact ha
  ·exact ih hp (hE e he).2 x (by simpa [visits] using hx)
theorem short {E:List Ed} {n:Nat} (hE: ∀ e,e∈E→e.1<n∧e.2.1<n) {r:Nat→Prop} (ht:NoGain E r) {a b:Nat} (ha:r a) (han:a<n):
  ∀ (m:Nat) (l:List Ed),l.length≤m→Path E a l b→ ∃ l',l'.length<n∧Path E a l' b∧long l'≤long l:=by
 intro m
 induction m with
 |zero=>
  intro l hl h;exact⟨l,by omega,h,Int.le_refl _⟩
 |succ m ih=>
  intro l hl h;rcases cut_or ht h ha with ⟨l',h1,h2,h3⟩|hn
  ·obtain⟨l2,h4,h5,h6⟩:=ih l' (by omega) h2
   exact⟨l2,h4,h5,Int.le_trans h6 h3⟩
  ·refine⟨l,?_,h,Int.le_refl _⟩
   have:=pigeon n _ hn (path_nodes hE h han);simp[visits] at this;omega
end H
namespace H
open P
def eFrom (x:S73):Int:=x.f0
def eTo (x:S73):Int:=x.f1
end H
namespace H
open P
def stL (l:List S73) (v:Int):Nat→List S113
 |0=>[]
 |k+1=>stL l v k ++ (if eFrom (rd_T73 l k)=v then [⟨k,false⟩] else []) ++ (if eTo (rd_T73 l k)=v then [⟨k,true⟩] else [])
def IsSt (l:List S73) (v:Int) (k:Nat) (s:S113):Prop:= ∃ i:Nat,i<k∧s.f0=i∧(s.f1=false∧eFrom (rd_T73 l i)=v∨s.f1=true∧eTo (rd_T73 l i)=v)
theorem mem_stL (l:List S73) (v:Int) (k:Nat) (s:S113):s∈stL l v k↔IsSt l v k s:=by
 induction k with
 |zero=>
  constructor
  ·intro h;cases h
  ·rintro⟨i,h,_⟩;omega
 |succ k ih=>
  unfold stL;rw[List.mem_append,List.mem_append,ih];constructor
  ·rintro((⟨i,h1,h2⟩|h)|h)
   ·exact⟨i,by omega,h2⟩
   ·split at h
    ·rename_i he
     rw[List.mem_singleton] at h;subst h;exact⟨k,by omega,rfl,Or.inl ⟨rfl,he⟩⟩
    ·cases h
   ·split at h
    ·rename_i he
     rw[List.mem_singleton] at h;subst h;exact⟨k,by omega,rfl,Or.inr ⟨rfl,he⟩⟩
    ·cases h
  ·rintro⟨i,h1,h2,h3⟩
   by_cases hi:i<k
   ·exact Or.inl (Or.inl ⟨i,hi,h2,h3⟩)
   ·have e:i=k:=by omega
    subst e;obtain⟨x,y⟩:=s;simp only at h2 h3;subst h2;rcases h3 with ⟨rfl,h4⟩|⟨rfl,h4⟩
    ·exact Or.inl (Or.inr (by rw[Yx h4];exact List.mem_singleton.2 rfl))
    ·exact Or.inr (by rw[Yx h4];exact List.mem_singleton.2 rfl)
def ends (l:List S73) (n:Nat):Prop:= ∀ i:Nat,i<l.length→(0≤eFrom (rd_T73 l i)∧eFrom (rd_T73 l i)<n)∧(0≤eTo (rd_T73 l i)∧eTo (rd_T73 l i)<n)
end H
namespace H
open P
def stFrom (l:List S73) (s:S113):Int:=if s.f1 then eTo (rd_T73 l s.f0) else eFrom (rd_T73 l s.f0)
def stTo (l:List S73) (s:S113):Int:=if s.f1 then eFrom (rd_T73 l s.f0) else eTo (rd_T73 l s.f0)
def stRoom (l:List S73) (F:List Int) (s:S113):Int:=if s.f1 then F.getD s.f0.toNat 0 else(rd_T73 l s.f0).f2 - F.getD s.f0.toNat 0
theorem getD_set_ne {β:Type} (L:List β) (i j:Nat) (x d:β) (h:i≠j):(L.set i x).getD j d=L.getD j d:=by
 rw[List.getD_eq_getElem?_getD,List.getElem?_set_ne h,List.getD_eq_getElem?_getD]
theorem getD_set_eq {β:Type} (L:List β) (i:Nat) (x d:β) (h:i<L.length):(L.set i x).getD i d=x:=by
 rw[List.getD_eq_getElem?_getD,List.getElem?_set_self h];rfl
end H
namespace H
structure BelowW (w:World) where
 at_:World
 below:Below w.heap.size w at_
instance (w:World):Inhabited (BelowW w):=⟨⟨w,Yo _ _⟩⟩
end H
namespace H
open P
structure Right (l:List S73) (F:List Int) (n:Nat):Prop where
 pos:0<n
 fifty:n≤50
 arcs:l.length≤200
 len:F.length=l.length
 ends:ends l n
 nums: ∀ i:Nat,i<l.length→0≤(rd_T73 l i).f3∧(rd_T73 l i).f3≤1048576∧0≤F.getD i 0∧F.getD i 0≤(rd_T73 l i).f2∧(rd_T73 l i).f2≤1099511627776
def StepOf (l:List S73) (s:S113):Prop:= ∃ i:Nat,i<l.length∧s.f0=i
theorem stL_of {l:List S73} {v:Int} {s:S113} (h:s∈stL l v l.length):StepOf l s:=by
 obtain⟨i,h1,h2,_⟩:=(mem_stL l v l.length s).1 h;exact⟨i,h1,h2⟩
theorem stL_from {l:List S73} {v:Int} {s:S113} (h:s∈stL l v l.length):stFrom l s=v:=by
 obtain⟨i,h1,h2,h3⟩:=(mem_stL l v l.length s).1 h;unfold stFrom;rw[h2];rcases h3 with ⟨h3,h4⟩|⟨h3,h4⟩
 ·rw[h3];exact h4
 ·rw[h3];exact h4
theorem stTo_in {l:List S73} {F:List Int} {n:Nat} (hr:Right l F n) {s:S113} (hs:StepOf l s):0≤stTo l s∧stTo l s<n:=by
 obtain⟨i,h1,h2⟩:=hs;have:=hr.ends i h1;unfold stTo;rw[h2];split
 ·exact this.1
 ·exact this.2
end H
namespace H
open P Q
def stepsR (l:List S73) (F:List Int):Nat→List S113
 |0=>[]
 |k+1=>stepsR l F k ++ (if F.getD k 0<(rd_T73 l k).f2 then [⟨k,false⟩] else []) ++ (if 0<F.getD k 0 then [⟨k,true⟩] else [])
theorem stepsR_len (l:List S73) (F:List Int) (k:Nat):(stepsR l F k).length≤2 * k:=by
 induction k with
 |zero=>exact Nat.le_refl _
 |succ k ih=>
  unfold stepsR;rw[List.length_append,List.length_append];split<;>split<;>simp<;>omega
theorem mem_stepsR (l:List S73) (F:List Int) (k:Nat) (s:S113):s∈stepsR l F k↔(∃ i:Nat,i<k∧s.f0=i)∧0<stRoom l F s:=by
 induction k with
 |zero=>
  constructor
  ·intro h;cases h
  ·rintro⟨⟨i,h,_⟩,_⟩;omega
 |succ k ih=>
  unfold stepsR;rw[List.mem_append,List.mem_append,ih];constructor
  ·rintro((⟨⟨i,h1,h2⟩,h3⟩|h)|h)
   ·exact⟨⟨i,by omega,h2⟩,h3⟩
   ·split at h
    ·rename_i he
     rw[List.mem_singleton] at h;subst h;refine⟨⟨k,by omega,rfl⟩,?_⟩;unfold stRoom;simp only[Bool.false_eq_true,if_false,Int.toNat_natCast];omega
    ·cases h
   ·split at h
    ·rename_i he
     rw[List.mem_singleton] at h;subst h;refine⟨⟨k,by omega,rfl⟩,?_⟩;unfold stRoom;simp only[if_true,Int.toNat_natCast];exact he
    ·cases h
  ·rintro⟨⟨i,h1,h2⟩,h3⟩
   by_cases hi:i<k
   ·exact Or.inl (Or.inl ⟨⟨i,hi,h2⟩,h3⟩)
   ·have e:i=k:=by omega
    subst e;obtain⟨x,y⟩:=s;simp only at h2;subst h2;unfold stRoom at h3;cases y
    ·simp only[Bool.false_eq_true,if_false,Int.toNat_natCast] at h3
     exact Or.inl (Or.inr (by rw[Yx (by omega)];exact List.mem_singleton.2 rfl))
    ·simp only[if_true,Int.toNat_natCast] at h3
     exact Or.inr (by rw[Yx h3];exact List.mem_singleton.2 rfl)
theorem steps_l0 {l:List S73} {F:List Int} {n:Nat} (hr:Right l F n) (a:Int) (b:Bool) (d:Nat): ∀ i:Nat,i+d=F.length→
  Ev (fun k=>ebbtideref07_Steps.l0 k F (stepsR l F i) (i:Int) a b l) (stepsR l F F.length):=by
 have hl:=hr.len;have hl2:=hr.arcs
 induction d with
 |zero=>
  intro i hi;refine Ev.succ ?_;simp only[ebbtideref07_Steps.l0];repeat(first|exact Ev.now _|with_reducible refine Ev.pos (by first|assumption|omega) ?_|with_reducible refine Ev.neg (by first|assumption|omega) ?_|with_reducible refine Ev.let_ ?_)
  exact Ev.done (by rw[show i=F.length by omega])
 |succ d ih=>
  intro i hi;have hn:=ih (i+1) (by omega);have hsl:=stepsR_len l F i;have e1:rd F (i:Int)=F.getD i 0:=rd_nat F i;have e2:stepsR l F (i+1)=stepsR l F i ++ (if F.getD i 0<(rd_T73 l i).f2 then [⟨i,false⟩] else []) ++ (if 0<F.getD i 0 then [⟨i,true⟩] else []):=rfl;rw[e2] at hn;refine Ev.succ ?_;simp only[ebbtideref07_Steps.l0];repeat(first|exact Ev.now _|with_reducible refine Ev.pos (by first|assumption|omega) ?_|with_reducible refine Ev.neg (by first|assumption|omega) ?_|with_reducible refine Ev.let_ ?_)
  rw[wrap_succ (n:=F.length) (by omega) (by omega),e1];refine Ev.ite (fun g=> ?_) (fun g=> ?_)
  ·rw[Yx (show F.getD i 0<(rd_T73 l i).f2 from g)] at hn
   repeat(first|exact Ev.now _|with_reducible refine Ev.pos (by first|assumption|omega) ?_|with_reducible refine Ev.neg (by first|assumption|omega) ?_|with_reducible refine Ev.let_ ?_)
   refine Ev.ite (fun g2=> ?_) (fun g2=> ?_)
   ·rw[Yx (show 0<F.getD i 0 from g2)] at hn
    refine Ev.pos (by rw[List.length_append];simp;omega) ?_;exact hn
   ·rw[Yy (show ¬ 0<F.getD i 0 from g2),List.append_nil] at hn
    exact hn
  ·rw[Yy (show ¬ F.getD i 0<(rd_T73 l i).f2 from g),List.append_nil] at hn
   refine Ev.ite (fun g2=> ?_) (fun g2=> ?_)
   ·rw[Yx (show 0<F.getD i 0 from g2)] at hn
    refine Ev.pos (by omega) ?_;exact hn
   ·rw[Yy (show ¬ 0<F.getD i 0 from g2),List.append_nil] at hn
    exact hn
theorem steps_ev {l:List S73} {F:List Int} {n:Nat} (hr:Right l F n) (a:Int) (b:Bool):Ev (fun k=>ebbtideref07_Steps.f k a b l F) (stepsR l F F.length):=by
 unfold ebbtideref07_Steps.f;exact steps_l0 hr a b F.length 0 (by omega)
theorem stFrom_in {l:List S73} {F:List Int} {n:Nat} (hr:Right l F n) {s:S113} (hs:StepOf l s):0≤stFrom l s∧stFrom l s<n:=by
 obtain⟨i,h1,h2⟩:=hs;have:=hr.ends i h1;unfold stFrom;rw[h2];split
 ·exact this.2
 ·exact this.1
theorem stepsR_of {l:List S73} {F:List Int} {n:Nat} (hr:Right l F n): ∀ s,s∈stepsR l F F.length→StepOf l s:=by
 intro s hs;have h:=((mem_stepsR l F F.length s).1 hs).1;rw[hr.len] at h;exact h
end H
namespace P
attribute [local go_sem] max2_int min2_int max_two min_two max_three min_three max_four min_four
def ebbtideref07_Leaves.l0:Nat→List Int→Int→Int→Int→Int→Bool→List (S73)→Option (Int)
 |0,_,_,_,_,_,_,_=>none
 |k+1,x1,x2,x7,x8,x533000,x533001,x533002=>if x8<(x1.length:Int) then(if 0≤x8 then(if x8<(x533002.length:Int) then(if ((rd_T73 x533002 x8).f0)=x2 then(if ((rd_T73 x533002 x8).f1)=x2 then(ebbtideref07_Leaves.l0 k x1 x2 (wrap64 ((wrap64 (x7+(rd x1 x8))) - (rd x1 x8))) (wrap64 (x8+1)) x533000 x533001 x533002) else(ebbtideref07_Leaves.l0 k x1 x2 (wrap64 (x7+(rd x1 x8))) (wrap64 (x8+1)) x533000 x533001 x533002)) else(if ((rd_T73 x533002 x8).f1)=x2 then(ebbtideref07_Leaves.l0 k x1 x2 (wrap64 (x7 - (rd x1 x8))) (wrap64 (x8+1)) x533000 x533001 x533002) else(ebbtideref07_Leaves.l0 k x1 x2 x7 (wrap64 (x8+1)) x533000 x533001 x533002))) else(none)) else(none)) else(some x7)
def ebbtideref07_Leaves.f (k:Nat) (Zb:Int) (Zc:Bool) (Za:List (S73)) (l1:List Int) (a2:Int):Option (Int):=ebbtideref07_Leaves.l0 k l1 a2 0 0 Zb Zc Za
set_option maxHeartbeats 8000000 in
set_option maxRecDepth 100000 in
theorem ebbtideref07_Leaves.calls (k:Nat) (Zb:Int) (Zc:Bool) (Ze:Option Addr) (Zd:Nat) (Za:List (S73)) (A1:Option Addr) (c1:Nat) (l1:List Int) (a2:Int) (r:Int) (w:World) (Zx:Kd.C k73 w Ze Za.length Za) (Zy:Za.length≤Zd) (hr1:Kd.C (Kd.int .i64) w A1 l1.length l1) (hc1:l1.length≤c1) (h:ebbtideref07_Leaves.f k Zb Zc Za l1 a2=some r):
  Calls Try.prog 31 #[.agg #[.int .i64 Zb, .bool Zc, .slice Ze Za.length Zd], .slice A1 l1.length c1, .int .i64 a2] w fun e w'=>e= .returned (.int .i64 r)∧Below w.heap.size w w':=by
 have hu32:=Try.underlying32;have Zo:=Ya Zx;have Zz:=Ya Zy;clear Zx Zy;have HR1:=Ya hr1;have HC1:=Ya hc1;clear hr1 hc1;have HB:=Ya (Yo w.heap.size w);have H:(ebbtideref07_Leaves.l0 k l1 a2 0 0 Zb Zc Za)=some r:=h;clear h;have H':=Ya H;clear H;go_enter Try.func31,Try.ntmps31;go_wp2_with (first|((with_reducible refine gate_dst (N:=3) rfl ?_);refine Yz ?hg (N:=3) ?hd (cs:= #[.int .i64 Zb, .bool Zc, .slice Ze Za.length Zd]) (t:=32) ?hr ?_;(case hd=>rfl);(case hg=>rfl);(case hr=>first|(go_simp;done)|(go_simp;rfl));intro gb532 hg w4 Zf hb;have n0_:=Ya (Yk (by repeat(first|(with_reducible first|exact HB.out|apply Ye|apply Yd|apply Yg)|exact HB.out)) hb);have n1_:=Ya (Zf);have n2_:=Ya ((by rw[hg];exact(Yi (by repeat(first|(with_reducible first|exact HB.out|apply Ye|apply Yd|apply Yg)|exact HB.out))):w.heap.size≤gb532));have n3_:=Ya ((by rw[hg];exact(Yi (by repeat(first|(with_reducible first|exact HB.out|apply Ye|apply Yd|apply Yg)|exact HB.out))):w.heap.size≤gb532));clear HB;have HB:=n0_;have Ug:=n1_;have GW532:=n2_;have GE532:=n3_;clear n0_ n1_ n2_ n3_;clear hb Zf hg));go_loopg [7,8] k (fun kq v7 v8 w'=> ∃ (Wj:Int) (Zg:Int),v7= .int .i64 Wj∧v8= .int .i64 Zg∧Aside0 (ebbtideref07_Leaves.l0 kq l1 a2 Wj Zg Zb Zc Za=some r)∧Aside0 (kq≤k)∧Aside0 (w'.heap[gb532]? =some (.cells #[.int .i64 Zb, .bool Zc,(.slice Ze Za.length Zd)] 32 (0,0)))∧Aside0 (Below w.heap.size w w'))
 case atStart=>exact⟨(0),(0),(by first|rfl|(simp;done)|(simp[*];done)),(by first|rfl|(simp;done)|(simp[*];done)),H',⟨Nat.le_refl _⟩,⟨by(with_reducible repeat(first|refine Yl ?_ _|refine Ym ?_|refine Yj ?_ _));exact Ug.out⟩,⟨by repeat(first|(with_reducible first|exact HB.out|apply Ye|apply Yd|apply Yg|refine Yh ?_ GE532.out)|exact HB.out)⟩⟩
 case round=>
  clear H';try clear c1
  try clear p2
  try clear c3
  obtain⟨Wj,Zg,rfl,rfl,HA,HK1,Ug,HB⟩:=hrel;cases gk with
  |zero=>exact absurd HA.out (by simp[ebbtideref07_Leaves.l0])
  |succ k1=>
   have H:=HA.out;clear HA;simp only[ebbtideref07_Leaves.l0] at H;by_cases c5:Zg<(l1.length:Int)
   rotate_left
   ·rw[Yy c5] at H
    have c5b0:decide (Zg<(l1.length:Int))=false:=Yw c5;clear c5;obtain rfl:=Option.some.inj H;go_wp2;go_ret;exact⟨by first|rfl|(simp[errW_none,errW_some]<;>rfl)|(simp[*,errW_none,errW_some]<;>rfl),by repeat(first|(with_reducible first|exact HB.out|apply Ye|apply Yd|apply Yg|refine Yh ?_ GE532.out)|exact HB.out)⟩
   rw[Yx c5] at H;have c5b0:decide (Zg<(l1.length:Int))=true:=Yv c5;clear c5;by_cases c6:0≤Zg
   rotate_left
   ·rw[Yy c6] at H
    exact absurd H (by simp)
   rw[Yx c6] at H;have c6b0:decide (0≤Zg)=true:=Yv c6;clear c6;by_cases c7:Zg<(Za.length:Int)
   rotate_left
   ·rw[Yy c7] at H
    exact absurd H (by simp)
   rw[Yx c7] at H;have c7b0:decide (Zg<(Za.length:Int))=true:=Yv c7;clear c7;by_cases c8:((rd_T73 Za Zg).f0)=a2
   rotate_left
   ·rw[Yy c8] at H
    have c8b0:(((rd_T73 Za Zg).f0) == a2)=false:=beq_eq_false_iff_ne.mpr c8;have c8b1:(((rd_T73 Za Zg).f0) != a2)=true:=bne_iff_ne.mpr c8;by_cases c12:((rd_T73 Za Zg).f1)=a2
    rotate_left
    ·rw[Yy c12] at H
     have c12b0:(((rd_T73 Za Zg).f1) == a2)=false:=beq_eq_false_iff_ne.mpr c12;have c12b1:(((rd_T73 Za Zg).f1) != a2)=true:=bne_iff_ne.mpr c12;have H':=Ya H;clear H;have hcz14_0:wr.cell? ⟨gb532,0,none⟩=some (.int .i64 Zb):=(Yc Ug.out 0).trans rfl;have hcz14_1:wr.cell? ⟨gb532,1,none⟩=some (.bool Zc):=(Yc Ug.out 1).trans rfl;have hcz14_2:wr.cell? ⟨gb532,2,none⟩=some (.slice Ze Za.length Zd):=(Yc Ug.out 2).trans rfl;have hfz14_0:=Yf Ug.out 0;have hfz14_1:=Yf Ug.out 1;have hfz14_2:=Yf Ug.out 2;have p533:0≤(Zg:Int):=Yu (by first|(with_reducible assumption)|assumption);have q533:Zg<(Za.length:Int):=Yu (by first|(with_reducible assumption)|assumption);obtain⟨ad533,e533,Jr,Js,Jt,Ju⟩:=at_T73 Zo.out Zg p533 q533;cases e533;replace Jr:=(HB.out.cell (Yb w _ Jr)).trans Jr;replace Js:=(HB.out.cell (Yb w _ Js)).trans Js;replace Jt:=(HB.out.cell (Yb w _ Jt)).trans Jt;replace Ju:=(HB.out.cell (Yb w _ Ju)).trans Ju;replace p533:=eq_true p533;replace q533:=eq_true q533;have p537:0≤(Zg:Int):=Yu (by first|(with_reducible assumption)|assumption);have q537:Zg<(Za.length:Int):=Yu (by first|(with_reducible assumption)|assumption);obtain⟨ad537,e537,hx537_0,hx537_1,hx537_2,hx537_3⟩:=at_T73 Zo.out Zg p537 q537;obtain rfl:ad533=ad537:=(by injection e537);replace hx537_0:=(HB.out.cell (Yb w _ hx537_0)).trans hx537_0;replace hx537_1:=(HB.out.cell (Yb w _ hx537_1)).trans hx537_1;replace hx537_2:=(HB.out.cell (Yb w _ hx537_2)).trans hx537_2;replace hx537_3:=(HB.out.cell (Yb w _ hx537_3)).trans hx537_3;replace p537:=eq_true p537;replace q537:=eq_true q537;go_wp2;go_roundg k1
     case measure=>have:=HK1.out;omega
     case rel=>exact⟨(Wj),(wrap64 (Zg+1)),(by first|rfl|(simp;done)|(simp[*];done)),(by first|rfl|(simp;done)|(simp[*];done)),H',⟨by have:=HK1.out;omega⟩,⟨by(with_reducible repeat(first|refine Yl ?_ _|refine Ym ?_|refine Yj ?_ _));exact Ug.out⟩,⟨by repeat(first|(with_reducible first|exact HB.out|apply Ye|apply Yd|apply Yg|refine Yh ?_ GE532.out)|exact HB.out)⟩⟩
    rw[Yx c12] at H;have c12b0:(((rd_T73 Za Zg).f1) == a2)=true:=beq_iff_eq.mpr c12;have c12b1:(((rd_T73 Za Zg).f1) != a2)=false:=bne_eq_false_iff_eq.mpr c12;clear c12;have H':=Ya H;clear H;have hcz13_0:wr.cell? ⟨gb532,0,none⟩=some (.int .i64 Zb):=(Yc Ug.out 0).trans rfl;have hcz13_1:wr.cell? ⟨gb532,1,none⟩=some (.bool Zc):=(Yc Ug.out 1).trans rfl;have hcz13_2:wr.cell? ⟨gb532,2,none⟩=some (.slice Ze Za.length Zd):=(Yc Ug.out 2).trans rfl;have hfz13_0:=Yf Ug.out 0;have hfz13_1:=Yf Ug.out 1;have hfz13_2:=Yf Ug.out 2;have p533:0≤(Zg:Int):=Yu (by first|(with_reducible assumption)|assumption);have q533:Zg<(Za.length:Int):=Yu (by first|(with_reducible assumption)|assumption);obtain⟨ad533,e533,Jr,Js,Jt,Ju⟩:=at_T73 Zo.out Zg p533 q533;cases e533;replace Jr:=(HB.out.cell (Yb w _ Jr)).trans Jr;replace Js:=(HB.out.cell (Yb w _ Js)).trans Js;replace Jt:=(HB.out.cell (Yb w _ Jt)).trans Jt;replace Ju:=(HB.out.cell (Yb w _ Ju)).trans Ju;replace p533:=eq_true p533;replace q533:=eq_true q533;have p537:0≤(Zg:Int):=Yu (by first|(with_reducible assumption)|assumption);have q537:Zg<(Za.length:Int):=Yu (by first|(with_reducible assumption)|assumption);obtain⟨ad537,e537,hx537_0,hx537_1,hx537_2,hx537_3⟩:=at_T73 Zo.out Zg p537 q537;obtain rfl:ad533=ad537:=(by injection e537);replace hx537_0:=(HB.out.cell (Yb w _ hx537_0)).trans hx537_0;replace hx537_1:=(HB.out.cell (Yb w _ hx537_1)).trans hx537_1;replace hx537_2:=(HB.out.cell (Yb w _ hx537_2)).trans hx537_2;replace hx537_3:=(HB.out.cell (Yb w _ hx537_3)).trans hx537_3;replace p537:=eq_true p537;replace q537:=eq_true q537;have p538:0≤(Zg:Int):=Yu (by first|(with_reducible assumption)|assumption);have q538:Zg<(l1.length:Int):=Yu (by first|(with_reducible assumption)|assumption);obtain⟨ad538,e538,hx538_0⟩:=Kd.at_int HR1.out Zg p538 q538;cases e538;replace hx538_0:=(HB.out.cell (Yb w _ hx538_0)).trans hx538_0;replace p538:=eq_true p538;replace q538:=eq_true q538;go_wp2;go_roundg k1
    case measure=>have:=HK1.out;omega
    case rel=>exact⟨(wrap64 (Wj - (rd l1 Zg))),(wrap64 (Zg+1)),(by first|rfl|(simp;done)|(simp[*];done)),(by first|rfl|(simp;done)|(simp[*];done)),H',⟨by have:=HK1.out;omega⟩,⟨by(with_reducible repeat(first|refine Yl ?_ _|refine Ym ?_|refine Yj ?_ _));exact Ug.out⟩,⟨by repeat(first|(with_reducible first|exact HB.out|apply Ye|apply Yd|apply Yg|refine Yh ?_ GE532.out)|exact HB.out)⟩⟩
   rw[Yx c8] at H;have c8b0:(((rd_T73 Za Zg).f0) == a2)=true:=beq_iff_eq.mpr c8;have c8b1:(((rd_T73 Za Zg).f0) != a2)=false:=bne_eq_false_iff_eq.mpr c8;clear c8;by_cases c9:((rd_T73 Za Zg).f1)=a2
   rotate_left
   ·rw[Yy c9] at H
    have c9b0:(((rd_T73 Za Zg).f1) == a2)=false:=beq_eq_false_iff_ne.mpr c9;have c9b1:(((rd_T73 Za Zg).f1) != a2)=true:=bne_iff_ne.mpr c9;have H':=Ya H;clear H;have hcz11_0:wr.cell? ⟨gb532,0,none⟩=some (.int .i64 Zb):=(Yc Ug.out 0).trans rfl;have hcz11_1:wr.cell? ⟨gb532,1,none⟩=some (.bool Zc):=(Yc Ug.out 1).trans rfl;have hcz11_2:wr.cell? ⟨gb532,2,none⟩=some (.slice Ze Za.length Zd):=(Yc Ug.out 2).trans rfl;have hfz11_0:=Yf Ug.out 0;have hfz11_1:=Yf Ug.out 1;have hfz11_2:=Yf Ug.out 2;have p533:0≤(Zg:Int):=Yu (by first|(with_reducible assumption)|assumption);have q533:Zg<(Za.length:Int):=Yu (by first|(with_reducible assumption)|assumption);obtain⟨ad533,e533,Jr,Js,Jt,Ju⟩:=at_T73 Zo.out Zg p533 q533;cases e533;replace Jr:=(HB.out.cell (Yb w _ Jr)).trans Jr;replace Js:=(HB.out.cell (Yb w _ Js)).trans Js;replace Jt:=(HB.out.cell (Yb w _ Jt)).trans Jt;replace Ju:=(HB.out.cell (Yb w _ Ju)).trans Ju;replace p533:=eq_true p533;replace q533:=eq_true q533;have p534:0≤(Zg:Int):=Yu (by first|(with_reducible assumption)|assumption);have q534:Zg<(l1.length:Int):=Yu (by first|(with_reducible assumption)|assumption);obtain⟨ad534,e534,hx534_0⟩:=Kd.at_int HR1.out Zg p534 q534;cases e534;replace hx534_0:=(HB.out.cell (Yb w _ hx534_0)).trans hx534_0;replace p534:=eq_true p534;replace q534:=eq_true q534;have p535:0≤(Zg:Int):=Yu (by first|(with_reducible assumption)|assumption);have q535:Zg<(Za.length:Int):=Yu (by first|(with_reducible assumption)|assumption);obtain⟨ad535,e535,hx535_0,hx535_1,hx535_2,hx535_3⟩:=at_T73 Zo.out Zg p535 q535;obtain rfl:ad533=ad535:=(by injection e535);replace hx535_0:=(HB.out.cell (Yb w _ hx535_0)).trans hx535_0;replace hx535_1:=(HB.out.cell (Yb w _ hx535_1)).trans hx535_1;replace hx535_2:=(HB.out.cell (Yb w _ hx535_2)).trans hx535_2;replace hx535_3:=(HB.out.cell (Yb w _ hx535_3)).trans hx535_3;replace p535:=eq_true p535;replace q535:=eq_true q535;go_wp2;go_roundg k1
    case measure=>have:=HK1.out;omega
    case rel=>exact⟨(wrap64 (Wj+(rd l1 Zg))),(wrap64 (Zg+1)),(by first|rfl|(simp;done)|(simp[*];done)),(by first|rfl|(simp;done)|(simp[*];done)),H',⟨by have:=HK1.out;omega⟩,⟨by(with_reducible repeat(first|refine Yl ?_ _|refine Ym ?_|refine Yj ?_ _));exact Ug.out⟩,⟨by repeat(first|(with_reducible first|exact HB.out|apply Ye|apply Yd|apply Yg|refine Yh ?_ GE532.out)|exact HB.out)⟩⟩
   rw[Yx c9] at H;have c9b0:(((rd_T73 Za Zg).f1) == a2)=true:=beq_iff_eq.mpr c9;have c9b1:(((rd_T73 Za Zg).f1) != a2)=false:=bne_eq_false_iff_eq.mpr c9;clear c9;have H':=Ya H;clear H;have Ui:wr.cell? ⟨gb532,0,none⟩=some (.int .i64 Zb):=(Yc Ug.out 0).trans rfl;have Uj:wr.cell? ⟨gb532,1,none⟩=some (.bool Zc):=(Yc Ug.out 1).trans rfl;have hcz10_2:wr.cell? ⟨gb532,2,none⟩=some (.slice Ze Za.length Zd):=(Yc Ug.out 2).trans rfl;have Uk:=Yf Ug.out 0;have Ul:=Yf Ug.out 1;have hfz10_2:=Yf Ug.out 2;have p533:0≤(Zg:Int):=Yu (by first|(with_reducible assumption)|assumption);have q533:Zg<(Za.length:Int):=Yu (by first|(with_reducible assumption)|assumption);obtain⟨ad533,e533,Jr,Js,Jt,Ju⟩:=at_T73 Zo.out Zg p533 q533;cases e533;replace Jr:=(HB.out.cell (Yb w _ Jr)).trans Jr;replace Js:=(HB.out.cell (Yb w _ Js)).trans Js;replace Jt:=(HB.out.cell (Yb w _ Jt)).trans Jt;replace Ju:=(HB.out.cell (Yb w _ Ju)).trans Ju;replace p533:=eq_true p533;replace q533:=eq_true q533;have p534:0≤(Zg:Int):=Yu (by first|(with_reducible assumption)|assumption);have q534:Zg<(l1.length:Int):=Yu (by first|(with_reducible assumption)|assumption);obtain⟨ad534,e534,hx534_0⟩:=Kd.at_int HR1.out Zg p534 q534;cases e534;replace hx534_0:=(HB.out.cell (Yb w _ hx534_0)).trans hx534_0;replace p534:=eq_true p534;replace q534:=eq_true q534;have p535:0≤(Zg:Int):=Yu (by first|(with_reducible assumption)|assumption);have q535:Zg<(Za.length:Int):=Yu (by first|(with_reducible assumption)|assumption);obtain⟨ad535,e535,hx535_0,hx535_1,hx535_2,hx535_3⟩:=at_T73 Zo.out Zg p535 q535;obtain rfl:ad533=ad535:=(by injection e535);replace hx535_0:=(HB.out.cell (Yb w _ hx535_0)).trans hx535_0;replace hx535_1:=(HB.out.cell (Yb w _ hx535_1)).trans hx535_1;replace hx535_2:=(HB.out.cell (Yb w _ hx535_2)).trans hx535_2;replace hx535_3:=(HB.out.cell (Yb w _ hx535_3)).trans hx535_3;replace p535:=eq_true p535;replace q535:=eq_true q535;have p536:0≤(Zg:Int):=Yu (by first|(with_reducible assumption)|assumption);have q536:Zg<(l1.length:Int):=Yu (by first|(with_reducible assumption)|assumption);obtain⟨ad536,e536,hx536_0⟩:=Kd.at_int HR1.out Zg p536 q536;obtain rfl:ad534=ad536:=(by injection e536);replace hx536_0:=(HB.out.cell (Yb w _ hx536_0)).trans hx536_0;replace p536:=eq_true p536;replace q536:=eq_true q536;go_wp2;go_roundg k1
   case measure=>have:=HK1.out;omega
   case rel=>exact⟨(wrap64 ((wrap64 (Wj+(rd l1 Zg))) - (rd l1 Zg))),(wrap64 (Zg+1)),(by first|rfl|(simp;done)|(simp[*];done)),(by first|rfl|(simp;done)|(simp[*];done)),H',⟨by have:=HK1.out;omega⟩,⟨by(with_reducible repeat(first|refine Yl ?_ _|refine Ym ?_|refine Yj ?_ _));exact Ug.out⟩,⟨by repeat(first|(with_reducible first|exact HB.out|apply Ye|apply Yd|apply Yg|refine Yh ?_ GE532.out)|exact HB.out)⟩⟩
end P
namespace Q
open P
def bal:List S73→List Int→Int→Int
 |a::l,x::f,v=>(if a.f0=v then x else 0) - (if a.f1=v then x else 0)+bal l f v
 |_,_,_=>0
theorem bal_cons (a:S73) (l:List S73) (x:Int) (f:List Int) (v:Int):bal (a::l) (x::f) v=(if a.f0=v then x else 0) - (if a.f1=v then x else 0)+bal l f v:=rfl
end Q
namespace H
open P Q
def goS (F:List Int) (s:S113) (k:Int):List Int:=F.set s.f0.toNat (if s.f1 then F.getD s.f0.toNat 0 - k else F.getD s.f0.toNat 0+k)
def pushW (F:List Int) (k:Int) (L:List S113):List Int:=L.foldl (fun F s=>goS F s k) F
theorem goS_len (F:List Int) (s:S113) (k:Int):(goS F s k).length=F.length:=by simp[goS]
theorem stRoom_in {l:List S73} {F:List Int} {n:Nat} (hr:Right l F n) {s:S113} (hs:StepOf l s):0≤stRoom l F s∧stRoom l F s≤1099511627776:=by
 obtain⟨i,h1,h2⟩:=hs;have:=hr.nums i h1;unfold stRoom;rw[h2,Int.toNat_natCast];split<;>omega
theorem Right.go {l:List S73} {F:List Int} {n:Nat} (hr:Right l F n) {s:S113} (hs:StepOf l s) {k:Int} (h0:0≤k) (hk:k≤stRoom l F s):Right l (goS F s k) n:=by
 obtain⟨i,h1,h2⟩:=hs;have hi:=hr.nums i h1;have hl:=hr.len;refine⟨hr.pos,hr.fifty,hr.arcs,by rw[goS_len];exact hl,hr.ends,fun j hj=> ?_⟩;have h3:=hr.nums j hj;unfold stRoom at hk;rw[h2,Int.toNat_natCast] at hk;unfold goS;rw[h2,Int.toNat_natCast];by_cases e:i=j
 ·subst e
  rw[getD_set_eq _ _ _ _ (by omega)];cases hb:s.f1<;>rw[hb] at hk<;>simp only[Bool.false_eq_true,if_false,if_true] at hk ⊢ <;>omega
 ·rw[getD_set_ne _ _ _ _ _ e]
  exact h3
theorem room_other {l:List S73} {F:List Int} {s s':S113} (hs:StepOf l s) (hs':StepOf l s') (k:Int) (h:s.f0≠s'.f0):stRoom l (goS F s k) s'=stRoom l F s':=by
 obtain⟨i,h1,h2⟩:=hs;obtain⟨j,h3,h4⟩:=hs';unfold stRoom goS;rw[h2,h4,Int.toNat_natCast,Int.toNat_natCast,getD_set_ne _ _ _ _ _ (fun e=>h (by rw[h2,h4,e]))]
theorem Right.pushW {l:List S73} {n:Nat} {k:Int} (h0:0≤k) (L:List S113): ∀ {F:List Int},Right l F n→(∀ s,s∈L→StepOf l s∧k≤stRoom l F s)→L.Pairwise (fun a b=>a.f0≠b.f0)→Right l (H.pushW F k L) n:=by
 induction L with
 |nil=>intro F hr _ _;exact hr
 |cons s L ih=>
  intro F hr h hp;rw[List.pairwise_cons] at hp;have hs:=h s List.mem_cons_self;refine ih (hr.go hs.1 h0 hs.2) (fun x hx=> ?_) hp.2;have hx2:=h x (List.mem_cons_of_mem _ hx);exact⟨hx2.1,by rw[room_other hs.1 hx2.1 k (hp.1 x hx)];exact hx2.2⟩
theorem bal_set (l:List S73) (v:Int): ∀ (f:List Int) (i:Nat) (y:Int),f.length=l.length→i<l.length→
  bal l (f.set i y) v=bal l f v+(if (rd_T73 l i).f0=v then y - f.getD i 0 else 0) - (if (rd_T73 l i).f1=v then y - f.getD i 0 else 0):=by
 induction l with
 |nil=>intro f i y h hi;simp at hi
 |cons a l ih=>
  intro f i y h hi;cases f with
  |nil=>simp at h
  |cons x f=>
   cases i with
   |zero=>
    have e:rd_T73 (a::l) ((0:Nat):Int)=a:=rfl;rw[e];simp only[List.set_cons_zero,List.getD_cons_zero,bal_cons];split<;>split<;>omega
   |succ i=>
    have e:rd_T73 (a::l) ((i+1:Nat):Int)=rd_T73 l (i:Int):=by rw[rdArc_nat,rdArc_nat];rfl
    rw[e];simp only[List.set_cons_succ,List.getD_cons_succ,bal_cons];rw[ih f i y (by simpa using h) (by simpa using hi)];omega
theorem bal_go {l:List S73} {f:List Int} (hl:f.length=l.length) {s:S113} (hs:StepOf l s) (k v:Int):
  bal l (goS f s k) v=bal l f v+(if stFrom l s=v then k else 0) - (if stTo l s=v then k else 0):=by
 obtain⟨i,h1,h2⟩:=hs;unfold goS stFrom stTo eFrom eTo;rw[h2,Int.toNat_natCast,bal_set l v f _ _ hl h1];cases s.f1
 ·simp only[Bool.false_eq_true,if_false]
  split<;>split<;>omega
 ·simp only[if_true]
  split<;>split<;>omega
def Trail (l:List S73):Int→List S113→Int→Prop
 |a,[],b=>a=b
 |a,s::L,b=>StepOf l s∧stFrom l s=a∧Trail l (stTo l s) L b
theorem Trail.of {l:List S73} : ∀ {L:List S113} {a b:Int},Trail l a L b→ ∀ s,s∈L→StepOf l s
 |[],_,_,_,s,hs=>by cases hs
 |x::L,_,_,h,s,hs=>(List.mem_cons.1 hs).elim (fun e=>e▸h.1) (h.2.2.of s)
theorem bal_pushW {l:List S73} (k v:Int): ∀ {L:List S113} {f:List Int} {a b:Int},f.length=l.length→Trail l a L b→
  bal l (pushW f k L) v=bal l f v+(if v=a then k else 0) - (if v=b then k else 0)
 |[],f,a,b,_,h=>by
  have h:a=b:=h;subst h;show bal l f v=_;omega
 |s::L,f,a,b,hl,h=>by
  obtain⟨hs,rfl,ht⟩:=h;show bal l (pushW (goS f s k) k L) v=_;rw[bal_pushW k v (by rw[goS_len,hl]) ht,bal_go hl hs];have e1:(if v=stTo l s then k else 0)=(if stTo l s=v then k else 0):=by
   by_cases e:stTo l s=v
   ·rw[Yx e,Yx e.symm]
   ·rw[Yy e,Yy (Ne.symm e)]
  have e2:(if v=stFrom l s then k else 0)=(if stFrom l s=v then k else 0):=by
   by_cases e:stFrom l s=v
   ·rw[Yx e,Yx e.symm]
   ·rw[Yy e,Yy (Ne.symm e)]
  rw[e1,e2];omega
theorem rises_apart {l:List S73} (lv:Int→Int): ∀ {L:List S113} {a b:Int},Trail l a L b→(∀ s,s∈L→lv (stTo l s)=lv (stFrom l s)+1)→
  L.Pairwise (fun x y=>x.f0≠y.f0)∧ ∀ s,s∈L→lv a≤lv (stFrom l s)
 |[],_,_,_,_=>⟨List.Pairwise.nil,fun s hs=>by cases hs⟩
 |x::L,a,b,h,hv=>by
  obtain⟨hs,ha,ht⟩:=h;have hx:=hv x List.mem_cons_self;obtain⟨h1,h2⟩:=rises_apart lv ht (fun s hs=>hv s (List.mem_cons_of_mem _ hs));refine⟨List.pairwise_cons.2 ⟨fun y hy e=> ?_,h1⟩,fun s hs=> ?_⟩
  ·have h3:=h2 y hy
   have h4:=hv y (List.mem_cons_of_mem _ hy);have h5:(stFrom l y=stFrom l x∧stTo l y=stTo l x)∨(stFrom l y=stTo l x∧stTo l y=stFrom l x):=by
    unfold stFrom stTo;rw[e];cases x.f1<;>cases y.f1<;>simp
   rcases h5 with ⟨e1,e2⟩|⟨e1,e2⟩
   ·rw[e1] at h3;omega
   ·rw[e1,e2] at h4;omega
  ·rcases List.mem_cons.1 hs with rfl|hs
   ·rw[ha];exact Int.le_refl _
   ·have:=h2 s hs
    rw[← ha];omega
def leastR (l:List S73) (F:List Int):List S113→Int
 |[]=>0
 |[s]=>stRoom l F s
 |s::t::L=>min (stRoom l F s) (leastR l F (t::L))
theorem leastR_le {l:List S73} {F:List Int} : ∀ {L:List S113} {s:S113},s∈L→leastR l F L≤stRoom l F s
 |[],s,h=>by cases h
 |[x],s,h=>by rw[List.mem_singleton.1 h];exact Int.le_refl _
 |x::y::L,s,h=>by
  unfold leastR;rcases List.mem_cons.1 h with rfl|h
  ·omega
  ·have:=leastR_le (l:=l) (F:=F) h
   omega
theorem leastR_in {l:List S73} {F:List Int} : ∀ {L:List S113},L≠[]→ ∃ s,s∈L∧leastR l F L=stRoom l F s
 |[],h=>absurd rfl h
 |[x],_=>⟨x,List.mem_cons_self,rfl⟩
 |x::y::L,_=>by
  obtain⟨s,h1,h2⟩:=leastR_in (l:=l) (F:=F) (L:=y::L) (by simp);unfold leastR;by_cases h:stRoom l F x≤leastR l F (y::L)
  ·exact⟨x,List.mem_cons_self,by omega⟩
  ·exact⟨s,List.mem_cons_of_mem _ h1,by omega⟩
end H
namespace H
open P Q
def outR (R:Int→Bool):List S73→List Int→Int
 |a::l,x::f=>(if R a.f0 then x else 0) - (if R a.f1 then x else 0)+outR R l f
 |_,_=>0
theorem outR_cons (R:Int→Bool) (a:S73) (l:List S73) (x:Int) (f:List Int):outR R (a::l) (x::f)=(if R a.f0 then x else 0) - (if R a.f1 then x else 0)+outR R l f:=rfl
def capR (R:Int→Bool):List S73→Int
 |[]=>0
 |a::l=>(if R a.f0 && !R a.f1 then a.f2 else 0)+capR R l
theorem capR_cons (R:Int→Bool) (a:S73) (l:List S73):capR R (a::l)=(if R a.f0 && !R a.f1 then a.f2 else 0)+capR R l:=rfl
def sumR (R:Int→Bool) (g:Int→Int):Nat→Int
 |0=>0
 |n+1=>sumR R g n+(if R n then g n else 0)
theorem sumR_add (R:Int→Bool) (g h:Int→Int) (n:Nat):sumR R (fun v=>g v+h v) n=sumR R g n+sumR R h n:=by
 induction n with
 |zero=>rfl
 |succ n ih=>unfold sumR;rw[ih];split<;>omega
theorem sumR_one (R:Int→Bool) (a x:Int) (n:Nat) (h0:0≤a) (h1:a<n):sumR R (fun v=>if a=v then x else 0) n=if R a then x else 0:=by
 have aux: ∀ m:Nat,sumR R (fun v=>if a=v then x else 0) m=if a<m then(if R a then x else 0) else 0:=by
  intro m
  induction m with
  |zero=>rw[Yy (by omega)];rfl
  |succ m ih=>
   unfold sumR;rw[ih];show _+(if R m then(if a=(m:Int) then x else 0) else 0)=_;by_cases e:a=(m:Int)
   ·subst e
    rw[Yy (Int.lt_irrefl _),Yx (show (m:Int)<((m+1:Nat):Int) by omega),Yx rfl];omega
   ·have e2:(if R m then(if a=(m:Int) then x else 0) else 0)=0:=by rw[Yy e];split<;>rfl
    rw[e2];by_cases hm:a<(m:Int)
    ·rw[Yx hm,Yx (show a<((m+1:Nat):Int) by omega)]
     omega
    ·rw[Yy hm,Yy (show ¬ a<((m+1:Nat):Int) by omega)]
     omega
 rw[aux,Yx h1]
theorem sumR_zero (R:Int→Bool) (n:Nat):sumR R (fun _=>0) n=0:=by
 induction n with
 |zero=>rfl
 |succ n ih=>unfold sumR;rw[ih];simp
theorem sumR_neg (R:Int→Bool) (g:Int→Int) (n:Nat):sumR R (fun v=> -g v) n= -sumR R g n:=by
 induction n with
 |zero=>rfl
 |succ n ih=>unfold sumR;rw[ih];split<;>omega
theorem sum_bal (R:Int→Bool) (n:Nat): ∀ (l:List S73) (f:List Int),(∀ a,a∈l→(0≤a.f0∧a.f0<n)∧0≤a.f1∧a.f1<n)→f.length=l.length→sumR R (bal l f) n=outR R l f
 |[],[],_,_=>by
  have e:bal ([]:List S73) []=fun _=>0:=rfl
  rw[e,sumR_zero];rfl
 |[],_::_,_,h=>by simp at h
 |_::_,[],_,h=>by simp at h
 |a::l,x::f,h,hl=>by
  obtain⟨⟨h1,h2⟩,h3,h4⟩:=h a List.mem_cons_self;have e:bal (a::l) (x::f)=fun v=>((if a.f0=v then x else 0)+ -(if a.f1=v then x else 0))+bal l f v:=by
   funext v;rw[bal_cons];omega
  rw[e,sumR_add,sumR_add,sumR_one R _ x n h1 h2,sumR_neg,sumR_one R _ x n h3 h4,sum_bal R n l f (fun b hb=>h b (List.mem_cons_of_mem _ hb)) (by simpa using hl),outR_cons];omega
theorem sumR_ends {R:Int→Bool} {g:Int→Int} {s t:Int} (n:Nat) (hs:R s=true) (ht:R t=false) (h0:0≤s) (h1:s<n) (hg: ∀ v:Int,0≤v→v<n→v≠s→v≠t→g v=0):sumR R g n=g s:=by
 have aux: ∀ m:Nat,m≤n→sumR R g m=if s<m then g s else 0:=by
  intro m
  induction m with
  |zero=>intro _;rw[Yy (by omega)];rfl
  |succ m ih=>
   intro hm;unfold sumR;rw[ih (by omega)];show _+(if R m then g m else 0)=_;by_cases e:s=(m:Int)
   ·subst e
    rw[Yy (Int.lt_irrefl _),Yx hs,Yx (show (m:Int)<((m+1:Nat):Int) by omega)];omega
   ·have e2:(if R m then g m else 0)=0:=by
     by_cases e3:t=(m:Int)
     ·rw[← e3,ht];rfl
     ·rw[hg m (by omega) (by omega) (Ne.symm e) (Ne.symm e3)];split<;>rfl
    rw[e2];by_cases h:s<(m:Int)
    ·rw[Yx h,Yx (show s<((m+1:Nat):Int) by omega)];omega
    ·rw[Yy h,Yy (show ¬ s<((m+1:Nat):Int) by omega)];omega
 rw[aux n (Nat.le_refl _),Yx h1]
theorem outR_le (R:Int→Bool): ∀ (l:List S73) (f:List Int),flowB l f=true→outR R l f≤capR R l
 |[],[],_=>by simp[outR,capR]
 |[],_::_,h=>by simp[flowB] at h
 |_::_,[],h=>by simp[flowB] at h
 |a::l,x::f,h=>by
  unfold flowB at h;split at h
  ·cases h
  ·split at h
   ·cases h
   ·have:=outR_le R l f h
    rw[outR_cons,capR_cons];cases R a.f0<;>cases R a.f1<;>simp<;>omega
def Tightly (R:Int→Bool) (l:List S73) (f:List Int):Prop:= ∀ i:Nat,i<l.length→(R (rd_T73 l i).f0=true→R (rd_T73 l i).f1=false→f.getD i 0=(rd_T73 l i).f2)∧(R (rd_T73 l i).f0=false→R (rd_T73 l i).f1=true→f.getD i 0=0)
theorem outR_eq (R:Int→Bool): ∀ (l:List S73) (f:List Int),f.length=l.length→Tightly R l f→outR R l f=capR R l
 |[],[],_,_=>by simp[outR,capR]
 |[],_::_,h,_=>by simp at h
 |_::_,[],h,_=>by simp at h
 |a::l,x::f,h,ht=>by
  have h0:=ht 0 (by simp);have e:rd_T73 (a::l) ((0:Nat):Int)=a:=rfl;rw[e] at h0;simp only[List.getD_cons_zero] at h0;have ih:=outR_eq R l f (by simpa using h) (fun i hi=>by
   have h1:=ht (i+1) (by simp;omega);have e:rd_T73 (a::l) ((i+1:Nat):Int)=rd_T73 l (i:Int):=by rw[rdArc_nat,rdArc_nat];rfl
   rw[e] at h1
   simpa using h1)
  rw[outR_cons,ih,capR_cons];cases h1:R a.f0<;>cases h2:R a.f1
  ·simp
  ·have:=h0.2 h1 h2;simp[this]
  ·have:=h0.1 h1 h2;simp[this]
  ·simp
structure IsFlow (l:List S73) (F:List Int) (n:Nat) (s t:Int):Prop where
 right:Right l F n
 keeps: ∀ v:Int,0≤v→v<n→v≠s→v≠t→bal l F v=0
theorem ends_arcs {l:List S73} {n:Nat} (h:ends l n): ∀ a,a∈l→(0≤a.f0∧a.f0<n)∧0≤a.f1∧a.f1<n:=by
 intro a ha;obtain⟨i,hi,e⟩:=List.getElem_of_mem ha;have h1:=h i hi;unfold eFrom eTo at h1;rw[rdArc_nat,List.getD_eq_getElem?_getD,List.getElem?_eq_getElem hi] at h1;have e2:(some l[i]).getD z73=a:=e;rw[e2] at h1;exact h1
theorem Right.flowB {l:List S73} {F:List Int} {n:Nat} (h:Right l F n):flowB l F=true:=by
 have hl:=h.len;refine flow_mk hl fun i hi=> ?_
 have:=h.nums i (by omega);rw[rdArc_nat] at this;exact⟨this.2.2.1,this.2.2.2.1⟩
theorem value_le {l:List S73} {F:List Int} {n:Nat} {s t:Int} (h:IsFlow l F n s t) (R:Int→Bool) (hs:R s=true) (ht:R t=false) (h0:0≤s) (h1:s<n):bal l F s≤capR R l:=by
 rw[← sumR_ends n hs ht h0 h1 h.keeps,sum_bal R n l F (ends_arcs h.right.ends) h.right.len];exact outR_le R l F h.right.flowB
theorem value_eq {l:List S73} {F:List Int} {n:Nat} {s t:Int} (h:IsFlow l F n s t) (R:Int→Bool) (hs:R s=true) (ht:R t=false) (h0:0≤s) (h1:s<n)
  (hR: ∀ e:S113,StepOf l e→0<stRoom l F e→R (stFrom l e)=true→R (stTo l e)=true):bal l F s=capR R l:=by
 rw[← sumR_ends n hs ht h0 h1 h.keeps,sum_bal R n l F (ends_arcs h.right.ends) h.right.len];refine outR_eq R l F h.right.len fun i hi=> ?_
 have hn:=h.right.nums i hi;have hf:=hR ⟨i,false⟩ ⟨i,hi,rfl⟩;have hb:=hR ⟨i,true⟩ ⟨i,hi,rfl⟩;unfold stRoom stFrom stTo eFrom eTo at hf hb;simp only[Bool.false_eq_true,if_false,if_true,Int.toNat_natCast] at hf hb;refine⟨fun a b=> ?_,fun a b=> ?_⟩
 ·have: ¬ 0<(rd_T73 l i).f2 - F.getD i 0:=fun g=>by have:=hf g a;rw[b] at this;cases this
  omega
 ·have: ¬ 0<F.getD i 0:=fun g=>by have:=hb g b;rw[a] at this;cases this
  omega
theorem capR_top (R:Int→Bool): ∀ (l:List S73),(∀ a,a∈l→0≤a.f2∧a.f2≤1099511627776)→0≤capR R l∧capR R l≤1099511627776 * l.length
 |[],_=>by simp[capR]
 |a::l,h=>by
  have h1:=h a List.mem_cons_self;have h2:=capR_top R l fun b hb=>h b (List.mem_cons_of_mem _ hb)
  rw[List.length_cons,capR_cons];split<;>omega
theorem Right.caps {l:List S73} {F:List Int} {n:Nat} (h:Right l F n): ∀ a,a∈l→0≤a.f2∧a.f2≤1099511627776:=by
 intro a ha;obtain⟨i,hi,e⟩:=List.getElem_of_mem ha;have h1:=h.nums i hi;rw[rdArc_nat,List.getD_eq_getElem?_getD,List.getElem?_eq_getElem hi] at h1;have e2:(some l[i]).getD z73=a:=e;rw[e2] at h1;omega
end H
namespace H
open P Q
def esP (l:List S73) (F:List Int) (u:Nat):List S113:=(stL l u l.length).filter fun e=>decide (0<stRoom l F e)
def toP (l:List S73) (e:S113):Nat:=(stTo l e).toNat
def frP (l:List S73) (e:S113):Nat:=(stFrom l e).toNat
def bfP (l:List S73) (F:List Int) (n s:Nat):List (Fd S113):=bfsN (toP l) (esP l F) z113 n s
theorem mem_esP {l:List S73} {F:List Int} {u:Nat} {e:S113} :e∈esP l F u↔e∈stL l u l.length∧0<stRoom l F e:=by
 unfold esP;rw[List.mem_filter,decide_eq_true_eq]
theorem frP_of {l:List S73} {u:Nat} {e:S113} (h:e∈stL l u l.length):frP l e=u:=by
 unfold frP;rw[stL_from h,Int.toNat_natCast]
theorem toP_lt {l:List S73} {F:List Int} {n:Nat} (hr:Right l F n) {s:S113} (hs:StepOf l s):toP l s<n:=by
 have:=stTo_in hr hs;unfold toP;omega
theorem esP_to {l:List S73} {F:List Int} {n:Nat} (hr:Right l F n): ∀ (u:Nat) (e:S113),e∈esP l F u→toP l e<n:=fun u e he=>toP_lt hr (stL_of (mem_esP.1 he).1)
theorem esP_fr {l:List S73} {F:List Int} : ∀ (u:Nat) (e:S113),e∈esP l F u→frP l e=u:=fun u e he=>frP_of (mem_esP.1 he).1
theorem esP_of {l:List S73} {F:List Int} {n:Nat} (hr:Right l F n) {e:S113} (hs:StepOf l e) (h:0<stRoom l F e):e∈esP l F (frP l e):=by
 refine mem_esP.2 ⟨?_,h⟩;have hf:=stFrom_in hr hs;rw[mem_stL];unfold frP;rw[Int.toNat_of_nonneg hf.1];obtain⟨i,h1,h2⟩:=hs;refine⟨i,h1,h2,?_⟩;unfold stFrom;rw[h2];cases e.f1
 ·exact .inl ⟨rfl,rfl⟩
 ·exact .inr ⟨rfl,rfl⟩
theorem bfP_upto {l:List S73} {F:List Int} {n s:Nat} (hr:Right l F n) (hs:s<n):Upto (frP l) (toP l) (esP l F) s (bfP l F n s).length (bfP l F n s):=bfsN_upto (esP_to hr) hs
theorem bfP_head {l:List S73} {F:List Int} {n s:Nat} (hr:Right l F n) (hs:s<n): ∃ x,x∈bfP l F n s∧x.v=s∧x.lv=0:=by
 obtain⟨x,r,h1,h2,h3⟩:=(bfP_upto hr hs).fds.head;exact⟨x,by rw[h1];exact List.mem_cons_self,h2,h3⟩
def netG (l:List S73) (F D:List Int):Net_ S113:=⟨fun v=>stL l v l.length,toP l,frP l,fun v=>D.getD v 0,fun e=>decide (0<stRoom l F e)⟩
theorem leads_trail {l:List S73} {F:List Int} {n:Nat} (hr:Right l F n) {rows:Nat→List S113} (hrows: ∀ u e,e∈rows u→e∈stL l u l.length): ∀ {L:List S113} {s t:Nat},Leads (toP l) rows s L t→Trail l s L t
 |[],s,t,h=>by cases h;rfl
 |x::L,s,t,h=>by
  have hx:=hrows _ _ h.1;refine⟨stL_of hx,stL_from hx,?_⟩;have h1:=stTo_in hr (stL_of hx);have h2:=leads_trail hr hrows h.2;unfold toP at h2;rw[Int.toNat_of_nonneg h1.1] at h2;exact h2
theorem push_found {l:List S73} {F F0:List Int} {n s t:Nat} (hf:IsFlow l F n s t) (hr0:Right l F0 n) (hs:s<n) (hst:s≠t) {L:List S113}
  (hL:Leads (toP l) (fun v=>stL l v l.length) s L t) (ha: ∀ e,e∈L→(netG l F (dOf n (bfP l F0 n s))).adm (frP l e) e=true):
  IsFlow l (pushW F (leastR l F L) L) n s t∧1≤leastR l F L∧L≠[]∧bal l (pushW F (leastR l F L) L) s=bal l F s+leastR l F L∧L.Pairwise (fun a b=>a.f0≠b.f0)∧(∀ s,s∈L→StepOf l s)∧leastR l F L≤1099511627776:=by
 have hne:L≠[]:=by rintro rfl;exact hst hL
 have htr:=leads_trail hf.right (rows:=fun v=>stL l v l.length) (fun _ _ h=>h) hL;have hroom: ∀ e,e∈L→0<stRoom l F e:=fun e he=>Yu (adm_lv (ha e he)).2
 obtain⟨m,hm,hle⟩:=leastR_in (l:=l) (F:=F) hne;have h1:1≤leastR l F L:=by rw[hle];exact hroom m hm
 have hap:=(rises_apart (l:=l) (fun v=>(dOf n (bfP l F0 n s)).getD v.toNat 0) htr (fun e he=>(adm_lv (ha e he)).1)).1;have hr:=Right.pushW (k:=leastR l F L) (by omega) L hf.right (fun e he=>⟨htr.of e he,leastR_le he⟩) hap;have hb:=fun v=>bal_pushW (leastR l F L) v hf.right.len htr
 have hmx:=(stRoom_in hf.right (htr.of m hm)).2;refine⟨⟨hr,fun v h0 h1 h2 h3=> ?_⟩,h1,hne,?_,hap,htr.of,by omega⟩
 ·rw[hb,Yy h2,Yy h3,hf.keeps v h0 h1 h2 h3];rfl
 ·rw[hb,Yx rfl,Yy (by omega)];omega
theorem flow_top {l:List S73} {F:List Int} {n s t:Nat} (hf:IsFlow l F n s t) (hs:s<n) (hst:s≠t):bal l F s≤219902325555200:=by
 have h1:=value_le hf (fun v=>decide (v=(s:Int))) (by simp) (by simp;omega) (by omega) (by omega);have h2:=capR_top (fun v=>decide (v=(s:Int))) l hf.right.caps;have h3:=hf.right.arcs;have h4:1099511627776 * (l.length:Int)≤1099511627776 * 200:=by omega
 omega
structure MaxF (l:List S73) (F:List Int) (n s t:Nat):Prop where
 flow:IsFlow l F n s t
 cut:t ∉ nodes (bfP l F n s)
theorem zeros_flow {l:List S73} {n s t:Nat} (h0:0<n) (h50:n≤50) (hl:l.length≤200) (he:ends l n) (hn: ∀ i:Nat,i<l.length→0≤(rd_T73 l i).f3∧(rd_T73 l i).f3≤1048576∧0≤(rd_T73 l i).f2∧(rd_T73 l i).f2≤1099511627776):
  IsFlow l (List.replicate l.length 0) n s t∧bal l (List.replicate l.length 0) s=0:=by
 have hz: ∀ (l:List S73) (v:Int),bal l (List.replicate l.length 0) v=0:=by
  intro l v
  induction l with
  |nil=>rfl
  |cons a l ih=>rw[List.length_cons,List.replicate_succ,bal_cons,ih];split<;>split<;>rfl
 refine⟨⟨⟨h0,h50,hl,by simp,he,fun i hi=> ?_⟩,fun v _ _ _ _=>hz l v⟩,hz l _⟩;have:=hn i hi;have e:(List.replicate l.length (0:Int)).getD i 0=0:=by rw[List.getD_eq_getElem?_getD,List.getElem?_replicate,Yx hi];rfl
 rw[e];omega
def sideP (l:List S73) (F:List Int) (n s:Nat) (v:Int):Bool:=decide (0≤v∧v.toNat∈nodes (bfP l F n s))
theorem side_closed {l:List S73} {F:List Int} {n s:Nat} (hr:Right l F n) (hs:s<n): ∀ e:S113,StepOf l e→0<stRoom l F e→sideP l F n s (stFrom l e)=true→sideP l F n s (stTo l e)=true:=by
 intro e he hroom h;unfold sideP at h ⊢;rw[decide_eq_true_eq] at h ⊢;obtain⟨x,hx,hxv⟩:=List.mem_map.1 h.2;have h1:=esP_of hr he hroom;have h2:frP l e=x.v:=hxv.symm;rw[h2] at h1;obtain⟨y,hy,h3,_⟩:=bfsN_closed (z:=z113) (esP_to hr) hs hx h1;have h4:=stTo_in hr he;exact⟨h4.1,List.mem_map.2 ⟨y,hy,h3⟩⟩
theorem max_value {l:List S73} {F:List Int} {n s t:Nat} (h:MaxF l F n s t) (hs:s<n) (hst:s≠t):bal l F s=capR (sideP l F n s) l∧sideP l F n s s=true∧sideP l F n s t=false:=by
 have h1:sideP l F n s s=true:=by
  obtain⟨x,hx,hxv,_⟩:=bfP_head h.flow.right hs;unfold sideP;rw[decide_eq_true_eq];exact⟨by omega,by rw[Int.toNat_natCast];exact List.mem_map.2 ⟨x,hx,hxv⟩⟩
 have h2:sideP l F n s t=false:=by
  unfold sideP;rw[decide_eq_false_iff_not,Int.toNat_natCast];exact fun g=>h.cut g.2
 exact⟨value_eq h.flow _ h1 h2 (by omega) (by omega) (side_closed h.flow.right hs),h1,h2⟩
end H
namespace H
open P Q
def wayP (l:List S73) (F:List Int) (n s t:Nat):List S113:=if t∈nodes (bfP l F n s) then wayL (frP l) (bfP l F n s) s t else []
end H
namespace H
open P Q
def esL (l:List S73) (L:List S113) (u:Nat):List S113:=L.filter fun e=>decide (stFrom l e=(u:Int))
def bfL (l:List S73) (L:List S113) (n s:Nat):List (Fd S113):=bfsN (toP l) (esL l L) z113 n s
theorem es_same (l:List S73) (F:List Int) (u:Nat) (k:Nat):(stL l u k).filter (fun e=>decide (0<stRoom l F e))=(stepsR l F k).filter (fun e=>decide (stFrom l e=(u:Int))):=by
 induction k with
 |zero=>rfl
 |succ k ih=>
  unfold stL stepsR;rw[List.filter_append,List.filter_append,List.filter_append,List.filter_append,ih];congr 1
  ·congr 1
   have e1:stRoom l F ⟨(k:Int),false⟩=(rd_T73 l k).f2 - F.getD k 0:=by unfold stRoom;simp
   have e2:stFrom l ⟨(k:Int),false⟩=eFrom (rd_T73 l k):=rfl;by_cases h1:eFrom (rd_T73 l k)=(u:Int)<;>by_cases h2:F.getD k 0<(rd_T73 l k).f2
   ·rw[Yx h1,Yx h2,List.filter_cons,List.filter_cons,Yx (by rw[decide_eq_true_eq,e1];omega),Yx (by rw[decide_eq_true_eq,e2];exact h1)];rfl
   ·rw[Yx h1,Yy h2,List.filter_cons,Yy (by rw[decide_eq_true_eq,e1];omega)];rfl
   ·rw[Yy h1,Yx h2,List.filter_cons,Yy (by rw[decide_eq_true_eq,e2];exact h1)];rfl
   ·rw[Yy h1,Yy h2];rfl
  ·have e1:stRoom l F ⟨(k:Int),true⟩=F.getD k 0:=by unfold stRoom;simp
   have e2:stFrom l ⟨(k:Int),true⟩=eTo (rd_T73 l k):=rfl;by_cases h1:eTo (rd_T73 l k)=(u:Int)<;>by_cases h2:0<F.getD k 0
   ·rw[Yx h1,Yx h2,List.filter_cons,List.filter_cons,Yx (by rw[decide_eq_true_eq,e1];omega),Yx (by rw[decide_eq_true_eq,e2];exact h1)];rfl
   ·rw[Yx h1,Yy h2,List.filter_cons,Yy (by rw[decide_eq_true_eq,e1];omega)];rfl
   ·rw[Yy h1,Yx h2,List.filter_cons,Yy (by rw[decide_eq_true_eq,e2];exact h1)];rfl
   ·rw[Yy h1,Yy h2];rfl
theorem bf_same {l:List S73} {F:List Int} {n:Nat} (hr:Right l F n) (s:Nat):bfL l (stepsR l F F.length) n s=bfP l F n s:=by
 unfold bfL bfP;have:esL l (stepsR l F F.length)=esP l F:=by
  funext u;unfold esL esP;rw[hr.len];exact(es_same l F u l.length).symm
 rw[this]
def hasI (X:List Int) (a:Int) (i:Nat):Int:=if a∈X.drop i then((i+(X.drop i).idxOf a:Nat):Int) else -1
theorem has_l0 (X:List Int) (Y:List S113) (a:Int) (hl:X.length≤1000000) (d:Nat): ∀ i:Nat,i+d=X.length→Ev (fun k=>ebbtideref08_found_has.l0 k a (i:Int) X Y) (hasI X a i):=by
 induction d with
 |zero=>
  intro i hi;refine Ev.succ ?_;simp only[ebbtideref08_found_has.l0];refine Ev.neg (by omega) ?_;exact Ev.done (by unfold hasI;rw[List.drop_of_length_le (by omega),Yy (by simp)])
 |succ d ih=>
  intro i hi;refine Ev.succ ?_;simp only[ebbtideref08_found_has.l0];refine Ev.pos (by omega) ?_;refine Ev.pos (by omega) ?_;have hd:=drop_getD X i 0 (by omega);rw[rd_nat];refine Ev.ite (fun g=> ?_) (fun g=> ?_)
  ·exact Ev.done (by unfold hasI;rw[hd,g,Yx List.mem_cons_self,List.idxOf_cons_self];rfl)
  ·rw[wrap_succ (n:=X.length) (by omega) (by omega)]
   refine Ev.eq (ih (i+1) (by omega)) ?_;unfold hasI;rw[hd];by_cases hm:a∈X.drop (i+1)
   ·have e3:(X.getD i 0::X.drop (i+1)).idxOf a=(X.drop (i+1)).idxOf a+1:=by
     rw[List.idxOf_cons];have:(X.getD i 0 == a)=false:=beq_eq_false_iff_ne.2 g;rw[this];rfl
    rw[Yx hm,Yx (List.mem_cons_of_mem _ hm),e3];omega
   ·rw[Yy hm,Yy (by intro h;rcases List.mem_cons.1 h with h|h;exact g h.symm;exact hm h)]
theorem has_ev (X:List Int) (Y:List S113) (a:Int) (hl:X.length≤1000000):Ev (fun k=>ebbtideref08_found_has.f k X Y a) (hasI X a 0):=by
 unfold ebbtideref08_found_has.f;exact has_l0 X Y a hl X.length 0 (by omega)
def nX (st:List (Fd S113)):List Int:=(nodes st).map fun v:Nat=>(v:Int)
def bY (st:List (Fd S113)):List S113:=st.map Fd.by_
theorem nX_len (st:List (Fd S113)):(nX st).length=st.length:=by simp[nX,nodes]
theorem bY_len (st:List (Fd S113)):(bY st).length=st.length:=by simp[bY]
theorem nX_snoc (st:List (Fd S113)) (x:Fd S113):nX (st ++ [x])=nX st ++ [(x.v:Int)]:=by simp[nX,nodes]
theorem bY_snoc (st:List (Fd S113)) (x:Fd S113):bY (st ++ [x])=bY st ++ [x.by_]:=by simp[bY]
theorem mem_nX {st:List (Fd S113)} {v:Nat} :(v:Int)∈nX st↔v∈nodes st:=by
 unfold nX;rw[List.mem_map];constructor
 ·rintro⟨u,hu,e⟩
  have:u=v:=by omega
  rw[← this];exact hu
 ·intro h;exact⟨v,h,rfl⟩
theorem hasI_neg {st:List (Fd S113)} {v:Nat} :hasI (nX st) (v:Int) 0<0↔v ∉ nodes st:=by
 unfold hasI;rw[List.drop_zero];by_cases h:v∈nodes st
 ·rw[Yx (mem_nX.2 h)]
  constructor
  ·intro h2;omega
  ·intro h2;exact absurd h h2
 ·rw[Yy (fun h2=>h (mem_nX.1 h2))]
  simp[h]
theorem nX_get {st:List (Fd S113)} {i:Nat} {x:Fd S113} (h:st[i]? =some x):rd (nX st) (i:Int)=(x.v:Int):=by
 rw[rd_nat,List.getD_eq_getElem?_getD];unfold nX nodes;rw[List.getElem?_map,List.getElem?_map,h];rfl
structure StepsOk (l:List S73) (n:Nat) (L:List S113):Prop where
 ends:ends l n
 arcs:l.length≤200
 of: ∀ s,s∈L→StepOf l s
 len:L.length≤400
section
variable {l:List S73} {n:Nat} {L:List S113}
theorem StepsOk.to_in (h:StepsOk l n L) {s:S113} (hs:s∈L):0≤stTo l s∧stTo l s<n:=by
 obtain⟨i,h1,h2⟩:=h.of s hs;have:=h.ends i h1;unfold stTo;rw[h2];split
 ·exact this.1
 ·exact this.2
theorem esL_to (h:StepsOk l n L): ∀ (u:Nat) (e:S113),e∈esL l L u→toP l e<n:=by
 intro u e he;have:=h.to_in (List.mem_filter.1 he).1;unfold toP;omega
theorem esL_fr: ∀ (u:Nat) (e:S113),e∈esL l L u→frP l e=u:=by
 intro u e he;have h:=Yu (List.mem_filter.1 he).2;unfold frP;rw[h,Int.toNat_natCast]
theorem rfrom_ok (h:StepsOk l n L) {s:S113} (hs:s∈L) (a:Int) (b:Bool):ebbtideref07_From.f a b l s.f0 s.f1=some (stFrom l s):=by
 obtain⟨i,h1,h2⟩:=h.of s hs;unfold ebbtideref07_From.f stFrom eFrom eTo;rw[h2];cases s.f1<;>simp[h1]
theorem rto_ok (h:StepsOk l n L) {s:S113} (hs:s∈L) (a:Int) (b:Bool):ebbtideref07_To.f a b l s.f0 s.f1=some (stTo l s):=by
 obtain⟨i,h1,h2⟩:=h.of s hs;unfold ebbtideref07_To.f stTo eFrom eTo;rw[h2];cases s.f1<;>simp[h1]
theorem sought_l1 (h:StepsOk l n L) (hn:n≤50) (a:Int) (b:Bool) {s i:Nat} (hs:s<n) {x:Fd S113} {R:List Int × List S113} (d:Nat): ∀ (j:Nat) (stj:List (Fd S113)),j+d=L.length→Fds (frP l) (toP l) (esL l L) s stj→stj[i]? =some x→(∀ y,y∈stj→y.lv≤x.lv+1)→
  Ev (fun k=>ebbtideref08_sought.l0 k L ((i+1:Nat):Int) a b l (nX (((L.drop j).filter fun e=>decide (stFrom l e=(x.v:Int))).foldl (vis (toP l) x.lv) stj)) (bY (((L.drop j).filter fun e=>decide (stFrom l e=(x.v:Int))).foldl (vis (toP l) x.lv) stj))) R→
  Ev (fun k=>ebbtideref08_sought.l1 k L (i:Int) (j:Int) a b l (nX stj) (bY stj)) R:=by
 induction d with
 |zero=>
  intro j stj hj hf hx hm he;have hil:=(List.getElem?_eq_some_iff.1 hx).1;have hln:=fds_len hf (esL_to h) hs;rw[List.drop_of_length_le (by omega)] at he;refine Ev.succ ?_;simp only[ebbtideref08_sought.l1];refine Ev.neg (by omega) ?_;rw[wrap_succ (n:=51) (by omega) (by omega)];exact he
 |succ d ih=>
  intro j stj hj hf hx hm he;have hil:=(List.getElem?_eq_some_iff.1 hx).1;have hln:=fds_len hf (esL_to h) hs;have hll:=h.len;refine Ev.succ ?_;simp only[ebbtideref08_sought.l1];refine Ev.pos (by omega) ?_;refine Ev.pos (by omega) ?_;have hd:=drop_getD L j z113 (by omega);obtain⟨e,hee⟩: ∃ e,e=L.getD j z113:=⟨_,rfl⟩;have hr:rd_T113 L (j:Int)=e:=by unfold rd_T113;rw[Int.toNat_natCast,hee]
  have hem:e∈L:=by rw[hee];exact getD_mem (by omega)
  rw[hr];rw[hd, ← hee,List.filter_cons] at he;refine Ev.call (rfrom_ok h hem a b) ?_;refine Ev.pos (by omega) ?_;refine Ev.pos (by rw[nX_len];omega) ?_;rw[nX_get hx,wrap_succ (n:=L.length) (by omega) (by omega)];refine Ev.ite (fun g=> ?_) (fun g=> ?_)
  ·rw[Yx (by simpa using g),List.foldl_cons] at he
   have hto:=h.to_in hem;have htp:stTo l e=((toP l e:Nat):Int):=by unfold toP;omega
   refine Ev.call (rto_ok h hem a b) ?_;rw[htp];refine Ev.bind (has_ev (nX stj) (bY stj) _ (by rw[nX_len];omega)) ?_;refine Ev.ite (fun g2=> ?_) (fun g2=> ?_)
   ·have hnm:=hasI_neg.1 g2
    have hv:vis (toP l) x.lv stj e=stj ++ [⟨toP l e,e,x.lv+1⟩]:=by unfold vis;rw[Yy hnm]
    obtain⟨f1,f2⟩:=hf.vis hx hm (List.mem_filter.2 ⟨hem,by simpa using g⟩);rw[hv] at f1 f2 he;refine Ev.call (rto_ok h hem a b) ?_;rw[htp];refine Ev.pos (by rw[nX_len];omega) ?_;refine Ev.pos (by rw[bY_len];omega) ?_;have h2:=ih (j+1) (stj ++ [⟨toP l e,e,x.lv+1⟩]) (by omega) f1 (by rw[List.getElem?_append_left hil];exact hx) f2 he;rw[nX_snoc,bY_snoc] at h2;exact h2
   ·have hmm:toP l e∈nodes stj:=Classical.byContradiction fun hc=>g2 (hasI_neg.2 hc)
    have hv:vis (toP l) x.lv stj e=stj:=by unfold vis;rw[Yx hmm]
    rw[hv] at he;exact ih (j+1) stj (by omega) hf hx hm he
  ·rw[Yy (by simpa using g)] at he
   exact ih (j+1) stj (by omega) hf hx hm he
theorem sought_l0 (h:StepsOk l n L) (hn:n≤50) (a:Int) (b:Bool) {s:Nat} (hs:s<n) (d:Nat): ∀ (i:Nat) (st:List (Fd S113)),Upto (frP l) (toP l) (esL l L) s i st→i+d=n→i≤st.length→
  Ev (fun k=>ebbtideref08_sought.l0 k L (i:Int) a b l (nX st) (bY st)) (nX (bfs (toP l) (esL l L) d i st),bY (bfs (toP l) (esL l L) d i st)):=by
 induction d with
 |zero=>
  intro i st hu hi hil;have hln:=fds_len hu.fds (esL_to h) hs;refine Ev.succ ?_;simp only[ebbtideref08_sought.l0];refine Ev.neg (by rw[nX_len];omega) ?_;exact Ev.now _
 |succ d ih=>
  intro i st hu hi hil;unfold bfs;cases hx:st[i]? with
  |none=>
   have:=List.getElem?_eq_none_iff.1 hx;refine Ev.succ ?_;simp only[ebbtideref08_sought.l0];refine Ev.neg (by rw[nX_len];omega) ?_;exact Ev.now _
  |some x=>
   have hlt:=(List.getElem?_eq_some_iff.1 hx).1;refine Ev.succ ?_;simp only[ebbtideref08_sought.l0];refine Ev.pos (by rw[nX_len];omega) ?_;refine sought_l1 h hn a b hs L.length 0 st (by omega) hu.fds hx (hu.most x hx) ?_;rw[List.drop_zero];have hnx:=hu.next hx
   have hpl:i+1≤(proc (toP l) (esL l L) st x).length:=by
    obtain⟨r,hr⟩:=fold_pre (toP l) x.lv (esL l L x.v) st;unfold proc;rw[hr,List.length_append];omega
   exact ih (i+1) (proc (toP l) (esL l L) st x) hnx (by omega) hpl
theorem sought_ev (h:StepsOk l n L) (hn:n≤50) (b:Bool) {s:Nat} (hs:s<n):Ev (fun k=>ebbtideref08_sought.f k (n:Int) b l (s:Int) L) (nX (bfL l L n s),bY (bfL l L n s)):=by
 unfold ebbtideref08_sought.f;refine Ev.pos (by simp) ?_;refine Ev.pos (by simp) ?_;exact sought_l0 h hn (n:Int) b hs n 0 [⟨s,z113,0⟩] (upto_start _ _ _ _ _) (by omega) (Nat.zero_le _)
end
end H
namespace H
open P
attribute [local irreducible] wpQuiet
theorem info3:(Try.prog.info? 3).map (fun i=>(i.zero,i.size,i.bytes))=some (some (.int .i64 0),1,8):=by kernel_rfl
end H
namespace H
open P
attribute [local irreducible] wpQuiet
theorem back_end {fr:S113→Nat} {st:List (Fd S113)} {s k:Nat} :backL fr st s k s=[]:=by
 cases k with
 |zero=>rfl
 |succ k=>rw[backL,Yx rfl]
theorem way_of {l:List S73} {F:List Int} {n s:Nat} {st:List (Fd S113)} (hr:Right l F n) (hs:s<n) (h:Fds (frP l) (toP l) (esP l F) s st) (hp: ∃ r,bfP l F n s=st ++ r) {x:Fd S113} (hx:x∈st):wayP l F n s x.v=(backL (frP l) st s x.lv x.v).reverse:=by
 obtain⟨r,hr1⟩:=hp;unfold wayP;rw[Yx (by rw[hr1,nodes_app];exact List.mem_append_left _ (List.mem_map_of_mem hx))];unfold wayL;rw[hr1,backL_more h esP_fr r x.lv hx (Nat.le_refl _) (by rw[List.length_append];have:=lv_lt h hx;omega)]
end H
end Go.Proofs.Ytjaoknhhoicigaa
