/- What the law's row needs of these texts, taken out of them by wip/tool/mini.py: P95 QFewWalk QRefSplit QRefClean QFlowsLaw QAwake13 QDecFlows P101 QOpen QLDecFlows. -/
import Derived.Test.YtoedkglggapggaaMjjigcl
import Derived.Test.YtoedkglggapggaaMhpemop
import Derived.Test.YtoedkglggapggaaMchdgch
import Derived.Test.YtoedkglggapggaaMfgjibk
import Derived.Deep.DeepCutAuto
import Derived.Lib.LazyBuf
import Derived.Deep.RegionHeld3
import Derived.Test.YtoedkglggapggaaMgjbbed
import Derived.Test.YtoedkglggapggaaVnllcin
import Derived.Deep.Slices
import Derived.Deep.Fields
import Derived.ChangeSame
import Derived.ChangeArms
import Derived.OpenShut
set_option linter.unusedVariables false
set_option linter.unusedSimpArgs false
open Go.RowKit Go.Proofs.YtoedkglggapggaaW.PrintWords Go.Proofs.YtoedkglggapggaaW.PrintLast Go.Proofs.YtoedkglggapggaaW.PrintMore
namespace Go.Proofs.Ytoedkglggapggaa
namespace P
attribute [local go_sem] max2_int min2_int max_two min_two max_three min_three max_four min_four
mutual
def ebbtideref13_Split.l0:Nat→Int→Int→List Int→Int→Bool→List (S50)→List (S47)→Option ((List (S47)) × (List (S47)) × Int)
 |0,_,_,_,_,_,_,_=>none
 |k+1,x1,x2,x3,x618000,x618001,x618002,x620001=>(ebbtideref13_cycle.f k x618000 x618001 x618002 x3).bind fun bt622=>(if bt622.2=true then((ebbtideref13_taken.f k x3 bt622.1).bind fun bt626=>(if x620001.length<4398046511104 then(ebbtideref13_Split.l0 k x1 x2 bt626.2.2 x618000 x618001 x618002 (x620001 ++ [(⟨bt626.1,bt626.2.1⟩:S47)])) else(none))) else(ebbtideref13_Split.l1 k x1 x2 x3 x618000 x618001 x618002 ([]:List (S47)) x620001))
def ebbtideref13_Split.l1:Nat→Int→Int→List Int→Int→Bool→List (S50)→List (S47)→List (S47)→Option ((List (S47)) × (List (S47)) × Int)
 |0,_,_,_,_,_,_,_,_=>none
 |k+1,x1,x2,x3,x618000,x618001,x618002,x620000,x620001=>(ebbtideref13_along.f k x3).bind fun t637=>((ebbtideref08_Way.f x618000 x618001 x618002 x1 x2 t637).bind fun bt640=>(if bt640.2=true then((ebbtideref13_places.f k bt640.1).bind fun t644=>((ebbtideref13_taken.f k x3 t644).bind fun bt647=>(if x620000.length<4398046511104 then(ebbtideref13_Split.l1 k x1 x2 bt647.2.2 x618000 x618001 x618002 (x620000 ++ [(⟨bt647.1,bt647.2.1⟩:S47)]) x620001) else(none)))) else(some (x620000,x620001,0))))
end
def ebbtideref13_Split.f (k:Nat) (Zc:Int) (Zb:Bool) (Za:List (S50)) (a1:Int) (a2:Int) (l3:List Int):Option ((List (S47)) × (List (S47)) × Int):=(ebbtideref07_Check.f k Zc Zb Za a1 a2 l3).bind fun bt620=>(if bt620.2=0 then(if bt620.1<0 then(some (([]:List (S47)),([]:List (S47)),71)) else(ebbtideref13_Split.l0 k a1 a2 l3 Zc Zb Za ([]:List (S47)))) else(some (([]:List (S47)),([]:List (S47)),bt620.2)))
def ebbtideref13_Split.T12:Bool × List (List Nat × List Nat):=(true,[([],[]),([],[]),([],[]),([],[]),([3],[3]),([0,1,2,4,4],[0,1,2,4]),([5],[5]),([6],[6]),([6],[6]),([7,5,0,1,2,3,4,5,6,7],[7]),([8,9,0,1,2,3,4,5,6,7,8,9],[8])])
def ebbtideref13_Split.B12:List Nat:=[0,0,0,0,8,31,63,127,127,255,1023]
theorem ebbtideref13_Split.tab12:rtab .any (opsOf Try.f23 12)=ebbtideref13_Split.T12:=by kernel_rfl
theorem ebbtideref13_Split.bits12:waitsOk ebbtideref13_Split.T12.2 ebbtideref13_Split.B12=true:=by kernel_rfl
set_option maxHeartbeats 8000000 in
set_option maxRecDepth 100000 in
theorem ebbtideref13_Split.calls (k:Nat) (Zc:Int) (Zb:Bool) (Ze:Option Addr) (Zd:Nat) (Za:List (S50)) (a1:Int) (a2:Int) (P3_:Nat→Prop) (A3:Option Addr) (c3:Nat) (l3:List Int) (r1:List (S47)) (r2:List (S47)) (r3:Int) (w:World) (Zp:Kd.C k50 w Ze Za.length Za) (Zq:Za.length≤Zd) (hs3:Kd.V (Kd.int .i64) 3 w w.heap.size (fun k_=>P3_ k_) (.slice A3 l3.length c3) l3) (h:ebbtideref13_Split.f k Zc Zb Za a1 a2 l3=some (r1,r2,r3)):
  Calls Try.prog 23 #[.agg #[.int .i64 Zc, .bool Zb, .slice Ze Za.length Zd], .int .i64 a1, .int .i64 a2, .slice A3 l3.length c3] w fun e w'=> ∃ v0_ v1_:Value,e= .returned (.tuple #[.agg #[v0_,v1_], .int .i64 r3])∧Kd.S k47 47 w' w.heap.size (fun k_=>(w.heap.size≤k_)∧some k_≠(v1_:Value).ownBlock) v0_ r1∧Kd.S k47 47 w' w.heap.size (fun k_=>(w.heap.size≤k_)∧some k_≠(v0_:Value).ownBlock) v1_ r2∧Below w.heap.size w w':=by
 have hu24:=Try.underlying24;have hu54:=Try.underlying54;have hu47:=Try.underlying47;have Zj:=Ya Zp;have Zs:=Ya Zq;clear Zp Zq;have HO3:=Ya (show Kd.V (Kd.int .i64) 3 w w.heap.size (fun k_=>(P3_ k_∨w.heap.size≤k_)) (.slice A3 l3.length c3) l3 from Kd.V_mono hs3 (fun k_ hk=> .inl hk));have HB:=Ya (Yo w.heap.size w);have H:=h;unfold ebbtideref13_Split.f at H;clear h;replace H:=Option.bind_eq_some_iff.mp H;obtain⟨⟨t620,t621⟩,A50,H⟩:=H;try dsimp only at H
 have A5:=Ya A50;clear A50;by_cases c6:t621=0
 rotate_left
 ·rw[Yy c6] at H
  have c6b0:(t621 == 0)=false:=beq_eq_false_iff_ne.mpr c6;have c6b1:(t621 != 0)=true:=bne_iff_ne.mpr c6;simp only[Option.some.injEq,Prod.mk.injEq] at H;obtain⟨rfl,rfl,rfl⟩:=H;go_enter Try.func23,Try.ntmps23;go_wp2_with (first|(refine bx 4 24 #[.int .i64 Zc, .bool Zb, .slice Ze Za.length Zd] ?_;intro Xl hg w95 Zf hb;replace HO3:=Ya (Kd.V_below (Kd.V_elderB HO3.out Xl (Nat.le_of_eq hg.symm)) hb);have Zm:=Ya (Zf);have GW617:=Ya (by rw[hg];exact(Yi HB.out):w.heap.size≤Xl);have GE617:=Ya (by rw[hg];exact(Yi HB.out):w.heap.size≤Xl);replace HB:=Ya (Yk HB.out hb);clear hb Zf hg)|(refine bx 8 54 #[.slice none 0 0, .slice none 0 0] ?_;intro Xu hg w96 Zf hb;replace HO3:=Ya (Kd.V_below (Kd.V_elderB HO3.out Xu (Nat.le_of_eq hg.symm)) hb);have Zv:=Ya (Zf);have GW618:=Ya (by rw[hg];exact(Yi HB.out):w.heap.size≤Xu);have GE618:=Ya (by rw[hg];exact(Yi HB.out):w.heap.size≤Xu);replace HB:=Ya (Yk HB.out hb);have Jz:=Ya (by rw[hg];exact Nat.ne_of_lt (blk_lt Zm.out):Xl≠Xu);have NB618_617:=Ya (by rw[hg];exact Nat.ne_of_gt (blk_lt Zm.out):Xu≠Xl);replace Zm:=Ya (Yn Zm.out hb);clear hb Zf hg)|(refine bx 10 54 #[.slice none 0 0, .slice none 0 0] ?_;intro Xm hg w97 Zf hb;replace HO3:=Ya (Kd.V_below (Kd.V_elderB HO3.out Xm (Nat.le_of_eq hg.symm)) hb);have Zt:=Ya (Zf);have GW619:=Ya (by rw[hg];exact(Yi HB.out):w.heap.size≤Xm);have GE619:=Ya (by rw[hg];exact(Yi HB.out):w.heap.size≤Xm);replace HB:=Ya (Yk HB.out hb);have Ub:=Ya (by rw[hg];exact Nat.ne_of_lt (blk_lt Zm.out):Xl≠Xm);have Jh:=Ya (by rw[hg];exact Nat.ne_of_gt (blk_lt Zm.out):Xm≠Xl);replace Zm:=Ya (Yn Zm.out hb);have Ji:=Ya (by rw[hg];exact Nat.ne_of_lt (blk_lt Zv.out):Xu≠Xm);have NB619_618:=Ya (by rw[hg];exact Nat.ne_of_gt (blk_lt Zv.out):Xm≠Xu);replace Zv:=Ya (Yn Zv.out hb);clear hb Zf hg;have hnb98:=Jz.out;have hnc98:=NB618_617.out;have hnb99:=Ub.out;have hnc99:=Jh.out;have hcz100_0:w97.cell? ⟨Xl,0,none⟩=some (.int .i64 Zc):=bc Zm 0;have hcz100_1:w97.cell? ⟨Xl,1,none⟩=some (.bool Zb):=bc Zm 1;have hcz100_2:w97.cell? ⟨Xl,2,none⟩=some (.slice Ze Za.length Zd):=bc Zm 2;have hfz100_0:=Yf Zm.out 0;have hfz100_1:=Yf Zm.out 1;have hfz100_2:=Yf Zm.out 2)|((with_reducible refine gate_callee (f:=20) rfl ?_);refine gl (some 26) Try.func20 #[.agg #[.int .i64 Zc, .bool Zb, .slice Ze Za.length Zd], .int .i64 a1, .int .i64 a2, .slice A3 l3.length c3] ?_;(with_reducible refine(ebbtideref07_Check.calls k Zc Zb _ _ Za a1 a2 _ _ l3 t620 t621 _ ?side1 ?side2 ?side3 ?side4 A5.out).mono ?_);(case side1=>exact kC (Yt Zj.out HB.out));(case side2=>exact Zs.out);(case side3=>exact kC (Kd.V_reads' HO3.out).2.2);(case side4=>exact(Kd.V_reads' HO3.out).2.1);rintro e w101 ⟨rfl,hb⟩;refine⟨_,rfl,?_⟩;replace HO3:=Ya (Kd.V_below HO3.out hb);replace Zm:=Ya (Yn Zm.out hb);replace Zv:=Ya (Yn Zv.out hb);replace Zt:=Ya (Yn Zt.out hb);replace HB:=Ya (Yk HB.out hb);(try clear hb);have hnb102:=NB619_618.out;have hnc102:=Ji.out;have hcz103_0:w101.cell? ⟨Xm,0,none⟩=some (.slice none 0 0):=bc Zt 0;have hcz103_1:w101.cell? ⟨Xm,1,none⟩=some (.slice none 0 0):=bc Zt 1;have hfz103_0:=Yf Zt.out 0;have hfz103_1:=Yf Zt.out 1;have hcz104_0:w101.cell? ⟨Xu,0,none⟩=some (.slice none 0 0):=bc Zv 0;have hcz104_1:w101.cell? ⟨Xu,1,none⟩=some (.slice none 0 0):=bc Zv 1;have hfz104_0:=Yf Zv.out 0;have hfz104_1:=Yf Zv.out 1));refine bodyPost_ret (results_ct rfl _ _ Xu 54 #[.slice none 0 0, .slice none 0 0] (0,0) _ rfl (by(with_reducible repeat(first|refine Yl ?_ _|refine Ym ?_|refine Yj ?_ _));refine YA (cs:= #[.slice none 0 0, .slice none 0 0]) ?_ 1 _ rfl;(with_reducible repeat(first|refine Yl ?_ _|refine Ym ?_|refine Yj ?_ _));refine YA (cs:= #[.slice none 0 0, .slice none 0 0]) ?_ 0 _ rfl;(with_reducible repeat(first|refine Yl ?_ _|refine Ym ?_|refine Yj ?_ _));exact Zv.out) Try.underlying54 rfl (by kernel_rfl)) rfl ?_;exact⟨_,_,by first|rfl|(simp[errW_none,errW_some]<;>rfl)|(simp[*,errW_none,errW_some]<;>rfl),by first|exact Kd.S_nil _ _ _ _ _|exact Kd.N_nil _ _ _ _ _|exact Kd.V_nil _ _ _ _ _|exact Kd.Q_nil _ _ _ _ _|exact Kd.R_nil _ _ _ _ _,by first|exact Kd.S_nil _ _ _ _ _|exact Kd.N_nil _ _ _ _ _|exact Kd.V_nil _ _ _ _ _|exact Kd.Q_nil _ _ _ _ _|exact Kd.R_nil _ _ _ _ _,bl⟩
 rw[Yx c6] at H;have c6b0:(t621 == 0)=true:=beq_iff_eq.mpr c6;have c6b1:(t621 != 0)=false:=bne_eq_false_iff_eq.mpr c6;clear c6;by_cases c7:t620<0
 ·rw[Yx c7] at H
  have c7b0:decide (t620<0)=true:=Yv c7;clear c7;simp only[Option.some.injEq,Prod.mk.injEq] at H;obtain⟨rfl,rfl,rfl⟩:=H;go_enter Try.func23,Try.ntmps23;go_wp2_with (first|(refine bx 4 24 #[.int .i64 Zc, .bool Zb, .slice Ze Za.length Zd] ?_;intro Xl hg w8 Zf hb;replace HO3:=Ya (Kd.V_below (Kd.V_elderB HO3.out Xl (Nat.le_of_eq hg.symm)) hb);have Zm:=Ya (Zf);have GW617:=Ya (by rw[hg];exact(Yi HB.out):w.heap.size≤Xl);have GE617:=Ya (by rw[hg];exact(Yi HB.out):w.heap.size≤Xl);replace HB:=Ya (Yk HB.out hb);clear hb Zf hg)|(refine bx 8 54 #[.slice none 0 0, .slice none 0 0] ?_;intro Xu hg w9 Zf hb;replace HO3:=Ya (Kd.V_below (Kd.V_elderB HO3.out Xu (Nat.le_of_eq hg.symm)) hb);have Zv:=Ya (Zf);have GW618:=Ya (by rw[hg];exact(Yi HB.out):w.heap.size≤Xu);have GE618:=Ya (by rw[hg];exact(Yi HB.out):w.heap.size≤Xu);replace HB:=Ya (Yk HB.out hb);have Jz:=Ya (by rw[hg];exact Nat.ne_of_lt (blk_lt Zm.out):Xl≠Xu);have NB618_617:=Ya (by rw[hg];exact Nat.ne_of_gt (blk_lt Zm.out):Xu≠Xl);replace Zm:=Ya (Yn Zm.out hb);clear hb Zf hg)|(refine bx 10 54 #[.slice none 0 0, .slice none 0 0] ?_;intro Xm hg w10 Zf hb;replace HO3:=Ya (Kd.V_below (Kd.V_elderB HO3.out Xm (Nat.le_of_eq hg.symm)) hb);have Zt:=Ya (Zf);have GW619:=Ya (by rw[hg];exact(Yi HB.out):w.heap.size≤Xm);have GE619:=Ya (by rw[hg];exact(Yi HB.out):w.heap.size≤Xm);replace HB:=Ya (Yk HB.out hb);have Ub:=Ya (by rw[hg];exact Nat.ne_of_lt (blk_lt Zm.out):Xl≠Xm);have Jh:=Ya (by rw[hg];exact Nat.ne_of_gt (blk_lt Zm.out):Xm≠Xl);replace Zm:=Ya (Yn Zm.out hb);have Ji:=Ya (by rw[hg];exact Nat.ne_of_lt (blk_lt Zv.out):Xu≠Xm);have NB619_618:=Ya (by rw[hg];exact Nat.ne_of_gt (blk_lt Zv.out):Xm≠Xu);replace Zv:=Ya (Yn Zv.out hb);clear hb Zf hg;have hnb11:=Jz.out;have hnc11:=NB618_617.out;have hnb12:=Ub.out;have hnc12:=Jh.out;have hcz13_0:w10.cell? ⟨Xl,0,none⟩=some (.int .i64 Zc):=bc Zm 0;have hcz13_1:w10.cell? ⟨Xl,1,none⟩=some (.bool Zb):=bc Zm 1;have hcz13_2:w10.cell? ⟨Xl,2,none⟩=some (.slice Ze Za.length Zd):=bc Zm 2;have hfz13_0:=Yf Zm.out 0;have hfz13_1:=Yf Zm.out 1;have hfz13_2:=Yf Zm.out 2)|((with_reducible refine gate_callee (f:=20) rfl ?_);refine gl (some 26) Try.func20 #[.agg #[.int .i64 Zc, .bool Zb, .slice Ze Za.length Zd], .int .i64 a1, .int .i64 a2, .slice A3 l3.length c3] ?_;(with_reducible refine(ebbtideref07_Check.calls k Zc Zb _ _ Za a1 a2 _ _ l3 t620 t621 _ ?side1 ?side2 ?side3 ?side4 A5.out).mono ?_);(case side1=>exact kC (Yt Zj.out HB.out));(case side2=>exact Zs.out);(case side3=>exact kC (Kd.V_reads' HO3.out).2.2);(case side4=>exact(Kd.V_reads' HO3.out).2.1);rintro e w14 ⟨rfl,hb⟩;refine⟨_,rfl,?_⟩;replace HO3:=Ya (Kd.V_below HO3.out hb);replace Zm:=Ya (Yn Zm.out hb);replace Zv:=Ya (Yn Zv.out hb);replace Zt:=Ya (Yn Zt.out hb);replace HB:=Ya (Yk HB.out hb);(try clear hb);have hnb15:=NB619_618.out;have hnc15:=Ji.out;have Jt:w14.cell? ⟨Xm,0,none⟩=some (.slice none 0 0):=bc Zt 0;have Ju:w14.cell? ⟨Xm,1,none⟩=some (.slice none 0 0):=bc Zt 1;have Jv:=Yf Zt.out 0;have Jw:=Yf Zt.out 1;have Ww:w14.cell? ⟨Xu,0,none⟩=some (.slice none 0 0):=bc Zv 0;have Wx:w14.cell? ⟨Xu,1,none⟩=some (.slice none 0 0):=bc Zv 1;have Wy:=Yf Zv.out 0;have Wz:=Yf Zv.out 1));refine bodyPost_ret (results_ct rfl _ _ Xu 54 #[.slice none 0 0, .slice none 0 0] (0,0) _ rfl (by(with_reducible repeat(first|refine Yl ?_ _|refine Ym ?_|refine Yj ?_ _));refine YA (cs:= #[.slice none 0 0, .slice none 0 0]) ?_ 1 _ rfl;(with_reducible repeat(first|refine Yl ?_ _|refine Ym ?_|refine Yj ?_ _));refine YA (cs:= #[.slice none 0 0, .slice none 0 0]) ?_ 0 _ rfl;(with_reducible repeat(first|refine Yl ?_ _|refine Ym ?_|refine Yj ?_ _));exact Zv.out) Try.underlying54 rfl (by kernel_rfl)) rfl ?_;exact⟨_,_,by first|rfl|(simp[errW_none,errW_some]<;>rfl)|(simp[*,errW_none,errW_some]<;>rfl),by first|exact Kd.S_nil _ _ _ _ _|exact Kd.N_nil _ _ _ _ _|exact Kd.V_nil _ _ _ _ _|exact Kd.Q_nil _ _ _ _ _|exact Kd.R_nil _ _ _ _ _,by first|exact Kd.S_nil _ _ _ _ _|exact Kd.N_nil _ _ _ _ _|exact Kd.V_nil _ _ _ _ _|exact Kd.Q_nil _ _ _ _ _|exact Kd.R_nil _ _ _ _ _,bl⟩
 rw[Yy c7] at H;have c7b0:decide (t620<0)=false:=Yw c7;clear c7;have H':=Ya H;clear H;go_enter Try.func23,Try.ntmps23;go_wp2_with (first|(refine bx 4 24 #[.int .i64 Zc, .bool Zb, .slice Ze Za.length Zd] ?_;intro Xl hg w18 Zf hb;replace HO3:=Ya (Kd.V_below (Kd.V_elderB HO3.out Xl (Nat.le_of_eq hg.symm)) hb);have Zm:=Ya (Zf);have GW617:=Ya (by rw[hg];exact(Yi HB.out):w.heap.size≤Xl);have GE617:=Ya (by rw[hg];exact(Yi HB.out):w.heap.size≤Xl);replace HB:=Ya (Yk HB.out hb);clear hb Zf hg)|(refine bx 8 54 #[.slice none 0 0, .slice none 0 0] ?_;intro Xu hg w19 Zf hb;replace HO3:=Ya (Kd.V_below (Kd.V_elderB HO3.out Xu (Nat.le_of_eq hg.symm)) hb);have Zv:=Ya (Zf);have GW618:=Ya (by rw[hg];exact(Yi HB.out):w.heap.size≤Xu);have GE618:=Ya (by rw[hg];exact(Yi HB.out):w.heap.size≤Xu);replace HB:=Ya (Yk HB.out hb);have Jz:=Ya (by rw[hg];exact Nat.ne_of_lt (blk_lt Zm.out):Xl≠Xu);have NB618_617:=Ya (by rw[hg];exact Nat.ne_of_gt (blk_lt Zm.out):Xu≠Xl);replace Zm:=Ya (Yn Zm.out hb);clear hb Zf hg)|(refine bx 10 54 #[.slice none 0 0, .slice none 0 0] ?_;intro Xm hg w20 Zf hb;replace HO3:=Ya (Kd.V_below (Kd.V_elderB HO3.out Xm (Nat.le_of_eq hg.symm)) hb);have Zt:=Ya (Zf);have GW619:=Ya (by rw[hg];exact(Yi HB.out):w.heap.size≤Xm);have GE619:=Ya (by rw[hg];exact(Yi HB.out):w.heap.size≤Xm);replace HB:=Ya (Yk HB.out hb);have Ub:=Ya (by rw[hg];exact Nat.ne_of_lt (blk_lt Zm.out):Xl≠Xm);have Jh:=Ya (by rw[hg];exact Nat.ne_of_gt (blk_lt Zm.out):Xm≠Xl);replace Zm:=Ya (Yn Zm.out hb);have Ji:=Ya (by rw[hg];exact Nat.ne_of_lt (blk_lt Zv.out):Xu≠Xm);have NB619_618:=Ya (by rw[hg];exact Nat.ne_of_gt (blk_lt Zv.out):Xm≠Xu);replace Zv:=Ya (Yn Zv.out hb);clear hb Zf hg;have hnb21:=Jz.out;have hnc21:=NB618_617.out;have hnb22:=Ub.out;have hnc22:=Jh.out;have hcz23_0:w20.cell? ⟨Xl,0,none⟩=some (.int .i64 Zc):=bc Zm 0;have hcz23_1:w20.cell? ⟨Xl,1,none⟩=some (.bool Zb):=bc Zm 1;have hcz23_2:w20.cell? ⟨Xl,2,none⟩=some (.slice Ze Za.length Zd):=bc Zm 2;have hfz23_0:=Yf Zm.out 0;have hfz23_1:=Yf Zm.out 1;have hfz23_2:=Yf Zm.out 2)|((with_reducible refine gate_callee (f:=20) rfl ?_);refine gl (some 26) Try.func20 #[.agg #[.int .i64 Zc, .bool Zb, .slice Ze Za.length Zd], .int .i64 a1, .int .i64 a2, .slice A3 l3.length c3] ?_;(with_reducible refine(ebbtideref07_Check.calls k Zc Zb _ _ Za a1 a2 _ _ l3 t620 t621 _ ?side1 ?side2 ?side3 ?side4 A5.out).mono ?_);(case side1=>exact kC (Yt Zj.out HB.out));(case side2=>exact Zs.out);(case side3=>exact kC (Kd.V_reads' HO3.out).2.2);(case side4=>exact(Kd.V_reads' HO3.out).2.1);rintro e w24 ⟨rfl,hb⟩;refine⟨_,rfl,?_⟩;replace HO3:=Ya (Kd.V_below HO3.out hb);replace Zm:=Ya (Yn Zm.out hb);replace Zv:=Ya (Yn Zv.out hb);replace Zt:=Ya (Yn Zt.out hb);replace HB:=Ya (Yk HB.out hb);(try clear hb)));go_loopg [3] k (fun kq v3 w'=> ∃ (x3_1:List Int) (Vf:List (S47)) (u620001:Value),Aside0 (ebbtideref13_Split.l0 kq a1 a2 x3_1 Zc Zb Za Vf=some (r1,r2,r3))∧Aside0 (kq≤k)∧Aside0 (Kd.V (Kd.int .i64) 3 w' w.heap.size (fun k_=>(P3_ k_∨w.heap.size≤k_)∧some k_≠(u620001:Value).ownBlock∧k_≠Xl∧k_≠Xu∧k_≠Xm) v3 x3_1)∧Aside0 (Kd.S k47 47 w' w.heap.size (fun k_=>(w.heap.size≤k_)) u620001 Vf)∧Aside0 (w'.heap[Xl]? =some (.cells #[.int .i64 Zc, .bool Zb,(.slice Ze Za.length Zd)] 24 (0,0)))∧Aside0 (w'.heap[Xu]? =some (.cells #[(.slice none 0 0),(.slice none 0 0)] 54 (0,0)))∧Aside0 (w'.heap[Xm]? =some (.cells #[(.slice none 0 0),u620001] 54 (0,0)))∧Aside0 (Below w.heap.size w w'))
 case atStart=>exact⟨(l3),(([]:List (S47))),(.slice none 0 0),H',⟨Nat.le_refl _⟩,⟨by(with_reducible repeat(first|apply Kd.V_alloc|apply Kd.V_drewN|apply Kd.V_drew));exact Kd.V_mono HO3.out (fun _ hk=>⟨hk.1.1.1,⟨(by simp[Value.ownBlock]),⟨hk.1.1.2,⟨hk.1.2,hk.2⟩⟩⟩⟩)⟩,⟨by first|exact Kd.S_nil _ _ _ _ _|exact Kd.N_nil _ _ _ _ _|exact Kd.V_nil _ _ _ _ _|exact Kd.Q_nil _ _ _ _ _|exact Kd.R_nil _ _ _ _ _⟩,⟨Zm.out⟩,⟨Zv.out⟩,⟨Zt.out⟩,⟨HB.out⟩⟩
 case round=>
  clear H';try clear c3
  try clear c6
  try clear c6b0
  try clear c6b1
  try clear c7
  try clear c7b0
  try clear hcz13_0
  try clear hcz13_1
  try clear hcz13_2
  try clear Jt
  try clear Ju
  try clear Ww
  try clear Wx
  try clear hcz23_0
  try clear hcz23_1
  try clear hcz23_2
  try clear hfz13_0
  try clear hfz13_1
  try clear hfz13_2
  try clear Jv
  try clear Jw
  try clear Wy
  try clear Wz
  try clear hfz23_0
  try clear hfz23_1
  try clear hfz23_2
  obtain⟨x3_1,Vf,u620001,HA,HK1,HO_3,HO_620001,Zm,Zv,Zt,HB⟩:=hrel;cases gk with
  |zero=>exact absurd HA.out (by simp[ebbtideref13_Split.l0])
  |succ k1=>
   have H:=HA.out;clear HA;simp only[ebbtideref13_Split.l0] at H;replace H:=Option.bind_eq_some_iff.mp H;obtain⟨⟨t622,t625⟩,A250,H⟩:=H;try dsimp only at H
   have A25:=Ya A250;clear A250;by_cases c26:t625=true
   ·subst c26
    first|rw[Yx rfl] at H|rw[Yx trivial] at H
    replace H:=Option.bind_eq_some_iff.mp H;obtain⟨⟨t626,t629,t630⟩,A270,H⟩:=H;try dsimp only at H
    have A27:=Ya A270;clear A270;by_cases c28:Vf.length<4398046511104
    rotate_left
    ·rw[Yy c28] at H
     exact absurd H (by simp)
    rw[Yx c28] at H;have LMc28:=Ya c28;clear c28;obtain⟨y634,hy634⟩: ∃ y_:List (S47),y_=(Vf ++ [(⟨t626,t629⟩:S47)]):=⟨_,rfl⟩;rw[← hy634] at H;have Ny634:=Ya hy634;clear hy634;have H':=Ya H;clear H;have hnb29:=Jz.out;have hnc29:=NB618_617.out;have hnb30:=Ub.out;have hnc30:=Jh.out;have hcz31_0:wr.cell? ⟨Xl,0,none⟩=some (.int .i64 Zc):=bc Zm 0;have hcz31_1:wr.cell? ⟨Xl,1,none⟩=some (.bool Zb):=bc Zm 1;have hcz31_2:wr.cell? ⟨Xl,2,none⟩=some (.slice Ze Za.length Zd):=bc Zm 2;have hfz31_0:=Yf Zm.out 0;have hfz31_1:=Yf Zm.out 1;have hfz31_2:=Yf Zm.out 2;obtain⟨Ao32,co32,eo32⟩:=Kd.V_slice HO_3.out;subst eo32;go_wp2_with (first|((with_reducible refine gate_callee (f:=52) rfl ?_);refine gl (some 39) Try.func52 #[.agg #[.int .i64 Zc, .bool Zb, .slice Ze Za.length Zd], .slice Ao32 x3_1.length co32] ?_;(with_reducible refine(ebbtideref13_cycle.calls k1 Zc Zb _ _ Za _ _ x3_1 t622 true _ ?side1 ?side2 ?side3 ?side4 A25.out).mono ?_);(case side1=>exact kC (Yt Zj.out HB.out));(case side2=>exact Zs.out);(case side3=>exact kC (Kd.V_reads' HO_3.out).2.2);(case side4=>exact(Kd.V_reads' HO_3.out).2.1);rintro e w33 ⟨v623,rfl,ho0,hb⟩;refine⟨_,rfl,?_⟩;replace HO_3:=Ya (Kd.V_elder' (kV HO_3) (Kd.R_base ho0) hb);replace HO_620001:=Ya (Kd.S_elder' (kS HO_620001) (Kd.R_base ho0) hb);have HO624:=Ya (Kd.R_lower (Kd.R_newM (M:=fun k_=>(w.heap.size≤k_)) ho0 (Yi bl) (fun k_ h_=>h_)) (Yi bl));replace Zm:=Ya (Yn (bk Zm) hb);replace Zv:=Ya (Yn (bk Zv) hb);replace Zt:=Ya (Yn (bk Zt) hb);replace HB:=Ya (Yk bl hb);(try clear hb);(try clear ho0);obtain⟨Ao34,co34,eo34⟩:=Kd.R_slice HO624.out;subst eo34)|((with_reducible refine gate_callee (f:=53) rfl ?_);refine gl (some 47) Try.func53 #[.slice Ao32 x3_1.length co32, .slice Ao34 t622.length co34] ?_;(with_reducible refine(ebbtideref13_taken.calls k1 _ _ x3_1 (fun k_=>some k_=(.slice Ao34 t622.length co34:Value).ownBlock) (.slice Ao34 t622.length co34) t622 t626 t629 t630 w _ ?side1 ?side2 ?side3 ?side4 A27.out).mono ?_);(case side1=>repeat(first|(with_reducible first|exact HB.out|apply Ye|apply Yd|apply Yg|refine Yh ?_ GE617.out|refine Yh ?_ GE618.out|refine Yh ?_ GE619.out)|exact HB.out));(case side2=>exact Kd.C_kept_ownV (HO_3.out) (fun k_ hk_ hs_=>(hk_.2) hs_));(case side3=>exact(Kd.V_reads' HO_3.out).2.1);(case side4=>exact Kd.R_tight rfl HO624.out);rintro e w35 ⟨v627,v631,rfl,ho0,ho1,hb,hkp⟩;refine⟨_,rfl,?_⟩;replace HO_3:=Ya (Kd.V_mono (ok':=fun k_=>(P3_ k_∨w.heap.size≤k_)∧some k_≠(u620001:Value).ownBlock∧k_≠Xl∧k_≠Xu∧k_≠Xm∧some k_≠(v627:Value).ownBlock∧some k_≠(v631:Value).ownBlock) (Kd.V_keptB (HO_3.out) hkp (fun k_ hk_ hs_=>(hk_.2) hs_)) (fun k_ hk_=>⟨hk_.1.1.1,hk_.1.1.2.1,hk_.1.1.2.2.1,hk_.1.1.2.2.2.1,hk_.1.1.2.2.2.2,fun e_=>Or.elim (ho0.1 k_ e_.symm).1 (fun hs_=>hk_.2.1 hs_) (fun hn_=>Nat.not_le.2 hk_.2.2 hn_),fun e_=>Or.elim (ho1.1 k_ e_.symm).1 (fun hs_=>hk_.2.1 hs_) (fun hn_=>Nat.not_le.2 hk_.2.2 hn_)⟩));replace HO_620001:=Ya (Kd.S_mono (ok':=fun k_=>(w.heap.size≤k_)∧some k_≠(v627:Value).ownBlock∧some k_≠(v631:Value).ownBlock) (Kd.S_keptB (HO_620001.out) hkp (fun k_ hk_ hs_=>(hk_.2) hs_)) (fun k_ hk_=>⟨hk_.1.1,fun e_=>Or.elim (ho0.1 k_ e_.symm).1 (fun hs_=>hk_.2.1 hs_) (fun hn_=>Nat.not_le.2 hk_.2.2 hn_),fun e_=>Or.elim (ho1.1 k_ e_.symm).1 (fun hs_=>hk_.2.1 hs_) (fun hn_=>Nat.not_le.2 hk_.2.2 hn_)⟩));replace Zm:=Ya (blk_kept (bk Zm) hkp (fun hs_=>(fun e_=>(Kd.R_ne HO624.out Zm.out (by decide)) e_) hs_));replace Zv:=Ya (blk_kept (bk Zv) hkp (fun hs_=>(fun e_=>(Kd.R_ne HO624.out Zv.out (by decide)) e_) hs_));replace Zt:=Ya (blk_kept (bk Zt) hkp (fun hs_=>(fun e_=>(Kd.R_ne HO624.out Zt.out (by decide)) e_) hs_));have HO628:=Ya (Kd.R_mono (ok':=fun k_=>(w.heap.size≤k_)∧some k_≠(v631:Value).ownBlock) ho0 (fun k_ hk_=>⟨Or.elim hk_.1 (fun hs_=>(HO624.out.1 k_ (hs_).symm).1) (fun hn_=>(Nat.le_trans (Yi bl) hn_)),hk_.2⟩));have HO632:=Ya (Kd.R_mono (ok':=fun k_=>(w.heap.size≤k_)∧some k_≠(v627:Value).ownBlock) ho1 (fun k_ hk_=>⟨Or.elim hk_.1 (fun hs_=>(HO624.out.1 k_ (hs_).symm).1) (fun hn_=>(Nat.le_trans (Yi bl) hn_)),hk_.2⟩));replace HB:=Ya (hb);clear HO624;(try clear hb);(try clear hkp);(try clear ho0);(try clear ho1))|(refine bx 15 47 #[.slice none 0 0, .int .i64 0] ?_;intro Ve hg w36 Zf hb;replace HO_3:=Ya (Kd.V_below (Kd.V_elderB (kV HO_3) Ve (Nat.le_of_eq hg.symm)) hb);replace HO_620001:=Ya (Kd.S_below (Kd.S_elderB (kS HO_620001) Ve (Nat.le_of_eq hg.symm)) hb);replace HO628:=Ya (Ys (kR HO628) hb);replace HO632:=Ya (Ys (kR HO632) hb);have BK633:=Ya (Zf);have GW633:=Ya ((sz hg));have GE633:=Ya ((sz hg));replace HB:=Ya (Yk bl hb);have NB617_633:=Ya (by rw[hg];exact Nat.ne_of_lt (blk_lt (bk Zm)):Xl≠Ve);have NB633_617:=Ya (by rw[hg];exact Nat.ne_of_gt (blk_lt (bk Zm)):Ve≠Xl);replace Zm:=Ya (Yn (bk Zm) hb);have NB618_633:=Ya (by rw[hg];exact Nat.ne_of_lt (blk_lt (bk Zv)):Xu≠Ve);have NB633_618:=Ya (by rw[hg];exact Nat.ne_of_gt (blk_lt (bk Zv)):Ve≠Xu);replace Zv:=Ya (Yn (bk Zv) hb);have NB619_633:=Ya (by rw[hg];exact Nat.ne_of_lt (blk_lt (bk Zt)):Xm≠Ve);have NB633_619:=Ya (by rw[hg];exact Nat.ne_of_gt (blk_lt (bk Zt)):Ve≠Xm);replace Zt:=Ya (Yn (bk Zt) hb);clear hb Zf hg;obtain⟨Ao37,co37,eo37⟩:=Kd.R_slice HO628.out;subst eo37;have hnb38:=NB633_617.out;have hnc38:=NB617_633.out;have hnb39:=NB633_618.out;have hnc39:=NB618_633.out;have hnb40:=NB633_619.out;have hnc40:=NB619_633.out;have hcz41_0:w36.cell? ⟨Ve,0,none⟩=some (.slice none 0 0):=bc BK633 0;have hcz41_1:w36.cell? ⟨Ve,1,none⟩=some (.int .i64 0):=bc BK633 1;have hfz41_0:=Yf BK633.out 0;have hfz41_1:=Yf BK633.out 1)|((with_reducible refine gate_store (t:=47) (p:=15) rfl ?_);refine store_event (t:=47) (p:=15) (v:= ?vo_w42) (w1:=((w36.setCell ⟨Ve,0,none⟩ (.slice Ao37 t626.length co37)).setCell ⟨Ve,1,none⟩ (.int .i64 t629))) ?hg ?ho ?hn ?hr ?_;(case ho=>rfl);(case hg=>rfl);(case hn=>rfl);(case hr=>first|(go_simp;done)|(go_simp;rfl));intro w42 hw;replace HO_3:Aside0 (Kd.V (Kd.int .i64) 3 w42 w.heap.size (fun k_=>(P3_ k_∨w.heap.size≤k_)∧some k_≠(u620001:Value).ownBlock∧some k_≠(.slice Ao37 t626.length co37:Value).ownBlock∧some k_≠(v631:Value).ownBlock∧k_≠Xl∧k_≠Xu∧k_≠Xm∧k_≠Ve) (.slice Ao32 x3_1.length co32) x3_1):=⟨(by rw[hw];exact(by(with_reducible repeat(first|apply Kd.V_alloc|apply Kd.V_drewN|apply Kd.V_drew));exact Kd.V_mono (Kd.V_far (p:=⟨Ve,1,none⟩) (Kd.V_far (p:=⟨Ve,0,none⟩) (Kd.V_mono HO_3.out (fun k_ hk=>(⟨hk,hk.2⟩:_∧k_≠Ve))) (fun _ hk=>hk.2) (.slice Ao37 t626.length co37)) (fun _ hk=>hk.2) (.int .i64 t629)) (fun _ hk=>⟨hk.1.1.1,⟨hk.1.1.2.1,⟨hk.1.1.2.2.2.2.2.1,⟨hk.1.1.2.2.2.2.2.2,⟨hk.1.1.2.2.1,⟨hk.1.1.2.2.2.1,⟨hk.1.1.2.2.2.2.1,hk.1.2⟩⟩⟩⟩⟩⟩⟩)))⟩;replace HO_620001:Aside0 (Kd.S k47 47 w42 w.heap.size (fun k_=>(w.heap.size≤k_)∧some k_≠(.slice Ao37 t626.length co37:Value).ownBlock∧some k_≠(v631:Value).ownBlock∧k_≠Ve) u620001 Vf):=⟨(by rw[hw];exact(by(with_reducible repeat(first|apply Kd.S_alloc|apply Kd.S_drewN|apply Kd.S_drew));exact Kd.S_mono (Kd.S_far (p:=⟨Ve,1,none⟩) (Kd.S_far (p:=⟨Ve,0,none⟩) (Kd.S_mono HO_620001.out (fun k_ hk=>(⟨hk,hk.2⟩:_∧k_≠Ve))) (fun _ hk=>hk.2) (.slice Ao37 t626.length co37)) (fun _ hk=>hk.2) (.int .i64 t629)) (fun _ hk=>⟨hk.1.1.1,⟨hk.1.1.2.1,⟨hk.1.1.2.2,hk.1.2⟩⟩⟩)))⟩;replace HO628:Aside0 (Kd.R (Kd.int .i64) 3 w42 w.heap.size (fun k_=>(w.heap.size≤k_)∧some k_≠(v631:Value).ownBlock) (.slice Ao37 t626.length co37) t626):=⟨(by rw[hw];exact(by(with_reducible repeat(first|apply Yr|apply Yq|apply Yp));exact Kd.R_mono (Kd.R_far (p:=⟨Ve,1,none⟩) (Kd.R_far (p:=⟨Ve,0,none⟩) (Kd.R_types HO628.out BK633.out (by decide)) (fun _ hk=>hk.2) (.slice Ao37 t626.length co37)) (fun _ hk=>hk.2) (.int .i64 t629)) (fun _ hk=>⟨hk.1.1,hk.1.2⟩)))⟩;replace HO632:Aside0 (Kd.R (Kd.int .i64) 3 w42 w.heap.size (fun k_=>(w.heap.size≤k_)∧some k_≠(.slice Ao37 t626.length co37:Value).ownBlock) v631 t630):=⟨(by rw[hw];exact(by(with_reducible repeat(first|apply Yr|apply Yq|apply Yp));exact Kd.R_mono (Kd.R_far (p:=⟨Ve,1,none⟩) (Kd.R_far (p:=⟨Ve,0,none⟩) (Kd.R_types HO632.out BK633.out (by decide)) (fun _ hk=>hk.2) (.slice Ao37 t626.length co37)) (fun _ hk=>hk.2) (.int .i64 t629)) (fun _ hk=>⟨hk.1.1,hk.1.2⟩)))⟩;replace Zm:Aside0 (w42.heap[Xl]? =some (.cells #[.int .i64 Zc, .bool Zb, .slice Ze Za.length Zd] 24 (0,0))):=⟨(by rw[hw];exact(by(with_reducible repeat(first|refine Yl ?_ _|refine Ym ?_|refine Yj ?_ _));refine blk_far ?_ NB617_633.out _;(with_reducible repeat(first|refine Yl ?_ _|refine Ym ?_|refine Yj ?_ _));refine blk_far ?_ NB617_633.out _;(with_reducible repeat(first|refine Yl ?_ _|refine Ym ?_|refine Yj ?_ _));exact Zm.out))⟩;replace Zv:Aside0 (w42.heap[Xu]? =some (.cells #[.slice none 0 0, .slice none 0 0] 54 (0,0))):=⟨(by rw[hw];exact(by(with_reducible repeat(first|refine Yl ?_ _|refine Ym ?_|refine Yj ?_ _));refine blk_far ?_ NB618_633.out _;(with_reducible repeat(first|refine Yl ?_ _|refine Ym ?_|refine Yj ?_ _));refine blk_far ?_ NB618_633.out _;(with_reducible repeat(first|refine Yl ?_ _|refine Ym ?_|refine Yj ?_ _));exact Zv.out))⟩;replace Zt:Aside0 (w42.heap[Xm]? =some (.cells #[.slice none 0 0,u620001] 54 (0,0))):=⟨(by rw[hw];exact(by(with_reducible repeat(first|refine Yl ?_ _|refine Ym ?_|refine Yj ?_ _));refine blk_far ?_ NB619_633.out _;(with_reducible repeat(first|refine Yl ?_ _|refine Ym ?_|refine Yj ?_ _));refine blk_far ?_ NB619_633.out _;(with_reducible repeat(first|refine Yl ?_ _|refine Ym ?_|refine Yj ?_ _));exact Zt.out))⟩;replace BK633:Aside0 (w42.heap[Ve]? =some (.cells #[.slice Ao37 t626.length co37, .int .i64 t629] 47 (0,0))):=⟨(by rw[hw];exact(by(with_reducible repeat(first|refine Yl ?_ _|refine Ym ?_|refine Yj ?_ _));refine YA (cs:= #[.slice Ao37 t626.length co37, .int .i64 0]) ?_ 1 _ rfl;(with_reducible repeat(first|refine Yl ?_ _|refine Ym ?_|refine Yj ?_ _));refine YA (cs:= #[.slice none 0 0, .int .i64 0]) ?_ 0 _ rfl;(with_reducible repeat(first|refine Yl ?_ _|refine Ym ?_|refine Yj ?_ _));exact BK633.out))⟩;replace HB:Aside0 (Below w.heap.size w w42):=⟨(by rw[hw];exact bl)⟩;clear hw;have hnb43:=NB619_618.out;have hnc43:=Ji.out;have hcz44_0:w42.cell? ⟨Xm,0,none⟩=some (.slice none 0 0):=bc Zt 0;have hcz44_1:w42.cell? ⟨Xm,1,none⟩=some (u620001):=bc Zt 1;have hfz44_0:=Yf Zt.out 0;have hfz44_1:=Yf Zt.out 1;have hcz45_0:w42.cell? ⟨Ve,0,none⟩=some (.slice Ao37 t626.length co37):=bc BK633 0;have hcz45_1:w42.cell? ⟨Ve,1,none⟩=some (.int .i64 t629):=bc BK633 1;have hfz45_0:=Yf BK633.out 0;have hfz45_1:=Yf BK633.out 1)|((with_reducible refine gate_builtin (b:= .append) (xs:= #[.tmp 51, .tmp 53]) rfl ?_);at_builtin;refine Kd.S_append k47 (w0:=w) w.heap.size rfl (.tmp 51) (.tmp 53) 42 47 (.agg #[(.slice none 0 0),(.int .i64 0)]) 32 rfl Try.underlying42 info47 rfl (by decide) (by omega) u620001 Vf (⟨t626,t629⟩:S47) [.slice Ao37 t626.length co37, .int .i64 t629] (fun k_=>(w.heap.size≤k_)∧some k_≠(v631:Value).ownBlock∧k_≠Ve) (fun k_=>some k_=(.slice Ao37 t626.length co37:Value).ownBlock) rfl rfl ?aP (fun k_ hk_=>((Kd.R_mono (ok':=fun k_=>((fun k_=>(w.heap.size≤k_)∧some k_≠(v631:Value).ownBlock∧k_≠Ve)) k_∧some k_≠(u620001:Value).ownBlock) (Kd.R_types (Kd.R_apart' (HO628.out) (Kd.S_typed HO_620001.out) (by decide)) BK633.out (by decide)) (fun k_ hk=>⟨⟨hk.1.1.1,⟨hk.1.1.2,hk.2⟩⟩,hk.1.2⟩))).1 k_ hk_.symm) ?aF ?aO ?aB ?aS ?aL ?_;(case aP=>exact k47_mkM _ _ _ (⟨t626,t629⟩:S47) (Kd.R_mono (Kd.R_tight rfl (Kd.R_mono (ok':=fun k_=>((fun k_=>(w.heap.size≤k_)∧some k_≠(v631:Value).ownBlock∧k_≠Ve)) k_∧some k_≠(u620001:Value).ownBlock) (Kd.R_types (Kd.R_apart' (HO628.out) (Kd.S_typed HO_620001.out) (by decide)) BK633.out (by decide)) (fun k_ hk=>⟨⟨hk.1.1.1,⟨hk.1.1.2,hk.2⟩⟩,hk.1.2⟩))) (fun _ h_=>h_)));(case aB=>exact bl);(case aF=>exact(fun k_ hk=>⟨(Nat.le_trans (Yi bl) hk),Kd.fresh' (Kd.R_lt (kR HO632)) k_ hk,Kd.freshB (g:=Ve) (o:= .cells #[.slice Ao37 t626.length co37, .int .i64 t629] 47 (0,0)) (bk BK633) k_ hk⟩));(case aO=>exact(by(with_reducible repeat(first|apply Kd.S_alloc|apply Kd.S_drewN|apply Kd.S_drew));exact Kd.S_mono HO_620001.out (fun k_ hk=>⟨⟨hk.1,⟨hk.2.2.1,hk.2.2.2⟩⟩,fun e_=>hk.2.1 e_⟩)));(case aS=>exact(Yi bl));(case aL=>have:=LMc28.out;omega);intro v635 w46 ho hb hg hat;rw[← Ny634.out] at ho;replace HO_3:=Ya (Kd.V_afterv (ok:=(fun k_=>(P3_ k_∨w.heap.size≤k_)∧some k_≠(.slice Ao37 t626.length co37:Value).ownBlock∧some k_≠(v631:Value).ownBlock∧k_≠Xl∧k_≠Xu∧k_≠Xm∧k_≠Ve)) (by(with_reducible repeat(first|apply Kd.V_alloc|apply Kd.V_drewN|apply Kd.V_drew));exact Kd.V_mono HO_3.out (fun _ hk=>⟨⟨hk.1,⟨hk.2.2.1,⟨hk.2.2.2.1,⟨hk.2.2.2.2.1,⟨hk.2.2.2.2.2.1,⟨hk.2.2.2.2.2.2.1,hk.2.2.2.2.2.2.2⟩⟩⟩⟩⟩⟩,hk.2.1⟩)) hg hat);replace Zm:=Ya (blk_grown (bk Zm) hg (Kd.S_ne HO_620001.out Zm.out (by decide)));replace Zv:=Ya (blk_grown (bk Zv) hg (Kd.S_ne HO_620001.out Zv.out (by decide)));replace Zt:=Ya (blk_grown (bk Zt) hg (Kd.S_ne HO_620001.out Zt.out (by decide)));replace HO632:=Ya (Kd.R_over' (kR HO632) (Kd.S_typed (kS HO_620001)) (by decide) hg);replace BK633:=Ya (blk_grown (bk BK633) hg (Kd.S_away HO_620001.out (fun _ hk=>hk.2.2.2)));replace HB:=Ya (hb);have HO636:=Ya (ho);clear HO_620001 HO628;clear ho hb hg hat;obtain⟨Ao47,co47,eo47⟩:=Kd.S_slice HO636.out;subst eo47;have hcz48_0:w46.cell? ⟨Xm,0,none⟩=some (.slice none 0 0):=bc Zt 0;have hcz48_1:w46.cell? ⟨Xm,1,none⟩=some (u620001):=bc Zt 1;have hfz48_0:=Yf Zt.out 0;have hfz48_1:=Yf Zt.out 1));go_roundg k1
    case measure=>have:=HK1.out;omega
    case rel=>exact⟨(t630),(y634),(.slice Ao47 y634.length co47),H',⟨by have:=HK1.out;omega⟩,⟨Kd.V_mono (Kd.R_V (Kd.R_far (p:=⟨Xm,1,none⟩) (Kd.R_types (Kd.R_types (Kd.R_types (Kd.R_types (Kd.R_apart' HO632.out (Kd.S_typed HO636.out) (by decide)) Zm.out (by decide)) Zv.out (by decide)) Zt.out (by decide)) Zt.out (by decide)) (fun _ hk=>hk.2) (.slice Ao47 y634.length co47))) (fun _ hk=>⟨(.inr hk.1.1.1.1.1.1),⟨hk.1.1.1.1.2,⟨hk.1.1.1.2,⟨hk.1.1.2,hk.1.2⟩⟩⟩⟩)⟩,⟨by(with_reducible repeat(first|apply Kd.S_alloc|apply Kd.S_drewN|apply Kd.S_drew));exact Kd.S_mono (Kd.S_far (p:=⟨Xm,1,none⟩) (Kd.S_types HO636.out Zt.out (by decide)) (fun _ hk=>hk.2) (.slice Ao47 y634.length co47)) (fun _ hk=>hk.1.1)⟩,⟨by(with_reducible repeat(first|refine Yl ?_ _|refine Ym ?_|refine Yj ?_ _));refine blk_far ?_ Ub.out _;(with_reducible repeat(first|refine Yl ?_ _|refine Ym ?_|refine Yj ?_ _));exact Zm.out⟩,⟨by(with_reducible repeat(first|refine Yl ?_ _|refine Ym ?_|refine Yj ?_ _));refine blk_far ?_ Ji.out _;(with_reducible repeat(first|refine Yl ?_ _|refine Ym ?_|refine Yj ?_ _));exact Zv.out⟩,⟨by(with_reducible repeat(first|refine Yl ?_ _|refine Ym ?_|refine Yj ?_ _));refine YA (cs:= #[.slice none 0 0,u620001]) ?_ 1 _ rfl;(with_reducible repeat(first|refine Yl ?_ _|refine Ym ?_|refine Yj ?_ _));exact Zt.out⟩,⟨bl⟩⟩
   replace c26:=Bool.eq_false_iff.mpr c26;subst c26;rw[Yy (show ¬ (false=true) by decide)] at H;have H':=Ya H;clear H;have hnb49:=Jz.out;have hnc49:=NB618_617.out;have hnb50:=Ub.out;have hnc50:=Jh.out;have hcz51_0:wr.cell? ⟨Xl,0,none⟩=some (.int .i64 Zc):=bc Zm 0;have hcz51_1:wr.cell? ⟨Xl,1,none⟩=some (.bool Zb):=bc Zm 1;have hcz51_2:wr.cell? ⟨Xl,2,none⟩=some (.slice Ze Za.length Zd):=bc Zm 2;have hfz51_0:=Yf Zm.out 0;have hfz51_1:=Yf Zm.out 1;have hfz51_2:=Yf Zm.out 2;obtain⟨Ao52,co52,eo52⟩:=Kd.V_slice HO_3.out;subst eo52;go_wp2_with (first|((with_reducible refine gate_callee (f:=52) rfl ?_);refine gl (some 39) Try.func52 #[.agg #[.int .i64 Zc, .bool Zb, .slice Ze Za.length Zd], .slice Ao52 x3_1.length co52] ?_;(with_reducible refine(ebbtideref13_cycle.calls k1 Zc Zb _ _ Za _ _ x3_1 t622 false _ ?side1 ?side2 ?side3 ?side4 A25.out).mono ?_);(case side1=>exact kC (Yt Zj.out HB.out));(case side2=>exact Zs.out);(case side3=>exact kC (Kd.V_reads' HO_3.out).2.2);(case side4=>exact(Kd.V_reads' HO_3.out).2.1);rintro e w53 ⟨v623,rfl,ho0,hb⟩;refine⟨_,rfl,?_⟩;replace HO_3:=Ya (Kd.V_elder' HO_3.out (Kd.R_base ho0) hb);replace HO_620001:=Ya (Kd.S_elder' HO_620001.out (Kd.R_base ho0) hb);have HO624:=Ya (Kd.R_lower (Kd.R_newM (M:=fun k_=>(w.heap.size≤k_)) ho0 (Yi HB.out) (fun k_ h_=>h_)) (Yi HB.out));replace Zm:=Ya (Yn Zm.out hb);replace Zv:=Ya (Yn Zv.out hb);replace Zt:=Ya (Yn Zt.out hb);replace HB:=Ya (Yk HB.out hb);(try clear hb);(try clear ho0)));go_loopg [3] k1 (fun kq v3 w'=> ∃ (x3_2:List Int) (Uc:List (S47)) (u620000:Value),Aside0 (ebbtideref13_Split.l1 kq a1 a2 x3_2 Zc Zb Za Uc Vf=some (r1,r2,r3))∧Aside0 (kq≤k1)∧Aside0 (Kd.V (Kd.int .i64) 3 w' w.heap.size (fun k_=>(P3_ k_∨w.heap.size≤k_)∧some k_≠(u620000:Value).ownBlock∧some k_≠(u620001:Value).ownBlock∧k_≠Xl∧k_≠Xu∧k_≠Xm) v3 x3_2)∧Aside0 (Kd.S k47 47 w' w.heap.size (fun k_=>(w.heap.size≤k_)∧some k_≠(u620001:Value).ownBlock) u620000 Uc)∧Aside0 (Kd.S k47 47 w' w.heap.size (fun k_=>(w.heap.size≤k_)∧some k_≠(u620000:Value).ownBlock) u620001 Vf)∧Aside0 (w'.heap[Xl]? =some (.cells #[.int .i64 Zc, .bool Zb,(.slice Ze Za.length Zd)] 24 (0,0)))∧Aside0 (w'.heap[Xu]? =some (.cells #[(.slice none 0 0),(.slice none 0 0)] 54 (0,0)))∧Aside0 (w'.heap[Xm]? =some (.cells #[u620000,u620001] 54 (0,0)))∧Aside0 (Below w.heap.size w w'))
   case atStart=>exact⟨(x3_1),(([]:List (S47))),(.slice none 0 0),H',⟨Nat.le_refl _⟩,⟨by(with_reducible repeat(first|apply Kd.V_alloc|apply Kd.V_drewN|apply Kd.V_drew));exact Kd.V_mono HO_3.out (fun _ hk=>⟨hk.1.1,⟨(by simp[Value.ownBlock]),⟨hk.1.2.1,⟨hk.1.2.2.1,⟨hk.1.2.2.2.1,hk.1.2.2.2.2⟩⟩⟩⟩⟩)⟩,⟨by first|exact Kd.S_nil _ _ _ _ _|exact Kd.N_nil _ _ _ _ _|exact Kd.V_nil _ _ _ _ _|exact Kd.Q_nil _ _ _ _ _|exact Kd.R_nil _ _ _ _ _⟩,⟨by(with_reducible repeat(first|apply Kd.S_alloc|apply Kd.S_drewN|apply Kd.S_drew));exact Kd.S_mono HO_620001.out (fun _ hk=>⟨hk.1,(by simp[Value.ownBlock])⟩)⟩,⟨Zm.out⟩,⟨Zv.out⟩,⟨Zt.out⟩,⟨HB.out⟩⟩
   case round=>
    clear H';try clear c3
    try clear c6
    try clear c6b0
    try clear c6b1
    try clear c7
    try clear c7b0
    try clear c26
    try clear c28
    try clear hcz13_0
    try clear hcz13_1
    try clear hcz13_2
    try clear Jt
    try clear Ju
    try clear Ww
    try clear Wx
    try clear hcz23_0
    try clear hcz23_1
    try clear hcz23_2
    try clear hcz31_0
    try clear hcz31_1
    try clear hcz31_2
    try clear hcz41_0
    try clear hcz41_1
    try clear hcz44_0
    try clear hcz44_1
    try clear hcz45_0
    try clear hcz45_1
    try clear hcz48_0
    try clear hcz48_1
    try clear hcz51_0
    try clear hcz51_1
    try clear hcz51_2
    try clear hfz13_0
    try clear hfz13_1
    try clear hfz13_2
    try clear Jv
    try clear Jw
    try clear Wy
    try clear Wz
    try clear hfz23_0
    try clear hfz23_1
    try clear hfz23_2
    try clear hfz31_0
    try clear hfz31_1
    try clear hfz31_2
    try clear hfz41_0
    try clear hfz41_1
    try clear hfz44_0
    try clear hfz44_1
    try clear hfz45_0
    try clear hfz45_1
    try clear hfz48_0
    try clear hfz48_1
    try clear hfz51_0
    try clear hfz51_1
    try clear hfz51_2
    obtain⟨x3_2,Uc,u620000,HA,HK2,HO_3,HO_620000,HO_620001,Zm,Zv,Zt,HB⟩:=hrel;cases gk with
    |zero=>exact absurd HA.out (by simp[ebbtideref13_Split.l1])
    |succ k2=>
     have H:=HA.out;clear HA;simp only[ebbtideref13_Split.l1] at H;replace H:=Option.bind_eq_some_iff.mp H;obtain⟨t637,A540,H⟩:=H;try dsimp only at H
     have A54:=Ya A540;clear A540;replace H:=Option.bind_eq_some_iff.mp H;obtain⟨⟨t640,t643⟩,A550,H⟩:=H;try dsimp only at H
     have A55:=Ya A550;clear A550;by_cases c56:t643=true
     rotate_left
     ·replace c56:=Bool.eq_false_iff.mpr c56
      subst c56;rw[Yy (show ¬ (false=true) by decide)] at H;simp only[Option.some.injEq,Prod.mk.injEq] at H;obtain⟨rfl,rfl,rfl⟩:=H;try go_wp2
      replace HO_3:=Ya (Kd.V_drew HO_3.out);replace HO_620000:=Ya (Kd.S_drew HO_620000.out);replace HO_620001:=Ya (Kd.S_drew HO_620001.out);replace Zm:=Ya (Ym Zm.out);replace Zv:=Ya (Ym Zv.out);replace Zt:=Ya (Ym Zt.out);replace HB:=Ya (Yg HB.out);obtain⟨Ao84,co84,eo84⟩:=Kd.V_slice HO_3.out
      (first|subst eo84|(injection eo84 with f1_ f2_ f3_;have f4_:=f1_.symm;have f5_:=f3_.symm;clear f1_ f2_ f3_;subst f4_;subst f5_))
      refine start_ (n:=11) (S:=fun w'=>w'.cell? ⟨Xl,0,none⟩=some (.int .i64 Zc)∧w'.cell? ⟨Xl,1,none⟩=some (.bool Zb)∧w'.cell? ⟨Xl,2,none⟩=some (.slice Ze Za.length Zd)) (ds:=[]) #[false,false,false,false,false,false,false,false,false,false,false] (by kernel_rfl) rfl rfl ⟨(Yc Zm.out 0).trans rfl,(Yc Zm.out 1).trans rfl,(Yc Zm.out 2).trans rfl⟩ (fun hHeld=> ?_);refine with_tabW ebbtideref13_Split.tab12 ebbtideref13_Split.bits12 (fun HT_ HW_=> ?_);generalize wr.drew=w83 at HO_3 HO_620000 HO_620001 Zm Zv Zt HB hHeld ⊢;refine pu 1 59 (bm 11 2) ?_;refine pu 2 60 (bm 11 6) ?_;refine pu 3 61 (bm 11 14) ?_;refine ta 0 58 (bm 11 15) hHeld ?_;refine on 4 (some 62) (bm 11 31) fun K hK=> ?_
      refine gs Try.func55 #[.slice Ao84 x3_2.length co84] ?_
      with_reducible refine(ebbtideref13_along.calls k2 _ _ x3_2 t637 _ ?side1 ?side2 A54.out).mono ?_
      (case side1=>exact(Kd.V_reads' HO_3.out).2.2)
      (case side2=>exact(Kd.V_reads' HO_3.out).2.1)
      rintro e w85 ⟨v638,rfl,ho0,hb⟩;refine⟨_,rfl,?_⟩;replace HO_3:=Ya (Kd.V_elder' HO_3.out (Kd.R_base ho0) hb);replace HO_620000:=Ya (Kd.S_below HO_620000.out hb);replace HO_620001:=Ya (Kd.S_below HO_620001.out hb);have Je:=Ya (Kd.R_lower (Kd.R_newM (M:=fun k_=>(w.heap.size≤k_)) ho0 (Yi HB.out) (fun k_ h_=>h_)) (Yi HB.out));replace Zm:=Ya (Yn Zm.out hb);replace Zv:=Ya (Yn Zv.out hb);replace Zt:=Ya (Yn Zt.out hb);replace HB:=Ya (Yk HB.out hb)
      (try clear hb)
      (try clear hb2)
      (try clear hk)
      (try clear hi)
      (try clear ho0)
      obtain⟨Ao86,co86,eo86⟩:=Kd.R_slice Je.out
      (first|subst eo86|(injection eo86 with f1_ f2_ f3_;have f4_:=f1_.symm;have f5_:=f3_.symm;clear f1_ f2_ f3_;subst f4_;subst f5_))
      refine hK.out _ _ ⟨bc Zm 0,bc Zm 1,bc Zm 2⟩ (fun hHeld=> ?_);clear hK K;refine nm ?_;refine on 5 (some 63) (bm 11 63) fun K hK=> ?_
      refine gs Try.func54 #[.agg #[.int .i64 Zc, .bool Zb, .slice Ze Za.length Zd], .int .i64 a1, .int .i64 a2, .slice Ao86 t637.length co86] ?_
      with_reducible refine(ebbtideref08_Way.calls Zc Zb _ _ Za a1 a2 _ _ t637 t640 false _ ?side1 ?side2 ?side3 ?side4 A55.out).mono ?_
      (case side1=>exact(Yt Zj.out HB.out))
      (case side2=>exact Zs.out)
      (case side3=>exact(Kd.R_reads' Je.out).2.2)
      (case side4=>exact(Kd.R_reads' Je.out).2.1)
      rintro e w87 ⟨v641,rfl,ho0,hb⟩;refine⟨_,rfl,?_⟩;replace HO_3:=Ya (Kd.V_elder' HO_3.out (Kd.R_base ho0) hb);replace HO_620000:=Ya (Kd.S_below HO_620000.out hb);replace HO_620001:=Ya (Kd.S_below HO_620001.out hb);have HO642:=Ya (Kd.R_lower (Kd.R_new' (Kd.R_newM (M:=fun k_=>(w.heap.size≤k_)) ho0 (Yi HB.out) (fun k_ h_=>h_)) (Kd.R_lt Je.out)) (Yi HB.out));replace Je:=Ya (Kd.R_elder' Je.out (Kd.R_base ho0) hb);replace Zm:=Ya (Yn Zm.out hb);replace Zv:=Ya (Yn Zv.out hb);replace Zt:=Ya (Yn Zt.out hb);replace HB:=Ya (Yk HB.out hb)
      (try clear hb)
      (try clear hb2)
      (try clear hk)
      (try clear hi)
      (try clear ho0)
      refine hK.out _ _ ⟨bc Zm 0,bc Zm 1,bc Zm 2⟩ (fun hHeld=> ?_);clear hK K;refine nm ?_;refine pu 6 57 (bm 11 127) ?_;refine pu 7 64 (bm 11 255) ?_;refine pu 8 65 (bm 11 511) ?_;refine pu 9 17 (bm 11 1023) ?_;refine pu 10 18 (bm 11 2047) ?_;refine done_ (done_of HT_.out (by kernel_rfl)) ?_;have hnb88:=Jh.out;have hnc88:=Ub.out;have hnb89:=NB619_618.out;have hnc89:=Ji.out;have hcz90_0:w87.cell? ⟨Xm,0,none⟩=some (u620000):=bc Zt 0;have hcz90_1:w87.cell? ⟨Xm,1,none⟩=some (u620001):=bc Zt 1;have hfz90_0:=Yf Zt.out 0;have hfz90_1:=Yf Zt.out 1;obtain⟨Ao91,co91,eo91⟩:=Kd.S_slice HO_620000.out;subst eo91;have hnb92:=NB618_617.out;have hnc92:=Jz.out;have hcz93_0:w87.cell? ⟨Xu,0,none⟩=some (.slice none 0 0):=bc Zv 0;have hcz93_1:w87.cell? ⟨Xu,1,none⟩=some (.slice none 0 0):=bc Zv 1;have hfz93_0:=Yf Zv.out 0;have hfz93_1:=Yf Zv.out 1;obtain⟨Ao94,co94,eo94⟩:=Kd.S_slice HO_620001.out;subst eo94;try go_wp2
      refine bodyPost_ret (results_ct rfl _ _ Xu 54 #[.slice Ao91 Uc.length co91, .slice Ao94 Vf.length co94] (0,0) _ rfl (by(with_reducible repeat(first|refine Yl ?_ _|refine Ym ?_|refine Yj ?_ _));refine YA (cs:= #[.slice Ao91 Uc.length co91, .slice none 0 0]) ?_ 1 _ rfl;(with_reducible repeat(first|refine Yl ?_ _|refine Ym ?_|refine Yj ?_ _));refine YA (cs:= #[.slice none 0 0, .slice none 0 0]) ?_ 0 _ rfl;(with_reducible repeat(first|refine Yl ?_ _|refine Ym ?_|refine Yj ?_ _));exact Zv.out) Try.underlying54 rfl (by kernel_rfl)) rfl ?_;exact⟨_,_,by first|rfl|(simp[errW_none,errW_some]<;>rfl)|(simp[*,errW_none,errW_some]<;>rfl),by(with_reducible repeat(first|apply Kd.S_alloc|apply Kd.S_drewN|apply Kd.S_drew));exact Kd.S_mono (Kd.S_far (p:=⟨Xu,1,none⟩) (Kd.S_far (p:=⟨Xu,0,none⟩) (Kd.S_types HO_620000.out Zv.out (by decide)) (fun _ hk=>hk.2) (.slice Ao91 Uc.length co91)) (fun _ hk=>hk.2) (.slice Ao94 Vf.length co94)) (fun _ hk=>⟨hk.1.1,hk.1.2⟩),by(with_reducible repeat(first|apply Kd.S_alloc|apply Kd.S_drewN|apply Kd.S_drew));exact Kd.S_mono (Kd.S_far (p:=⟨Xu,1,none⟩) (Kd.S_far (p:=⟨Xu,0,none⟩) (Kd.S_types HO_620001.out Zv.out (by decide)) (fun _ hk=>hk.2) (.slice Ao91 Uc.length co91)) (fun _ hk=>hk.2) (.slice Ao94 Vf.length co94)) (fun _ hk=>⟨hk.1.1,hk.1.2⟩),bl⟩
     subst c56;first|rw[Yx rfl] at H|rw[Yx trivial] at H
     replace H:=Option.bind_eq_some_iff.mp H;obtain⟨t644,A570,H⟩:=H;try dsimp only at H
     have A57:=Ya A570;clear A570;replace H:=Option.bind_eq_some_iff.mp H;obtain⟨⟨t647,t650,t651⟩,A580,H⟩:=H;try dsimp only at H
     have A58:=Ya A580;clear A580;by_cases c59:Uc.length<4398046511104
     rotate_left
     ·rw[Yy c59] at H
      exact absurd H (by simp)
     rw[Yx c59] at H;have LMc59:=Ya c59;clear c59;obtain⟨y655,hy655⟩: ∃ y_:List (S47),y_=(Uc ++ [(⟨t647,t650⟩:S47)]):=⟨_,rfl⟩;rw[← hy655] at H;have Ny655:=Ya hy655;clear hy655;have H':=Ya H;clear H;try go_wp2
     replace HO_3:=Ya (Kd.V_drew HO_3.out);replace HO_620000:=Ya (Kd.S_drew HO_620000.out);replace HO_620001:=Ya (Kd.S_drew HO_620001.out);replace Zm:=Ya (Ym Zm.out);replace Zv:=Ya (Ym Zv.out);replace Zt:=Ya (Ym Zt.out);replace HB:=Ya (Yg HB.out);obtain⟨Ao61,co61,eo61⟩:=Kd.V_slice HO_3.out
     (first|subst eo61|(injection eo61 with f1_ f2_ f3_;have f4_:=f1_.symm;have f5_:=f3_.symm;clear f1_ f2_ f3_;subst f4_;subst f5_))
     refine start_ (n:=11) (S:=fun w'=>w'.cell? ⟨Xl,0,none⟩=some (.int .i64 Zc)∧w'.cell? ⟨Xl,1,none⟩=some (.bool Zb)∧w'.cell? ⟨Xl,2,none⟩=some (.slice Ze Za.length Zd)) (ds:=[]) #[false,false,false,false,false,false,false,false,false,false,false] (by kernel_rfl) rfl rfl ⟨(Yc Zm.out 0).trans rfl,(Yc Zm.out 1).trans rfl,(Yc Zm.out 2).trans rfl⟩ (fun hHeld=> ?_);refine with_tabW ebbtideref13_Split.tab12 ebbtideref13_Split.bits12 (fun HT_ HW_=> ?_);generalize wr.drew=w60 at HO_3 HO_620000 HO_620001 Zm Zv Zt HB hHeld ⊢;refine pu 1 59 (bm 11 2) ?_;refine pu 2 60 (bm 11 6) ?_;refine pu 3 61 (bm 11 14) ?_;refine ta 0 58 (bm 11 15) hHeld ?_;refine on 4 (some 62) (bm 11 31) fun K hK=> ?_
     refine gs Try.func55 #[.slice Ao61 x3_2.length co61] ?_
     with_reducible refine(ebbtideref13_along.calls k2 _ _ x3_2 t637 _ ?side1 ?side2 A54.out).mono ?_
     (case side1=>exact(Kd.V_reads' HO_3.out).2.2)
     (case side2=>exact(Kd.V_reads' HO_3.out).2.1)
     rintro e w62 ⟨v638,rfl,ho0,hb⟩;refine⟨_,rfl,?_⟩;replace HO_3:=Ya (Kd.V_elder' HO_3.out (Kd.R_base ho0) hb);replace HO_620000:=Ya (Kd.S_below HO_620000.out hb);replace HO_620001:=Ya (Kd.S_below HO_620001.out hb);have Je:=Ya (Kd.R_lower (Kd.R_newM (M:=fun k_=>(w.heap.size≤k_)) ho0 (Yi HB.out) (fun k_ h_=>h_)) (Yi HB.out));replace Zm:=Ya (Yn Zm.out hb);replace Zv:=Ya (Yn Zv.out hb);replace Zt:=Ya (Yn Zt.out hb);replace HB:=Ya (Yk HB.out hb)
     (try clear hb)
     (try clear hb2)
     (try clear hk)
     (try clear hi)
     (try clear ho0)
     obtain⟨Ao63,co63,eo63⟩:=Kd.R_slice Je.out
     (first|subst eo63|(injection eo63 with f1_ f2_ f3_;have f4_:=f1_.symm;have f5_:=f3_.symm;clear f1_ f2_ f3_;subst f4_;subst f5_))
     refine hK.out _ _ ⟨bc Zm 0,bc Zm 1,bc Zm 2⟩ (fun hHeld=> ?_);clear hK K;refine nm ?_;refine on 5 (some 63) (bm 11 63) fun K hK=> ?_
     refine gs Try.func54 #[.agg #[.int .i64 Zc, .bool Zb, .slice Ze Za.length Zd], .int .i64 a1, .int .i64 a2, .slice Ao63 t637.length co63] ?_
     with_reducible refine(ebbtideref08_Way.calls Zc Zb _ _ Za a1 a2 _ _ t637 t640 true _ ?side1 ?side2 ?side3 ?side4 A55.out).mono ?_
     (case side1=>exact(Yt Zj.out HB.out))
     (case side2=>exact Zs.out)
     (case side3=>exact(Kd.R_reads' Je.out).2.2)
     (case side4=>exact(Kd.R_reads' Je.out).2.1)
     rintro e w64 ⟨v641,rfl,ho0,hb⟩;refine⟨_,rfl,?_⟩;replace HO_3:=Ya (Kd.V_elder' HO_3.out (Kd.R_base ho0) hb);replace HO_620000:=Ya (Kd.S_below HO_620000.out hb);replace HO_620001:=Ya (Kd.S_below HO_620001.out hb);have HO642:=Ya (Kd.R_lower (Kd.R_new' (Kd.R_newM (M:=fun k_=>(w.heap.size≤k_)) ho0 (Yi HB.out) (fun k_ h_=>h_)) (Kd.R_lt Je.out)) (Yi HB.out));replace Je:=Ya (Kd.R_elder' Je.out (Kd.R_base ho0) hb);replace Zm:=Ya (Yn Zm.out hb);replace Zv:=Ya (Yn Zv.out hb);replace Zt:=Ya (Yn Zt.out hb);replace HB:=Ya (Yk HB.out hb)
     (try clear hb)
     (try clear hb2)
     (try clear hk)
     (try clear hi)
     (try clear ho0)
     refine hK.out _ _ ⟨bc Zm 0,bc Zm 1,bc Zm 2⟩ (fun hHeld=> ?_);clear hK K;refine nm ?_;refine pu 6 57 (bm 11 127) ?_;refine pu 7 64 (bm 11 255) ?_;refine pu 8 65 (bm 11 511) ?_;refine pu 9 17 (bm 11 1023) ?_;refine pu 10 18 (bm 11 2047) ?_;refine done_ (done_of HT_.out (by kernel_rfl)) ?_;obtain⟨Ao65,co65,eo65⟩:=Kd.R_slice HO642.out;subst eo65;try go_wp2_with (first|((with_reducible refine gate_callee (f:=56) rfl ?_);refine gl (some 72) Try.func56 #[.slice Ao65 t640.length co65] ?_;(with_reducible refine(ebbtideref13_places.calls k2 _ _ t640 t644 _ ?side1 ?side2 A57.out).mono ?_);(case side1=>exact kC (Kd.R_reads' HO642.out).2.2);(case side2=>exact(Kd.R_reads' HO642.out).2.1);rintro e w66 ⟨v645,rfl,ho0,hb⟩;refine⟨_,rfl,?_⟩;replace HO_3:=Ya (Kd.V_elder' (kV HO_3) (Kd.R_base ho0) hb);replace HO_620000:=Ya (Kd.S_elder' (kS HO_620000) (Kd.R_base ho0) hb);replace HO_620001:=Ya (Kd.S_elder' (kS HO_620001) (Kd.R_base ho0) hb);replace Je:=Ya (Ys (kR Je) hb);replace HO642:=Ya (Ys (kR HO642) hb);have HO646:=Ya (Kd.R_lower (Kd.R_newM (M:=fun k_=>(w.heap.size≤k_)) ho0 (Yi bl) (fun k_ h_=>h_)) (Yi bl));replace Zm:=Ya (Yn (bk Zm) hb);replace Zv:=Ya (Yn (bk Zv) hb);replace Zt:=Ya (Yn (bk Zt) hb);replace HB:=Ya (Yk bl hb);(try clear hb);(try clear ho0);obtain⟨Ao67,co67,eo67⟩:=Kd.R_slice HO646.out;subst eo67)|((with_reducible refine gate_callee (f:=53) rfl ?_);refine gl (some 73) Try.func53 #[.slice Ao61 x3_2.length co61, .slice Ao67 t644.length co67] ?_;(with_reducible refine(ebbtideref13_taken.calls k2 _ _ x3_2 (fun k_=>some k_=(.slice Ao67 t644.length co67:Value).ownBlock) (.slice Ao67 t644.length co67) t644 t647 t650 t651 w _ ?side1 ?side2 ?side3 ?side4 A58.out).mono ?_);(case side1=>repeat(first|(with_reducible first|exact HB.out|apply Ye|apply Yd|apply Yg|refine Yh ?_ GE617.out|refine Yh ?_ GE618.out|refine Yh ?_ GE619.out)|exact HB.out));(case side2=>exact Kd.C_kept_ownV (HO_3.out) (fun k_ hk_ hs_=>(hk_.2) hs_));(case side3=>exact(Kd.V_reads' HO_3.out).2.1);(case side4=>exact Kd.R_tight rfl HO646.out);rintro e w68 ⟨v648,v652,rfl,ho0,ho1,hb,hkp⟩;refine⟨_,rfl,?_⟩;replace HO_3:=Ya (Kd.V_mono (ok':=fun k_=>(P3_ k_∨w.heap.size≤k_)∧some k_≠(u620000:Value).ownBlock∧some k_≠(u620001:Value).ownBlock∧some k_≠(.slice Ao63 t637.length co63:Value).ownBlock∧some k_≠(.slice Ao65 t640.length co65:Value).ownBlock∧k_≠Xl∧k_≠Xu∧k_≠Xm∧some k_≠(v648:Value).ownBlock∧some k_≠(v652:Value).ownBlock) (Kd.V_keptB (HO_3.out) hkp (fun k_ hk_ hs_=>(hk_.2) hs_)) (fun k_ hk_=>⟨hk_.1.1.1.1.1,hk_.1.1.1.1.2.1,hk_.1.1.1.1.2.2.1,hk_.1.1.1.2,hk_.1.1.2,hk_.1.1.1.1.2.2.2.1,hk_.1.1.1.1.2.2.2.2.1,hk_.1.1.1.1.2.2.2.2.2,fun e_=>Or.elim (ho0.1 k_ e_.symm).1 (fun hs_=>hk_.2.1 hs_) (fun hn_=>Nat.not_le.2 hk_.2.2 hn_),fun e_=>Or.elim (ho1.1 k_ e_.symm).1 (fun hs_=>hk_.2.1 hs_) (fun hn_=>Nat.not_le.2 hk_.2.2 hn_)⟩));replace HO_620000:=Ya (Kd.S_mono (ok':=fun k_=>(w.heap.size≤k_)∧some k_≠(u620001:Value).ownBlock∧some k_≠(v648:Value).ownBlock∧some k_≠(v652:Value).ownBlock) (Kd.S_keptB (HO_620000.out) hkp (fun k_ hk_ hs_=>(hk_.2) hs_)) (fun k_ hk_=>⟨hk_.1.1.1,hk_.1.1.2,fun e_=>Or.elim (ho0.1 k_ e_.symm).1 (fun hs_=>hk_.2.1 hs_) (fun hn_=>Nat.not_le.2 hk_.2.2 hn_),fun e_=>Or.elim (ho1.1 k_ e_.symm).1 (fun hs_=>hk_.2.1 hs_) (fun hn_=>Nat.not_le.2 hk_.2.2 hn_)⟩));replace HO_620001:=Ya (Kd.S_mono (ok':=fun k_=>(w.heap.size≤k_)∧some k_≠(u620000:Value).ownBlock∧some k_≠(v648:Value).ownBlock∧some k_≠(v652:Value).ownBlock) (Kd.S_keptB (HO_620001.out) hkp (fun k_ hk_ hs_=>(hk_.2) hs_)) (fun k_ hk_=>⟨hk_.1.1.1,hk_.1.1.2,fun e_=>Or.elim (ho0.1 k_ e_.symm).1 (fun hs_=>hk_.2.1 hs_) (fun hn_=>Nat.not_le.2 hk_.2.2 hn_),fun e_=>Or.elim (ho1.1 k_ e_.symm).1 (fun hs_=>hk_.2.1 hs_) (fun hn_=>Nat.not_le.2 hk_.2.2 hn_)⟩));replace Zm:=Ya (blk_kept (bk Zm) hkp (fun hs_=>(fun e_=>(Kd.R_ne HO646.out Zm.out (by decide)) e_) hs_));replace Zv:=Ya (blk_kept (bk Zv) hkp (fun hs_=>(fun e_=>(Kd.R_ne HO646.out Zv.out (by decide)) e_) hs_));replace Zt:=Ya (blk_kept (bk Zt) hkp (fun hs_=>(fun e_=>(Kd.R_ne HO646.out Zt.out (by decide)) e_) hs_));replace Je:=Ya (Kd.R_mono (ok':=fun k_=>(w.heap.size≤k_)∧some k_≠(.slice Ao65 t640.length co65:Value).ownBlock) (Kd.R_keptB ((Kd.R_apart' Je.out (Kd.R_typed HO646.out) (by decide))) hkp (fun k_ hk_ hs_=>(hk_.2) hs_)) (fun k_ hk_=>⟨hk_.1.1.1.1,hk_.1.1.2⟩));replace HO642:=Ya (Kd.R_mono (ok':=fun k_=>(w.heap.size≤k_)∧some k_≠(.slice Ao63 t637.length co63:Value).ownBlock) (Kd.R_keptB ((Kd.R_apart' HO642.out (Kd.R_typed HO646.out) (by decide))) hkp (fun k_ hk_ hs_=>(hk_.2) hs_)) (fun k_ hk_=>⟨hk_.1.1.1.1,hk_.1.1.2⟩));have HO649:=Ya (Kd.R_mono (ok':=fun k_=>(w.heap.size≤k_)∧some k_≠(v652:Value).ownBlock) ho0 (fun k_ hk_=>⟨Or.elim hk_.1 (fun hs_=>(HO646.out.1 k_ (hs_).symm).1) (fun hn_=>(Nat.le_trans (Yi bl) hn_)),hk_.2⟩));have HO653:=Ya (Kd.R_mono (ok':=fun k_=>(w.heap.size≤k_)∧some k_≠(v648:Value).ownBlock) ho1 (fun k_ hk_=>⟨Or.elim hk_.1 (fun hs_=>(HO646.out.1 k_ (hs_).symm).1) (fun hn_=>(Nat.le_trans (Yi bl) hn_)),hk_.2⟩));replace HB:=Ya (hb);clear HO646;(try clear hb);(try clear hkp);(try clear ho0);(try clear ho1))|(refine bx 19 47 #[.slice none 0 0, .int .i64 0] ?_;intro Wh hg w69 Zf hb;replace HO_3:=Ya (Kd.V_below (Kd.V_elderB (kV HO_3) Wh (Nat.le_of_eq hg.symm)) hb);replace HO_620000:=Ya (Kd.S_below (Kd.S_elderB (kS HO_620000) Wh (Nat.le_of_eq hg.symm)) hb);replace HO_620001:=Ya (Kd.S_below (Kd.S_elderB (kS HO_620001) Wh (Nat.le_of_eq hg.symm)) hb);replace Je:=Ya (Ys (kR Je) hb);replace HO642:=Ya (Ys (kR HO642) hb);replace HO649:=Ya (Ys (kR HO649) hb);replace HO653:=Ya (Ys (kR HO653) hb);have BK654:=Ya (Zf);have GW654:=Ya ((sz hg));have GE654:=Ya ((sz hg));replace HB:=Ya (Yk bl hb);have NB617_654:=Ya (by rw[hg];exact Nat.ne_of_lt (blk_lt (bk Zm)):Xl≠Wh);have NB654_617:=Ya (by rw[hg];exact Nat.ne_of_gt (blk_lt (bk Zm)):Wh≠Xl);replace Zm:=Ya (Yn (bk Zm) hb);have NB618_654:=Ya (by rw[hg];exact Nat.ne_of_lt (blk_lt (bk Zv)):Xu≠Wh);have NB654_618:=Ya (by rw[hg];exact Nat.ne_of_gt (blk_lt (bk Zv)):Wh≠Xu);replace Zv:=Ya (Yn (bk Zv) hb);have NB619_654:=Ya (by rw[hg];exact Nat.ne_of_lt (blk_lt (bk Zt)):Xm≠Wh);have NB654_619:=Ya (by rw[hg];exact Nat.ne_of_gt (blk_lt (bk Zt)):Wh≠Xm);replace Zt:=Ya (Yn (bk Zt) hb);clear hb Zf hg;obtain⟨Ao70,co70,eo70⟩:=Kd.R_slice HO649.out;subst eo70;have hnb71:=NB654_617.out;have hnc71:=NB617_654.out;have hnb72:=NB654_618.out;have hnc72:=NB618_654.out;have hnb73:=NB654_619.out;have hnc73:=NB619_654.out;have hcz74_0:w69.cell? ⟨Wh,0,none⟩=some (.slice none 0 0):=bc BK654 0;have hcz74_1:w69.cell? ⟨Wh,1,none⟩=some (.int .i64 0):=bc BK654 1;have hfz74_0:=Yf BK654.out 0;have hfz74_1:=Yf BK654.out 1)|((with_reducible refine gate_store (t:=47) (p:=19) rfl ?_);refine store_event (t:=47) (p:=19) (v:= ?vo_w75) (w1:=((w69.setCell ⟨Wh,0,none⟩ (.slice Ao70 t647.length co70)).setCell ⟨Wh,1,none⟩ (.int .i64 t650))) ?hg ?ho ?hn ?hr ?_;(case ho=>rfl);(case hg=>rfl);(case hn=>rfl);(case hr=>first|(go_simp;done)|(go_simp;rfl));intro w75 hw;replace HO_3:Aside0 (Kd.V (Kd.int .i64) 3 w75 w.heap.size (fun k_=>(P3_ k_∨w.heap.size≤k_)∧some k_≠(u620000:Value).ownBlock∧some k_≠(u620001:Value).ownBlock∧some k_≠(.slice Ao63 t637.length co63:Value).ownBlock∧some k_≠(.slice Ao65 t640.length co65:Value).ownBlock∧some k_≠(.slice Ao70 t647.length co70:Value).ownBlock∧some k_≠(v652:Value).ownBlock∧k_≠Xl∧k_≠Xu∧k_≠Xm∧k_≠Wh) (.slice Ao61 x3_2.length co61) x3_2):=⟨(by rw[hw];exact(by(with_reducible repeat(first|apply Kd.V_alloc|apply Kd.V_drewN|apply Kd.V_drew));exact Kd.V_mono (Kd.V_far (p:=⟨Wh,1,none⟩) (Kd.V_far (p:=⟨Wh,0,none⟩) (Kd.V_mono HO_3.out (fun k_ hk=>(⟨hk,hk.2⟩:_∧k_≠Wh))) (fun _ hk=>hk.2) (.slice Ao70 t647.length co70)) (fun _ hk=>hk.2) (.int .i64 t650)) (fun _ hk=>⟨hk.1.1.1,⟨hk.1.1.2.1,⟨hk.1.1.2.2.1,⟨hk.1.1.2.2.2.1,⟨hk.1.1.2.2.2.2.1,⟨hk.1.1.2.2.2.2.2.2.2.2.1,⟨hk.1.1.2.2.2.2.2.2.2.2.2,⟨hk.1.1.2.2.2.2.2.1,⟨hk.1.1.2.2.2.2.2.2.1,⟨hk.1.1.2.2.2.2.2.2.2.1,hk.1.2⟩⟩⟩⟩⟩⟩⟩⟩⟩⟩)))⟩;replace HO_620000:Aside0 (Kd.S k47 47 w75 w.heap.size (fun k_=>(w.heap.size≤k_)∧some k_≠(u620001:Value).ownBlock∧some k_≠(.slice Ao70 t647.length co70:Value).ownBlock∧some k_≠(v652:Value).ownBlock∧k_≠Wh) u620000 Uc):=⟨(by rw[hw];exact(by(with_reducible repeat(first|apply Kd.S_alloc|apply Kd.S_drewN|apply Kd.S_drew));exact Kd.S_mono (Kd.S_far (p:=⟨Wh,1,none⟩) (Kd.S_far (p:=⟨Wh,0,none⟩) (Kd.S_mono HO_620000.out (fun k_ hk=>(⟨hk,hk.2⟩:_∧k_≠Wh))) (fun _ hk=>hk.2) (.slice Ao70 t647.length co70)) (fun _ hk=>hk.2) (.int .i64 t650)) (fun _ hk=>⟨hk.1.1.1,⟨hk.1.1.2.1,⟨hk.1.1.2.2.1,⟨hk.1.1.2.2.2,hk.1.2⟩⟩⟩⟩)))⟩;replace HO_620001:Aside0 (Kd.S k47 47 w75 w.heap.size (fun k_=>(w.heap.size≤k_)∧some k_≠(u620000:Value).ownBlock∧some k_≠(.slice Ao70 t647.length co70:Value).ownBlock∧some k_≠(v652:Value).ownBlock∧k_≠Wh) u620001 Vf):=⟨(by rw[hw];exact(by(with_reducible repeat(first|apply Kd.S_alloc|apply Kd.S_drewN|apply Kd.S_drew));exact Kd.S_mono (Kd.S_far (p:=⟨Wh,1,none⟩) (Kd.S_far (p:=⟨Wh,0,none⟩) (Kd.S_mono HO_620001.out (fun k_ hk=>(⟨hk,hk.2⟩:_∧k_≠Wh))) (fun _ hk=>hk.2) (.slice Ao70 t647.length co70)) (fun _ hk=>hk.2) (.int .i64 t650)) (fun _ hk=>⟨hk.1.1.1,⟨hk.1.1.2.1,⟨hk.1.1.2.2.1,⟨hk.1.1.2.2.2,hk.1.2⟩⟩⟩⟩)))⟩;replace Je:Aside0 (Kd.R k79 79 w75 w.heap.size (fun k_=>(w.heap.size≤k_)∧some k_≠(.slice Ao65 t640.length co65:Value).ownBlock) (.slice Ao63 t637.length co63) t637):=⟨(by rw[hw];exact(by(with_reducible repeat(first|apply Yr|apply Yq|apply Yp));exact Kd.R_mono (Kd.R_far (p:=⟨Wh,1,none⟩) (Kd.R_far (p:=⟨Wh,0,none⟩) (Kd.R_types Je.out BK654.out (by decide)) (fun _ hk=>hk.2) (.slice Ao70 t647.length co70)) (fun _ hk=>hk.2) (.int .i64 t650)) (fun _ hk=>⟨hk.1.1,hk.1.2⟩)))⟩;replace HO642:Aside0 (Kd.R k79 79 w75 w.heap.size (fun k_=>(w.heap.size≤k_)∧some k_≠(.slice Ao63 t637.length co63:Value).ownBlock) (.slice Ao65 t640.length co65) t640):=⟨(by rw[hw];exact(by(with_reducible repeat(first|apply Yr|apply Yq|apply Yp));exact Kd.R_mono (Kd.R_far (p:=⟨Wh,1,none⟩) (Kd.R_far (p:=⟨Wh,0,none⟩) (Kd.R_types HO642.out BK654.out (by decide)) (fun _ hk=>hk.2) (.slice Ao70 t647.length co70)) (fun _ hk=>hk.2) (.int .i64 t650)) (fun _ hk=>⟨hk.1.1,hk.1.2⟩)))⟩;replace HO649:Aside0 (Kd.R (Kd.int .i64) 3 w75 w.heap.size (fun k_=>(w.heap.size≤k_)∧some k_≠(v652:Value).ownBlock) (.slice Ao70 t647.length co70) t647):=⟨(by rw[hw];exact(by(with_reducible repeat(first|apply Yr|apply Yq|apply Yp));exact Kd.R_mono (Kd.R_far (p:=⟨Wh,1,none⟩) (Kd.R_far (p:=⟨Wh,0,none⟩) (Kd.R_types HO649.out BK654.out (by decide)) (fun _ hk=>hk.2) (.slice Ao70 t647.length co70)) (fun _ hk=>hk.2) (.int .i64 t650)) (fun _ hk=>⟨hk.1.1,hk.1.2⟩)))⟩;replace HO653:Aside0 (Kd.R (Kd.int .i64) 3 w75 w.heap.size (fun k_=>(w.heap.size≤k_)∧some k_≠(.slice Ao70 t647.length co70:Value).ownBlock) v652 t651):=⟨(by rw[hw];exact(by(with_reducible repeat(first|apply Yr|apply Yq|apply Yp));exact Kd.R_mono (Kd.R_far (p:=⟨Wh,1,none⟩) (Kd.R_far (p:=⟨Wh,0,none⟩) (Kd.R_types HO653.out BK654.out (by decide)) (fun _ hk=>hk.2) (.slice Ao70 t647.length co70)) (fun _ hk=>hk.2) (.int .i64 t650)) (fun _ hk=>⟨hk.1.1,hk.1.2⟩)))⟩;replace Zm:Aside0 (w75.heap[Xl]? =some (.cells #[.int .i64 Zc, .bool Zb, .slice Ze Za.length Zd] 24 (0,0))):=⟨(by rw[hw];exact(by(with_reducible repeat(first|refine Yl ?_ _|refine Ym ?_|refine Yj ?_ _));refine blk_far ?_ NB617_654.out _;(with_reducible repeat(first|refine Yl ?_ _|refine Ym ?_|refine Yj ?_ _));refine blk_far ?_ NB617_654.out _;(with_reducible repeat(first|refine Yl ?_ _|refine Ym ?_|refine Yj ?_ _));exact Zm.out))⟩;replace Zv:Aside0 (w75.heap[Xu]? =some (.cells #[.slice none 0 0, .slice none 0 0] 54 (0,0))):=⟨(by rw[hw];exact(by(with_reducible repeat(first|refine Yl ?_ _|refine Ym ?_|refine Yj ?_ _));refine blk_far ?_ NB618_654.out _;(with_reducible repeat(first|refine Yl ?_ _|refine Ym ?_|refine Yj ?_ _));refine blk_far ?_ NB618_654.out _;(with_reducible repeat(first|refine Yl ?_ _|refine Ym ?_|refine Yj ?_ _));exact Zv.out))⟩;replace Zt:Aside0 (w75.heap[Xm]? =some (.cells #[u620000,u620001] 54 (0,0))):=⟨(by rw[hw];exact(by(with_reducible repeat(first|refine Yl ?_ _|refine Ym ?_|refine Yj ?_ _));refine blk_far ?_ NB619_654.out _;(with_reducible repeat(first|refine Yl ?_ _|refine Ym ?_|refine Yj ?_ _));refine blk_far ?_ NB619_654.out _;(with_reducible repeat(first|refine Yl ?_ _|refine Ym ?_|refine Yj ?_ _));exact Zt.out))⟩;replace BK654:Aside0 (w75.heap[Wh]? =some (.cells #[.slice Ao70 t647.length co70, .int .i64 t650] 47 (0,0))):=⟨(by rw[hw];exact(by(with_reducible repeat(first|refine Yl ?_ _|refine Ym ?_|refine Yj ?_ _));refine YA (cs:= #[.slice Ao70 t647.length co70, .int .i64 0]) ?_ 1 _ rfl;(with_reducible repeat(first|refine Yl ?_ _|refine Ym ?_|refine Yj ?_ _));refine YA (cs:= #[.slice none 0 0, .int .i64 0]) ?_ 0 _ rfl;(with_reducible repeat(first|refine Yl ?_ _|refine Ym ?_|refine Yj ?_ _));exact BK654.out))⟩;replace HB:Aside0 (Below w.heap.size w w75):=⟨(by rw[hw];exact bl)⟩;clear hw;have hnb76:=Jh.out;have hnc76:=Ub.out;have hnb77:=NB619_618.out;have hnc77:=Ji.out;have hcz78_0:w75.cell? ⟨Xm,0,none⟩=some (u620000):=bc Zt 0;have hcz78_1:w75.cell? ⟨Xm,1,none⟩=some (u620001):=bc Zt 1;have hfz78_0:=Yf Zt.out 0;have hfz78_1:=Yf Zt.out 1;have hcz79_0:w75.cell? ⟨Wh,0,none⟩=some (.slice Ao70 t647.length co70):=bc BK654 0;have hcz79_1:w75.cell? ⟨Wh,1,none⟩=some (.int .i64 t650):=bc BK654 1;have hfz79_0:=Yf BK654.out 0;have hfz79_1:=Yf BK654.out 1)|((with_reducible refine gate_builtin (b:= .append) (xs:= #[.tmp 77, .tmp 79]) rfl ?_);at_builtin;refine Kd.S_append k47 (w0:=w) w.heap.size rfl (.tmp 77) (.tmp 79) 42 47 (.agg #[(.slice none 0 0),(.int .i64 0)]) 32 rfl Try.underlying42 info47 rfl (by decide) (by omega) u620000 Uc (⟨t647,t650⟩:S47) [.slice Ao70 t647.length co70, .int .i64 t650] (fun k_=>(w.heap.size≤k_)∧some k_≠(u620001:Value).ownBlock∧some k_≠(v652:Value).ownBlock∧k_≠Wh) (fun k_=>some k_=(.slice Ao70 t647.length co70:Value).ownBlock) rfl rfl ?aP (fun k_ hk_=>((Kd.R_mono (ok':=fun k_=>((fun k_=>(w.heap.size≤k_)∧some k_≠(u620001:Value).ownBlock∧some k_≠(v652:Value).ownBlock∧k_≠Wh)) k_∧some k_≠(u620000:Value).ownBlock) (Kd.R_types (Kd.R_apart' (Kd.R_apart' (HO649.out) (Kd.S_typed HO_620001.out) (by decide)) (Kd.S_typed HO_620000.out) (by decide)) BK654.out (by decide)) (fun k_ hk=>⟨⟨hk.1.1.1.1,⟨hk.1.1.2,⟨hk.1.1.1.2,hk.2⟩⟩⟩,hk.1.2⟩))).1 k_ hk_.symm) ?aF ?aO ?aB ?aS ?aL ?_;(case aP=>exact k47_mkM _ _ _ (⟨t647,t650⟩:S47) (Kd.R_mono (Kd.R_tight rfl (Kd.R_mono (ok':=fun k_=>((fun k_=>(w.heap.size≤k_)∧some k_≠(u620001:Value).ownBlock∧some k_≠(v652:Value).ownBlock∧k_≠Wh)) k_∧some k_≠(u620000:Value).ownBlock) (Kd.R_types (Kd.R_apart' (Kd.R_apart' (HO649.out) (Kd.S_typed HO_620001.out) (by decide)) (Kd.S_typed HO_620000.out) (by decide)) BK654.out (by decide)) (fun k_ hk=>⟨⟨hk.1.1.1.1,⟨hk.1.1.2,⟨hk.1.1.1.2,hk.2⟩⟩⟩,hk.1.2⟩))) (fun _ h_=>h_)));(case aB=>exact bl);(case aF=>exact(fun k_ hk=>⟨(Nat.le_trans (Yi bl) hk),Kd.fresh' (Kd.S_lt (kS HO_620001)) k_ hk,Kd.fresh' (Kd.R_lt (kR HO653)) k_ hk,Kd.freshB (g:=Wh) (o:= .cells #[.slice Ao70 t647.length co70, .int .i64 t650] 47 (0,0)) (bk BK654) k_ hk⟩));(case aO=>exact(by(with_reducible repeat(first|apply Kd.S_alloc|apply Kd.S_drewN|apply Kd.S_drew));exact Kd.S_mono HO_620000.out (fun k_ hk=>⟨⟨hk.1,⟨hk.2.1,⟨hk.2.2.2.1,hk.2.2.2.2⟩⟩⟩,fun e_=>hk.2.2.1 e_⟩)));(case aS=>exact(Yi bl));(case aL=>have:=LMc59.out;omega);intro v656 w80 ho hb hg hat;rw[← Ny655.out] at ho;replace HO_3:=Ya (Kd.V_afterv (ok:=(fun k_=>(P3_ k_∨w.heap.size≤k_)∧some k_≠(u620001:Value).ownBlock∧some k_≠(.slice Ao63 t637.length co63:Value).ownBlock∧some k_≠(.slice Ao65 t640.length co65:Value).ownBlock∧some k_≠(.slice Ao70 t647.length co70:Value).ownBlock∧some k_≠(v652:Value).ownBlock∧k_≠Xl∧k_≠Xu∧k_≠Xm∧k_≠Wh)) (by(with_reducible repeat(first|apply Kd.V_alloc|apply Kd.V_drewN|apply Kd.V_drew));exact Kd.V_mono HO_3.out (fun _ hk=>⟨⟨hk.1,⟨hk.2.2.1,⟨hk.2.2.2.1,⟨hk.2.2.2.2.1,⟨hk.2.2.2.2.2.1,⟨hk.2.2.2.2.2.2.1,⟨hk.2.2.2.2.2.2.2.1,⟨hk.2.2.2.2.2.2.2.2.1,⟨hk.2.2.2.2.2.2.2.2.2.1,hk.2.2.2.2.2.2.2.2.2.2⟩⟩⟩⟩⟩⟩⟩⟩⟩,hk.2.1⟩)) hg hat);replace HO_620001:=Ya (Kd.S_after (ok:=(fun k_=>(w.heap.size≤k_)∧some k_≠(.slice Ao70 t647.length co70:Value).ownBlock∧some k_≠(v652:Value).ownBlock∧k_≠Wh)) (by(with_reducible repeat(first|apply Kd.S_alloc|apply Kd.S_drewN|apply Kd.S_drew));exact Kd.S_mono HO_620001.out (fun _ hk=>⟨⟨hk.1,⟨hk.2.2.1,⟨hk.2.2.2.1,hk.2.2.2.2⟩⟩⟩,hk.2.1⟩)) hg hat);replace Zm:=Ya (blk_grown (bk Zm) hg (Kd.S_ne HO_620000.out Zm.out (by decide)));replace Zv:=Ya (blk_grown (bk Zv) hg (Kd.S_ne HO_620000.out Zv.out (by decide)));replace Zt:=Ya (blk_grown (bk Zt) hg (Kd.S_ne HO_620000.out Zt.out (by decide)));replace Je:=Ya (Kd.R_over' (kR Je) (Kd.S_typed (kS HO_620000)) (by decide) hg);replace HO642:=Ya (Kd.R_over' (kR HO642) (Kd.S_typed (kS HO_620000)) (by decide) hg);replace HO653:=Ya (Kd.R_over' (kR HO653) (Kd.S_typed (kS HO_620000)) (by decide) hg);replace BK654:=Ya (blk_grown (bk BK654) hg (Kd.S_away HO_620000.out (fun _ hk=>hk.2.2.2.2)));replace HB:=Ya (hb);have HO657:=Ya (ho);clear HO_620000 HO649;clear ho hb hg hat;obtain⟨Ao81,co81,eo81⟩:=Kd.S_slice HO657.out;subst eo81;have hcz82_0:w80.cell? ⟨Xm,0,none⟩=some (u620000):=bc Zt 0;have hcz82_1:w80.cell? ⟨Xm,1,none⟩=some (u620001):=bc Zt 1;have hfz82_0:=Yf Zt.out 0;have hfz82_1:=Yf Zt.out 1))
     go_roundg k2
     case measure=>have:=HK1.out;have:=HK2.out;omega
     case rel=>exact⟨(t651),(y655),(.slice Ao81 y655.length co81),H',⟨by have:=HK1.out;have:=HK2.out;omega⟩,⟨Kd.V_mono (Kd.R_V (Kd.R_far (p:=⟨Xm,0,none⟩) (Kd.R_types (Kd.R_types (Kd.R_types (Kd.R_types (Kd.R_apart' (Kd.R_apart' HO653.out (Kd.S_typed HO657.out) (by decide)) (Kd.S_typed HO_620001.out) (by decide)) Zm.out (by decide)) Zv.out (by decide)) Zt.out (by decide)) Zt.out (by decide)) (fun _ hk=>hk.2) (.slice Ao81 y655.length co81))) (fun _ hk=>⟨(.inr hk.1.1.1.1.1.1.1),⟨hk.1.1.1.1.1.2,⟨hk.1.1.1.1.2,⟨hk.1.1.1.2,⟨hk.1.1.2,hk.1.2⟩⟩⟩⟩⟩)⟩,⟨by(with_reducible repeat(first|apply Kd.S_alloc|apply Kd.S_drewN|apply Kd.S_drew));exact Kd.S_mono (Kd.S_far (p:=⟨Xm,0,none⟩) (Kd.S_types HO657.out Zt.out (by decide)) (fun _ hk=>hk.2) (.slice Ao81 y655.length co81)) (fun _ hk=>⟨hk.1.1,hk.1.2.1⟩)⟩,⟨by(with_reducible repeat(first|apply Kd.S_alloc|apply Kd.S_drewN|apply Kd.S_drew));exact Kd.S_mono (Kd.S_far (p:=⟨Xm,0,none⟩) (Kd.S_types HO_620001.out Zt.out (by decide)) (fun _ hk=>hk.2) (.slice Ao81 y655.length co81)) (fun _ hk=>⟨hk.1.1.1,hk.1.2⟩)⟩,⟨by(with_reducible repeat(first|refine Yl ?_ _|refine Ym ?_|refine Yj ?_ _));refine blk_far ?_ Ub.out _;(with_reducible repeat(first|refine Yl ?_ _|refine Ym ?_|refine Yj ?_ _));exact Zm.out⟩,⟨by(with_reducible repeat(first|refine Yl ?_ _|refine Ym ?_|refine Yj ?_ _));refine blk_far ?_ Ji.out _;(with_reducible repeat(first|refine Yl ?_ _|refine Ym ?_|refine Yj ?_ _));exact Zv.out⟩,⟨by(with_reducible repeat(first|refine Yl ?_ _|refine Ym ?_|refine Yj ?_ _));refine YA (cs:= #[u620000,u620001]) ?_ 0 _ rfl;(with_reducible repeat(first|refine Yl ?_ _|refine Ym ?_|refine Yj ?_ _));exact Zt.out⟩,⟨bl⟩⟩
end P
namespace H
open P
def fewN (n nd:Int):Int:=if nd<n∧n≤50 then nd else n
def fewL (l:List S50) (ar:Nat):List S50:=if ar<l.length∧l.length≤200 then l.take ar else l
theorem fewL_C {w:World} {A:Option Addr} {l:List S50} (h:Kd.C k50 w A l.length l) (ar:Nat):Kd.C k50 w A (fewL l ar).length (fewL l ar):=by
 unfold fewL;split
 ·exact Kd.C_take h (by omega)
 ·exact h
theorem fewL_le (l:List S50) (ar:Nat):(fewL l ar).length≤l.length:=by
 unfold fewL;split
 ·rw[List.length_take];omega
 ·exact Nat.le_refl _
set_option maxHeartbeats 4000000 in
set_option maxRecDepth 100000 in
theorem few_calls (n:Int) (b:Bool) (A:Option Addr) (c:Nat) (l:List S50) (nd:Int) (ar:Nat) (w:World) (har:ar≤200) (hc:l.length≤c) (hC:Kd.C k50 w A l.length l):
  Calls Try.prog 9 #[.agg #[.int .i64 n, .bool b, .slice A l.length c], .int .i64 nd, .int .i64 (ar:Int)] w fun e w'=>e= .returned (.agg #[.int .i64 (fewN n nd), .bool b, .slice A (fewL l ar).length c])∧Below w.heap.size w w':=by
 have hu24:=Try.underlying24;have hu22:=Try.underlying22;have hA:0<l.length→ ∃ ad,A=some ad:=fun h=>by obtain⟨ad,e,_⟩:=hC.2.2 h;exact⟨ad,e⟩
 have HAD:=Ya hA;clear hA hC;go_enter Try.func9,Try.ntmps9;go_upto_region 1 with (first|((with_reducible refine gate_dst (N:=3) rfl ?_);refine Yz ?hg (N:=3) ?hd (cs:= #[.int .i64 n, .bool b, .slice A l.length c]) (t:=24) ?hr ?_;(case hd=>rfl);(case hg=>rfl);(case hr=>first|(go_simp;done)|(go_simp;rfl));intro g3 hg3 w5 Zf hb;have B3:=Ya Zf;have HB:=Ya hb;have HG3:=Ya hg3;clear hg3 Zf hb)|fail)
 have B6:Aside0 ((w5.alloc (.cells #[.int .i64 0, .bool false, .slice none 0 0] 24)).heap[w5.heap.size]? =some (.cells #[.int .i64 0, .bool false, .slice none 0 0] 24 (0,0))):=⟨heap_alloc_new w5 _⟩;have m0_:=Ya (Yn B3.out (Ye (Yo _ _) (.cells #[.int .i64 0, .bool false, .slice none 0 0] 24)));have m1_:=Ya (Ye HB.out (.cells #[.int .i64 0, .bool false, .slice none 0 0] 24));have hg36:g3<w5.heap.size:=blk_lt B3.out;have hgw:w.heap.size≤g3:=by have:=HG3.out;omega
 clear B3 HB HG3;have B3:=m0_;have HB:=m1_;clear m0_ m1_;generalize w5.alloc (.cells #[.int .i64 0, .bool false, .slice none 0 0] 24)=w6 at *;generalize w5.heap.size=g6 at *;have h0:w6.cell? ⟨g3,0,none⟩=some (.int .i64 n):=(Yc B3.out 0).trans rfl;have h1:w6.cell? ⟨g3,1,none⟩=some (.bool b):=(Yc B3.out 1).trans rfl;have h2:w6.cell? ⟨g3,2,none⟩=some (.slice A l.length c):=(Yc B3.out 2).trans rfl;have f0:=Yf B3.out 0;have hg63:g6≠g3:=by omega
 have hgw6:w.heap.size≤g6:=by omega
 by_cases hn:nd<n
 ·have e1:decide (nd<n)=true:=Yv hn
  by_cases h50:n≤50
  ·have e2:decide (n≤50)=true:=Yv h50
   have e3:fewN n nd=nd:=by unfold fewN;rw[Yx ⟨hn,h50⟩]
   have E3:=Ya e3;clear e3;go_upto_region 3 with fail
   have C3:Aside0 ((w6.setCell ⟨g3,0,none⟩ (.int .i64 nd)).heap[g3]? =some (.cells #[.int .i64 nd, .bool b, .slice A l.length c] 24 (0,0))):=⟨(blk_set B3.out 0 (.int .i64 nd)).trans rfl⟩;have C6:Aside0 ((w6.setCell ⟨g3,0,none⟩ (.int .i64 nd)).heap[g6]? =some (.cells #[.int .i64 0, .bool false, .slice none 0 0] 24 (0,0))):=⟨blk_far B6.out (p:=⟨g3,0,none⟩) hg63 _⟩;have HC:Aside0 (Below w.heap.size w (w6.setCell ⟨g3,0,none⟩ (.int .i64 nd))):=⟨Yh HB.out hgw⟩;clear B3 B6 HB h0 h1 h2 f0;generalize w6.setCell ⟨g3,0,none⟩ (.int .i64 nd)=w7 at *;have f2:=Yf C3.out 2;have x2:w7.cell? ⟨g3,2,none⟩=some (.slice A l.length c):=(Yc C3.out 2).trans rfl;by_cases hl:ar<l.length
   ·have d1:decide ((ar:Int)<(l.length:Int))=true:=Yv (by omega)
    by_cases hl2:l.length≤200
    ·have d2:decide ((l.length:Int)≤200)=true:=Yv (by omega)
     obtain⟨ad,rfl⟩:=HAD.out (by omega);have r1:(0:Int)≤(ar:Int):=by omega
     have r2:(ar:Int)≤(c:Int):=by omega
     have e4:(fewL l ar).length=ar:=by unfold fewL;rw[Yx ⟨hl,hl2⟩,List.length_take];omega
     have E4:=Ya e4;clear e4;go_upto_region 5 with fail
     have D3:Aside0 ((w7.setCell ⟨g3,2,none⟩ (.slice (some ad) ar c)).heap[g3]? =some (.cells #[.int .i64 nd, .bool b, .slice (some ad) ar c] 24 (0,0))):=⟨(blk_set C3.out 2 _).trans rfl⟩;have D6:Aside0 ((w7.setCell ⟨g3,2,none⟩ (.slice (some ad) ar c)).heap[g6]? =some (.cells #[.int .i64 0, .bool false, .slice none 0 0] 24 (0,0))):=⟨blk_far C6.out (p:=⟨g3,2,none⟩) hg63 _⟩;have HD:Aside0 (Below w.heap.size w (w7.setCell ⟨g3,2,none⟩ (.slice (some ad) ar c))):=⟨Yh HC.out hgw⟩;clear C3 C6 HC f2 x2;generalize w7.setCell ⟨g3,2,none⟩ (.slice (some ad) ar c)=w8 at *;have C3:=D3;have C6:=D6;have HC:=HD;clear D3 D6 HD;have k0:w8.cell? ⟨g3,0,none⟩=some (.int .i64 nd):=(Yc C3.out 0).trans rfl;have k1:w8.cell? ⟨g3,1,none⟩=some (.bool b):=(Yc C3.out 1).trans rfl;have k2:w8.cell? ⟨g3,2,none⟩=some (.slice (some ad) ar c):=(Yc C3.out 2).trans rfl;have j0:w8.cell? ⟨g6,0,none⟩=some (.int .i64 0):=(Yc C6.out 0).trans rfl;have j1:w8.cell? ⟨g6,1,none⟩=some (.bool false):=(Yc C6.out 1).trans rfl;have j2:w8.cell? ⟨g6,2,none⟩=some (.slice none 0 0):=(Yc C6.out 2).trans rfl;have q0:=Yf C6.out 0;have q1:=Yf C6.out 1;have q2:=Yf C6.out 2;go_wp2_with fail;refine bodyPost_ret (results_cell_row rfl _ _ g6 24 #[.int .i64 nd, .bool b, .slice (some ad) ar c] (0,0) _ rfl (YA (cs:= #[.int .i64 nd, .bool b, .slice none 0 0]) (YA (cs:= #[.int .i64 nd, .bool false, .slice none 0 0]) (YA (cs:= #[.int .i64 0, .bool false, .slice none 0 0]) C6.out 0 _ rfl) 1 _ rfl) 2 _ rfl) Try.underlying24 rfl (by kernel_rfl)) rfl ?_;exact⟨by rw[E3.out,E4.out],Yh (Yh (Yh HC.out hgw6) hgw6) hgw6⟩
    ·have d2:decide ((l.length:Int)≤200)=false:=Yw (by omega)
     have e4:fewL l ar=l:=by unfold fewL;rw[Yy (fun h=>by omega)]
     have E4:=Ya e4;clear e4;go_upto_region 5 with fail
     clear f2 x2;have k0:w7.cell? ⟨g3,0,none⟩=some (.int .i64 nd):=(Yc C3.out 0).trans rfl;have k1:w7.cell? ⟨g3,1,none⟩=some (.bool b):=(Yc C3.out 1).trans rfl;have k2:w7.cell? ⟨g3,2,none⟩=some (.slice A l.length c):=(Yc C3.out 2).trans rfl;have j0:w7.cell? ⟨g6,0,none⟩=some (.int .i64 0):=(Yc C6.out 0).trans rfl;have j1:w7.cell? ⟨g6,1,none⟩=some (.bool false):=(Yc C6.out 1).trans rfl;have j2:w7.cell? ⟨g6,2,none⟩=some (.slice none 0 0):=(Yc C6.out 2).trans rfl;have q0:=Yf C6.out 0;have q1:=Yf C6.out 1;have q2:=Yf C6.out 2;go_wp2_with fail;refine bodyPost_ret (results_cell_row rfl _ _ g6 24 #[.int .i64 nd, .bool b, .slice A l.length c] (0,0) _ rfl (YA (cs:= #[.int .i64 nd, .bool b, .slice none 0 0]) (YA (cs:= #[.int .i64 nd, .bool false, .slice none 0 0]) (YA (cs:= #[.int .i64 0, .bool false, .slice none 0 0]) C6.out 0 _ rfl) 1 _ rfl) 2 _ rfl) Try.underlying24 rfl (by kernel_rfl)) rfl ?_;exact⟨by rw[E3.out,E4.out],Yh (Yh (Yh HC.out hgw6) hgw6) hgw6⟩
   ·have d1:decide ((ar:Int)<(l.length:Int))=false:=Yw (by omega)
    have e4:fewL l ar=l:=by unfold fewL;rw[Yy (fun h=>by omega)]
    have E4:=Ya e4;clear e4;go_upto_region 5 with fail
    clear f2 x2;have k0:w7.cell? ⟨g3,0,none⟩=some (.int .i64 nd):=(Yc C3.out 0).trans rfl;have k1:w7.cell? ⟨g3,1,none⟩=some (.bool b):=(Yc C3.out 1).trans rfl;have k2:w7.cell? ⟨g3,2,none⟩=some (.slice A l.length c):=(Yc C3.out 2).trans rfl;have j0:w7.cell? ⟨g6,0,none⟩=some (.int .i64 0):=(Yc C6.out 0).trans rfl;have j1:w7.cell? ⟨g6,1,none⟩=some (.bool false):=(Yc C6.out 1).trans rfl;have j2:w7.cell? ⟨g6,2,none⟩=some (.slice none 0 0):=(Yc C6.out 2).trans rfl;have q0:=Yf C6.out 0;have q1:=Yf C6.out 1;have q2:=Yf C6.out 2;go_wp2_with fail;refine bodyPost_ret (results_cell_row rfl _ _ g6 24 #[.int .i64 nd, .bool b, .slice A l.length c] (0,0) _ rfl (YA (cs:= #[.int .i64 nd, .bool b, .slice none 0 0]) (YA (cs:= #[.int .i64 nd, .bool false, .slice none 0 0]) (YA (cs:= #[.int .i64 0, .bool false, .slice none 0 0]) C6.out 0 _ rfl) 1 _ rfl) 2 _ rfl) Try.underlying24 rfl (by kernel_rfl)) rfl ?_;exact⟨by rw[E3.out,E4.out],Yh (Yh (Yh HC.out hgw6) hgw6) hgw6⟩
  ·have e2:decide (n≤50)=false:=Yw h50
   have e3:fewN n nd=n:=by unfold fewN;rw[Yy (fun h=>by omega)]
   have E3:=Ya e3;clear e3 h0 h1 h2 f0;have C3:=B3;have C6:=B6;have HC:=HB;clear B3 B6 HB;have h0:w6.cell? ⟨g3,0,none⟩=some (.int .i64 n):=(Yc C3.out 0).trans rfl;go_upto_region 3 with fail
   clear h0;have f2:=Yf C3.out 2;have x2:w6.cell? ⟨g3,2,none⟩=some (.slice A l.length c):=(Yc C3.out 2).trans rfl;by_cases hl:ar<l.length
   ·have d1:decide ((ar:Int)<(l.length:Int))=true:=Yv (by omega)
    by_cases hl2:l.length≤200
    ·have d2:decide ((l.length:Int)≤200)=true:=Yv (by omega)
     obtain⟨ad,rfl⟩:=HAD.out (by omega);have r1:(0:Int)≤(ar:Int):=by omega
     have r2:(ar:Int)≤(c:Int):=by omega
     have e4:(fewL l ar).length=ar:=by unfold fewL;rw[Yx ⟨hl,hl2⟩,List.length_take];omega
     have E4:=Ya e4;clear e4;go_upto_region 5 with fail
     have D3:Aside0 ((w6.setCell ⟨g3,2,none⟩ (.slice (some ad) ar c)).heap[g3]? =some (.cells #[.int .i64 n, .bool b, .slice (some ad) ar c] 24 (0,0))):=⟨(blk_set C3.out 2 _).trans rfl⟩;have D6:Aside0 ((w6.setCell ⟨g3,2,none⟩ (.slice (some ad) ar c)).heap[g6]? =some (.cells #[.int .i64 0, .bool false, .slice none 0 0] 24 (0,0))):=⟨blk_far C6.out (p:=⟨g3,2,none⟩) hg63 _⟩;have HD:Aside0 (Below w.heap.size w (w6.setCell ⟨g3,2,none⟩ (.slice (some ad) ar c))):=⟨Yh HC.out hgw⟩;clear C3 C6 HC f2 x2;generalize w6.setCell ⟨g3,2,none⟩ (.slice (some ad) ar c)=w8 at *;have C3:=D3;have C6:=D6;have HC:=HD;clear D3 D6 HD;have k0:w8.cell? ⟨g3,0,none⟩=some (.int .i64 n):=(Yc C3.out 0).trans rfl;have k1:w8.cell? ⟨g3,1,none⟩=some (.bool b):=(Yc C3.out 1).trans rfl;have k2:w8.cell? ⟨g3,2,none⟩=some (.slice (some ad) ar c):=(Yc C3.out 2).trans rfl;have j0:w8.cell? ⟨g6,0,none⟩=some (.int .i64 0):=(Yc C6.out 0).trans rfl;have j1:w8.cell? ⟨g6,1,none⟩=some (.bool false):=(Yc C6.out 1).trans rfl;have j2:w8.cell? ⟨g6,2,none⟩=some (.slice none 0 0):=(Yc C6.out 2).trans rfl;have q0:=Yf C6.out 0;have q1:=Yf C6.out 1;have q2:=Yf C6.out 2;go_wp2_with fail;refine bodyPost_ret (results_cell_row rfl _ _ g6 24 #[.int .i64 n, .bool b, .slice (some ad) ar c] (0,0) _ rfl (YA (cs:= #[.int .i64 n, .bool b, .slice none 0 0]) (YA (cs:= #[.int .i64 n, .bool false, .slice none 0 0]) (YA (cs:= #[.int .i64 0, .bool false, .slice none 0 0]) C6.out 0 _ rfl) 1 _ rfl) 2 _ rfl) Try.underlying24 rfl (by kernel_rfl)) rfl ?_;exact⟨by rw[E3.out,E4.out],Yh (Yh (Yh HC.out hgw6) hgw6) hgw6⟩
    ·have d2:decide ((l.length:Int)≤200)=false:=Yw (by omega)
     have e4:fewL l ar=l:=by unfold fewL;rw[Yy (fun h=>by omega)]
     have E4:=Ya e4;clear e4;go_upto_region 5 with fail
     clear f2 x2;have k0:w6.cell? ⟨g3,0,none⟩=some (.int .i64 n):=(Yc C3.out 0).trans rfl;have k1:w6.cell? ⟨g3,1,none⟩=some (.bool b):=(Yc C3.out 1).trans rfl;have k2:w6.cell? ⟨g3,2,none⟩=some (.slice A l.length c):=(Yc C3.out 2).trans rfl;have j0:w6.cell? ⟨g6,0,none⟩=some (.int .i64 0):=(Yc C6.out 0).trans rfl;have j1:w6.cell? ⟨g6,1,none⟩=some (.bool false):=(Yc C6.out 1).trans rfl;have j2:w6.cell? ⟨g6,2,none⟩=some (.slice none 0 0):=(Yc C6.out 2).trans rfl;have q0:=Yf C6.out 0;have q1:=Yf C6.out 1;have q2:=Yf C6.out 2;go_wp2_with fail;refine bodyPost_ret (results_cell_row rfl _ _ g6 24 #[.int .i64 n, .bool b, .slice A l.length c] (0,0) _ rfl (YA (cs:= #[.int .i64 n, .bool b, .slice none 0 0]) (YA (cs:= #[.int .i64 n, .bool false, .slice none 0 0]) (YA (cs:= #[.int .i64 0, .bool false, .slice none 0 0]) C6.out 0 _ rfl) 1 _ rfl) 2 _ rfl) Try.underlying24 rfl (by kernel_rfl)) rfl ?_;exact⟨by rw[E3.out,E4.out],Yh (Yh (Yh HC.out hgw6) hgw6) hgw6⟩
   ·have d1:decide ((ar:Int)<(l.length:Int))=false:=Yw (by omega)
    have e4:fewL l ar=l:=by unfold fewL;rw[Yy (fun h=>by omega)]
    have E4:=Ya e4;clear e4;go_upto_region 5 with fail
    clear f2 x2;have k0:w6.cell? ⟨g3,0,none⟩=some (.int .i64 n):=(Yc C3.out 0).trans rfl;have k1:w6.cell? ⟨g3,1,none⟩=some (.bool b):=(Yc C3.out 1).trans rfl;have k2:w6.cell? ⟨g3,2,none⟩=some (.slice A l.length c):=(Yc C3.out 2).trans rfl;have j0:w6.cell? ⟨g6,0,none⟩=some (.int .i64 0):=(Yc C6.out 0).trans rfl;have j1:w6.cell? ⟨g6,1,none⟩=some (.bool false):=(Yc C6.out 1).trans rfl;have j2:w6.cell? ⟨g6,2,none⟩=some (.slice none 0 0):=(Yc C6.out 2).trans rfl;have q0:=Yf C6.out 0;have q1:=Yf C6.out 1;have q2:=Yf C6.out 2;go_wp2_with fail;refine bodyPost_ret (results_cell_row rfl _ _ g6 24 #[.int .i64 n, .bool b, .slice A l.length c] (0,0) _ rfl (YA (cs:= #[.int .i64 n, .bool b, .slice none 0 0]) (YA (cs:= #[.int .i64 n, .bool false, .slice none 0 0]) (YA (cs:= #[.int .i64 0, .bool false, .slice none 0 0]) C6.out 0 _ rfl) 1 _ rfl) 2 _ rfl) Try.underlying24 rfl (by kernel_rfl)) rfl ?_;exact⟨by rw[E3.out,E4.out],Yh (Yh (Yh HC.out hgw6) hgw6) hgw6⟩
 ·have e1:decide (nd<n)=false:=Yw hn
  have e3:fewN n nd=n:=by unfold fewN;rw[Yy (fun h=>by omega)]
  have E3:=Ya e3;clear e3 h0 h1 h2 f0;have C3:=B3;have C6:=B6;have HC:=HB;clear B3 B6 HB;have h0:w6.cell? ⟨g3,0,none⟩=some (.int .i64 n):=(Yc C3.out 0).trans rfl;go_upto_region 3 with fail
  clear h0;have f2:=Yf C3.out 2;have x2:w6.cell? ⟨g3,2,none⟩=some (.slice A l.length c):=(Yc C3.out 2).trans rfl;by_cases hl:ar<l.length
  ·have d1:decide ((ar:Int)<(l.length:Int))=true:=Yv (by omega)
   by_cases hl2:l.length≤200
   ·have d2:decide ((l.length:Int)≤200)=true:=Yv (by omega)
    obtain⟨ad,rfl⟩:=HAD.out (by omega);have r1:(0:Int)≤(ar:Int):=by omega
    have r2:(ar:Int)≤(c:Int):=by omega
    have e4:(fewL l ar).length=ar:=by unfold fewL;rw[Yx ⟨hl,hl2⟩,List.length_take];omega
    have E4:=Ya e4;clear e4;go_upto_region 5 with fail
    have D3:Aside0 ((w6.setCell ⟨g3,2,none⟩ (.slice (some ad) ar c)).heap[g3]? =some (.cells #[.int .i64 n, .bool b, .slice (some ad) ar c] 24 (0,0))):=⟨(blk_set C3.out 2 _).trans rfl⟩;have D6:Aside0 ((w6.setCell ⟨g3,2,none⟩ (.slice (some ad) ar c)).heap[g6]? =some (.cells #[.int .i64 0, .bool false, .slice none 0 0] 24 (0,0))):=⟨blk_far C6.out (p:=⟨g3,2,none⟩) hg63 _⟩;have HD:Aside0 (Below w.heap.size w (w6.setCell ⟨g3,2,none⟩ (.slice (some ad) ar c))):=⟨Yh HC.out hgw⟩;clear C3 C6 HC f2 x2;generalize w6.setCell ⟨g3,2,none⟩ (.slice (some ad) ar c)=w8 at *;have C3:=D3;have C6:=D6;have HC:=HD;clear D3 D6 HD;have k0:w8.cell? ⟨g3,0,none⟩=some (.int .i64 n):=(Yc C3.out 0).trans rfl;have k1:w8.cell? ⟨g3,1,none⟩=some (.bool b):=(Yc C3.out 1).trans rfl;have k2:w8.cell? ⟨g3,2,none⟩=some (.slice (some ad) ar c):=(Yc C3.out 2).trans rfl;have j0:w8.cell? ⟨g6,0,none⟩=some (.int .i64 0):=(Yc C6.out 0).trans rfl;have j1:w8.cell? ⟨g6,1,none⟩=some (.bool false):=(Yc C6.out 1).trans rfl;have j2:w8.cell? ⟨g6,2,none⟩=some (.slice none 0 0):=(Yc C6.out 2).trans rfl;have q0:=Yf C6.out 0;have q1:=Yf C6.out 1;have q2:=Yf C6.out 2;go_wp2_with fail;refine bodyPost_ret (results_cell_row rfl _ _ g6 24 #[.int .i64 n, .bool b, .slice (some ad) ar c] (0,0) _ rfl (YA (cs:= #[.int .i64 n, .bool b, .slice none 0 0]) (YA (cs:= #[.int .i64 n, .bool false, .slice none 0 0]) (YA (cs:= #[.int .i64 0, .bool false, .slice none 0 0]) C6.out 0 _ rfl) 1 _ rfl) 2 _ rfl) Try.underlying24 rfl (by kernel_rfl)) rfl ?_;exact⟨by rw[E3.out,E4.out],Yh (Yh (Yh HC.out hgw6) hgw6) hgw6⟩
   ·have d2:decide ((l.length:Int)≤200)=false:=Yw (by omega)
    have e4:fewL l ar=l:=by unfold fewL;rw[Yy (fun h=>by omega)]
    have E4:=Ya e4;clear e4;go_upto_region 5 with fail
    clear f2 x2;have k0:w6.cell? ⟨g3,0,none⟩=some (.int .i64 n):=(Yc C3.out 0).trans rfl;have k1:w6.cell? ⟨g3,1,none⟩=some (.bool b):=(Yc C3.out 1).trans rfl;have k2:w6.cell? ⟨g3,2,none⟩=some (.slice A l.length c):=(Yc C3.out 2).trans rfl;have j0:w6.cell? ⟨g6,0,none⟩=some (.int .i64 0):=(Yc C6.out 0).trans rfl;have j1:w6.cell? ⟨g6,1,none⟩=some (.bool false):=(Yc C6.out 1).trans rfl;have j2:w6.cell? ⟨g6,2,none⟩=some (.slice none 0 0):=(Yc C6.out 2).trans rfl;have q0:=Yf C6.out 0;have q1:=Yf C6.out 1;have q2:=Yf C6.out 2;go_wp2_with fail;refine bodyPost_ret (results_cell_row rfl _ _ g6 24 #[.int .i64 n, .bool b, .slice A l.length c] (0,0) _ rfl (YA (cs:= #[.int .i64 n, .bool b, .slice none 0 0]) (YA (cs:= #[.int .i64 n, .bool false, .slice none 0 0]) (YA (cs:= #[.int .i64 0, .bool false, .slice none 0 0]) C6.out 0 _ rfl) 1 _ rfl) 2 _ rfl) Try.underlying24 rfl (by kernel_rfl)) rfl ?_;exact⟨by rw[E3.out,E4.out],Yh (Yh (Yh HC.out hgw6) hgw6) hgw6⟩
  ·have d1:decide ((ar:Int)<(l.length:Int))=false:=Yw (by omega)
   have e4:fewL l ar=l:=by unfold fewL;rw[Yy (fun h=>by omega)]
   have E4:=Ya e4;clear e4;go_upto_region 5 with fail
   clear f2 x2;have k0:w6.cell? ⟨g3,0,none⟩=some (.int .i64 n):=(Yc C3.out 0).trans rfl;have k1:w6.cell? ⟨g3,1,none⟩=some (.bool b):=(Yc C3.out 1).trans rfl;have k2:w6.cell? ⟨g3,2,none⟩=some (.slice A l.length c):=(Yc C3.out 2).trans rfl;have j0:w6.cell? ⟨g6,0,none⟩=some (.int .i64 0):=(Yc C6.out 0).trans rfl;have j1:w6.cell? ⟨g6,1,none⟩=some (.bool false):=(Yc C6.out 1).trans rfl;have j2:w6.cell? ⟨g6,2,none⟩=some (.slice none 0 0):=(Yc C6.out 2).trans rfl;have q0:=Yf C6.out 0;have q1:=Yf C6.out 1;have q2:=Yf C6.out 2;go_wp2_with fail;refine bodyPost_ret (results_cell_row rfl _ _ g6 24 #[.int .i64 n, .bool b, .slice A l.length c] (0,0) _ rfl (YA (cs:= #[.int .i64 n, .bool b, .slice none 0 0]) (YA (cs:= #[.int .i64 n, .bool false, .slice none 0 0]) (YA (cs:= #[.int .i64 0, .bool false, .slice none 0 0]) C6.out 0 _ rfl) 1 _ rfl) 2 _ rfl) Try.underlying24 rfl (by kernel_rfl)) rfl ?_;exact⟨by rw[E3.out,E4.out],Yh (Yh (Yh HC.out hgw6) hgw6) hgw6⟩
end H
namespace Q
open P
open H (Right StepsOk StepOf wayRes wayF_eq alongL arcsOf amt lessA Link GoA cycA cycF chF reach wayA way_along splitR cleanR posN Rea Parts SplitOk IsFlow Acyc tot lessA_len lessA_get eFrom eTo)
theorem along_l0 (F:List Int) (hF:F.length≤200) (d:Nat): ∀ i:Nat,i+d=F.length→(alongL F i).length≤i→Ev (fun k=>ebbtideref13_along.l0 k F (alongL F i) (i:Int)) (alongL F F.length):=by
 induction d with
 |zero=>
  intro i hi _;refine Ev.succ ?_;simp only[ebbtideref13_along.l0];refine Ev.neg (by omega) ?_;exact Ev.done (by rw[← show i=F.length by omega])
 |succ d ih=>
  intro i hi hl;have hnext:=ih (i+1) (by omega);refine Ev.succ ?_;simp only[ebbtideref13_along.l0];refine Ev.pos (by omega) ?_;refine Ev.pos (by omega) ?_;rw[rd_nat,wrap_succ (n:=F.length) (by omega) (by omega)];generalize alongL F F.length=Z at hnext ⊢;unfold alongL at hnext;by_cases g:F.getD i 0>0
  ·refine Ev.pos g ?_
   refine Ev.pos (by omega) ?_;rw[Yx g] at hnext;exact hnext (by rw[List.length_append];simp;omega)
  ·refine Ev.neg g ?_
   rw[Yy g,List.append_nil] at hnext;exact hnext (by omega)
theorem along_ev (F:List Int) (hF:F.length≤200):Ev (fun k=>ebbtideref13_along.f k F) (alongL F F.length):=along_l0 F hF F.length 0 (by omega) (Nat.le_refl _)
theorem alongL_len (F:List Int) (k:Nat):(alongL F k).length≤k:=by
 induction k with
 |zero=>exact Nat.le_refl _
 |succ k ih=>unfold alongL;rw[List.length_append];split<;>simp<;>omega
theorem alongL_mem (F:List Int) (k:Nat): ∀ s,s∈alongL F k→ ∃ i:Nat,i<k∧s.f0=i:=by
 induction k with
 |zero=>intro s h;cases h
 |succ k ih=>
  intro s h;unfold alongL at h;rcases List.mem_append.1 h with h|h
  ·obtain⟨i,h1,h2⟩:=ih s h;exact⟨i,by omega,h2⟩
  ·split at h
   ·rw[List.mem_singleton.1 h];exact⟨k,by omega,rfl⟩
   ·cases h
theorem along_ok {l:List S50} {F:List Int} {n:Nat} (hr:Right l F n):StepsOk l n (alongL F F.length):=
 ⟨hr.ends,hr.arcs,fun s hs=>by obtain⟨i,h1,h2⟩:=alongL_mem F _ s hs;exact⟨i,by rw[← hr.len];exact h1,h2⟩,by have:=alongL_len F F.length;have:=hr.len;have:=hr.arcs;omega⟩
theorem way13_eq {l:List S50} {F:List Int} {n:Nat} (hr:Right l F n) {s:Nat} (hs:s<n) (b:Bool) (v:Nat):ebbtideref08_Way.f (n:Int) b l (s:Int) (v:Int) (alongL F F.length)=some (wayA l F n s v,decide (v∈reach l F n s)):=by
 unfold ebbtideref08_Way.f;rw[wayF_eq (along_ok hr) hs hr.fifty,way_along hr]
theorem places_l0 (W:List S79) (hW:W.length≤1000000) (d:Nat): ∀ i:Nat,i+d=W.length→Ev (fun k=>ebbtideref13_places.l0 k W (arcsOf (W.take i)) (i:Int)) (arcsOf W):=by
 induction d with
 |zero=>
  intro i hi;refine Ev.succ ?_;simp only[ebbtideref13_places.l0];refine Ev.neg (by omega) ?_;exact Ev.done (by rw[List.take_of_length_le (by omega)])
 |succ d ih=>
  intro i hi;have hnext:=ih (i+1) (by omega);have hg:rd_T79 W (i:Int)=W[i]'(by omega):=by unfold rd_T79;rw[Int.toNat_natCast,List.getD_eq_getElem?_getD,List.getElem?_eq_getElem (by omega)];rfl
  have htk:arcsOf (W.take (i+1))=arcsOf (W.take i) ++ [(rd_T79 W (i:Int)).f0]:=by
   rw[List.take_add_one,List.getElem?_eq_getElem (by omega),hg];unfold arcsOf;rw[List.map_append];rfl
  rw[htk] at hnext;refine Ev.succ ?_;simp only[ebbtideref13_places.l0];refine Ev.pos (by omega) ?_;refine Ev.pos (by omega) ?_;refine Ev.pos (by unfold arcsOf;rw[List.length_map,List.length_take];omega) ?_;rw[wrap_succ (n:=W.length) (by omega) (by omega)];exact hnext
theorem places_ev (W:List S79) (hW:W.length≤1000000):Ev (fun k=>ebbtideref13_places.f k W) (arcsOf W):=places_l0 W hW W.length 0 (by omega)
theorem taken_l1 (ax:List Int) (m:Int) (h0:0≤m) (h1:m≤1048576) (hl:ax.length≤1000000) (d:Nat): ∀ (i:Nat) (X:List Int),i+d=ax.length→(ax.drop i).Nodup→(∀ j,j∈ax.drop i→0≤j∧j<X.length∧0≤X.getD j.toNat 0∧X.getD j.toNat 0≤1048576)→
  Ev (fun k=>ebbtideref13_taken.l1 k ax m X (i:Int)) (ax,m,lessA X m (ax.drop i)):=by
 induction d with
 |zero=>
  intro i X hi _ _;refine Ev.succ ?_;simp only[ebbtideref13_taken.l1];refine Ev.neg (by omega) ?_;exact Ev.done (by rw[List.drop_of_length_le (by omega)];rfl)
 |succ d ih=>
  intro i X hi hn hb;have hd:=drop_getD ax i 0 (by omega);rw[hd] at hn hb ⊢;rw[List.nodup_cons] at hn;obtain⟨b0,b1,b2,b3⟩:=hb _ List.mem_cons_self;refine Ev.succ ?_;simp only[ebbtideref13_taken.l1];refine Ev.pos (by omega) ?_;refine Ev.pos (by omega) ?_;rw[rd_nat];refine Ev.pos b0 ?_;refine Ev.pos b1 ?_;have hr:rd X (ax.getD i 0)=X.getD (ax.getD i 0).toNat 0:=rfl;rw[hr,wrap_id (by omega) (by omega),wrap_succ (n:=ax.length) (by omega) (by omega)];refine ih (i+1) _ (by omega) hn.2 fun j hj=> ?_
  obtain⟨c0,c1,c2,c3⟩:=hb _ (List.mem_cons_of_mem _ hj);have hne:ax.getD i 0≠j:=fun e=>hn.1 (e▸hj)
  rw[List.length_set,H.getD_set_ne _ _ _ _ _ (by omega)];exact⟨c0,c1,c2,c3⟩
theorem taken_l0 (F ax:List Int) (hF:F.length≤200) (hl:ax.length≤1000000) (hn:ax.Nodup) (hb: ∀ j,j∈ax→0≤j∧j<F.length∧0≤F.getD j.toNat 0∧F.getD j.toNat 0≤1048576) (d:Nat): ∀ (i:Nat) (m:Int),i+d=ax.length→0≤m→m≤1048576→
  Ev (fun k=>ebbtideref13_taken.l0 k F ax m (i:Int)) (ax,(ax.drop i).foldl (fun k i=>min k (F.getD i.toNat 0)) m,lessA F ((ax.drop i).foldl (fun k i=>min k (F.getD i.toNat 0)) m) ax):=by
 induction d with
 |zero=>
  intro i m hi h0 h1;refine Ev.succ ?_;simp only[ebbtideref13_taken.l0];refine Ev.neg (by omega) ?_;refine Ev.pos (by show 0+F.length<_;omega) ?_;rw[List.drop_of_length_le (by omega)];have h:=taken_l1 ax m h0 h1 hl ax.length 0 F (by omega) (by rw[List.drop_zero];exact hn) (by rw[List.drop_zero];exact hb);rw[List.drop_zero] at h;exact h
 |succ d ih=>
  intro i m hi h0 h1;have hd:=drop_getD ax i 0 (by omega);obtain⟨b0,b1,b2,b3⟩:=hb (ax.getD i 0) (getD_mem (by omega));rw[hd,List.foldl_cons];refine Ev.succ ?_;simp only[ebbtideref13_taken.l0];refine Ev.pos (by omega) ?_;refine Ev.pos (by omega) ?_;rw[rd_nat];refine Ev.pos b0 ?_;refine Ev.pos b1 ?_;have hr:mn m (rd F (ax.getD i 0))=min m (F.getD (ax.getD i 0).toNat 0):=by
   show mn m (F.getD (ax.getD i 0).toNat 0)=_;unfold mn;omega
  rw[hr,wrap_succ (n:=ax.length) (by omega) (by omega)];exact ih (i+1) _ (by omega) (by omega) (by omega)
theorem taken_ev {l:List S50} {F:List Int} {n:Nat} (hr:Right l F n) {a b:Int} {ax:List Int} (h:Link l F a b ax) (hl:ax.length≤1000000):Ev (fun k=>ebbtideref13_taken.f k F ax) (ax,amt F ax,lessA F (amt F ax) ax):=by
 have hF:=hr.len;have hA:=hr.arcs;have hb: ∀ j,j∈ax→0≤j∧j<F.length∧0≤F.getD j.toNat 0∧F.getD j.toNat 0≤1048576:=fun j hj=>by
  have h1:=h.go.of j hj;have h2:=hr.nums j.toNat (by omega);omega
 have hne:=h.ne;have hn:=h.nodup;cases ax with
 |nil=>exact absurd rfl hne
 |cons x ax=>
  obtain⟨b0,b1,b2,b3⟩:=hb x List.mem_cons_self;have hx:(x::ax).getD 0 0=x:=rfl;have hz:rd (x::ax) 0=x:=rfl;unfold ebbtideref13_taken.f;refine Ev.pos (by simp) ?_;rw[hz];refine Ev.pos b0 ?_;refine Ev.pos b1 ?_;have h1:=taken_l0 F (x::ax) (by omega) hl hn hb ax.length 1 (F.getD x.toNat 0) (by simp;omega) b2 b3;have e:(List.drop 1 (x::ax)).foldl (fun k i=>min k (F.getD i.toNat 0)) (F.getD x.toNat 0)=amt F (x::ax):=by
   unfold amt;show ax.foldl _ _=List.foldl _ _ (x::ax);rw[List.foldl_cons];show _=ax.foldl _ (min (F.getD x.toNat 0) (F.getD x.toNat 0));rw[Int.min_self]
  rw[e] at h1;exact h1
def firstC (l:List S50) (F:List Int) (n:Nat):Nat→Nat→Option (List Int)
 |0,_=>none
 |d+1,i=>match cycA l F n i with
  |some ax=>some ax
  |none=>firstC l F n d (i+1)
theorem cycle_l0 {l:List S50} {F:List Int} {n:Nat} (hr:Right l F n) (b:Bool) (d:Nat): ∀ i:Nat,i+d=l.length→
  Ev (fun k=>ebbtideref13_cycle.l0 k F (i:Int) n b l) (match firstC l F n d i with
   |some ax=>(ax,true)
   |none=>([],false)):=by
 have hF:=hr.len;have hA:=hr.arcs
 induction d with
 |zero=>
  intro i hi;refine Ev.succ ?_;simp only[ebbtideref13_cycle.l0];refine Ev.neg (by omega) ?_;exact Ev.now _
 |succ d ih=>
  intro i hi;have hil:i<l.length:=by omega
  have hends:=hr.ends i hil;have hnext:=ih (i+1) (by omega);unfold firstC cycA;refine Ev.succ ?_;simp only[ebbtideref13_cycle.l0];refine Ev.pos (by omega) ?_;refine Ev.pos (by omega) ?_;rw[rd_nat,wrap_succ (n:=l.length) (by omega) (by omega)];by_cases g0:F.getD i 0=0
  ·refine Ev.pos g0 ?_
   rw[Yx g0];exact hnext
  refine Ev.neg g0 ?_;rw[Yy g0];refine Ev.pos (by show 0<_;omega) ?_;refine Ev.let_ ?_;refine Ev.pos (by omega) ?_;have e0:(rd_T50 l (i:Int)).f0=eFrom (rd_T50 l (i:Int)):=rfl;have e1:(rd_T50 l (i:Int)).f1=eTo (rd_T50 l (i:Int)):=rfl;rw[e0,e1];by_cases g1:eFrom (rd_T50 l i)=eTo (rd_T50 l i)
  ·refine Ev.pos g1 ?_
   rw[Yx g1];exact Ev.now _
  refine Ev.neg g1 ?_;rw[Yy g1];refine Ev.bind (along_ev F (by omega)) ?_;have hu:eTo (rd_T50 l i)=((eTo (rd_T50 l i)).toNat:Int):=by omega
  have hv:eFrom (rd_T50 l i)=((eFrom (rd_T50 l i)).toNat:Int):=by omega
  have hw:=way13_eq hr (s:=(eTo (rd_T50 l i)).toNat) (by omega) b (eFrom (rd_T50 l i)).toNat
  rw[← hu, ← hv] at hw;refine Ev.call hw ?_;by_cases g2:(eFrom (rd_T50 l i)).toNat∈reach l F n (eTo (rd_T50 l i)).toNat
  ·refine Ev.pos (by simpa using g2) ?_
   rw[Yx g2];have hwl:=H.wayA_len hr (by omega) (by omega) g2;refine Ev.bind (places_ev (wayA l F n (eTo (rd_T50 l i)).toNat (eFrom (rd_T50 l i)).toNat) (by omega)) ?_;refine Ev.pos (by unfold arcsOf;rw[List.length_map];show 1+(wayA l F n (eTo (rd_T50 l i)).toNat (eFrom (rd_T50 l i)).toNat).length<_;omega) ?_;exact Ev.now _
  ·refine Ev.neg (by simpa using g2) ?_
   rw[Yy g2];exact hnext
theorem firstC_none {l:List S50} {F:List Int} {n:Nat} (d:Nat): ∀ i:Nat,(∀ j:Nat,i≤j→j<i+d→cycA l F n j=none)→firstC l F n d i=none:=by
 induction d with
 |zero=>intro i _;rfl
 |succ d ih=>
  intro i h;unfold firstC;rw[h i (Nat.le_refl _) (by omega)];exact ih (i+1) fun j hj hj2=>h j (by omega) (by omega)
theorem firstC_some {l:List S50} {F:List Int} {n i:Nat} {ax:List Int} (hc:cycA l F n i=some ax) (d:Nat): ∀ a:Nat,a≤i→i<a+d→(∀ j:Nat,a≤j→j<i→cycA l F n j=none)→firstC l F n d a=some ax:=by
 induction d with
 |zero=>intro a h1 h2 _;omega
 |succ d ih=>
  intro a h1 h2 h;unfold firstC;by_cases e:a=i
  ·rw[e,hc]
  ·rw[h a (Nat.le_refl _) (by omega)]
   exact ih (a+1) (by omega) (by omega) fun j hj hj2=>h j (by omega) hj2
theorem posN_le200 {l:List S50} {F:List Int} {n:Nat} (hr:Right l F n):posN F≤200:=by
 have h1:=H.posN_len F;have h2:=hr.len;have h3:=hr.arcs;omega
theorem split_l1 {l:List S50} {n s t:Nat} (b:Bool) (hs:s<n) (ht:t<n) (hst:s≠t) (cy:List S47) (K:Nat): ∀ (F:List Int) (acc:List S47),Right l F n→posN F<K→acc.length+posN F≤200→
  Ev (fun k=>ebbtideref13_Split.l1 k (s:Int) (t:Int) F (n:Int) b l acc cy) (acc ++ (chF l n s t K F).1,cy,0):=by
 induction K with
 |zero=>intro F acc _ h;omega
 |succ K ih=>
  intro F acc hr hk ha;unfold chF;refine Ev.succ ?_;simp only[ebbtideref13_Split.l1];refine Ev.bind (along_ev F (by rw[hr.len];exact hr.arcs)) ?_;refine Ev.call (way13_eq hr hs b t) ?_;by_cases g:t∈reach l F n s
  ·have hlk:=H.chain_link hr hs hst g
   have htk:=hlk.taken hr;have hfw:=htk.fewer;refine Ev.pos (by simpa using g) ?_;rw[Yx g];refine Ev.bind (places_ev (wayA l F n s t) (by have:=H.wayA_len hr hs hst g;omega)) ?_;refine Ev.bind (taken_ev (ax:=arcsOf (wayA l F n s t)) hr hlk (by have:=H.go_len hr hlk;omega)) ?_;refine Ev.pos (by omega) ?_;have h1:=ih (lessA F (amt F (arcsOf (wayA l F n s t))) (arcsOf (wayA l F n s t))) (acc ++ [⟨arcsOf (wayA l F n s t),amt F (arcsOf (wayA l F n s t))⟩]) htk.right (by omega) (by rw[List.length_append];simp;omega);rw[List.append_assoc] at h1;exact h1
  ·refine Ev.neg (by simpa using g) ?_
   rw[Yy g];exact Ev.done (by rw[List.append_nil])
theorem split_l0 {l:List S50} {n s t:Nat} (b:Bool) (hs:s<n) (ht:t<n) (hst:s≠t) (K:Nat): ∀ (i:Nat) (F:List Int) (acc:List S47),Right l F n→posN F+(l.length - i)<K→acc.length+posN F≤200→(∀ j:Nat,j<i→j<l.length→0<F.getD j 0→ ¬ Rea l F (eTo (rd_T50 l j)) (eFrom (rd_T50 l j)))→
  Ev (fun k=>ebbtideref13_Split.l0 k (s:Int) (t:Int) F (n:Int) b l acc) ((chF l n s t 1000 (cycF l n K i F).2).1,acc ++ (cycF l n K i F).1,0):=by
 induction K with
 |zero=>intro i F acc _ h;omega
 |succ K ih=>
  intro i F acc hr hk ha hpre;have hnone: ∀ j:Nat,j<i→j<l.length→cycA l F n j=none:=fun j h1 h2=>(H.cycA_none hr h2).2 (hpre j h1 h2)
  by_cases hi:i<l.length
  ·cases hc:cycA l F n i with
   |none=>
    have h1:=ih (i+1) F acc hr (by omega) ha (fun j hj hjl=>by
     by_cases e:j=i
     ·subst e;exact(H.cycA_none hr hi).1 hc
     ·exact hpre j (by omega) hjl)
    unfold cycF;rw[Yx hi,hc];exact h1
   |some ax=>
    obtain⟨hlk,_⟩:=H.cycA_some hr hi hc;have htk:=hlk.taken hr;have hfw:=htk.fewer;have h1:=ih i (lessA F (amt F ax) ax) (acc ++ [⟨ax,amt F ax⟩]) htk.right (by omega) (by rw[List.length_append];simp;omega) (fun j hj hjl hp g=>hpre j hj hjl (Int.lt_of_lt_of_le hp (htk.le j)) (g.mono htk.le));rw[List.append_assoc] at h1;unfold cycF;rw[Yx hi,hc];refine Ev.succ ?_;simp only[ebbtideref13_Split.l0];have hcy:=cycle_l0 hr b l.length 0 (by omega);rw[firstC_some hc l.length 0 (by omega) (by omega) (fun j _ hj=>hnone j hj (by omega))] at hcy;refine Ev.bind hcy ?_;refine Ev.pos rfl ?_;refine Ev.bind (taken_ev (ax:=ax) hr hlk (by have:=H.go_len hr hlk;omega)) ?_;refine Ev.pos (by omega) ?_;exact h1
  ·unfold cycF
   rw[Yy hi];refine Ev.succ ?_;simp only[ebbtideref13_Split.l0];have hcy:=cycle_l0 hr b l.length 0 (by omega);rw[firstC_none l.length 0 (fun j _ hj=>hnone j (by omega) (by omega))] at hcy;refine Ev.bind hcy ?_;refine Ev.neg (by simp) ?_;have:=posN_le200 hr;exact Ev.eq (split_l1 b hs ht hst acc 1000 F [] hr (by omega) (by simp;omega)) (by rw[List.append_nil,List.nil_append])
theorem ref_split_ev (n:Int) (b:Bool) (l:List S50) (s t:Int) (f:List Int):Ev (fun k=>ebbtideref13_Split.f k n b l s t f) (splitR n l s t f):=by
 unfold ebbtideref13_Split.f;refine Ev.bind (ref_value_ev n b l s t f) ?_;unfold splitR;by_cases h0:(valRes n l s t f).2=0
 ·refine Ev.pos h0 ?_
  rw[Yx h0];by_cases h1:(valRes n l s t f).1<0
  ·refine Ev.pos h1 ?_
   rw[Yx h1];exact Ev.now _
  ·refine Ev.neg h1 ?_
   rw[Yy h1];obtain⟨g1,g2,n0,rfl,g3,g4⟩:=flow_val h0;obtain⟨hn,e1,e2,e3,e4,e5⟩:=endsE_ok g1;obtain⟨s0,rfl⟩: ∃ s0:Nat,s=s0:=⟨s.toNat,by omega⟩;obtain⟨t0,rfl⟩: ∃ t0:Nat,t=t0:=⟨t.toNat,by omega⟩;have hp:=posN_le200 g3.right;have hA:=g3.right.arcs;simp only[Int.toNat_natCast];exact Ev.eq (split_l0 b (by omega) (by omega) (by omega) 1000 0 f [] g3.right (by omega) (by simp;omega) (fun j hj=>by omega)) (by rw[List.nil_append])
 ·refine Ev.neg h0 ?_
  rw[Yy h0];exact Ev.now _
end Q
namespace Q
open P
open H (posN Right lessA Link chF cycF splitR cleanR Parts SplitOk IsFlow tot tot_cons lessA_len lessA_get split_ok split_no split_parts go_len)
theorem link_len {l:List S50} {G:List Int} {a b:Int} {ax:List Int} (hl:l.length≤200) (h:Link l G a b ax):ax.length≤200:=by
 have h1:=H.pigeonN l.length (ax.map Int.toNat) (by
  refine List.pairwise_map.2 ?_;have h2:=h.go.of;refine(List.Pairwise.and_mem.1 h.nodup).imp fun {x y} hxy e=>hxy.2.2 ?_
  have:=h2 x hxy.1;have:=h2 y hxy.2.1;omega) (fun x hx=>by obtain⟨y,hy,rfl⟩:=List.mem_map.1 hx;have:=h.go.of y hy;omega)
 rw[List.length_map] at h1;omega
def Short (cs:List S47):Prop:=cs.length≤1000000∧ ∀ c,c∈cs→c.f0.length≤1000000
theorem same13_l1 (cs:List S47) (h:Short cs) (m:Nat) (hm:m<cs.length) (R:Bool) (hR:Ev (fun k=>ebbtideref13_Same.l0 k cs cs ((m+1:Nat):Int)) R) (d:Nat): ∀ i:Nat,i+d=(cs.getD m z47).f0.length→Ev (fun k=>ebbtideref13_Same.l1 k cs cs (m:Int) (i:Int)) R:=by
 have hg:rd_T47 cs (m:Int)=cs.getD m z47:=by unfold rd_T47;rw[Int.toNat_natCast]
 have hl:=h.2 _ (getD_mem (d:=z47) hm);have hc:=h.1
 induction d with
 |zero=>
  intro i hi;refine Ev.succ ?_;simp only[ebbtideref13_Same.l1];refine Ev.pos (by omega) ?_;refine Ev.pos (by omega) ?_;rw[hg];refine Ev.neg (by omega) ?_;rw[wrap_succ (n:=cs.length) (by omega) (by omega)];exact hR
 |succ d ih=>
  intro i hi;have h1:=ih (i+1) (by omega);refine Ev.succ ?_;simp only[ebbtideref13_Same.l1];refine Ev.pos (by omega) ?_;refine Ev.pos (by omega) ?_;rw[hg];refine Ev.pos (by omega) ?_;refine Ev.pos (by omega) ?_;refine Ev.pos (by omega) ?_;refine Ev.pos (by omega) ?_;refine Ev.pos trivial ?_;rw[wrap_succ (n:=(cs.getD m z47).f0.length) (by omega) (by omega)];exact h1
theorem same13_l0 (cs:List S47) (h:Short cs) (d:Nat): ∀ m:Nat,m+d=cs.length→Ev (fun k=>ebbtideref13_Same.l0 k cs cs (m:Int)) true:=by
 have hc:=h.1
 induction d with
 |zero=>
  intro m hm;refine Ev.succ ?_;simp only[ebbtideref13_Same.l0];refine Ev.neg (by omega) ?_;exact Ev.now _
 |succ d ih=>
  intro m hm;have h1:=ih (m+1) (by omega);refine Ev.succ ?_;simp only[ebbtideref13_Same.l0];refine Ev.pos (by omega) ?_;refine Ev.pos (by omega) ?_;refine Ev.pos (by omega) ?_;refine Ev.pos trivial ?_;refine Ev.succ ?_;simp only[ebbtideref13_Same.j1];refine Ev.neg (by simp) ?_;exact same13_l1 cs h m (by omega) true h1 _ 0 (Nat.zero_add _)
theorem same13_ev (cs:List S47) (h:Short cs):Ev (fun k=>ebbtideref13_Same.f k cs cs) true:=by
 unfold ebbtideref13_Same.f;refine Ev.pos rfl ?_;exact same13_l0 cs h _ 0 (Nat.zero_add _)
theorem split_short (n:Int) (l:List S50) (s t:Int) (f:List Int):Short (splitR n l s t f).1∧Short (splitR n l s t f).2.1:=by
 by_cases he:(splitR n l s t f).2.2=0
 ·obtain⟨n0,s0,t0,rfl,rfl,rfl,hs,ht,hst,hn,hfl,hv0,hval,hsp,hcl⟩:=split_ok he
  have hok:=split_parts hs ht hst hfl hv0;have hA:=hfl.right.arcs;have hr1:Right l (cycF l n0 1000 0 f).2 n0:=hok.cyc.right;have hpn:=posN_le200 hr1;have hpf:=posN_le200 hfl.right;have hfew:(chF l n0 s0 t0 1000 (cycF l n0 1000 0 f).2).1.length+posN _≤posN (cycF l n0 1000 0 f).2:=hok.chn.few;have hfew2:(cycF l n0 1000 0 f).1.length+posN _≤posN f:=hok.cyc.few;rw[hsp];refine⟨⟨by show (chF l n0 s0 t0 1000 (cycF l n0 1000 0 f).2).1.length≤_;omega,fun c hc=> ?_⟩,⟨by show (cycF l n0 1000 0 f).1.length≤_;omega,fun c hc=> ?_⟩⟩
  ·obtain⟨g1,g2,G,g3⟩:=hok.chn.each c hc
   have:=link_len hA g3;omega
  ·obtain⟨g1,g2,G,i,g3,g4,g5⟩:=hok.cyc.each c hc
   have:=link_len hA g4;omega
 ·obtain⟨h1,h2,_⟩:=split_no he
  rw[h1,h2];exact⟨⟨Nat.zero_le _,fun c hc=>by cases hc⟩,⟨Nat.zero_le _,fun c hc=>by cases hc⟩⟩
end Q
namespace H
open P Q
theorem and1023 (x:Int):0≤bits .and .i64 x 1023∧bits .and .i64 x 1023≤1023:=by
 have h:(BitVec.ofInt 64 x &&& BitVec.ofInt 64 1023).toNat≤1023:=by
  rw[BitVec.toNat_and];exact Nat.and_le_right
 have e:bits .and .i64 x 1023=wrap64 ((BitVec.ofInt 64 x &&& BitVec.ofInt 64 1023).toNat:Int):=by
  rw[← i64_w];rfl
 rw[e,wrap_id (by omega) (by omega)];omega
theorem pick_arc (x:Int) {n:Nat} (hn:0<n): ∃ i:Nat,(bits .and .i64 x 1023).tmod (n:Int)=(i:Int)∧i<n:=by
 have h:=and1023 x;have h0:=Int.tmod_nonneg (n:Int) h.1;have h1:=Int.tmod_lt_of_pos (bits .and .i64 x 1023) (show (0:Int)<n by omega);exact⟨((bits .and .i64 x 1023).tmod n).toNat,by omega,by omega⟩
section
variable {P:Program} {md:Region.Mode} {ops:Array Oper} {Q:Exit→Act→World→Prop} {S:World→Prop} {ds:List Nat} {oi:Oper} {v:Value} {fuel:Nat} {l:Array Bool} {a a':Act} {w:World}
theorem pk (i N:Nat) (l':Array Bool) (h:wpAnyLast P md ops Q S ds fuel l' a' w) (hi:ops[i]? =some oi:=by rfl) (hN:oi.dst=some N:=by rfl) (hc:anyB md ops l l' i=true:=by kernel_rfl) (hQ: ∀ c a w,Q (.panic c) (a.put oi.dst v) w→Q (.panic c) a w:=by exact fun _ _ _ h=>h) (hy:Yields P ops oi v a:=by refine Or.inl ⟨by rfl,?_⟩;intro w';go_simp;with_reducible rfl) (ha:a.put (some N) v=a':=by simp only[Act.put,List.setIfInBounds_toArray,List.set_cons_zero,List.set_cons_succ,i64_w,i32_w];rfl):wpAnyLast P md ops Q S ds (fuel+1) l a w:=pure_ l' hi hN hc hQ hy ha h
theorem tk (i N:Nat) (l':Array Bool) (hS:S w) (h:wpAnyLast P md ops Q S ds fuel l' a' w) (hi:ops[i]? =some oi:=by rfl) (hN:oi.dst=some N:=by rfl) (hc:takeB md ops ds l l' i=true:=by kernel_rfl) (hQ: ∀ c a w,Q (.panic c) (a.put oi.dst v) w→Q (.panic c) a w:=by exact fun _ _ _ h=>h) (hy:YieldsIf P ops S oi v a:=by refine Or.inl ⟨by rfl,?_⟩;intro w' hs_;(try dsimp only at hs_);go_split_ands;go_simp;with_reducible rfl) (ha:a.put (some N) v=a':=by simp only[Act.put,List.setIfInBounds_toArray,List.set_cons_zero,List.set_cons_succ,i64_w,i32_w];rfl):wpAnyLast P md ops Q S ds (fuel+1) l a w:=take_ l' hi hN hc hQ hy hS ha h
theorem ok_ (i:Nat) (N:Option Tmp) (l':Array Bool) (h: ∀ K:Act→World→Prop,Shut (∀ a' w',S w'→(S w'→wpAnyLast P md ops Q S ds fuel l' a' w')→K a' w')→if Region.wanted oi (yielded ops a.tmps)=true then Oper.wp P oi a w K Q else K (a.put N undef) w)
  (hi:ops[i]? =some oi:=by rfl) (hN:oi.dst=N:=by rfl) (hc:readyB md ops l l' i=true:=by kernel_rfl) (hd:i ∉ ds:=by decide):wpAnyLast P md ops Q S ds (fuel+1) l a w:=one_ l' hi hN hc hd h
end
def backA (a:S50):S50:=⟨a.f1,a.f0,3,0⟩
def moreF (F:List Int) (i:Nat) (k:Int):List Int:=F.set i (F.getD i 0+k) ++ [k]
theorem rdArc_app (l:List S50) (a:S50) (j:Nat):rd_T50 (l ++ [a]) (j:Int)=if j<l.length then rd_T50 l (j:Int) else if j=l.length then a else z50:=by
 rw[rdArc_nat,rdArc_nat,List.getD_eq_getElem?_getD,List.getD_eq_getElem?_getD];by_cases h:j<l.length
 ·rw[Yx h,List.getElem?_append_left h]
 ·rw[Yy h,List.getElem?_append_right (by omega)]
  by_cases e:j=l.length
  ·subst e;rw[Yx rfl,Nat.sub_self];rfl
  ·rw[Yy e,List.getElem?_eq_none (by simp;omega)];rfl
theorem moreF_get (F:List Int) (i:Nat) (k:Int) (hi:i<F.length) (j:Nat):(moreF F i k).getD j 0=if j=F.length then k else F.getD j 0+(if j=i then k else 0):=by
 unfold moreF;by_cases h:j<F.length
 ·rw[Yy (by omega),List.getD_eq_getElem?_getD,List.getElem?_append_left (by rw[List.length_set];exact h), ← List.getD_eq_getElem?_getD,Q.getD_set _ _ _ _ _ hi]
  by_cases e:i=j
  ·subst e;rw[Yx rfl,Yx rfl]
  ·rw[Yy e,Yy (by omega)];omega
 ·rw[List.getD_eq_getElem?_getD,List.getElem?_append_right (by rw[List.length_set];omega),List.length_set]
  by_cases e:j=F.length
  ·subst e;rw[Yx rfl,Nat.sub_self];rfl
  ·rw[Yy e,List.getElem?_eq_none (by simp;omega),Yy (by omega),List.getD_eq_getElem?_getD,List.getElem?_eq_none (by omega)];rfl
theorem more_flow {l:List S50} {G:List Int} {n s t:Nat} (h:IsFlow l G n s t) (hl:l.length<200) {i:Nat} (hi:i<l.length) {k:Int} (h0:0≤k) (h3:k≤3) (hk:k≤(rd_T50 l i).f2 - G.getD i 0):
  IsFlow (l ++ [backA (rd_T50 l i)]) (moreF G i k) n s t∧ ∀ v,bal (l ++ [backA (rd_T50 l i)]) (moreF G i k) v=bal l G v:=by
 have hr:=h.right;have hlen:=hr.len;have hb: ∀ v,bal (l ++ [backA (rd_T50 l i)]) (moreF G i k) v=bal l G v:=fun v=>by
  unfold moreF;rw[bal_app v _ _ l _ (by rw[List.length_set];exact hlen),bal_set l v G i _ hlen hi];show _+((if (rd_T50 l i).f1=v then k else 0) - (if (rd_T50 l i).f0=v then k else 0)+0)=_;split<;>split<;>omega
 refine⟨⟨⟨hr.pos,hr.fifty,by rw[List.length_append];simp;omega,by unfold moreF;rw[List.length_append,List.length_set,List.length_append,hlen];rfl,fun j hj=> ?_,fun j hj=> ?_⟩,fun v a b c d=>by rw[hb];exact h.keeps v a b c d⟩,hb⟩
 ·rw[rdArc_app]
  rw[List.length_append] at hj;have hj:j<l.length+1:=hj;by_cases e:j<l.length
  ·rw[Yx e];exact hr.ends j e
  ·rw[Yy e,Yx (by omega)]
   have:=hr.ends i hi;exact⟨this.2,this.1⟩
 ·rw[rdArc_app,moreF_get _ _ _ (by omega)]
  rw[List.length_append] at hj;have hj:j<l.length+1:=hj;by_cases e:j<l.length
  ·rw[Yx e,Yy (by omega)]
   have h1:=hr.nums j e;by_cases e2:j=i
   ·subst e2;rw[Yx rfl];omega
   ·rw[Yy e2];omega
  ·rw[Yy e,Yx (by omega),Yx (by omega)]
   show 0≤(0:Int)∧(0:Int)≤1048576∧0≤k∧k≤3∧(3:Int)≤1048576;omega
theorem net_more {n:Int} {l:List S50} (h:NetOk n l) (hl:l.length<200) {i:Nat} (hi:i<l.length):NetOk n (l ++ [backA (rd_T50 l i)]):=by
 refine⟨h.lo,h.hi,by rw[List.length_append];simp;omega,fun a ha=> ?_⟩;rcases List.mem_append.1 ha with ha|ha
 ·exact h.arcs a ha
 ·rw[List.mem_singleton.1 ha]
  have h1:=h.arcs _ (show rd_T50 l i∈l by rw[rdArc_nat];exact Q.getD_mem hi);exact⟨h1.f1,h1.f0,by show (0:Int)≤3;omega,by show (0:Int)≤0;omega,h1.h1,h1.h0,by show (3:Int)≤1048576;omega,by show (0:Int)≤1048576;omega⟩
theorem flows_ok (b:Bool) {n:Int} {l:List S50} {s t:Int} (he:endsErr n l s t=0) (hl:l.length<200) {i:Nat} (hi:i<l.length):
  ∃ G:List Int,G.length=l.length∧(∀ j:Nat,j<l.length→0≤G.getD j 0∧G.getD j 0≤(rd_T50 l j).f2∧(rd_T50 l j).f2≤1048576)∧Ev (fun k=>ebbtideref09_Best.f k n b l s t) G∧
   (splitR n (l ++ [backA (rd_T50 l i)]) s t (moreF G i (min 3 ((rd_T50 l i).f2 - G.getD i 0)))).2.2=0:=by
 obtain⟨n0,s0,t0,rfl,rfl,rfl,hs,ht,hst,hn,hr⟩:=Q.ends_zero he;obtain⟨G,hG,hE⟩:=best_ev b hr hs ht hst;have hf:=hG.flow;have hnum:=hf.right.nums i hi;obtain⟨h1,h2⟩:=more_flow hf hl hi (k:=min 3 ((rd_T50 l i).f2 - G.getD i 0)) (by omega) (by omega) (by omega);have hN:=net_more hn hl hi;have hv:=val_flow hN (s:=s0) (t:=t0) (by omega) h1;have hz:=max_nonneg hG hs hst;refine⟨G,hf.right.len,fun j hj=>by have:=hf.right.nums j hj;omega,hE,?_⟩;unfold splitR;rw[Yx (by rw[hv]),Yy (by rw[hv];show ¬ bal _ _ _<0;rw[h2];omega)]
end H
namespace Q
open P
theorem awake13_at:ebbtidelaw13_awake.f 100=some true:=by decide +kernel
theorem awake13_ev:Ev (fun k=>ebbtidelaw13_awake.f k) true:=Ev.of ebbtidelaw13_awake.mono awake13_at
end Q
namespace H
open P
open Q (ref_split_ev awake13_ev same13_ev split_short ref_ends_ev rd_nat wrap_id)
attribute [local irreducible] wpQuiet
set_option maxHeartbeats 8000000 in
set_option maxRecDepth 100000 in
theorem ebbtidelaw13_DecompFlows_calls (Zc:Int) (Zb:Bool) (Ze:Option Addr) (Zd:Nat) (Za:List S50) (a1:Int) (a2:Int) (a3:Int) (r:Bool) (w:World) (Zp:Kd.C k50 w Ze Za.length Za) (Zq:Za.length≤Zd) (h:some true=some r):
  Calls Try.prog 7 #[.agg #[.int .i64 Zc, .bool Zb, .slice Ze Za.length Zd], .int .i64 a1, .int .i64 a2, .int .i64 a3] w fun e w'=>e= .returned (.bool r)∧Below w.heap.size w w':=by
 have hu24:=Try.underlying24;have hu54:=Try.underlying54;have hu74:=Try.underlying50;injection h with h
 subst h;obtain⟨n1,hn1⟩: ∃ n_,n_=fewN Zc 12:=⟨_,rfl⟩;obtain⟨l1,hl1⟩: ∃ l_,l_=fewL Za 39:=⟨_,rfl⟩;obtain⟨K0,hK0⟩:=ref_ends_ev n1 Zb l1 a1 a2;have hm0:=hK0 K0 (Nat.le_refl _);obtain⟨K3,hK3⟩:=awake13_ev;have hm3:=hK3 K3 (Nat.le_refl _);have HM0:=Ya hm0;have HM3:=Ya hm3;have HN1:=Ya hn1;have HL1:=Ya hl1;have H2:=Ya Zp;have HC2:=Ya Zq;have HLC:Aside0 (Kd.C k50 w Ze l1.length l1):=⟨by rw[hl1];exact fewL_C Zp 39⟩;have HLE:Aside0 (l1.length≤Zd):=⟨by rw[hl1];exact Nat.le_trans (fewL_le Za 39) Zq⟩;clear hK0 hK3 hm0 hm3 hn1 hl1 Zp Zq;go_enter Try.func7,Try.ntmps7;go_upto_region 5 with (first|((with_reducible refine gate_dst (N:=4) rfl ?_);refine Yz ?hg (N:=4) ?hd (cs:= #[.int .i64 Zc, .bool Zb, .slice Ze Za.length Zd]) (t:=24) ?hr ?_;(case hd=>rfl);(case hg=>rfl);(case hr=>first|(go_simp;done)|(go_simp;rfl));intro g3 hg3 w5 Zf hb;have B3:=Ya Zf;have HB:=Ya hb;have HG3:Aside0 (w.heap.size≤g3):=⟨Nat.le_of_eq hg3.symm⟩;clear hg3 Zf hb;have x0:w5.cell? ⟨g3,0,none⟩=some (.int .i64 Zc):=(Yc B3.out 0).trans rfl;have x1:w5.cell? ⟨g3,1,none⟩=some (.bool Zb):=(Yc B3.out 1).trans rfl;have x2:w5.cell? ⟨g3,2,none⟩=some (.slice Ze Za.length Zd):=(Yc B3.out 2).trans rfl)|(go_at_call 18;refine(ebbtidelaw13_awake.calls K3 true _ HM3.out).mono ?_;rintro e_ w10 ⟨rfl,hb⟩;have m0_:=Ya (Yk HB.out hb);have m1_:=Ya (Yn B3.out hb);clear HB B3 hb x0 x1 x2;have HB:=m0_;have B3:=m1_;clear m0_ m1_;have x0:w10.cell? ⟨g3,0,none⟩=some (.int .i64 Zc):=(Yc B3.out 0).trans rfl;have x1:w10.cell? ⟨g3,1,none⟩=some (.bool Zb):=(Yc B3.out 1).trans rfl;have x2:w10.cell? ⟨g3,2,none⟩=some (.slice Ze Za.length Zd):=(Yc B3.out 2).trans rfl)|(go_at_call 9;refine(few_calls Zc Zb Ze Zd Za 12 39 _ (by decide) HC2.out (Yt H2.out HB.out)).mono ?_;rintro e_ w6 ⟨rfl,hb⟩;have m0_:=Ya (Yk HB.out hb);have m1_:=Ya (Yn B3.out hb);clear HB B3 hb x0 x1 x2;have HB:=m0_;have B3:=m1_;clear m0_ m1_;have x0:w6.cell? ⟨g3,0,none⟩=some (.int .i64 Zc):=(Yc B3.out 0).trans rfl;have x1:w6.cell? ⟨g3,1,none⟩=some (.bool Zb):=(Yc B3.out 1).trans rfl;have x2:w6.cell? ⟨g3,2,none⟩=some (.slice Ze Za.length Zd):=(Yc B3.out 2).trans rfl;have f0:=Yf B3.out 0;have f1:=Yf B3.out 1;have f2:=Yf B3.out 2)|fail)
 have B3':Aside0 ((((w6.setCell ⟨g3,0,none⟩ (.int .i64 (fewN Zc 12))).setCell ⟨g3,1,none⟩ (.bool Zb)).setCell ⟨g3,2,none⟩ (.slice Ze (fewL Za 39).length Zd)).heap[g3]? =some (.cells #[.int .i64 n1, .bool Zb, .slice Ze l1.length Zd] 24 (0,0))):=⟨by rw[HN1.out,HL1.out];exact YA (YA (YA B3.out 0 _ rfl) 1 _ rfl) 2 _ rfl⟩;have HB':Aside0 (Below w.heap.size w (((w6.setCell ⟨g3,0,none⟩ (.int .i64 (fewN Zc 12))).setCell ⟨g3,1,none⟩ (.bool Zb)).setCell ⟨g3,2,none⟩ (.slice Ze (fewL Za 39).length Zd))):=⟨Yh (Yh (Yh HB.out HG3.out) HG3.out) HG3.out⟩;clear B3 HB x0 x1 x2 f0 f1 f2;generalize ((w6.setCell ⟨g3,0,none⟩ (.int .i64 (fewN Zc 12))).setCell ⟨g3,1,none⟩ (.bool Zb)).setCell ⟨g3,2,none⟩ (.slice Ze (fewL Za 39).length Zd)=w7 at *;have B3:=B3';have HB:=HB';clear B3' HB';have x0:w7.cell? ⟨g3,0,none⟩=some (.int .i64 n1):=(Yc B3.out 0).trans rfl;have x1:w7.cell? ⟨g3,1,none⟩=some (.bool Zb):=(Yc B3.out 1).trans rfl;have x2:w7.cell? ⟨g3,2,none⟩=some (.slice Ze l1.length Zd):=(Yc B3.out 2).trans rfl;obtain⟨e,he⟩: ∃ e_,e_=endsErr n1 l1 a1 a2:=⟨_,rfl⟩;rw[← he] at HM0;have HE:=Ya he;clear he;by_cases hg:e=0
 ·have hg1:(e != 0)=false:=bne_eq_false_iff_eq.mpr hg
  have hg2:(e == 0)=true:=beq_iff_eq.mpr hg;have HG:=Ya hg;clear hg;by_cases hl0:(l1.length:Int)=0
  ·have d1:((l1.length:Int) == 0)=true:=beq_iff_eq.mpr hl0
   clear hl0;go_wp2_with (first|(go_at_call 27;refine(ebbtideref07_Ends.calls K0 n1 Zb Ze Zd l1 a1 a2 e _ (Yt HLC.out HB.out) HLE.out HM0.out).mono ?_;rintro e_ w8 ⟨rfl,hb⟩;have m0_:=Ya (Yk HB.out hb);have m1_:=Ya (Yn B3.out hb);clear HB B3 hb x0 x1 x2;have HB:=m0_;have B3:=m1_;clear m0_ m1_;have x0:w8.cell? ⟨g3,0,none⟩=some (.int .i64 n1):=(Yc B3.out 0).trans rfl;have x1:w8.cell? ⟨g3,1,none⟩=some (.bool Zb):=(Yc B3.out 1).trans rfl;have x2:w8.cell? ⟨g3,2,none⟩=some (.slice Ze l1.length Zd):=(Yc B3.out 2).trans rfl)|fail);go_ret;exact⟨rfl,HB.out⟩
  have d1:((l1.length:Int) == 0)=false:=beq_eq_false_iff_ne.mpr hl0;have HL0:=Ya hl0;clear hl0;by_cases hl2:200≤(l1.length:Int)
  ·have d2:decide (200≤(l1.length:Int))=true:=Yv hl2
   clear hl2;go_wp2_with (first|(go_at_call 27;refine(ebbtideref07_Ends.calls K0 n1 Zb Ze Zd l1 a1 a2 e _ (Yt HLC.out HB.out) HLE.out HM0.out).mono ?_;rintro e_ w8 ⟨rfl,hb⟩;have m0_:=Ya (Yk HB.out hb);have m1_:=Ya (Yn B3.out hb);clear HB B3 hb x0 x1 x2;have HB:=m0_;have B3:=m1_;clear m0_ m1_;have x0:w8.cell? ⟨g3,0,none⟩=some (.int .i64 n1):=(Yc B3.out 0).trans rfl;have x1:w8.cell? ⟨g3,1,none⟩=some (.bool Zb):=(Yc B3.out 1).trans rfl;have x2:w8.cell? ⟨g3,2,none⟩=some (.slice Ze l1.length Zd):=(Yc B3.out 2).trans rfl)|fail);go_ret;exact⟨rfl,HB.out⟩
  have d2:decide (200≤(l1.length:Int))=false:=Yw hl2;have HL2:=Ya hl2;clear hl2;go_upto_region 7 with (first|(go_at_call 27;refine(ebbtideref07_Ends.calls K0 n1 Zb Ze Zd l1 a1 a2 e _ (Yt HLC.out HB.out) HLE.out HM0.out).mono ?_;rintro e_ w8 ⟨rfl,hb⟩;have m0_:=Ya (Yk HB.out hb);have m1_:=Ya (Yn B3.out hb);clear HB B3 hb x0 x1 x2;have HB:=m0_;have B3:=m1_;clear m0_ m1_;have x0:w8.cell? ⟨g3,0,none⟩=some (.int .i64 n1):=(Yc B3.out 0).trans rfl;have x1:w8.cell? ⟨g3,1,none⟩=some (.bool Zb):=(Yc B3.out 1).trans rfl;have x2:w8.cell? ⟨g3,2,none⟩=some (.slice Ze l1.length Zd):=(Yc B3.out 2).trans rfl)|fail)
  have hlen0:0<l1.length:=by have:=HL0.out;omega
  obtain⟨ix,hix,hixl⟩:=pick_arc a3 hlen0;obtain⟨G,hGl,hGn,hGE,hsp⟩:=flows_ok Zb (HE.out.symm.trans HG.out) (by have:=HL2.out;omega) hixl;obtain⟨K1,hK1⟩:=hGE;have hm1:=hK1 K1 (Nat.le_refl _);have HM1:=Ya hm1;have HIX:=Ya hix;have HIL:=Ya hixl;have HGL:=Ya hGl;have HGN:=Ya (hGn ix hixl);have HSP:=Ya hsp;have HL0N:=Ya hlen0;clear hK1 hm1 hix hixl hGl hGn hsp hlen0;go_upto_region 8 with (first|(go_at_call 28;refine(ebbtideref09_Best.calls K1 n1 Zb Ze Zd l1 a1 a2 G _ (Yt HLC.out HB.out) HLE.out HM1.out).mono ?_;rintro e_ w9 ⟨v0,rfl,hr0,hb⟩;obtain⟨Ag,cg,ev⟩:=Kd.R_slice hr0;subst ev;have HR1:=Ya (Kd.R_lower hr0 HB.out.size);clear hr0;have m0_:=Ya (Yk HB.out hb);have m1_:=Ya (Yn B3.out hb);clear HB B3 hb x0 x1 x2;have HB:=m0_;have B3:=m1_;clear m0_ m1_;have x0:w9.cell? ⟨g3,0,none⟩=some (.int .i64 n1):=(Yc B3.out 0).trans rfl;have x1:w9.cell? ⟨g3,1,none⟩=some (.bool Zb):=(Yc B3.out 1).trans rfl;have x2:w9.cell? ⟨g3,2,none⟩=some (.slice Ze l1.length Zd):=(Yc B3.out 2).trans rfl)|fail)
  have hlz:=HL0N.out;go_upto_region 9 with fail
  clear hlz;rw[HIX.out];have LA:Aside0 (([]:List S50).length+l1.length<4398046511104):=⟨by have:=HL2.out;simp;omega⟩;go_upto_region 11 with (first|((with_reducible refine gate_builtin (b:= .append) (xs:= #[.tmp 52, .tmp 54]) rfl ?_);at_builtin;refine Kd.R_append_rows k50 (w0:=w) w.heap.size rfl (.tmp 52) (.tmp 54) 22 50 (.agg #[(.int .i64 0),(.int .i64 0),(.int .i64 0),(.int .i64 0)]) 32 rfl Try.underlying22 info50 rfl (by decide) (by omega) (.slice none 0 0) ([]:List S50) l1 _ _ _ (fun _=>True) (fun _=>False) rfl rfl ?aO ?aR (fun _ _ h=>h) (fun _ h=>h.elim) ?aF ?aB ?aS ?aL ?_;(case aR=>exact Yt HLC.out HB.out);(case aB=>exact HB.out);(case aF=>exact fun _ _=>trivial);(case aO=>exact Kd.R_nil _ _ _ _ (fun _=>True));(case aS=>exact HB.out.size);(case aL=>have:=LA.out;omega);intro v12 w12 ho hb hg hat;have HO:=Ya ho;have HR1':=Ya (Kd.R_grown HR1.out hg (fun _ _=>by simp[Value.ownBlock]));have B3':=Ya (blk_grown B3.out hg (by simp[Value.ownBlock]));have HB':=Ya hb;clear HR1 B3 HB ho hb hg hat x0 x1 x2;have HR1:=HR1';have B3:=B3';have HB:=HB';clear HR1' B3' HB';have x0:w12.cell? ⟨g3,0,none⟩=some (.int .i64 n1):=(Yc B3.out 0).trans rfl;have x1:w12.cell? ⟨g3,1,none⟩=some (.bool Zb):=(Yc B3.out 1).trans rfl;have x2:w12.cell? ⟨g3,2,none⟩=some (.slice Ze l1.length Zd):=(Yc B3.out 2).trans rfl)|fail)
  obtain⟨adA,eA,hx0,hx1,_,_⟩:=at_T50 HLC.out (ix:Int) (by omega) (by have:=HIL.out;omega);subst eA;obtain⟨A,hA⟩: ∃ A,A=rd_T50 l1 (ix:Int):=⟨_,rfl⟩;rw[← hA] at hx0 hx1;simp only[Int.toNat_natCast] at hx0 hx1;have HA:=Ya hA;clear hA;have HX0:=Ya hx0;have HX1:=Ya hx1;clear hx0 hx1;have p1:((0:Int)≤(ix:Int))=True:=eq_true (by omega);have p2:((ix:Int)<(l1.length:Int))=True:=eq_true (by have:=HIL.out;omega);have d3:decide ((0:Int)≤(ix:Int))=true:=Yv (by omega);have d4:decide ((ix:Int)<(l1.length:Int))=true:=Yv (by have:=HIL.out;omega);refine start_ (n:=17) (S:=fun w'=>w'.cell? ⟨g3,2,none⟩=some (.slice (some adA) l1.length Zd)∧w'.cell? (adA.add (ix * 4))=some (.int .i64 A.f0)∧w'.cell? ⟨(adA.add (ix * 4)).block,(adA.add (ix * 4)).off+1,none⟩=some (.int .i64 A.f1)) (ds:=[]) #[false,false,false,false,false,false,false,false,false,false,false,false,false,false,false,false,false] (by kernel_rfl) rfl rfl ⟨bc B3 2,(hc HB HX0.out:w12.cell? _=_),(hc HB HX1.out:w12.cell? _=_)⟩ (fun hHeld=> ?_);have HO':=Ya (Yp HO.out);have HR1':=Ya (Yp HR1.out);have B3':=Ya (Ym B3.out);have HB':=Ya (Yg HB.out);clear HO HR1 B3 HB x0 x1 x2;have HO:=HO';have HR1:=HR1';have B3:=B3';have HB:=HB';clear HO' HR1' B3' HB';generalize w12.drew=w13 at HO HR1 B3 HB hHeld ⊢;refine pk 0 56 (bm 17 1) ?_;refine pk 1 57 (bm 17 3) ?_;refine pk 3 59 (bm 17 11) ?_;refine pk 7 63 (bm 17 139) ?_;refine pk 9 65 (bm 17 651) ?_;refine tk 2 58 (bm 17 655) hHeld ?_;refine tk 8 64 (bm 17 911) hHeld ?_;refine pk 4 60 (bm 17 927) ?_;refine pk 5 61 (bm 17 959) ?_;refine tk 6 62 (bm 17 1023) hHeld ?_;refine pk 10 66 (bm 17 2047) ?_;refine pk 11 67 (bm 17 4095) ?_;refine tk 12 68 (bm 17 8191) hHeld ?_;refine pk 13 69 (bm 17 16383) ?_;refine ok_ 14 (some 70) (bm 17 32767) fun K hK=> ?_
  refine value_ (w1:= ?_) (v:= ?_) (by rfl) rfl ?_ ?_
  rotate_left 2
  ·go_simp
   constructor
   ·rfl
   ·rfl
  refine hK.out _ _ ⟨(Yc (Yj B3.out _) 2).trans rfl,(World.cell?_alloc_lt _ _ _ (Yb _ _ (hc HB HX0.out))).trans (hc HB HX0.out),(World.cell?_alloc_lt _ _ _ (Yb _ _ (hc HB HX1.out))).trans (hc HB HX1.out)⟩ (fun hHeld=> ?_);clear hK K;refine nm ?_;have LB:Aside0 (([] ++ l1:List S50).length<4398046511104):=⟨by have:=HL2.out;simp;omega⟩;refine ok_ 15 (some 71) (bm 17 65535) fun K hK=> ?_
  refine Kd.R_append_step k50 (w0:=w) w.heap.size (by rfl) (.tmp 56) (.tmp 70) 22 50 (.agg #[(.int .i64 0),(.int .i64 0),(.int .i64 0),(.int .i64 0)]) 32 rfl Try.underlying22 info50 rfl (by decide) (by omega) v12 ([] ++ l1) (backA A) [.int .i64 A.f1, .int .i64 A.f0, .int .i64 3, .int .i64 0] (fun _=>True) (fun _=>False) rfl rfl ?aP (fun _ hk=>hk.elim) ?aF ?aO ?aB ?aS ?aL ?_
  (case aP=>exact k50_mkM _ _ _ (backA A))
  (case aB=>exact HB.out)
  (case aF=>exact(fun _ _=>trivial))
  (case aO=>exact HO.out)
  (case aS=>exact HB.out.size)
  (case aL=>have:=LB.out;omega)
  intro v14 w14 ho hb hg hat
  obtain⟨l2,hl2⟩: ∃ l_,l_=l1 ++ [backA A]:=⟨_,rfl⟩;have hl2':([] ++ l1:List S50) ++ [backA A]=l2:=by rw[hl2];rfl
  rw[hl2'] at ho;have HLL:=Ya hl2;clear hl2 hl2';have HO':=Ya ho;have HR1':=Ya (Kd.R_over' HR1.out (Kd.R_typed HO.out) (by decide) hg);have B3':=Ya (blk_grown B3.out hg (Kd.R_ne HO.out B3.out (by decide)));have HB':=Ya hb;clear HO HR1 B3 HB ho hb hg hat hHeld;have HO:=HO';have HR1:=HR1';have B3:=B3';have HB:=HB';clear HO' HR1' B3' HB';obtain⟨AL,cL,eL⟩:=Kd.R_slice HO.out;subst eL;refine hK.out _ _ ⟨bc B3 2,hc HB HX0.out,hc HB HX1.out⟩ (fun hHeld=> ?_);clear hK K;refine nm ?_;refine pk 16 12 (bm 17 131071) ?_;refine done_ (by kernel_rfl) ?_;clear hHeld;have x0:w14.cell? ⟨g3,0,none⟩=some (.int .i64 n1):=bc B3 0;have x1:w14.cell? ⟨g3,1,none⟩=some (.bool Zb):=bc B3 1;have x2:w14.cell? ⟨g3,2,none⟩=some (.slice (some adA) l1.length Zd):=bc B3 2;have f2:=Yf B3.out 2;go_upto_region 13 with fail
  have HO':=Ya (Kd.R_far (p:=⟨g3,2,none⟩) (Kd.R_types HO.out B3.out (by decide)) (fun _ hk=>hk.2) (.slice AL l2.length cL));have HR1':=Ya (Kd.R_far (p:=⟨g3,2,none⟩) (Kd.R_types HR1.out B3.out (by decide)) (fun _ hk=>hk.2) (.slice AL l2.length cL));have B3':=Ya (YA B3.out 2 (.slice AL l2.length cL) rfl);have HB':=Ya (Yh (j:=2) (v:= .slice AL l2.length cL) HB.out HG3.out);clear HO HR1 B3 HB x0 x1 x2 f2;have HO:=HO';have HR1:=HR1';have B3:=B3';have HB:=HB';clear HO' HR1' B3' HB';generalize w14.setCell ⟨g3,2,none⟩ (.slice AL l2.length cL)=w15 at *;have HAL:Aside0 (ix<l2.length):=⟨by rw[HLL.out,List.length_append];have:=HIL.out;omega⟩;have HAI:Aside0 (rd_T50 l2 (ix:Int)=A):=⟨by rw[HLL.out,rdArc_app,Yx HIL.out,HA.out]⟩;obtain⟨adL,eL,_,_,hy2,_⟩:=at_T50 (Kd.R_reads' HO.out).2.2 (ix:Int) (by omega) (by have:=HAL.out;omega);subst eL;rw[HAI.out] at hy2;simp only[Int.toNat_natCast] at hy2;obtain⟨adG,eG,hy0⟩:=Kd.at_int (Kd.R_reads' HR1.out).2.2 (ix:Int) (by omega) (by have:=HIL.out;have:=HGL.out;omega);subst eG;have hrg:rd G (ix:Int)=G.getD ix 0:=by rw[rd_nat]
  rw[hrg] at hy0;simp only[Int.toNat_natCast] at hy0;obtain⟨gi,hgi⟩: ∃ x_,x_=G.getD ix 0:=⟨_,rfl⟩;rw[← hgi] at hy0;have HGI:=Ya hgi;have HY2:=Ya hy2;have HY0:=Ya hy0;clear hy2 hy0 hgi hrg;have z0:w15.cell? ⟨g3,0,none⟩=some (.int .i64 n1):=(Yc B3.out 0).trans rfl;have z1:w15.cell? ⟨g3,1,none⟩=some (.bool Zb):=(Yc B3.out 1).trans rfl;have z2:w15.cell? ⟨g3,2,none⟩=some (.slice (some adL) l2.length cL):=(Yc B3.out 2).trans rfl;have HZ2:=Ya z2;clear z0 z1 z2;have hgn:=HGN.out;have hsm:wrap64 (A.f2 - gi)=A.f2 - gi:=by rw[HGI.out,HA.out];exact wrap_id (by omega) (by omega)
  clear hgn;have HSM:=Ya hsm;clear hsm p1 p2;have p1:((0:Int)≤(ix:Int))=True:=eq_true (by omega);have p2:((ix:Int)<(l2.length:Int))=True:=eq_true (by have:=HAL.out;omega);have p3:((ix:Int)<(G.length:Int))=True:=eq_true (by have:=HIL.out;have:=HGL.out;omega);have q2: ∀ p:BelowW w15,p.at_.cell? ⟨g3,2,none⟩=some (.slice (some adL) l2.length cL):=fun p=>p.cell HZ2.out
  have q3: ∀ p:BelowW w15,p.at_.cell? ⟨(adL.add (ix * 4)).block,(adL.add (ix * 4)).off+2,none⟩=some (.int .i64 A.f2):=fun p=>p.cell HY2.out
  have q4: ∀ p:BelowW w15,p.at_.cell? (adG.add ix)=some (.int .i64 gi):=fun p=>p.cell HY0.out
  refine wp_region_quiet_below (by kernel_rfl) (by kernel_rfl) ?_;(repeat(quiet_step (fail)));refine wpQuiet_nil ?_;intro wq hw';obtain⟨⟨wz,hbq⟩,hwq⟩:=hw';subst hwq;obtain⟨k,hk⟩: ∃ k_,k_=min 3 (A.f2 - gi):=⟨_,rfl⟩;have hkk:(if IntKind.i64.wrap (A.f2 - gi)<3 then IntKind.i64.wrap (A.f2 - gi) else 3)=k:=by
   rw[i64_w,HSM.out,hk];split<;>omega
  rw[hkk];have HK:=Ya hk;clear hk hkk;have HO':=Ya (Ys HO.out hbq);have HR1':=Ya (Kd.R_mono (ok':=fun _=>True) (Ys HR1.out hbq) (fun _ _=>trivial));have B3':=Ya (Yn B3.out hbq);have HB':=Ya (Yk HB.out hbq);clear HO HR1 B3 HB q2 q3 q4 hbq HY2 HY0 HZ2;have HO:=HO';have HR1:=HR1';have B3:=B3';have HB:=HB';clear HO' HR1' B3' HB';obtain⟨go,co,eo,gb_,gl_,cl_,HGo⟩:=Kd.R_form HR1.out (by have:=HIL.out;have:=HGL.out;omega);injection eo with ea_ en_ ec_
  injection ea_ with ea_
  subst ea_;subst ec_;clear en_ gb_ gl_ cl_ HGo;obtain⟨hx14,hf14⟩:=Kd.R_celln 0 HR1.out (ix:Int) (by omega) (by have:=HIL.out;have:=HGL.out;omega);have hrg:rd G (ix:Int)=gi:=by rw[rd_nat,HGI.out]
  have hgo:w.heap.size≤go:=Kd.R_base HR1.out go rfl;obtain⟨hp14,hg14⟩:=Kd.R_putg HR1.out (ix:Int) (wrap64 (gi+k));have hkn:0≤gi∧gi+k≤A.f2∧A.f2≤1048576∧0≤k:=by
   have h0:=HGN.out;rw[← HA.out, ← HGI.out] at h0;have h2:=HK.out;omega
  have hwk:wrap64 (gi+k)=gi+k:=wrap_id (by omega) (by omega);rw[hwk] at hp14 hg14;simp only[Int.toNat_natCast] at hx14 hf14 hp14 hg14;have hx14':wq.cell? ⟨go,ix,none⟩=some (.int .i64 gi):=by rw[hx14, ← hrg];rfl
  have HWK:=Ya hwk;have HKN:=Ya hkn;have HP14:=Ya hp14;have HG14:=Ya hg14;have HGO:=Ya hgo;clear hx14 hrg hgo hkn hp14 hg14;go_upto_region 15 with fail
  rw[i64_w,HWK.out];have HO':=Ya (Kd.R_over' HO.out (Kd.R_typed HR1.out) (by decide) HG14.out);have B3':=Ya (blk_grown B3.out HG14.out (Kd.R_ne HR1.out B3.out (by decide)));have HB':=Ya (Yh (j:=ix) (v:= .int .i64 (gi+k)) HB.out HGO.out);clear HO HR1 B3 HB hx14' hf14 hwk;have HO:=HO';have HR1:=HP14;have B3:=B3';have HB:=HB';clear HO' B3' HB' HP14 HG14;generalize wq.setCell ⟨go,ix,none⟩ (.int .i64 (gi+k))=w16 at HO HR1 B3 HB ⊢;obtain⟨Gs,hGs⟩: ∃ g_,g_=G.set ix (gi+k):=⟨_,rfl⟩;rw[← hGs] at HR1;have hgl:Gs.length=G.length:=by rw[hGs,List.length_set]
  have hmf:Gs ++ [k]=moreF G ix k:=by rw[hGs,HGI.out];rfl
  have HGS:Aside0 (Gs.length<17592186044416):=⟨by rw[hgl];have:=HGL.out;have:=HL2.out;omega⟩;have HMF:=Ya hmf;rw[← hgl] at HR1 ⊢;clear hGs hgl hmf;go_upto_region 16 with (first|((with_reducible refine gate_builtin (b:= .append) (xs:= #[.tmp 95, .tmp 97]) rfl ?_);at_builtin;refine Kd.R_append (Kd.int .i64) (w0:=w) w.heap.size rfl (.tmp 95) (.tmp 97) 31 3 (.int .i64 0) 8 rfl Try.underlying31 info3 rfl (by decide) (by omega) (.slice (some ⟨go,0,none⟩) Gs.length cg) Gs k [.int .i64 k] (fun _=>True) (fun _=>False) rfl rfl ?aP (fun _ hk=>hk.elim) ?aF ?aO ?aB ?aS ?aL ?_;(case aP=>exact rfl);(case aB=>exact HB.out);(case aF=>exact fun _ _=>trivial);(case aO=>exact HR1.out);(case aS=>exact HB.out.size);(case aL=>have:=HGS.out;omega);intro v17 w17 ho hb hg hat;have HO':=Ya (Kd.R_over' HO.out (Kd.R_typed HR1.out) (by decide) hg);have HR1':=Ya ho;have B3':=Ya (blk_grown B3.out hg (Kd.R_ne HR1.out B3.out (by decide)));have HB':=Ya hb;clear HO HR1 B3 HB ho hb hg hat;have HO:=HO';have HR1:=HR1';have B3:=B3';have HB:=HB';clear HO' HR1' B3' HB')|fail)
  obtain⟨l3,hl3⟩: ∃ l_,l_=moreF G ix k:=⟨_,rfl⟩;rw[HMF.out, ← hl3] at HR1;have hSP:=HSP.out;rw[← HA.out, ← HLL.out, ← HGI.out, ← HK.out, ← hl3] at hSP;obtain⟨A3,c3,e3⟩:=Kd.R_slice HR1.out;subst e3;have H3:=Ya (Kd.R_reads' HR1.out).2.2;have HC3:=Ya (Kd.R_reads' HR1.out).2.1;have H2':=Ya (Kd.R_reads' HO.out).2.2;have HC2':=Ya (Kd.R_reads' HO.out).2.1;obtain⟨hsx,hsy⟩:=split_short n1 l2 a1 a2 l3;obtain⟨⟨X,Y,e2⟩,hve⟩: ∃ p,p=splitR n1 l2 a1 a2 l3:=⟨_,rfl⟩;obtain⟨K5,hK5⟩:=ref_split_ev n1 Zb l2 a1 a2 l3;have hm5:=hK5 K5 (Nat.le_refl _);rw[← hve] at hm5 hsx hsy hSP;have hSP:e2=0:=hSP;subst hSP;obtain⟨K6,hK6⟩:=same13_ev X hsx;have hm6:=hK6 K6 (Nat.le_refl _);obtain⟨K7,hK7⟩:=same13_ev Y hsy;have hm7:=hK7 K7 (Nat.le_refl _);have HM5:=Ya hm5;have HM6:=Ya hm6;have HM7:=Ya hm7;have HP1:=Ya (congrArg some hve.symm);clear hve hK5 hK6 hK7 hm5 hm6 hm7 hsx hsy hl3 HR1 HO;have x0:w17.cell? ⟨g3,0,none⟩=some (.int .i64 n1):=(Yc B3.out 0).trans rfl;have x1:w17.cell? ⟨g3,1,none⟩=some (.bool Zb):=(Yc B3.out 1).trans rfl;have x2:w17.cell? ⟨g3,2,none⟩=some (.slice (some adL) l2.length cL):=(Yc B3.out 2).trans rfl;go_upto_region 18 with (first|(go_at_call 19;refine(decomp_Split_calls n1 Zb (some adL) cL l2 a1 a2 A3 c3 l3 X Y 0 _ H2'.out HC2'.out H3.out HC3.out HP1.out).mono ?_;rintro e_ w18 ⟨v0,v1,rfl,hs0,hs1,hb⟩;obtain⟨Ah,ch,ev⟩:=Kd.S_slice hs0;subst ev;obtain⟨Ac,cc,ev⟩:=Kd.S_slice hs1;subst ev;have HX1:=Ya (Kd.S_reads' hs0).2.2;have HE1:=Ya (Kd.S_reads' hs0).2.1;have HX2:=Ya (Kd.S_reads' hs1).2.2;have HE2:=Ya (Kd.S_reads' hs1).2.1;clear hs0 hs1;have H2_:=Ya (Yt H2'.out hb);have H3_:=Ya (Yt H3.out hb);clear H2' H3;have H2':=H2_;have H3:=H3_;clear H2_ H3_;have m0_:=Ya (Yk HB.out hb);have m1_:=Ya (Yn B3.out hb);clear HB B3 hb x0 x1 x2;have HB:=m0_;have B3:=m1_;clear m0_ m1_;have x0:w18.cell? ⟨g3,0,none⟩=some (.int .i64 n1):=(Yc B3.out 0).trans rfl;have x1:w18.cell? ⟨g3,1,none⟩=some (.bool Zb):=(Yc B3.out 1).trans rfl;have x2:w18.cell? ⟨g3,2,none⟩=some (.slice (some adL) l2.length cL):=(Yc B3.out 2).trans rfl)|(go_at_call 23;refine(ebbtideref13_Split.calls K5 n1 Zb (some adL) cL l2 a1 a2 (fun k_=>k_<w18.heap.size) A3 c3 l3 X Y 0 _ H2'.out HC2'.out (Kd.V_mk HC3.out (Kd.C_F (Kd.heap_int .i64) H3.out)) HM5.out).mono ?_;rintro e_ w19 ⟨v0,v1,rfl,hs0,hs1,hb⟩;obtain⟨Ax,cx,ev⟩:=Kd.S_slice hs0;subst ev;obtain⟨Ay,cy,ev⟩:=Kd.S_slice hs1;subst ev;have HY1:=Ya (Kd.S_reads' hs0).2.2;have HF1:=Ya (Kd.S_reads' hs0).2.1;have HY2:=Ya (Kd.S_reads' hs1).2.2;have HF2:=Ya (Kd.S_reads' hs1).2.1;clear hs0 hs1;have HX1':=Ya (Yt HX1.out hb);have HX2':=Ya (Yt HX2.out hb);clear HX1 HX2;have HX1:=HX1';have HX2:=HX2';clear HX1' HX2';have m0_:=Ya (Yk HB.out hb);have m1_:=Ya (Yn B3.out hb);clear HB B3 hb x0 x1 x2;have HB:=m0_;have B3:=m1_;clear m0_ m1_;have x0:w19.cell? ⟨g3,0,none⟩=some (.int .i64 n1):=(Yc B3.out 0).trans rfl;have x1:w19.cell? ⟨g3,1,none⟩=some (.bool Zb):=(Yc B3.out 1).trans rfl;have x2:w19.cell? ⟨g3,2,none⟩=some (.slice (some adL) l2.length cL):=(Yc B3.out 2).trans rfl)|fail)
  have hb:Below w19.heap.size w19 (w19.alloc (.cells #[.slice Ax X.length cx, .slice Ay Y.length cy] 54)):=Ye (Yo _ _) _;have B19:Aside0 ((w19.alloc (.cells #[.slice Ax X.length cx, .slice Ay Y.length cy] 54)).heap[w19.heap.size]? =some (.cells #[.slice Ax X.length cx, .slice Ay Y.length cy] 54 (0,0))):=⟨heap_alloc_new w19 _⟩;have HX1':=Ya (Yt HX1.out hb);have HX2':=Ya (Yt HX2.out hb);clear HX1 HX2;have HX1:=HX1';have HX2:=HX2';clear HX1' HX2';have HY1':=Ya (Yt HY1.out hb);have HY2':=Ya (Yt HY2.out hb);have m0_:=Ya (Yk HB.out hb);clear HY1 HY2 HB B3 hb x0 x1 x2;have HY1:=HY1';have HY2:=HY2';have HB:=m0_;clear HY1' HY2' m0_;generalize w19.alloc (.cells #[.slice Ax X.length cx, .slice Ay Y.length cy] 54)=w20 at *;generalize w19.heap.size=g19 at *;have y0:w20.cell? ⟨g19,0,none⟩=some (.slice Ax X.length cx):=(Yc B19.out 0).trans rfl;have y1:w20.cell? ⟨g19,1,none⟩=some (.slice Ay Y.length cy):=(Yc B19.out 1).trans rfl;go_wp2_with fail;refine(ebbtideref13_Same.calls K6 Ah ch X Ax cx X true _ HX1.out HE1.out HY1.out HF1.out HM6.out).mono ?_;rintro e_ w21 ⟨rfl,hd⟩;have hb:=hd.below;clear hd;have HX2':=Ya (Yt HX2.out hb);have HY2':=Ya (Yt HY2.out hb);have B19':=Ya (Yn B19.out hb);have HB':=Ya (Yk HB.out hb);clear HX2 HY2 B19 HB hb y0 y1;have HX2:=HX2';have HY2:=HY2';have HB:=HB';have B19:=B19';clear HX2' HY2' HB' B19';have y1:w21.cell? ⟨g19,1,none⟩=some (.slice Ay Y.length cy):=(Yc B19.out 1).trans rfl;go_wp2_with fail;refine(ebbtideref13_Same.calls K7 Ac cc Y Ay cy Y true _ HX2.out HE2.out HY2.out HF2.out HM7.out).mono ?_;rintro e_ w22 ⟨rfl,hd⟩;have HB':=Ya (Yk HB.out hd.below);clear hd HB;have HB:=HB';clear HB';go_wp2_with fail;go_ret;exact⟨rfl,HB.out⟩
 ·have hg1:(e != 0)=true:=bne_iff_ne.mpr hg
  have hg2:(e == 0)=false:=beq_eq_false_iff_ne.mpr hg;clear hg;go_wp2_with (first|(go_at_call 27;refine(ebbtideref07_Ends.calls K0 n1 Zb Ze Zd l1 a1 a2 e _ (Yt HLC.out HB.out) HLE.out HM0.out).mono ?_;rintro e_ w8 ⟨rfl,hb⟩;have m0_:=Ya (Yk HB.out hb);have m1_:=Ya (Yn B3.out hb);clear HB B3 hb x0 x1 x2;have HB:=m0_;have B3:=m1_;clear m0_ m1_;have x0:w8.cell? ⟨g3,0,none⟩=some (.int .i64 n1):=(Yc B3.out 0).trans rfl;have x1:w8.cell? ⟨g3,1,none⟩=some (.bool Zb):=(Yc B3.out 1).trans rfl;have x2:w8.cell? ⟨g3,2,none⟩=some (.slice Ze l1.length Zd):=(Yc B3.out 2).trans rfl)|fail);go_ret;exact⟨rfl,HB.out⟩
end H
namespace P
attribute [local go_sem] max2_int min2_int max_two min_two max_three min_three max_four min_four
def ebbtidelaw13_DecompFlows.f (Zc:Int) (Zb:Bool) (Za:List (S50)) (a1:Int) (a2:Int) (a3:Int):Option (Bool):=some true
theorem ebbtidelaw13_DecompFlows.calls (Zc:Int) (Zb:Bool) (Ze:Option Addr) (Zd:Nat) (Za:List (S50)) (a1:Int) (a2:Int) (a3:Int) (r:Bool) (w:World) (Zp:Kd.C k50 w Ze Za.length Za) (Zq:Za.length≤Zd) (h:ebbtidelaw13_DecompFlows.f Zc Zb Za a1 a2 a3=some r):
  Calls Try.prog 7 #[.agg #[.int .i64 Zc, .bool Zb, .slice Ze Za.length Zd], .int .i64 a1, .int .i64 a2, .int .i64 a3] w fun e w'=>e= .returned (.bool r)∧Below w.heap.size w w':=H.ebbtidelaw13_DecompFlows_calls Zc Zb Ze Zd Za a1 a2 a3 r w Zp Zq h
end P
namespace Opn
open Go.ChangeShapes Go.WideShapes Go.Deep 
def Opens (P:Program) (t:TypeId) {α:Type} (d:Kd α) (ok:α→Prop):Prop:=
 ∀ (H:Type) (enc:TypeId × Value→H) (w:World) (base:Nat) (spare:Nat→Bool) (held:Bool) (fuel:Nat) (cs:List Value) (x:DataW H × List MemPlace),
  DataW.trod enc P w base spare held fuel t cs=some x→ ∃ a:α,d.K w a cs∧ok a
theorem opens_int {P:Program} {t:TypeId} {k:IntKind} (ht:P.underlying t=some (.int k)):Opens P t (Kd.int k) (fun n=>(Lit.int k n).wf=true):=by
 intro H enc w base spare held fuel cs x h;obtain⟨n,rfl,_,hw⟩:=DataW.trod_int ht h;exact⟨n,rfl,hw⟩
theorem opens_bool {P:Program} {t:TypeId} (ht:P.underlying t=some .bool):Opens P t Kd.bool (fun _=>True):=by
 intro H enc w base spare held fuel cs x h;obtain⟨b,rfl,_⟩:=DataW.trod_bool ht h;exact⟨b,rfl,trivial⟩
theorem opens_slice {P:Program} {t e:TypeId} {α:Type} {d:Kd α} {ok:α→Prop} (ht:P.underlying t=some (.slice e)) (hc:P.cellsOf e=d.sz) (h:Opens P e d ok):
  Opens P t (Kd.slice e d) (fun l=>l.length≤9223372036854775807∧ ∀ x∈l,ok x):=by
 intro H enc w base spare held fuel cs x hx;rcases open_slice ht hx with ⟨rfl,_⟩|⟨a,len,cap,m,n,D,Pl,rfl,hb,hl,hm,hmm,_,hi⟩
 ·exact⟨[],⟨none,0,rfl,Nat.le_refl _,rfl,by simp,fun h=>absurd h (by simp)⟩,by simp,by simp⟩
 ·have hlm:len≤m:=by rw[hmm];split<;>omega
  have hel: ∀ i:Nat,i<len→ ∃ a':α,ok a'∧ ∃ c,c.length=d.sz∧d.K w a' c∧ ∀ j u,c[j]? =some u→w.cell? (a.add (i * d.sz+j))=some u:=by
   intro i hil;obtain⟨cs',hcs,htr⟩:=hi i (by omega);obtain⟨a',hK,hok⟩:=h H enc w base spare held n cs' _ htr;rw[hc] at hcs;obtain⟨_,hcl,hat⟩:=World.cells?_some hcs;refine⟨a',hok,cs',hcl,hK,fun j u hu=> ?_⟩;have hj:j<d.sz:=by have:=(List.getElem?_eq_some_iff.1 hu).1;omega
   have:=hat j hj;rw[← Go.Deep.add_add,this,hu]
  have hrow: ∀ k:Nat,k≤len→ ∃ xs:List α,xs.length=k∧(∀ x∈xs,ok x)∧ ∀ j p,xs[j]? =some p→ ∃ c,c.length=d.sz∧d.K w p c∧ ∀ i u,c[i]? =some u→w.cell? (a.add (j * d.sz+i))=some u:=by
   intro k
   induction k with
   |zero=>exact fun _=>⟨[],rfl,by simp,by simp⟩
   |succ k ih=>
    intro hk;obtain⟨xs,h1,h2,h3⟩:=ih (by omega);obtain⟨a',ho,c,hcl,hK,hcell⟩:=hel k (by omega);refine⟨xs ++ [a'],by simp[h1],fun x hx=> ?_,fun j p hj=> ?_⟩
    ·rcases List.mem_append.1 hx with h|h
     ·exact h2 x h
     ·rw[List.mem_singleton.1 h];exact ho
    ·by_cases hjk:j<xs.length
     ·rw[List.getElem?_append_left hjk] at hj
      exact h3 j p hj
     ·have hjl:=(List.getElem?_eq_some_iff.1 hj).1
      simp at hjl;have hje:j=k:=by omega
      subst hje;rw[← h1,List.getElem?_concat_length] at hj;obtain rfl:=Option.some.inj hj;exact⟨c,hcl,hK,hcell⟩
  obtain⟨xs,h1,h2,h3⟩:=hrow len (Nat.le_refl _);have hmx:len≤9223372036854775807:=by unfold maxLen at hm;omega
  subst h1;exact⟨xs,⟨some a,cap,rfl,hl,rfl,hmx,fun _=>⟨a,rfl,h3⟩⟩,hmx,h2⟩
theorem opens_iso {P:Program} {t:TypeId} {α β:Type} {d:Kd α} {ok:α→Prop} (h:Opens P t d ok) (f:β→α) (g:α→β) (hfg: ∀ x,f (g x)=x):Opens P t (Kd.iso d f) (fun y=>ok (f y)):=by
 intro H enc w base spare held fuel cs x hx;obtain⟨a,hK,hok⟩:=h H enc w base spare held fuel cs x hx;exact⟨g a,by show d.K w (f (g a)) cs;rw[hfg];exact hK,by show ok (f (g a));rw[hfg];exact hok⟩
def OpensFs (P:Program) (fs:List Field) (off:Nat) {α:Type} (d:Kd α) (ok:α→Prop):Prop:=
 ∀ (H:Type) (enc:TypeId × Value→H) (w:World) (base:Nat) (spare:Nat→Bool) (held:Bool) (n:Nat) (cs:List Value),cs.length=off+d.sz→
  (∀ f∈fs, ∃ y,DataW.trod enc P w base spare held n f.type ((cs.drop f.offset).take (P.cellsOf f.type))=some y)→ ∃ a:α,d.K w a (cs.drop off)∧ok a
theorem fs_one {P:Program} {f:Field} {off:Nat} {α:Type} {d:Kd α} {ok:α→Prop} (ho:f.offset=off) (hc:P.cellsOf f.type=d.sz) (h:Opens P f.type d ok):OpensFs P [f] off d ok:=by
 intro H enc w base spare held n cs hl hf;obtain⟨y,hy⟩:=hf f (by simp);rw[ho,hc,List.take_of_length_le (by simp;omega)] at hy;exact h H enc w base spare held n _ y hy
theorem fs_cons {P:Program} {f:Field} {fs:List Field} {off:Nat} {α β:Type} {d:Kd α} {d':Kd β} {ok:α→Prop} {ok':β→Prop} (ho:f.offset=off) (hc:P.cellsOf f.type=d.sz) (h:Opens P f.type d ok)
  (hr:OpensFs P fs (off+d.sz) d' ok'):OpensFs P (f::fs) off (Kd.pair d d') (fun x=>ok x.1∧ok' x.2):=by
 intro H enc w base spare held n cs hl hf;have hsz:(Kd.pair d d').sz=d.sz+d'.sz:=rfl;rw[hsz] at hl;obtain⟨y,hy⟩:=hf f (by simp);rw[ho,hc] at hy;obtain⟨a,hK,hok⟩:=h H enc w base spare held n _ y hy;obtain⟨b,hKb,hokb⟩:=hr H enc w base spare held n cs (by omega) (fun f' hf'=>hf f' (List.mem_cons_of_mem _ hf'));refine⟨(a,b),⟨_,_,?_,hK,hKb⟩,hok,hokb⟩;rw[← List.drop_drop];exact(List.take_append_drop _ _).symm
theorem opens_struct {P:Program} {t:TypeId} {fs:Array Field} {α:Type} {d:Kd α} {ok:α→Prop} (hs:P.underlying t=some (.struct fs)) (hC:P.cellsOf t=d.sz) (h:OpensFs P fs.toList 0 d ok):Opens P t d ok:=by
 intro H enc w base spare held fuel cs x hx;obtain⟨xs,n,_,_,hl,hlen,hf⟩:=DataW.trod_struct hs hx;obtain⟨a,hK,hok⟩:=h H enc w base spare held n cs (by rw[hl,hC,Nat.zero_add]) (fun f hfm=>by
  obtain⟨j,hj⟩:=List.getElem?_of_mem hfm;have hj':fs[j]? =some f:=by rw[← hj];simp
  have hjl:j<xs.length:=by rw[hlen];exact(Array.getElem?_eq_some_iff.1 hj').1
  have h1:=hf j f hj';rw[List.getElem?_eq_getElem hjl] at h1;exact⟨_,h1⟩)
 exact⟨a,hK,hok⟩
theorem arg_struct {H:Type} {enc:TypeId × Value→H} {P:Program} {w:World} {base b0:Nat} {spare:Nat→Bool} {held:Bool} {r:Reach} {t:TypeId} {fs:Array Field} {v:Value} {dd:DataW H} {p:List MemPlace} {α:Type} {d:Kd α} {ok:α→Prop}
  (hs:P.underlying t=some (.struct fs)) (ho:Opens P t d ok) (hv:Value.okWide P w r b0 t v) (h:DataW.Trod enc P w base spare held t v dd p): ∃ a cs,v= .agg cs∧d.K w a cs.toList∧ok a:=by
 obtain⟨cs,rfl,hsz⟩:=okWide_struct hs hv;obtain⟨fuel,hf⟩:=h;obtain⟨a,hK,hok⟩:=ho H enc w base spare held fuel _ _ hf;exact⟨a,cs,rfl,by simpa [Value.cells] using hK,hok⟩
end Opn
namespace Q
open P
theorem decompFlows_ev (n:Int) (b:Bool) (l:List S50) (s t:Int) (f:Int):Ev (fun _=>ebbtidelaw13_DecompFlows.f n b l s t f) true:=Ev.now _
end Q
end Go.Proofs.Ytoedkglggapggaa
