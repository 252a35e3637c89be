/- What the law's row needs of these texts, taken out of them by wip/tool/mini.py: P107 QBfLaw QSortArr QSortLaw P9 P11 QLists QStepsLaw QSetLaw QQuietB QSortIns QSymLo QSymHi QSymMid QSortAll QArrRow QSetBase QBase QRefLaw P38 P30 P31. -/
import Derived.Test.YtoedkglggapggaaMlghifl
import Derived.Test.YtoedkglggapggaaProg
import Derived.RegionTactic
import Derived.ChangeAlike
import Derived.BigRegion
import Derived.LoopTactic
import Derived.WalkKit
import Derived.Laws.AppendOwn
import Derived.Test.YtoedkglggapggaaVkigfaf
import Derived.Deep.QuietTactic
import Derived.Deep.RegionWith
import Derived.Deep.RegionHeld3
import Derived.StillTailTactics
set_option linter.unusedVariables false
set_option linter.unusedSimpArgs false
open Go.RowKit Go.Proofs.YtoedkglggapggaaW.PrintWords Go.Proofs.YtoedkglggapggaaW.PrintLast Go.Proofs.YtoedkglggapggaaW.PrintMore
namespace Go.Proofs.Ytoedkglggapggaa
namespace P
attribute [local go_sem] max2_int min2_int max_two min_two max_three min_three max_four min_four
def static_Flowing_Room.f (Zb:Int) (Zc:Bool) (Za:List (S50)) (Xx:List Int) (Zj:Int) (Xh:Bool):Option (Int):=if Xh=true then(if 0≤Zj then(if Zj<(Xx.length:Int) then(some (rd Xx Zj)) else(none)) else(none)) else(if 0≤Zj then(if Zj<(Za.length:Int) then(if Zj<(Xx.length:Int) then(some (wrap64 (((rd_T50 Za Zj).f2) - (rd Xx Zj)))) else(none)) else(none)) else(none))
set_option maxHeartbeats 8000000 in
set_option maxRecDepth 100000 in
theorem static_Flowing_Room.calls (Zb:Int) (Zc:Bool) (Ze:Option Addr) (Zd:Nat) (Za:List (S50)) (Ul:Option Addr) (Um:Nat) (Xx:List Int) (Zj:Int) (Xh:Bool) (r:Int) (w:World) (Zp:Kd.C k50 w Ze Za.length Za) (Zq:Za.length≤Zd) (hr0_3:Kd.C (Kd.int .i64) w Ul Xx.length Xx) (hc0_3:Xx.length≤Um) (h:static_Flowing_Room.f Zb Zc Za Xx Zj Xh=some r):
  Calls Try.prog 89 #[.agg #[.int .i64 Zb, .bool Zc, .slice Ze Za.length Zd, .slice Ul Xx.length Um], .agg #[.int .i64 Zj, .bool Xh]] w fun e w'=>e= .returned (.int .i64 r)∧Below w.heap.size w w':=by
 have hu104:=Try.underlying104;have hu79:=Try.underlying79;have Zh:=Ya Zp;have Zo:=Ya Zq;clear Zp Zq;have HR0_3:=Ya hr0_3;have HC0_3:=Ya hc0_3;clear hr0_3 hc0_3;have HB:=Ya (Yo w.heap.size w);have H:=h;unfold static_Flowing_Room.f at H;clear h;by_cases c3:Xh=true
 ·subst c3
  first|rw[Yx rfl] at H|rw[Yx trivial] at H
  by_cases c4:0≤Zj
  rotate_left
  ·rw[Yy c4] at H
   exact absurd H (by simp)
  rw[Yx c4] at H;have c4b0:decide (0≤Zj)=true:=Yv c4;clear c4;by_cases c5:Zj<(Xx.length:Int)
  rotate_left
  ·rw[Yy c5] at H
   exact absurd H (by simp)
  rw[Yx c5] at H;have c5b0:decide (Zj<(Xx.length:Int))=true:=Yv c5;clear c5;obtain rfl:=Option.some.inj H;go_enter Try.func89,Try.ntmps89;go_wp2_with (first|(refine bx 2 104 #[.int .i64 Zb, .bool Zc, .slice Ze Za.length Zd, .slice Ul Xx.length Um] ?_;intro Xz hg w6 Zf hb;have Xd:=Ya (Zf);have GW730:=Ya (by rw[hg];exact(Yi HB.out):w.heap.size≤Xz);have GE730:=Ya (by rw[hg];exact(Yi HB.out):w.heap.size≤Xz);replace HB:=Ya (Yk HB.out hb);clear hb Zf hg)|(refine bx 3 79 #[.int .i64 Zj, .bool true] ?_;intro Vb hg w7 Zf hb;have Uw:=Ya (Zf);have GW731:=Ya (by rw[hg];exact(Yi HB.out):w.heap.size≤Vb);have GE731:=Ya (by rw[hg];exact(Yi HB.out):w.heap.size≤Vb);replace HB:=Ya (Yk HB.out hb);have Je:=Ya (by rw[hg];exact Nat.ne_of_lt (blk_lt Xd.out):Xz≠Vb);have Jf:=Ya (by rw[hg];exact Nat.ne_of_gt (blk_lt Xd.out):Vb≠Xz);replace Xd:=Ya (Yn Xd.out hb);clear hb Zf hg;have hnb8:=Jf.out;have hnc8:=Je.out;have hcz9_0:w7.cell? ⟨Vb,0,none⟩=some (.int .i64 Zj):=bc Uw 0;have hcz9_1:w7.cell? ⟨Vb,1,none⟩=some (.bool true):=bc Uw 1;have hfz9_0:=Yf Uw.out 0;have hfz9_1:=Yf Uw.out 1;have Wu:w7.cell? ⟨Xz,0,none⟩=some (.int .i64 Zb):=bc Xd 0;have Wv:w7.cell? ⟨Xz,1,none⟩=some (.bool Zc):=bc Xd 1;have Vl:w7.cell? ⟨Xz,2,none⟩=some (.slice Ze Za.length Zd):=bc Xd 2;have hcz10_3:w7.cell? ⟨Xz,3,none⟩=some (.slice Ul Xx.length Um):=bc Xd 3;have Ww:=Yf Xd.out 0;have Wx:=Yf Xd.out 1;have Vm:=Yf Xd.out 2;have hfz10_3:=Yf Xd.out 3;have p732:0≤(Zj:Int):=od;have q732:Zj<(Xx.length:Int):=od;obtain⟨ad732,e732,hx732_0⟩:=Kd.at_int HR0_3.out Zj p732 q732;cases e732;replace hx732_0:=hc HB hx732_0;replace p732:=eq_true p732;replace q732:=eq_true q732));repeat(go_quiet (first|(refine bx 2 104 #[.int .i64 Zb, .bool Zc, .slice Ze Za.length Zd, .slice Ul Xx.length Um] ?_;intro Xz hg w6 Zf hb;have Xd:=Ya (Zf);have GW730:=Ya (by rw[hg];exact(Yi HB.out):w.heap.size≤Xz);have GE730:=Ya (by rw[hg];exact(Yi HB.out):w.heap.size≤Xz);replace HB:=Ya (Yk HB.out hb);clear hb Zf hg)|(refine bx 3 79 #[.int .i64 Zj, .bool true] ?_;intro Vb hg w7 Zf hb;have Uw:=Ya (Zf);have GW731:=Ya (by rw[hg];exact(Yi HB.out):w.heap.size≤Vb);have GE731:=Ya (by rw[hg];exact(Yi HB.out):w.heap.size≤Vb);replace HB:=Ya (Yk HB.out hb);have Je:=Ya (by rw[hg];exact Nat.ne_of_lt (blk_lt Xd.out):Xz≠Vb);have Jf:=Ya (by rw[hg];exact Nat.ne_of_gt (blk_lt Xd.out):Vb≠Xz);replace Xd:=Ya (Yn Xd.out hb);clear hb Zf hg;have hnb8:=Jf.out;have hnc8:=Je.out;have hcz9_0:w7.cell? ⟨Vb,0,none⟩=some (.int .i64 Zj):=bc Uw 0;have hcz9_1:w7.cell? ⟨Vb,1,none⟩=some (.bool true):=bc Uw 1;have hfz9_0:=Yf Uw.out 0;have hfz9_1:=Yf Uw.out 1;have Wu:w7.cell? ⟨Xz,0,none⟩=some (.int .i64 Zb):=bc Xd 0;have Wv:w7.cell? ⟨Xz,1,none⟩=some (.bool Zc):=bc Xd 1;have Vl:w7.cell? ⟨Xz,2,none⟩=some (.slice Ze Za.length Zd):=bc Xd 2;have hcz10_3:w7.cell? ⟨Xz,3,none⟩=some (.slice Ul Xx.length Um):=bc Xd 3;have Ww:=Yf Xd.out 0;have Wx:=Yf Xd.out 1;have Vm:=Yf Xd.out 2;have hfz10_3:=Yf Xd.out 3;have p732:0≤(Zj:Int):=od;have q732:Zj<(Xx.length:Int):=od;obtain⟨ad732,e732,hx732_0⟩:=Kd.at_int HR0_3.out Zj p732 q732;cases e732;replace hx732_0:=hc HB hx732_0;replace p732:=eq_true p732;replace q732:=eq_true q732));try go_wp2_with (first|(refine bx 2 104 #[.int .i64 Zb, .bool Zc, .slice Ze Za.length Zd, .slice Ul Xx.length Um] ?_;intro Xz hg w6 Zf hb;have Xd:=Ya (Zf);have GW730:=Ya (by rw[hg];exact(Yi HB.out):w.heap.size≤Xz);have GE730:=Ya (by rw[hg];exact(Yi HB.out):w.heap.size≤Xz);replace HB:=Ya (Yk HB.out hb);clear hb Zf hg)|(refine bx 3 79 #[.int .i64 Zj, .bool true] ?_;intro Vb hg w7 Zf hb;have Uw:=Ya (Zf);have GW731:=Ya (by rw[hg];exact(Yi HB.out):w.heap.size≤Vb);have GE731:=Ya (by rw[hg];exact(Yi HB.out):w.heap.size≤Vb);replace HB:=Ya (Yk HB.out hb);have Je:=Ya (by rw[hg];exact Nat.ne_of_lt (blk_lt Xd.out):Xz≠Vb);have Jf:=Ya (by rw[hg];exact Nat.ne_of_gt (blk_lt Xd.out):Vb≠Xz);replace Xd:=Ya (Yn Xd.out hb);clear hb Zf hg;have hnb8:=Jf.out;have hnc8:=Je.out;have hcz9_0:w7.cell? ⟨Vb,0,none⟩=some (.int .i64 Zj):=bc Uw 0;have hcz9_1:w7.cell? ⟨Vb,1,none⟩=some (.bool true):=bc Uw 1;have hfz9_0:=Yf Uw.out 0;have hfz9_1:=Yf Uw.out 1;have Wu:w7.cell? ⟨Xz,0,none⟩=some (.int .i64 Zb):=bc Xd 0;have Wv:w7.cell? ⟨Xz,1,none⟩=some (.bool Zc):=bc Xd 1;have Vl:w7.cell? ⟨Xz,2,none⟩=some (.slice Ze Za.length Zd):=bc Xd 2;have hcz10_3:w7.cell? ⟨Xz,3,none⟩=some (.slice Ul Xx.length Um):=bc Xd 3;have Ww:=Yf Xd.out 0;have Wx:=Yf Xd.out 1;have Vm:=Yf Xd.out 2;have hfz10_3:=Yf Xd.out 3;have p732:0≤(Zj:Int):=od;have q732:Zj<(Xx.length:Int):=od;obtain⟨ad732,e732,hx732_0⟩:=Kd.at_int HR0_3.out Zj p732 q732;cases e732;replace hx732_0:=hc HB hx732_0;replace p732:=eq_true p732;replace q732:=eq_true q732)))
  go_ret;exact⟨by first|rfl|(simp[errW_none,errW_some]<;>rfl)|(simp[*,errW_none,errW_some]<;>rfl),HB.out⟩
 replace c3:=Bool.eq_false_iff.mpr c3;subst c3;rw[Yy (show ¬ (false=true) by decide)] at H;by_cases c11:0≤Zj
 rotate_left
 ·rw[Yy c11] at H
  exact absurd H (by simp)
 rw[Yx c11] at H;have c11b0:decide (0≤Zj)=true:=Yv c11;clear c11;by_cases c12:Zj<(Za.length:Int)
 rotate_left
 ·rw[Yy c12] at H
  exact absurd H (by simp)
 rw[Yx c12] at H;have c12b0:decide (Zj<(Za.length:Int))=true:=Yv c12;clear c12;by_cases c13:Zj<(Xx.length:Int)
 rotate_left
 ·rw[Yy c13] at H
  exact absurd H (by simp)
 rw[Yx c13] at H;have c13b0:decide (Zj<(Xx.length:Int))=true:=Yv c13;clear c13;obtain rfl:=Option.some.inj H;go_enter Try.func89,Try.ntmps89;go_wp2_with (first|(refine bx 2 104 #[.int .i64 Zb, .bool Zc, .slice Ze Za.length Zd, .slice Ul Xx.length Um] ?_;intro Xz hg w14 Zf hb;have Xd:=Ya (Zf);have GW730:=Ya (by rw[hg];exact(Yi HB.out):w.heap.size≤Xz);have GE730:=Ya (by rw[hg];exact(Yi HB.out):w.heap.size≤Xz);replace HB:=Ya (Yk HB.out hb);clear hb Zf hg)|(refine bx 3 79 #[.int .i64 Zj, .bool false] ?_;intro Vb hg w15 Zf hb;have Uw:=Ya (Zf);have GW731:=Ya (by rw[hg];exact(Yi HB.out):w.heap.size≤Vb);have GE731:=Ya (by rw[hg];exact(Yi HB.out):w.heap.size≤Vb);replace HB:=Ya (Yk HB.out hb);have Je:=Ya (by rw[hg];exact Nat.ne_of_lt (blk_lt Xd.out):Xz≠Vb);have Jf:=Ya (by rw[hg];exact Nat.ne_of_gt (blk_lt Xd.out):Vb≠Xz);replace Xd:=Ya (Yn Xd.out hb);clear hb Zf hg;have hnb16:=Jf.out;have hnc16:=Je.out;have Vz:w15.cell? ⟨Vb,0,none⟩=some (.int .i64 Zj):=bc Uw 0;have Ua:w15.cell? ⟨Vb,1,none⟩=some (.bool false):=bc Uw 1;have Ub:=Yf Uw.out 0;have Uc:=Yf Uw.out 1;have hcz18_0:w15.cell? ⟨Xz,0,none⟩=some (.int .i64 Zb):=bc Xd 0;have hcz18_1:w15.cell? ⟨Xz,1,none⟩=some (.bool Zc):=bc Xd 1;have hcz18_2:w15.cell? ⟨Xz,2,none⟩=some (.slice Ze Za.length Zd):=bc Xd 2;have hcz18_3:w15.cell? ⟨Xz,3,none⟩=some (.slice Ul Xx.length Um):=bc Xd 3;have hfz18_0:=Yf Xd.out 0;have hfz18_1:=Yf Xd.out 1;have hfz18_2:=Yf Xd.out 2;have hfz18_3:=Yf Xd.out 3;have p733:0≤(Zj:Int):=od;have q733:Zj<(Za.length:Int):=od;obtain⟨ad733,e733,hx733_0,hx733_1,hx733_2,hx733_3⟩:=at_T50 Zh.out Zj p733 q733;cases e733;replace hx733_0:=hc HB hx733_0;replace hx733_1:=hc HB hx733_1;replace hx733_2:=hc HB hx733_2;replace hx733_3:=hc HB hx733_3;replace p733:=eq_true p733;replace q733:=eq_true q733;have p734:0≤(Zj:Int):=od;have q734:Zj<(Xx.length:Int):=od;obtain⟨ad734,e734,hx734_0⟩:=Kd.at_int HR0_3.out Zj p734 q734;cases e734;replace hx734_0:=hc HB hx734_0;replace p734:=eq_true p734;replace q734:=eq_true q734));repeat(go_quiet (first|(refine bx 2 104 #[.int .i64 Zb, .bool Zc, .slice Ze Za.length Zd, .slice Ul Xx.length Um] ?_;intro Xz hg w14 Zf hb;have Xd:=Ya (Zf);have GW730:=Ya (by rw[hg];exact(Yi HB.out):w.heap.size≤Xz);have GE730:=Ya (by rw[hg];exact(Yi HB.out):w.heap.size≤Xz);replace HB:=Ya (Yk HB.out hb);clear hb Zf hg)|(refine bx 3 79 #[.int .i64 Zj, .bool false] ?_;intro Vb hg w15 Zf hb;have Uw:=Ya (Zf);have GW731:=Ya (by rw[hg];exact(Yi HB.out):w.heap.size≤Vb);have GE731:=Ya (by rw[hg];exact(Yi HB.out):w.heap.size≤Vb);replace HB:=Ya (Yk HB.out hb);have Je:=Ya (by rw[hg];exact Nat.ne_of_lt (blk_lt Xd.out):Xz≠Vb);have Jf:=Ya (by rw[hg];exact Nat.ne_of_gt (blk_lt Xd.out):Vb≠Xz);replace Xd:=Ya (Yn Xd.out hb);clear hb Zf hg;have hnb16:=Jf.out;have hnc16:=Je.out;have Vz:w15.cell? ⟨Vb,0,none⟩=some (.int .i64 Zj):=bc Uw 0;have Ua:w15.cell? ⟨Vb,1,none⟩=some (.bool false):=bc Uw 1;have Ub:=Yf Uw.out 0;have Uc:=Yf Uw.out 1;have hcz18_0:w15.cell? ⟨Xz,0,none⟩=some (.int .i64 Zb):=bc Xd 0;have hcz18_1:w15.cell? ⟨Xz,1,none⟩=some (.bool Zc):=bc Xd 1;have hcz18_2:w15.cell? ⟨Xz,2,none⟩=some (.slice Ze Za.length Zd):=bc Xd 2;have hcz18_3:w15.cell? ⟨Xz,3,none⟩=some (.slice Ul Xx.length Um):=bc Xd 3;have hfz18_0:=Yf Xd.out 0;have hfz18_1:=Yf Xd.out 1;have hfz18_2:=Yf Xd.out 2;have hfz18_3:=Yf Xd.out 3;have p733:0≤(Zj:Int):=od;have q733:Zj<(Za.length:Int):=od;obtain⟨ad733,e733,hx733_0,hx733_1,hx733_2,hx733_3⟩:=at_T50 Zh.out Zj p733 q733;cases e733;replace hx733_0:=hc HB hx733_0;replace hx733_1:=hc HB hx733_1;replace hx733_2:=hc HB hx733_2;replace hx733_3:=hc HB hx733_3;replace p733:=eq_true p733;replace q733:=eq_true q733;have p734:0≤(Zj:Int):=od;have q734:Zj<(Xx.length:Int):=od;obtain⟨ad734,e734,hx734_0⟩:=Kd.at_int HR0_3.out Zj p734 q734;cases e734;replace hx734_0:=hc HB hx734_0;replace p734:=eq_true p734;replace q734:=eq_true q734));try go_wp2_with (first|(refine bx 2 104 #[.int .i64 Zb, .bool Zc, .slice Ze Za.length Zd, .slice Ul Xx.length Um] ?_;intro Xz hg w14 Zf hb;have Xd:=Ya (Zf);have GW730:=Ya (by rw[hg];exact(Yi HB.out):w.heap.size≤Xz);have GE730:=Ya (by rw[hg];exact(Yi HB.out):w.heap.size≤Xz);replace HB:=Ya (Yk HB.out hb);clear hb Zf hg)|(refine bx 3 79 #[.int .i64 Zj, .bool false] ?_;intro Vb hg w15 Zf hb;have Uw:=Ya (Zf);have GW731:=Ya (by rw[hg];exact(Yi HB.out):w.heap.size≤Vb);have GE731:=Ya (by rw[hg];exact(Yi HB.out):w.heap.size≤Vb);replace HB:=Ya (Yk HB.out hb);have Je:=Ya (by rw[hg];exact Nat.ne_of_lt (blk_lt Xd.out):Xz≠Vb);have Jf:=Ya (by rw[hg];exact Nat.ne_of_gt (blk_lt Xd.out):Vb≠Xz);replace Xd:=Ya (Yn Xd.out hb);clear hb Zf hg;have hnb16:=Jf.out;have hnc16:=Je.out;have Vz:w15.cell? ⟨Vb,0,none⟩=some (.int .i64 Zj):=bc Uw 0;have Ua:w15.cell? ⟨Vb,1,none⟩=some (.bool false):=bc Uw 1;have Ub:=Yf Uw.out 0;have Uc:=Yf Uw.out 1;have hcz18_0:w15.cell? ⟨Xz,0,none⟩=some (.int .i64 Zb):=bc Xd 0;have hcz18_1:w15.cell? ⟨Xz,1,none⟩=some (.bool Zc):=bc Xd 1;have hcz18_2:w15.cell? ⟨Xz,2,none⟩=some (.slice Ze Za.length Zd):=bc Xd 2;have hcz18_3:w15.cell? ⟨Xz,3,none⟩=some (.slice Ul Xx.length Um):=bc Xd 3;have hfz18_0:=Yf Xd.out 0;have hfz18_1:=Yf Xd.out 1;have hfz18_2:=Yf Xd.out 2;have hfz18_3:=Yf Xd.out 3;have p733:0≤(Zj:Int):=od;have q733:Zj<(Za.length:Int):=od;obtain⟨ad733,e733,hx733_0,hx733_1,hx733_2,hx733_3⟩:=at_T50 Zh.out Zj p733 q733;cases e733;replace hx733_0:=hc HB hx733_0;replace hx733_1:=hc HB hx733_1;replace hx733_2:=hc HB hx733_2;replace hx733_3:=hc HB hx733_3;replace p733:=eq_true p733;replace q733:=eq_true q733;have p734:0≤(Zj:Int):=od;have q734:Zj<(Xx.length:Int):=od;obtain⟨ad734,e734,hx734_0⟩:=Kd.at_int HR0_3.out Zj p734 q734;cases e734;replace hx734_0:=hc HB hx734_0;replace p734:=eq_true p734;replace q734:=eq_true q734)))
 go_ret;exact⟨by first|rfl|(simp[errW_none,errW_some]<;>rfl)|(simp[*,errW_none,errW_some]<;>rfl),bl⟩
end P
namespace H
abbrev Ed:=Nat × Nat × Int
abbrev Tm:=Nat→Option Int
def trig (σ:Tm) (e:Ed):Bool:=
 match σ e.1 with
 |none=>false
 |some x=>match σ e.2.1 with
  |none=>true
  |some y=>decide (x+e.2.2<y)
def relax (σ:Tm) (e:Ed):Tm:=if trig σ e then(fun v=>if v=e.2.1 then some ((σ e.1).getD 0+e.2.2) else σ v) else σ
def Bet (σ τ:Tm):Prop:= ∀ v y,τ v=some y→ ∃ x,σ v=some x∧x≤y
theorem Bet.refl (σ:Tm):Bet σ σ:=fun _ y h=>⟨y,h,Int.le_refl _⟩
theorem Bet.trans {a b c:Tm} (h1:Bet a b) (h2:Bet b c):Bet a c:=fun v y h=>by
 obtain⟨x,hx,hl⟩:=h2 v y h;obtain⟨z,hz,hm⟩:=h1 v x hx;exact⟨z,hz,Int.le_trans hm hl⟩
theorem relax_off {σ:Tm} {e:Ed} (h:trig σ e=false):relax σ e=σ:=by unfold relax;rw[h];rfl
theorem trig_some {σ:Tm} {e:Ed} (h:trig σ e=true): ∃ x,σ e.1=some x∧ ∀ y,σ e.2.1=some y→x+e.2.2<y:=by
 unfold trig at h;cases h1:σ e.1 with
 |none=>rw[h1] at h;cases h
 |some x=>
  rw[h1] at h;refine⟨x,rfl,fun y hy=> ?_⟩;rw[hy] at h;exact Yu h
theorem trig_off {σ:Tm} {e:Ed} (h:trig σ e=false) {x:Int} (hx:σ e.1=some x): ∃ y,σ e.2.1=some y∧y≤x+e.2.2:=by
 unfold trig at h;rw[hx] at h;cases h2:σ e.2.1 with
 |none=>rw[h2] at h;cases h
 |some y=>
  rw[h2] at h;have:=of_decide_eq_false h;exact⟨y,rfl,by omega⟩
theorem relax_on {σ:Tm} {e:Ed} (h:trig σ e=true) {x:Int} (hx:σ e.1=some x) (v:Nat):relax σ e v=if v=e.2.1 then some (x+e.2.2) else σ v:=by
 unfold relax;rw[Yx h,hx];rfl
theorem relax_bet (σ:Tm) (e:Ed):Bet (relax σ e) σ:=by
 cases h:trig σ e with
 |false=>rw[relax_off h];exact Bet.refl _
 |true=>
  obtain⟨x,hx,hl⟩:=trig_some h;intro v y hy;rw[relax_on h hx];by_cases hv:v=e.2.1
  ·subst hv
   rw[Yx rfl];have:=hl y hy;exact⟨_,rfl,by omega⟩
  ·rw[Yy hv]
   exact⟨y,hy,Int.le_refl _⟩
theorem relax_hits {σ:Tm} {e:Ed} {x:Int} (hx:σ e.1=some x): ∃ y,relax σ e e.2.1=some y∧y≤x+e.2.2:=by
 cases h:trig σ e with
 |false=>rw[relax_off h];exact trig_off h hx
 |true=>rw[relax_on h hx,Yx rfl];exact⟨_,rfl,Int.le_refl _⟩
def pass (E:List Ed) (σ:Tm):Tm:=E.foldl relax σ
theorem pass_bet (E:List Ed) (σ:Tm):Bet (pass E σ) σ:=by
 induction E generalizing σ with
 |nil=>exact Bet.refl _
 |cons e E ih=>exact(ih (relax σ e)).trans (relax_bet σ e)
theorem pass_hits {E:List Ed} {e:Ed} (he:e∈E) {σ:Tm} {x:Int} (hx:σ e.1=some x): ∃ y,pass E σ e.2.1=some y∧y≤x+e.2.2:=by
 induction E generalizing σ x with
 |nil=>cases he
 |cons h E ih=>
  rcases List.mem_cons.1 he with rfl|he
  ·obtain⟨y,hy,hl⟩:=relax_hits hx
   obtain⟨z,hz,hm⟩:=pass_bet E (relax σ e) _ y hy;exact⟨z,hz,by omega⟩
  ·obtain⟨x',hx',hl⟩:=relax_bet σ h _ x hx
   obtain⟨y,hy,hm⟩:=ih he hx';exact⟨y,hy,by omega⟩
def Path (E:List Ed):Nat→List Ed→Nat→Prop
 |a,[],b=>a=b
 |a,e::l,b=>e∈E∧e.1=a∧Path E e.2.1 l b
def long:List Ed→Int
 |[]=>0
 |e::l=>e.2.2+long l
theorem Path.app {E:List Ed} {a b c:Nat} {l m:List Ed} (h1:Path E a l b) (h2:Path E b m c):Path E a (l ++ m) c:=by
 induction l generalizing a with
 |nil=>cases h1;exact h2
 |cons e l ih=>exact⟨h1.1,h1.2.1,ih h1.2.2⟩
theorem long_app (l m:List Ed):long (l ++ m)=long l+long m:=by
 induction l with
 |nil=>simp[long]
 |cons e l ih=>simp only[List.cons_append,long,ih];omega
theorem Path.mono {E F:List Ed} (hEF: ∀ e,e∈E→e∈F) {a b:Nat} {l:List Ed} (h:Path E a l b):Path F a l b:=by
 induction l generalizing a with
 |nil=>exact h
 |cons e l ih=>exact⟨hEF _ h.1,h.2.1,ih h.2.2⟩
def Real (E:List Ed) (σ0:Tm) (v:Nat) (x:Int):Prop:= ∃ u c l,σ0 u=some c∧Path E u l v∧x=c+long l
theorem real_start {E:List Ed} {σ0:Tm} {v:Nat} {x:Int} (h:σ0 v=some x):Real E σ0 v x:=⟨v,x,[],h,rfl,by simp[long]⟩
theorem real_relax {E:List Ed} {σ0 σ:Tm} {e:Ed} (he:e∈E) (h: ∀ v x,σ v=some x→Real E σ0 v x): ∀ v x,relax σ e v=some x→Real E σ0 v x:=by
 cases ht:trig σ e with
 |false=>rw[relax_off ht];exact h
 |true=>
  obtain⟨y,hy,_⟩:=trig_some ht;intro v x hx;rw[relax_on ht hy] at hx;by_cases hv:v=e.2.1
  ·rw[Yx hv] at hx
   injection hx with hx
   obtain⟨u,c,l,h0,hp,hl⟩:=h _ _ hy;refine⟨u,c,l ++ [e],h0,hp.app ⟨he,rfl,hv.symm⟩,?_⟩;rw[long_app, ← hx,hl];simp only[long];omega
  ·rw[Yy hv] at hx
   exact h v x hx
theorem real_pass {E:List Ed} {σ0:Tm} (F:List Ed) (hF: ∀ e,e∈F→e∈E) {σ:Tm} (h: ∀ v x,σ v=some x→Real E σ0 v x): ∀ v x,pass F σ v=some x→Real E σ0 v x:=by
 induction F generalizing σ with
 |nil=>exact h
 |cons e F ih=>exact ih (fun e he=>hF e (List.mem_cons_of_mem _ he)) (real_relax (hF e List.mem_cons_self) h)
def its (E:List Ed):Nat→Tm→Tm
 |0,σ=>σ
 |k+1,σ=>its E k (pass E σ)
theorem its_succ (E:List Ed) (k:Nat) (σ:Tm):its E (k+1) σ=pass E (its E k σ):=by
 induction k generalizing σ with
 |zero=>rfl
 |succ k ih=>show its E (k+1) (pass E σ)=_;rw[ih];rfl
theorem its_bet (E:List Ed) (k m:Nat) (σ:Tm):Bet (its E (k+m) σ) (its E k σ):=by
 induction m with
 |zero=>exact Bet.refl _
 |succ m ih=>rw[← Nat.add_assoc,its_succ];exact(pass_bet E _).trans ih
theorem its_real (E:List Ed) (k:Nat) (σ:Tm): ∀ v x,its E k σ v=some x→Real E σ v x:=by
 induction k with
 |zero=>exact fun v x h=>real_start h
 |succ k ih=>rw[its_succ];exact real_pass E (fun _ h=>h) ih
theorem its_path {E:List Ed} {u v:Nat} {l:List Ed} (h:Path E u l v) {σ:Tm} {c:Int} (hc:σ u=some c): ∃ y,its E l.length σ v=some y∧y≤c+long l:=by
 induction l generalizing u σ c with
 |nil=>cases h;exact⟨c,hc,by simp[long]⟩
 |cons e l ih=>
  obtain⟨he,hu,hp⟩:=h;subst hu;obtain⟨y,hy,hl⟩:=pass_hits he hc;obtain⟨z,hz,hm⟩:=ih hp hy;refine⟨z,hz,?_⟩;simp only[long];omega
def Tight (E:List Ed) (r:Nat→Prop) (p:Nat→Int):Prop:= ∀ e,e∈E→r e.1→r e.2.1∧p e.2.1≤p e.1+e.2.2
theorem Tight.path {E:List Ed} {r:Nat→Prop} {p:Nat→Int} (ht:Tight E r p) {a b:Nat} {l:List Ed} (h:Path E a l b) (ha:r a):r b∧p b≤p a+long l:=by
 induction l generalizing a with
 |nil=>cases h;exact⟨ha,by simp[long]⟩
 |cons e l ih=>
  obtain⟨he,hu,hp⟩:=h;subst hu;obtain⟨h1,h2⟩:=ht e he ha;obtain⟨h3,h4⟩:=ih hp h1;refine⟨h3,?_⟩;simp only[long];omega
structure NoGain (E:List Ed) (r:Nat→Prop):Prop where
 on: ∀ e,e∈E→r e.1→r e.2.1
 cyc: ∀ (a:Nat) (l:List Ed),r a→Path E a l a→0≤long l
theorem Tight.noGain {E:List Ed} {r:Nat→Prop} {p:Nat→Int} (ht:Tight E r p):NoGain E r:=
 ⟨fun e he hr=>(ht e he hr).1,fun a l ha hp=>by have:=(ht.path hp ha).2;omega⟩
theorem NoGain.mono {E F:List Ed} {r:Nat→Prop} (h:NoGain E r) (hEF: ∀ e,e∈F→e∈E):NoGain F r:=
 ⟨fun e he hr=>h.on e (hEF e he) hr,fun a l ha hp=>h.cyc a l ha (hp.mono hEF)⟩
def visits (a:Nat) (l:List Ed):List Nat:=a::l.map (fun e=>e.2.1)
theorem path_split {E:List Ed} {a b x:Nat} {l:List Ed} (h:Path E a l b) (hx:x∈visits a l): ∃ l1 l2,l=l1 ++ l2∧Path E a l1 x∧Path E x l2 b:=by
 induction l generalizing a with
 |nil=>
  rcases List.mem_cons.1 hx with rfl|hx
  ·exact⟨[],[],rfl,rfl,h⟩
  ·cases hx
 |cons e l ih=>
  rcases List.mem_cons.1 hx with rfl|hx
  ·exact⟨[],e::l,rfl,rfl,h⟩
  ·obtain⟨he,hu,hp⟩:=h
   have hx':x∈visits e.2.1 l:=by simpa [visits] using hx
   obtain⟨l1,l2,e1,h1,h2⟩:=ih hp hx';exact⟨e::l1,l2,by rw[e1];rfl,⟨he,hu,h1⟩,h2⟩
theorem cut_or {E:List Ed} {r:Nat→Prop} (ht:NoGain E r) {a b:Nat} {l:List Ed} (h:Path E a l b) (ha:r a):
  (∃ l',l'.length<l.length∧Path E a l' b∧long l'≤long l)∨(visits a l).Nodup:=by
 induction l generalizing a with
 |nil=>right;simp[visits]
 |cons e l ih=>
  obtain⟨he,hu,hp⟩:=h;have hr:=ht.on e he (hu▸ha);by_cases hm:a∈visits e.2.1 l
  ·left
   obtain⟨l1,l2,e1,h1,h2⟩:=path_split hp hm;refine⟨l2,by rw[e1];simp;omega,h2,?_⟩;have hc:=ht.cyc a (e::l1) ha ⟨he,hu,h1⟩;rw[e1];simp only[long,long_app] at hc ⊢;omega
  ·rcases ih hp hr with ⟨l',h1,h2,h3⟩|hn
   ·left
    refine⟨e::l',by simp;omega,⟨he,hu,h2⟩,?_⟩;simp only[long];omega
   ·right
    show (a::visits e.2.1 l).Nodup;exact List.nodup_cons.2 ⟨hm,hn⟩
theorem pigeon (n:Nat): ∀ L:List Nat,L.Nodup→(∀ x,x∈L→x<n)→L.length≤n:=by
 induction n with
 |zero=>
  intro L _ h;cases L with
  |nil=>simp
  |cons x L=>exact absurd (h x List.mem_cons_self) (Nat.not_lt_zero _)
 |succ n ih=>
  intro L hn h;by_cases hm:n∈L
  ·have h1:=ih (L.erase n) (hn.erase n) (fun x hx=>by
    have h2:=(hn.mem_erase_iff).1 hx;have:=h x h2.2;have:=h2.1;omega)
   rw[List.length_erase_of_mem hm] at h1;omega
  ·have:=ih L hn (fun x hx=>by
    have h1:=h x hx;have:x≠n:=fun e=>hm (e▸hx)
    omega)
   omega
theorem path_nodes {E:List Ed} {n:Nat} (hE: ∀ e,e∈E→e.1<n∧e.2.1<n) {a b:Nat} {l:List Ed} (h:Path E a l b) (ha:a<n): ∀ x,x∈visits a l→x<n:=by
 induction l generalizing a with
 |nil=>intro x hx;rcases List.mem_cons.1 hx with rfl|hx;exact ha;cases hx
 |cons e l ih=>
  intro x hx;obtain⟨he,hu,hp⟩:=h;rcases List.mem_cons.1 hx with rfl|hx
  ·exact ha
  ·exact ih hp (hE e he).2 x (by simpa [visits] using hx)
theorem short {E:List Ed} {n:Nat} (hE: ∀ e,e∈E→e.1<n∧e.2.1<n) {r:Nat→Prop} (ht:NoGain E r) {a b:Nat} (ha:r a) (han:a<n):
  ∀ (m:Nat) (l:List Ed),l.length≤m→Path E a l b→ ∃ l',l'.length<n∧Path E a l' b∧long l'≤long l:=by
 intro m
 induction m with
 |zero=>
  intro l hl h;exact⟨l,by omega,h,Int.le_refl _⟩
 |succ m ih=>
  intro l hl h;rcases cut_or ht h ha with ⟨l',h1,h2,h3⟩|hn
  ·obtain⟨l2,h4,h5,h6⟩:=ih l' (by omega) h2
   exact⟨l2,h4,h5,Int.le_trans h6 h3⟩
  ·refine⟨l,?_,h,Int.le_refl _⟩
   have:=pigeon n _ hn (path_nodes hE h han);simp[visits] at this;omega
theorem settles {E:List Ed} {n:Nat} (hE: ∀ e,e∈E→e.1<n∧e.2.1<n) {r:Nat→Prop} (ht:NoGain E r) {σ:Tm} (h0: ∀ v x,σ v=some x→v<n∧r v) (k:Nat) (hk:n≤k+1):
  pass E (its E k σ)=its E k σ:=by
 funext v;have hb:=pass_bet E (its E k σ);cases h1:pass E (its E k σ) v with
 |none=>
  cases h2:its E k σ v with
  |none=>rfl
  |some y=>obtain⟨x,hx,_⟩:=hb v y h2;rw[h1] at hx;cases hx
 |some x=>
  have h1':its E (k+1) σ v=some x:=by rw[its_succ];exact h1
  obtain⟨u,c,l,hc,hp,hx⟩:=its_real E (k+1) σ v x h1';obtain⟨l',h2,h3,h4⟩:=short hE ht (h0 u c hc).2 (h0 u c hc).1 l.length l (Nat.le_refl _) hp;obtain⟨y,hy,hl⟩:=its_path h3 hc;obtain⟨z,hz,hm⟩:=its_bet E l'.length (k - l'.length) σ v y hy;rw[show l'.length+(k - l'.length)=k by omega] at hz;obtain⟨x',hx',hl'⟩:=hb v z hz;rw[h1] at hx';injection hx' with hx'
  rw[hz];congr 1;omega
def passT (E:List Ed) (σ:Tm) (b:Bool):Tm × Bool:=E.foldl (fun s e=>(relax s.1 e,s.2 || trig s.1 e)) (σ,b)
theorem passT_fst (E:List Ed) (σ:Tm) (b:Bool):(passT E σ b).1=pass E σ:=by
 induction E generalizing σ b with
 |nil=>rfl
 |cons e E ih=>exact ih (relax σ e) (b || trig σ e)
theorem passT_true (E:List Ed) (σ:Tm):(passT E σ true).2=true:=by
 induction E generalizing σ with
 |nil=>rfl
 |cons e E ih=>show (passT E (relax σ e) (true || trig σ e)).2=true;rw[Bool.true_or];exact ih _
theorem passT_false {E:List Ed} {σ:Tm} (h:(passT E σ false).2=false): ∀ e,e∈E→trig σ e=false:=by
 induction E with
 |nil=>intro e he;cases he
 |cons e E ih=>
  have h':(passT E (relax σ e) (false || trig σ e)).2=false:=h;rw[Bool.false_or] at h';cases ht:trig σ e with
  |true=>rw[ht,passT_true] at h';cases h'
  |false=>
   rw[ht,relax_off ht] at h';intro x hx;rcases List.mem_cons.1 hx with rfl|hx
   ·exact ht
   ·exact ih h' x hx
theorem passT_still {E:List Ed} {σ:Tm} (h: ∀ e,e∈E→trig σ e=false):passT E σ false=(σ,false):=by
 induction E with
 |nil=>rfl
 |cons e E ih=>
  have h1:=h e List.mem_cons_self;show passT E (relax σ e) (false || trig σ e)=_;rw[h1,relax_off h1];exact ih (fun e he=>h e (List.mem_cons_of_mem _ he))
theorem pass_fix {E:List Ed} {σ:Tm} (h:pass E σ=σ): ∀ e,e∈E→trig σ e=false:=by
 intro e he;cases ht:trig σ e with
 |false=>rfl
 |true=>
  obtain⟨x,hx,hl⟩:=trig_some ht;obtain⟨y,hy,hm⟩:=pass_hits he hx;rw[h] at hy;have:=hl y hy;omega
theorem still_bound {E:List Ed} {σ:Tm} (h: ∀ e,e∈E→trig σ e=false) {a b:Nat} {l:List Ed} (hp:Path E a l b) {x:Int} (hx:σ a=some x): ∃ y,σ b=some y∧y≤x+long l:=by
 induction l generalizing a x with
 |nil=>cases hp;exact⟨x,hx,by simp[long]⟩
 |cons e l ih=>
  obtain⟨he,hu,hp⟩:=hp;subst hu;obtain⟨y,hy,hl⟩:=trig_off (h e he) hx;obtain⟨z,hz,hm⟩:=ih hp hy;refine⟨z,hz,?_⟩;simp only[long];omega
theorem still_tight {E:List Ed} {σ:Tm} (h: ∀ e,e∈E→trig σ e=false):Tight E (fun v=> ∃ x,σ v=some x) (fun v=>(σ v).getD 0):=by
 rintro e he ⟨x,hx⟩;obtain⟨y,hy,hl⟩:=trig_off (h e he) hx;refine⟨⟨y,hy⟩,?_⟩;show (σ e.2.1).getD 0≤(σ e.1).getD 0+e.2.2;rw[hx,hy];exact hl
theorem still_uniq {E F:List Ed} (hEF: ∀ e,e∈E↔e∈F) {σ0 σ τ:Tm} (h1: ∀ e,e∈E→trig σ e=false) (h2: ∀ e,e∈F→trig τ e=false) (hr1: ∀ v x,σ v=some x→Real E σ0 v x) (hr2: ∀ v x,τ v=some x→Real F σ0 v x)
  (hb1:Bet σ σ0) (hb2:Bet τ σ0):σ=τ:=by
 have half: ∀ {E F:List Ed} (hEF: ∀ e,e∈E→e∈F) {σ τ:Tm} (h2: ∀ e,e∈F→trig τ e=false) (hr1: ∀ v x,σ v=some x→Real E σ0 v x) (hb2:Bet τ σ0),Bet τ σ:=by
  intro E F hEF σ τ h2 hr1 hb2 v x hx;obtain⟨u,c,l,hc,hp,hl⟩:=hr1 v x hx;obtain⟨c',hc',hcl⟩:=hb2 u c hc;obtain⟨y,hy,hm⟩:=still_bound h2 (hp.mono hEF) hc';exact⟨y,hy,by omega⟩
 have b1:=half (fun e he=>(hEF e).1 he) h2 hr1 hb2;have b2:=half (fun e he=>(hEF e).2 he) h1 hr2 hb1;funext v;cases hs:σ v with
 |none=>
  cases hτ:τ v with
  |none=>rfl
  |some y=>obtain⟨x,hx,_⟩:=b2 v y hτ;rw[hs] at hx;cases hx
 |some x=>
  obtain⟨y,hy,hl⟩:=b1 v x hs;obtain⟨z,hz,hm⟩:=b2 v y hy;rw[hs] at hz;injection hz with hz
  rw[hy];congr 1;omega
theorem still_start {E:List Ed} {σ0 σ:Tm} (h: ∀ e,e∈E→trig σ e=false) (hr: ∀ v x,σ v=some x→Real E σ0 v x) (hb:Bet σ σ0) {s:Nat} {c:Int} (hs:σ0 s=some c) (ho: ∀ u x,σ0 u=some x→u=s):σ s=some c:=by
 obtain⟨x,hx,hl⟩:=hb s c hs;obtain⟨u,c',l,hc',hp,he⟩:=hr s x hx;have hus:=ho u c' hc';subst hus;rw[hs] at hc';injection hc' with hc'
 obtain⟨y,hy,hm⟩:=still_bound h hp hx;rw[hx] at hy;injection hy with hy
 rw[hx];congr 1;omega
end H
namespace H
open P
def Arr (w:World) (g N:Nat) (M:Nat→S79):Prop:=
 ∃ cells:Array Value,w.heap[g]? =some (.cells cells 79 (0,0))∧ ∀ x,x<N→cells[x * 2]? =some (.int .i64 (M x).f0)∧cells[x * 2+1]? =some (.bool (M x).f1)
theorem Arr.cell0 {w:World} {g N:Nat} {M:Nat→S79} (h:Arr w g N M) {x:Nat} (hx:x<N):w.cell? ⟨g,x * 2,none⟩=some (.int .i64 (M x).f0):=by
 obtain⟨cells,hb,hc⟩:=h;simp[World.cell?,hb,(hc x hx).1]
theorem Arr.cell1 {w:World} {g N:Nat} {M:Nat→S79} (h:Arr w g N M) {x:Nat} (hx:x<N):w.cell? ⟨g,x * 2+1,none⟩=some (.bool (M x).f1):=by
 obtain⟨cells,hb,hc⟩:=h;simp[World.cell?,hb,(hc x hx).2]
theorem Arr.free {w:World} {g N:Nat} {M:Nat→S79} (h:Arr w g N M) (j:Nat):w.frozen? ⟨g,j,none⟩=false:=by
 obtain⟨cells,hb,_⟩:=h;simp[World.frozen?,hb]
theorem Arr.lt {w:World} {g N:Nat} {M:Nat→S79} (h:Arr w g N M):g<w.heap.size:=by
 obtain⟨cells,hb,_⟩:=h;exact(Array.getElem?_eq_some_iff.1 hb).1
theorem Arr.congr {w:World} {g N:Nat} {M M':Nat→S79} (h:Arr w g N M) (e: ∀ x,x<N→M' x=M x):Arr w g N M':=by
 obtain⟨cells,hb,hc⟩:=h;exact⟨cells,hb,fun x hx=>by rw[e x hx];exact hc x hx⟩
theorem Arr.same {w w':World} {g N:Nat} {M:Nat→S79} (h:Arr w g N M) (e:w'.heap[g]? =w.heap[g]?):Arr w' g N M:=by
 obtain⟨cells,hb,hc⟩:=h;exact⟨cells,e.trans hb,hc⟩
theorem Arr.below {w w':World} {g N:Nat} {M:Nat→S79} (h:Arr w g N M) (hb:Below w.heap.size w w'):Arr w' g N M:=h.same (hb.block g h.lt)
def upd (M:Nat→S79) (x:Nat) (s:S79) (y:Nat):S79:=if y=x then s else M y
theorem Arr.put {w:World} {g N:Nat} {M:Nat→S79} (h:Arr w g N M) {x:Nat} (hx:x<N) (s:S79):Arr ((w.setCell ⟨g,x * 2,none⟩ (.int .i64 s.f0)).setCell ⟨g,x * 2+1,none⟩ (.bool s.f1)) g N (upd M x s):=by
 obtain⟨cells,hb,hc⟩:=h;refine⟨_,blk_set (blk_set hb _ _) _ _,fun y hy=> ?_⟩;have hs0:=(Array.getElem?_eq_some_iff.1 (hc x hx).1).1;have hs1:=(Array.getElem?_eq_some_iff.1 (hc x hx).2).1;simp only[Array.getElem?_setIfInBounds,Array.size_setIfInBounds];unfold upd;by_cases e:y=x
 ·subst e
  constructor
  ·rw[Yy (by omega),Yx rfl,Yx hs0,Yx rfl]
  ·rw[Yx rfl,Yx hs1,Yx rfl]
 ·rw[Yy e]
  constructor
  ·rw[Yy (by omega),Yy (by omega)];exact(hc y hy).1
  ·rw[Yy (by omega),Yy (by omega)];exact(hc y hy).2
theorem Arr.drew {w:World} {g N:Nat} {M:Nat→S79} (h:Arr w g N M):Arr w.drew g N M:=h.same rfl
def Fr (w w':World) (g:Nat):Prop:=w.grownBy w' (some g)∧ ∀ cells t ro,w.heap[g]? =some (.cells cells t ro)→ ∃ cells',w'.heap[g]? =some (.cells cells' t ro)∧cells'.size=cells.size
theorem grow_set {w w':World} {g:Nat} (h:Fr w w' g) (j:Nat) (u:Value):Fr w (w'.setCell ⟨g,j,none⟩ u) g:=
 ⟨⟨h.1.os,h.1.tape,h.1.output,by simpa [World.setCell] using h.1.size,fun k hk hne=>(Below.heap_setCell w' ⟨g,j,none⟩ u k (fun e=>hne (by rw[e]))).trans (h.1.block k hk hne)⟩,
  fun cells t ro hb=>by
  obtain⟨c',h1,h2⟩:=h.2 cells t ro hb;refine⟨c'.setIfInBounds j u,?_,by simpa using h2⟩;simp[World.setCell,Array.getElem?_modify,h1]⟩
theorem grow_drew {w w':World} {g:Nat} (h:Fr w w' g):Fr w w'.drew g:=⟨⟨h.1.os,h.1.tape,h.1.output,h.1.size,h.1.block⟩,h.2⟩
theorem grow_refl (w:World) (g:Nat):Fr w w g:=⟨⟨rfl,rfl,rfl,Nat.le_refl _,fun _ _ _=>rfl⟩,fun cells t ro hb=>⟨cells,hb,rfl⟩⟩
theorem grow_trans {w w' w'':World} {g:Nat} (h:Fr w w' g) (k:Fr w' w'' g):Fr w w'' g:=
 ⟨⟨k.1.os.trans h.1.os,k.1.tape.trans h.1.tape,k.1.output.trans h.1.output,Nat.le_trans h.1.size k.1.size,fun i hi hne=>(k.1.block i (Nat.lt_of_lt_of_le hi h.1.size) hne).trans (h.1.block i hi hne)⟩,
  fun cells t ro hb=>by
  obtain⟨c',h1,h2⟩:=h.2 cells t ro hb;obtain⟨c2,h3,h4⟩:=k.2 c' t ro h1;exact⟨c2,h3,h4.trans h2⟩⟩
theorem grow_below {w w':World} {g:Nat} (h:Below w.heap.size w w'):Fr w w' g:=
 ⟨grown_of_below h _,fun cells t ro hb=>⟨cells,(h.block g (Array.getElem?_eq_some_iff.1 hb).1).trans hb,rfl⟩⟩
def swapM (M:Nat→S79) (a b n:Nat) (x:Nat):S79:=if a≤x∧x<a+n then M (x - a+b) else if b≤x∧x<b+n then M (x - b+a) else M x
set_option maxHeartbeats 2000000 in
set_option maxRecDepth 100000 in
theorem swapRange_calls (g N cap:Nat) (M:Nat→S79) (a b n:Nat) (f:Value) (w:World) (h:Arr w g N M) (hN:N≤1000000) (ha:a+n≤b) (hb:b+n≤N):
  Calls Try.prog 112 #[.slice (some ⟨g,0,none⟩) N cap, .int .i64 (a:Int), .int .i64 (b:Int), .int .i64 (n:Int),f] w fun e w'=>e= .returned (.tuple #[])∧Arr w' g N (swapM M a b n)∧Fr w w' g:=by
 have HA:=Ya h;clear h;go_enter Try.func112,Try.ntmps112;go_wp2;go_loopw [10] (fun i wr=> ∃ k:Nat,k≤n∧i= .int .i64 k∧Aside0 (Arr wr g N (swapM M a b k))∧Aside0 (Fr w wr g)) (fun i _=>n - (intOf i).toNat)
 case atStart=>exact⟨0,Nat.zero_le _,rfl,⟨HA.out.congr fun x _=>by unfold swapM;rw[Yy (by omega),Yy (by omega)]⟩,⟨grow_refl _ _⟩⟩
 case round=>
  obtain⟨k,hk,rfl,HA1,HG⟩:=hrel;by_cases hlt:k<n
  ·have c0:=HA1.out.cell0 (x:=b+k) (by omega)
   have c1:=HA1.out.cell1 (x:=b+k) (by omega);have d0:=HA1.out.cell0 (x:=a+k) (by omega);have d1:=HA1.out.cell1 (x:=a+k) (by omega);have f0:=HA1.out.free;obtain⟨s1,hs1⟩: ∃ s,swapM M a b k (b+k)=s:=⟨_,rfl⟩;obtain⟨s2,hs2⟩: ∃ s,swapM M a b k (a+k)=s:=⟨_,rfl⟩;rw[hs1] at c0 c1;rw[hs2] at d0 d1;have HE:Aside0 (∀ x,upd (upd (swapM M a b k) (a+k) s1) (b+k) s2 x=swapM M a b (k+1) x):=⟨fun x=>by
    rw[← hs1, ← hs2];unfold upd swapM;by_cases e1:x=b+k
    ·subst e1
     rw[Yx rfl,Yy (by omega),Yy (by omega),Yy (by omega),Yx (by omega)];congr 1;omega
    ·rw[Yy e1]
     by_cases e2:x=a+k
     ·subst e2
      rw[Yx rfl,Yy (by omega),Yy (by omega),Yx (by omega)];congr 1;omega
     ·rw[Yy e2]
      by_cases e3:a≤x∧x<a+k
      ·rw[Yx e3,Yx (by omega)]
      ·rw[Yy e3,Yy (show ¬ (a≤x∧x<a+(k+1)) by omega)]
       by_cases e4:b≤x∧x<b+k
       ·rw[Yx e4,Yx (by omega)]
       ·rw[Yy e4,Yy (by omega)]⟩
   clear hs1 hs2;go_wp2;go_region;have HA2:Aside0 (Arr (((((wr.setCell ⟨g,(a+k) * 2,none⟩ (.int .i64 s1.f0)).setCell ⟨g,(a+k) * 2+1,none⟩ (.bool s1.f1)).setCell ⟨g,(b+k) * 2,none⟩ (.int .i64 s2.f0)).setCell ⟨g,(b+k) * 2+1,none⟩ (.bool s2.f1)).drew) g N (swapM M a b (k+1))):=
    ⟨(((HA1.out.put (by omega) s1).put (by omega) s2).drew).congr fun x _=>(HE.out x).symm⟩
   have HG2:=Ya (grow_drew (grow_set (grow_set (grow_set (grow_set HG.out ((a+k) * 2) (.int .i64 s1.f0)) ((a+k) * 2+1) (.bool s1.f1)) ((b+k) * 2) (.int .i64 s2.f0)) ((b+k) * 2+1) (.bool s2.f1)));clear c0 c1 d0 d1 f0 HA1 HG HE;go_wp2;go_roundw
   case rel=>exact⟨k+1,by omega,by go_num,HA2,HG2⟩
   case measure=>simp[intOf];omega
  ·have e:k=n:=by omega
   subst e;go_wp2;go_end0;exact⟨rfl,HA1.out,HG.out⟩
def rotM (M:Nat→S79) (a m b:Nat) (x:Nat):S79:=if a≤x∧x<b then(if x<a+(b - m) then M (x+(m - a)) else M (x - (b - m))) else M x
def RotAt (M K:Nat→S79) (a m b i j:Nat):Prop:=
 (∀ x, ¬ (m - i≤x∧x<m+j)→K x=rotM M a m b x)∧(∀ x,m - i≤x→x<m - i+j→rotM M a m b x=K (x+i))∧(∀ x,m - i+j≤x→x<m+j→rotM M a m b x=K (x - j))
theorem rot_start (M:Nat→S79) {a m b:Nat} (h1:a≤m) (h2:m≤b):RotAt M M a m b (m - a) (b - m):=by
 refine⟨fun x hx=> ?_,fun x h3 h4=> ?_,fun x h3 h4=> ?_⟩
 ·unfold rotM;rw[Yy (by omega)]
 ·unfold rotM;rw[Yx (by omega),Yx (by omega)]
 ·unfold rotM;rw[Yx (by omega),Yy (by omega)]
theorem rot_left {M K:Nat→S79} {a m b i j:Nat} (h:RotAt M K a m b i j) (hj:0<j) (hij:j<i) (him:i≤m):RotAt M (swapM K (m - i) m j) a m b (i - j) j:=by
 obtain⟨h1,h2,h3⟩:=h;refine⟨fun x hx=> ?_,fun x h4 h5=> ?_,fun x h4 h5=> ?_⟩
 ·unfold swapM
  by_cases e:m - i≤x∧x<m - i+j
  ·rw[Yx e,h2 x e.1 e.2]
   congr 1;omega
  ·rw[Yy e,Yy (by omega)]
   exact h1 x (by omega)
 ·rw[h3 x (by omega) (by omega)]
  unfold swapM;rw[Yy (by omega),Yx (by omega)];congr 1;omega
 ·rw[h3 x (by omega) (by omega)]
  unfold swapM;rw[Yy (by omega),Yy (by omega)]
theorem rot_right {M K:Nat→S79} {a m b i j:Nat} (h:RotAt M K a m b i j) (hi:0<i) (hij:i<j) (him:i≤m):RotAt M (swapM K (m - i) (m+j - i) i) a m b i (j - i):=by
 obtain⟨h1,h2,h3⟩:=h;refine⟨fun x hx=> ?_,fun x h4 h5=> ?_,fun x h4 h5=> ?_⟩
 ·unfold swapM
  rw[Yy (by omega)];by_cases e:m+j - i≤x∧x<m+j - i+i
  ·rw[Yx e,h3 x (by omega) (by omega)]
   congr 1;omega
  ·rw[Yy e]
   exact h1 x (by omega)
 ·rw[h2 x (by omega) (by omega)]
  unfold swapM;rw[Yy (by omega),Yy (by omega)]
 ·rw[h2 x (by omega) (by omega)]
  unfold swapM;rw[Yx (by omega)];congr 1;omega
theorem rot_last {M K:Nat→S79} {a m b i:Nat} (h:RotAt M K a m b i i) (him:i≤m) (x:Nat):swapM K (m - i) m i x=rotM M a m b x:=by
 obtain⟨h1,h2,h3⟩:=h;unfold swapM;by_cases e:m - i≤x∧x<m - i+i
 ·rw[Yx e,h2 x e.1 e.2]
  congr 1;omega
 ·rw[Yy e]
  by_cases e2:m≤x∧x<m+i
  ·rw[Yx e2,h3 x (by omega) (by omega)]
   congr 1;omega
  ·rw[Yy e2]
   exact h1 x (by omega)
set_option maxHeartbeats 2000000 in
set_option maxRecDepth 100000 in
theorem rotate_calls (g N cap:Nat) (M:Nat→S79) (a m b:Nat) (f:Value) (w:World) (h:Arr w g N M) (hN:N≤1000000) (ham:a<m) (hmb:m<b) (hb:b≤N):
  Calls Try.prog 109 #[.slice (some ⟨g,0,none⟩) N cap, .int .i64 (a:Int), .int .i64 (m:Int), .int .i64 (b:Int),f] w fun e w'=>e= .returned (.tuple #[])∧Arr w' g N (rotM M a m b)∧Fr w w' g:=by
 have HA:=Ya h;clear h;go_enter Try.func109,Try.ntmps109;go_wp2;go_loopw [10,11] (fun vi vj wr=> ∃ i j:Nat,0<i∧0<j∧i≤m - a∧j≤b - m∧vi= .int .i64 i∧vj= .int .i64 j∧(∃ K,Aside0 (RotAt M K a m b i j)∧Aside0 (Arr wr g N K))∧Aside0 (Fr w wr g)) (fun vi vj _=>(intOf vi).toNat+(intOf vj).toNat)
 case atStart=>exact⟨m - a,b - m,by omega,by omega,Nat.le_refl _,Nat.le_refl _,by rw[Int.natCast_sub (by omega)],by rw[Int.natCast_sub (by omega)],⟨M,⟨rot_start M (by omega) (by omega)⟩,HA⟩,⟨grow_refl _ _⟩⟩
 case round=>
  obtain⟨i,j,hi,hj,him,hjb,rfl,rfl,⟨K,HK,HA1⟩,HG⟩:=hrel;have e0:(m:Int) - (i:Int)=((m - i:Nat):Int):=by omega
  have E0:=Ya e0;by_cases hij:i=j
  ·subst hij
   have hne:((i:Int) != (i:Int))=false:=by simp
   clear e0;go_wp2_with fail;rw[E0.out];refine(swapRange_calls g N cap K (m - i) m i f _ HA1.out hN (by omega) (by omega)).mono ?_;rintro e w1 ⟨rfl,ha1,hg1⟩;have HA2:=Ya ha1;have HG2:=Ya (grow_trans HG.out hg1);clear ha1 hg1;go_wp2_with fail;go_end0;exact⟨rfl,HA2.out.congr fun x _=>(rot_last HK.out (by omega) x).symm,HG2.out⟩
  ·have hne:((i:Int) != (j:Int))=true:=by rw[bne_iff_ne];omega
   by_cases hlt:j<i
   ·have e1:(i:Int) - (j:Int)=((i - j:Nat):Int):=by omega
    have E1:=Ya e1;clear e0 e1;go_wp2_with fail;rw[E0.out];refine(swapRange_calls g N cap K (m - i) m j f _ HA1.out hN (by omega) (by omega)).mono ?_;rintro e w1 ⟨rfl,ha1,hg1⟩;have HA2:=Ya ha1;have HG2:=Ya (grow_trans HG.out hg1);clear ha1 hg1;go_wp2_with fail;go_roundw
    case rel=>exact⟨i - j,j,by omega,hj,by omega,hjb,by rw[E1.out],rfl,⟨_,⟨rot_left HK.out hj hlt (by omega)⟩,HA2⟩,HG2⟩
    case measure=>simp[intOf];omega
   ·have e1:(j:Int) - (i:Int)=((j - i:Nat):Int):=by omega
    have E1:=Ya e1;have e2:(m:Int)+(j:Int) - (i:Int)=((m+j - i:Nat):Int):=by omega
    have E2:=Ya e2;clear e0 e1 e2;go_wp2_with fail;rw[E0.out,E2.out];refine(swapRange_calls g N cap K (m - i) (m+j - i) i f _ HA1.out hN (by omega) (by omega)).mono ?_;rintro e w1 ⟨rfl,ha1,hg1⟩;have HA2:=Ya ha1;have HG2:=Ya (grow_trans HG.out hg1);clear ha1 hg1;go_wp2_with fail;go_roundw
    case rel=>exact⟨i,j - i,hi,by omega,him,by omega,rfl,by rw[E1.out],⟨_,⟨rot_right HK.out hi (by omega) (by omega)⟩,HA2⟩,HG2⟩
    case measure=>simp[intOf];omega
end H
namespace H
open P
def Le (K:Nat→S79) (a b:Nat):Prop:= ∀ i j,a≤i→i<j→j<b→(K i).f0≤(K j).f0
def Stab (M:Nat→S79) (N:Nat):Prop:= ∀ i j,i<j→j<N→(M i).f0=(M j).f0→(M i).f1=false∧(M j).f1=true
def Small (M:Nat→S79) (N:Nat):Prop:= ∀ i,i<N→0≤(M i).f0∧(M i).f0≤1000000
def Mix (M K:Nat→S79) (a b:Nat):Prop:=
 (∀ x, ¬ (a≤x∧x<b)→K x=M x)∧(∀ x,a≤x→x<b→ ∃ y,a≤y∧y<b∧K x=M y)∧(∀ y,a≤y→y<b→ ∃ x,a≤x∧x<b∧K x=M y)
theorem mix_refl (M:Nat→S79) (a b:Nat):Mix M M a b:=⟨fun _ _=>rfl,fun x h1 h2=>⟨x,h1,h2,rfl⟩,fun x h1 h2=>⟨x,h1,h2,rfl⟩⟩
theorem mix_trans {M K L:Nat→S79} {a b:Nat} (h:Mix M K a b) (k:Mix K L a b):Mix M L a b:=by
 refine⟨fun x hx=>(k.1 x hx).trans (h.1 x hx),fun x h1 h2=> ?_,fun y h1 h2=> ?_⟩
 ·obtain⟨y,h3,h4,e⟩:=k.2.1 x h1 h2
  obtain⟨z,h5,h6,e2⟩:=h.2.1 y h3 h4;exact⟨z,h5,h6,e.trans e2⟩
 ·obtain⟨x,h3,h4,e⟩:=h.2.2 y h1 h2
  obtain⟨z,h5,h6,e2⟩:=k.2.2 x h3 h4;exact⟨z,h5,h6,e2.trans e⟩
theorem mix_wide {M K:Nat→S79} {a b a' b':Nat} (h:Mix M K a b) (ha:a'≤a) (hb:b≤b'):Mix M K a' b':=by
 refine⟨fun x hx=>h.1 x (by omega),fun x h1 h2=> ?_,fun y h1 h2=> ?_⟩
 ·by_cases e:a≤x∧x<b
  ·obtain⟨y,h3,h4,e⟩:=h.2.1 x e.1 e.2
   exact⟨y,by omega,by omega,e⟩
  ·exact⟨x,h1,h2,h.1 x e⟩
 ·by_cases e:a≤y∧y<b
  ·obtain⟨x,h3,h4,e⟩:=h.2.2 y e.1 e.2
   exact⟨x,by omega,by omega,e⟩
  ·exact⟨y,h1,h2,h.1 y e⟩
theorem mix_small {M K:Nat→S79} {a b N:Nat} (h:Mix M K a b) (hb:b≤N) (hs:Small M N):Small K N:=fun x hx=>by
 by_cases e:a≤x∧x<b
 ·obtain⟨y,h3,h4,e⟩:=h.2.1 x e.1 e.2
  rw[e];exact hs y (by omega)
 ·rw[h.1 x e];exact hs x hx
def sw (K:Nat→S79) (p x:Nat):S79:=if x=p then K (p+1) else if x=p+1 then K p else K x
theorem sw_put1 (K:Nat→S79) (p x:Nat):upd (upd K (p+1) (K p)) p (K (p+1)) x=sw K p x:=by
 unfold upd sw;rfl
theorem sw_put2 (K:Nat→S79) (p x:Nat):upd (upd K p (K (p+1))) (p+1) (K p) x=sw K p x:=by
 unfold upd sw;by_cases e:x=p
 ·subst e;rw[Yy (by omega),Yx rfl,Yx rfl]
 ·by_cases e2:x=p+1
  ·rw[Yx e2,Yy e,Yx e2]
  ·rw[Yy e2,Yy e,Yy e,Yy e2]
theorem sw_at (K:Nat→S79) (p:Nat):sw K p p=K (p+1):=Yx rfl
theorem sw_at1 (K:Nat→S79) (p:Nat):sw K p (p+1)=K p:=by unfold sw;rw[Yy (by omega),Yx rfl]
theorem sw_off (K:Nat→S79) (p x:Nat) (h:x≠p) (h1:x≠p+1):sw K p x=K x:=by unfold sw;rw[Yy h,Yy h1]
theorem sw_mix (K:Nat→S79) (p a b:Nat) (ha:a≤p) (hb:p+1<b):Mix K (sw K p) a b:=by
 refine⟨fun x hx=>sw_off K p x (by omega) (by omega),fun x h1 h2=> ?_,fun x h1 h2=> ?_⟩
 ·by_cases e:x=p
  ·subst e;exact⟨x+1,by omega,by omega,sw_at K x⟩
  ·by_cases e2:x=p+1
   ·subst e2;exact⟨p,by omega,by omega,sw_at1 K p⟩
   ·exact⟨x,h1,h2,sw_off K p x e e2⟩
 ·by_cases e:x=p
  ·subst e;exact⟨x+1,by omega,by omega,sw_at1 K x⟩
  ·by_cases e2:x=p+1
   ·subst e2;exact⟨p,by omega,by omega,sw_at K p⟩
   ·exact⟨x,h1,h2,sw_off K p x e e2⟩
theorem sw_stab {K:Nat→S79} {p N:Nat} (h:Stab K N) (hp:p+1<N) (hlt:(K (p+1)).f0<(K p).f0):Stab (sw K p) N:=by
 intro i j hij hj he;have h0: ∀ x,x=p∨x=p+1∨(x≠p∧x≠p+1):=fun x=>by omega
 rcases h0 i with rfl|rfl|⟨i1,i2⟩<;>rcases h0 j with e|e|⟨j1,j2⟩
 ·omega
 ·subst e;rw[sw_at,sw_at1] at he;omega
 ·rw[sw_at,sw_off _ _ _ j1 j2] at he ⊢;exact h _ _ (by omega) hj he
 ·omega
 ·omega
 ·rw[sw_at1,sw_off _ _ _ j1 j2] at he ⊢;exact h _ _ (by omega) hj he
 ·subst e;rw[sw_at,sw_off _ _ _ i1 i2] at he ⊢;exact h _ _ (by omega) (by omega) he
 ·subst e;rw[sw_at1,sw_off _ _ _ i1 i2] at he ⊢;exact h _ _ (by omega) (by omega) he
 ·rw[sw_off _ _ _ i1 i2,sw_off _ _ _ j1 j2] at he ⊢;exact h _ _ hij hj he
def Hole (K:Nat→S79) (a k j:Nat):Prop:=
 (∀ x y,a≤x→x<y→y≤k→x≠j→y≠j→(K x).f0≤(K y).f0)∧(∀ y,j<y→y≤k→(K j).f0≤(K y).f0)
theorem hole_start {K:Nat→S79} {a k:Nat} (h:Le K a k):Hole K a k k:=⟨fun x y h1 h2 h3 h4 h5=>h x y h1 h2 (by omega),fun y h1 h2=>by omega⟩
theorem hole_stop {K:Nat→S79} {a k j:Nat} (h:Hole K a k j) (hj:j=a∨(a<j∧(K (j - 1)).f0≤(K j).f0)):Le K a (k+1):=by
 intro x y h1 h2 h3;by_cases e1:x=j
 ·subst e1;exact h.2 y h2 (by omega)
 ·by_cases e2:y=j
  ·subst e2
   rcases hj with hj|⟨hj,hle⟩
   ·omega
   ·by_cases e3:x=y - 1
    ·subst e3;exact hle
    ·exact Int.le_trans (h.1 x (y - 1) h1 (by omega) (by omega) e1 (by omega)) hle
  ·exact h.1 x y h1 h2 (by omega) e1 e2
theorem hole_swap {K:Nat→S79} {a k p:Nat} (h:Hole K a k (p+1)) (ha:a≤p) (hk:p+1≤k) (hlt:(K (p+1)).f0<(K p).f0):Hole (sw K p) a k p:=by
 refine⟨fun x y h1 h2 h3 h4 h5=> ?_,fun y h1 h2=> ?_⟩
 ·by_cases e1:x=p+1
  ·subst e1;rw[sw_at1,sw_off _ _ _ h5 (by omega)];exact h.1 p y (by omega) (by omega) h3 (by omega) (by omega)
  ·by_cases e2:y=p+1
   ·subst e2;rw[sw_at1,sw_off _ _ _ h4 e1];exact h.1 x p h1 (by omega) (by omega) e1 (by omega)
   ·rw[sw_off _ _ _ h4 e1,sw_off _ _ _ h5 e2];exact h.1 x y h1 h2 h3 e1 e2
 ·rw[sw_at]
  by_cases e2:y=p+1
  ·subst e2;rw[sw_at1];omega
  ·rw[sw_off _ _ _ (by omega) e2];exact h.2 y (by omega) h2
def Sorted (M K:Nat→S79) (N a b:Nat):Prop:=Mix M K a b∧Stab K N∧Small K N∧Le K a b
theorem le_one (K:Nat→S79) (a b:Nat) (h:b≤a+1):Le K a b:=fun i j h1 h2 h3=>by omega
theorem rot_lo (M:Nat→S79) {s m e x:Nat} (h1:s≤x) (h2:x<s+(e - m)) (h3:m≤e) (h4:s≤m):rotM M s m e x=M (x+(m - s)):=by
 unfold rotM;rw[Yx (by omega),Yx h2]
theorem rot_hi (M:Nat→S79) {s m e x:Nat} (h1:s+(e - m)≤x) (h2:x<e) (h4:s≤m):rotM M s m e x=M (x - (e - m)):=by
 unfold rotM;rw[Yx (by omega),Yy (by omega)]
theorem rot_off (M:Nat→S79) {s m e x:Nat} (h: ¬ (s≤x∧x<e)):rotM M s m e x=M x:=by
 unfold rotM;rw[Yy h]
theorem rot_mix (M:Nat→S79) {s m e:Nat} (h1:s≤m) (h2:m≤e):Mix M (rotM M s m e) s e:=by
 refine⟨fun x hx=>rot_off M hx,fun x h3 h4=> ?_,fun x h3 h4=> ?_⟩
 ·by_cases c:x<s+(e - m)
  ·exact⟨x+(m - s),by omega,by omega,rot_lo M h3 c h2 h1⟩
  ·exact⟨x - (e - m),by omega,by omega,rot_hi M (by omega) h4 h1⟩
 ·by_cases c:x<m
  ·refine⟨x+(e - m),by omega,by omega,?_⟩
   rw[rot_hi M (by omega) (by omega) h1];congr 1;omega
  ·refine⟨x - (m - s),by omega,by omega,?_⟩
   rw[rot_lo M (by omega) (by omega) h2 h1];congr 1;omega
theorem rot_stab {M:Nat→S79} {N s m e:Nat} (h:Stab M N) (h1:s≤m) (h2:m≤e) (he:e≤N) (hc: ∀ x y,s≤x→x<m→m≤y→y<e→(M y).f0<(M x).f0):Stab (rotM M s m e) N:=by
 intro i j hij hj heq;have h0: ∀ x, ¬ (s≤x∧x<e)∨(s≤x∧x<s+(e - m))∨(s+(e - m)≤x∧x<e):=fun x=>by omega
 rcases h0 i with a1|⟨a1,a2⟩|⟨a1,a2⟩<;>rcases h0 j with b1|⟨b1,b2⟩|⟨b1,b2⟩
 ·rw[rot_off M a1,rot_off M b1] at heq ⊢;exact h _ _ hij hj heq
 ·rw[rot_off M a1,rot_lo M b1 b2 h2 h1] at heq ⊢;exact h _ _ (by omega) (by omega) heq
 ·rw[rot_off M a1,rot_hi M b1 b2 h1] at heq ⊢;exact h _ _ (by omega) (by omega) heq
 ·rw[rot_lo M a1 a2 h2 h1,rot_off M b1] at heq ⊢;exact h _ _ (by omega) (by omega) heq
 ·rw[rot_lo M a1 a2 h2 h1,rot_lo M b1 b2 h2 h1] at heq ⊢;exact h _ _ (by omega) (by omega) heq
 ·rw[rot_lo M a1 a2 h2 h1,rot_hi M b1 b2 h1] at heq;have:=hc (j - (e - m)) (i+(m - s)) (by omega) (by omega) (by omega) (by omega);omega
 ·rw[rot_hi M a1 a2 h1,rot_off M b1] at heq ⊢;exact h _ _ (by omega) (by omega) heq
 ·omega
 ·rw[rot_hi M a1 a2 h1,rot_hi M b1 b2 h1] at heq ⊢;exact h _ _ (by omega) (by omega) heq
theorem rot_none (M:Nat→S79) {s m e:Nat} (h1:s≤m) (h2:m≤e) (h:s=m∨m=e) (x:Nat):rotM M s m e x=M x:=by
 by_cases c:s≤x∧x<e
 ·rcases h with h|h
  ·subst h;rw[rot_lo M c.1 (by omega) h2 h1];congr 1;omega
  ·subst h;rw[rot_hi M (by omega) c.2 h1];congr 1;omega
 ·exact rot_off M c
theorem le_le {K:Nat→S79} {a b x y:Nat} (h:Le K a b) (h1:a≤x) (h2:x≤y) (h3:y<b):(K x).f0≤(K y).f0:=by
 by_cases e:x=y
 ·subst e;exact Int.le_refl _
 ·exact h x y h1 (by omega) h3
theorem le_join {K:Nat→S79} {a m b:Nat} (h1:Le K a m) (h2:Le K m b) (hc: ∀ x y,a≤x→x<m→m≤y→y<b→(K x).f0≤(K y).f0):Le K a b:=by
 intro i j hi hij hj;by_cases e:j<m
 ·exact h1 i j hi hij e
 ·by_cases e2:i<m
  ·exact hc i j hi e2 (by omega) hj
  ·exact h2 i j (by omega) hij hj
theorem rot_one_lo {M:Nat→S79} {a b i:Nat} (h:Le M (a+1) b) (h1:a+1≤i) (h2:i≤b) (hlt: ∀ y,a+1≤y→y<i→(M y).f0<(M a).f0) (hge: ∀ y,i≤y→y<b→(M a).f0≤(M y).f0):Le (rotM M a (a+1) i) a b:=by
 have lo: ∀ x,a≤x→x+1<i→rotM M a (a+1) i x=M (x+1):=fun x h3 h4=>by rw[rot_lo M h3 (by omega) h1 (by omega)];congr 1;omega
 have at_:rotM M a (a+1) i (i - 1)=M a:=by rw[rot_hi M (by omega) (by omega) (by omega)];congr 1;omega
 have hi: ∀ x,i≤x→rotM M a (a+1) i x=M x:=fun x h3=>rot_off M (by omega)
 intro x y h3 h4 h5;by_cases c1:x+1<i
 ·rw[lo x h3 c1]
  by_cases c2:y+1<i
  ·rw[lo y (by omega) c2];exact h _ _ (by omega) (by omega) (by omega)
  ·by_cases c3:y=i - 1
   ·subst c3;rw[at_];have:=hlt (x+1) (by omega) c1;omega
   ·rw[hi y (by omega)];exact h _ _ (by omega) (by omega) (by omega)
 ·by_cases c2:x=i - 1
  ·subst c2;rw[at_,hi y (by omega)];exact hge y (by omega) h5
  ·rw[hi x (by omega),hi y (by omega)];exact h _ _ (by omega) h4 h5
theorem rot_one_hi {M:Nat→S79} {a m i:Nat} (h:Le M a m) (h1:a≤i) (h2:i≤m) (hle: ∀ y,a≤y→y<i→(M y).f0≤(M m).f0) (hgt: ∀ y,i≤y→y<m→(M m).f0<(M y).f0):Le (rotM M i m (m+1)) a (m+1):=by
 have lo: ∀ x,x<i→rotM M i m (m+1) x=M x:=fun x h3=>rot_off M (by omega)
 have at_:rotM M i m (m+1) i=M m:=by rw[rot_lo M (Nat.le_refl _) (by omega) (by omega) h2];congr 1;omega
 have hi: ∀ x,i<x→x<m+1→rotM M i m (m+1) x=M (x - 1):=fun x h3 h4=>by rw[rot_hi M (by omega) h4 h2];congr 1;omega
 intro x y h3 h4 h5;by_cases c1:x<i
 ·rw[lo x c1]
  by_cases c2:y<i
  ·rw[lo y c2];exact h _ _ h3 h4 (by omega)
  ·by_cases c3:y=i
   ·subst c3;rw[at_];exact hle x h3 c1
   ·rw[hi y (by omega) h5];exact h _ _ h3 (by omega) (by omega)
 ·by_cases c2:x=i
  ·subst c2;rw[at_,hi y h4 h5];have:=hgt (y - 1) (by omega) (by omega);omega
  ·rw[hi x (by omega) (by omega),hi y (by omega) h5];exact h _ _ (by omega) (by omega) (by omega)
theorem sym_rot {M:Nat→S79} {a m b mid s e N:Nat} (h1:Le M a m) (h2:Le M m b) (has:a≤s) (hsm:s≤m) (hme:m≤e) (heb:e≤b) (hsum:s+e=mid+m) (hsmid:s≤mid) (hmide:mid≤e)
  (hge:a<s→e<b→(M (s - 1)).f0≤(M e).f0) (hlt:s<m→m<e→(M (e - 1)).f0<(M s).f0) (hst:Stab M N) (hb:b≤N):
  Stab (rotM M s m e) N∧Le (rotM M s m e) a s∧Le (rotM M s m e) s mid∧Le (rotM M s m e) mid e∧Le (rotM M s m e) e b∧ ∀ x y,a≤x→x<mid→mid≤y→y<b→(rotM M s m e x).f0≤(rotM M s m e y).f0:=by
 have hx: ∀ x y,s≤x→x<m→m≤y→y<e→(M y).f0<(M x).f0:=fun x y h3 h4 h5 h6=>by
  have k1:=hlt (by omega) (by omega);have k2:(M y).f0≤(M (e - 1)).f0:=le_le h2 h5 (by omega) (by omega);have k3:(M s).f0≤(M x).f0:=le_le h1 has h3 h4;omega
 have hy: ∀ x y,a≤x→x<s→e≤y→y<b→(M x).f0≤(M y).f0:=fun x y h3 h4 h5 h6=>by
  have k1:=hge (by omega) (by omega);have k2:(M x).f0≤(M (s - 1)).f0:=le_le h1 h3 (by omega) (by omega);have k3:(M e).f0≤(M y).f0:=le_le h2 hme h5 h6;omega
 have p1: ∀ x,x<s→rotM M s m e x=M x:=fun x h=>rot_off M (by omega)
 have p2: ∀ x,s≤x→x<mid→rotM M s m e x=M (x+(m - s)):=fun x h3 h4=>rot_lo M h3 (by omega) hme hsm
 have p3: ∀ x,mid≤x→x<e→rotM M s m e x=M (x - (e - m)):=fun x h3 h4=>rot_hi M (by omega) h4 hsm
 have p4: ∀ x,e≤x→rotM M s m e x=M x:=fun x h=>rot_off M (by omega)
 refine⟨rot_stab hst hsm hme (by omega) hx,?_,?_,?_,?_,?_⟩
 ·intro x y h3 h4 h5;rw[p1 x (by omega),p1 y h5];exact h1 _ _ h3 h4 (by omega)
 ·intro x y h3 h4 h5;rw[p2 x h3 (by omega),p2 y (by omega) h5];exact h2 _ _ (by omega) (by omega) (by omega)
 ·intro x y h3 h4 h5;rw[p3 x h3 (by omega),p3 y (by omega) h5];exact h1 _ _ (by omega) (by omega) (by omega)
 ·intro x y h3 h4 h5;rw[p4 x h3,p4 y (by omega)];exact h2 _ _ (by omega) h4 h5
 ·intro x y h3 h4 h5 h6
  by_cases c1:x<s
  ·rw[p1 x c1]
   by_cases c2:y<e
   ·rw[p3 y h5 c2];exact le_le h1 h3 (by omega) (by omega)
   ·rw[p4 y (by omega)];exact hy x y h3 c1 (by omega) h6
  ·rw[p2 x (by omega) h4]
   by_cases c2:y<e
   ·rw[p3 y h5 c2];exact Int.le_of_lt (hx _ _ (by omega) (by omega) (by omega) (by omega))
   ·rw[p4 y (by omega)];exact le_le h2 (by omega) (by omega) h6
theorem mix_cross {K L:Nat→S79} {a m b:Nat} (hc: ∀ x y,a≤x→x<m→m≤y→y<b→(K x).f0≤(K y).f0) (h:Mix K L a m∨Mix K L m b):
  ∀ x y,a≤x→x<m→m≤y→y<b→(L x).f0≤(L y).f0:=by
 intro x y h1 h2 h3 h4;rcases h with h|h
 ·obtain⟨z,h5,h6,e⟩:=h.2.1 x h1 h2
  rw[e,h.1 y (by omega)];exact hc z y h5 h6 h3 h4
 ·obtain⟨z,h5,h6,e⟩:=h.2.1 y h3 h4
  rw[e,h.1 x (by omega)];exact hc x z h1 h2 h5 h6
theorem mix_le {K L:Nat→S79} {a b c d:Nat} (h:Mix K L c d) (hd:b≤c∨d≤a) (hl:Le K a b):Le L a b:=fun i j h1 h2 h3=>by
 rw[h.1 i (by omega),h.1 j (by omega)];exact hl i j h1 h2 h3
theorem sw_rot_lo (M:Nat→S79) {a k:Nat} (h:a≤k) (x:Nat):sw (rotM M a (a+1) (k+1)) k x=rotM M a (a+1) (k+2) x:=by
 unfold sw rotM;by_cases e1:x=k
 ·subst e1;rw[Yx rfl,Yy (by omega),Yx (by omega),Yx (by omega)];congr 1;omega
 ·rw[Yy e1]
  by_cases e2:x=k+1
  ·subst e2;rw[Yx rfl,Yx (by omega),Yy (by omega),Yx (by omega),Yy (by omega)];congr 1;omega
  ·rw[Yy e2]
   by_cases e3:a≤x∧x<k
   ·rw[Yx (by omega),Yx (by omega),Yx (by omega),Yx (by omega)]
   ·rw[Yy (by omega),Yy (by omega)]
theorem sw_rot_hi (M:Nat→S79) {k m:Nat} (h:k<m) (x:Nat):sw (rotM M (k+1) m (m+1)) k x=rotM M k m (m+1) x:=by
 unfold sw rotM;by_cases e1:x=k
 ·subst e1;rw[Yx rfl,Yx (by omega),Yx (by omega),Yx (by omega),Yx (by omega)];congr 1;omega
 ·rw[Yy e1]
  by_cases e2:x=k+1
  ·subst e2;rw[Yx rfl,Yy (by omega),Yx (by omega),Yy (by omega)];congr 1;omega
  ·rw[Yy e2]
   by_cases e3:k≤x∧x<m+1
   ·rw[Yx (by omega),Yy (by omega),Yx (by omega),Yy (by omega)]
   ·rw[Yy (by omega),Yy (by omega)]
end H
namespace P
attribute [local go_sem] max2_int min2_int max_two min_two max_three min_three max_four min_four
def adj_from.f (Zb:Int) (Zc:Int) (a0_2:Int) (a0_3:Int):Option (Int):=some Zb
set_option maxHeartbeats 8000000 in
set_option maxRecDepth 100000 in
theorem adj_from.calls (Zb:Int) (Zc:Int) (a0_2:Int) (a0_3:Int) (r:Int) (w:World) (h:adj_from.f Zb Zc a0_2 a0_3=some r):
  Calls Try.prog 96 #[.agg #[.int .i64 Zb, .int .i64 Zc, .int .i64 a0_2, .int .i64 a0_3]] w fun e w'=>e= .returned (.int .i64 r)∧Below w.heap.size w w':=by
 have hu50:=Try.underlying50;have HB:=Ya (Yo w.heap.size w);have H:=h;unfold adj_from.f at H;clear h;obtain rfl:=Option.some.inj H;go_enter Try.func96,Try.ntmps96;go_wp2_with (first|(refine bx 1 50 #[.int .i64 Zb, .int .i64 Zc, .int .i64 a0_2, .int .i64 a0_3] ?_;intro gb120 hg w2 Zf hb;have BK120:=Ya (Zf);have GW120:=Ya ((sz hg));have GE120:=Ya ((sz hg));replace HB:=Ya (Yk bl hb);clear hb Zf hg;have hcz3_0:w2.cell? ⟨gb120,0,none⟩=some (.int .i64 Zb):=bc BK120 0;have hcz3_1:w2.cell? ⟨gb120,1,none⟩=some (.int .i64 Zc):=bc BK120 1;have hcz3_2:w2.cell? ⟨gb120,2,none⟩=some (.int .i64 a0_2):=bc BK120 2;have hcz3_3:w2.cell? ⟨gb120,3,none⟩=some (.int .i64 a0_3):=bc BK120 3;have hfz3_0:=Yf BK120.out 0;have hfz3_1:=Yf BK120.out 1;have hfz3_2:=Yf BK120.out 2;have hfz3_3:=Yf BK120.out 3));go_ret;exact⟨by first|rfl|(simp[errW_none,errW_some]<;>rfl)|(simp[*,errW_none,errW_some]<;>rfl),HB.out⟩
end P
namespace P
attribute [local go_sem] max2_int min2_int max_two min_two max_three min_three max_four min_four
def adj_to.f (Zb:Int) (Zc:Int) (a0_2:Int) (a0_3:Int):Option (Int):=some Zc
set_option maxHeartbeats 8000000 in
set_option maxRecDepth 100000 in
theorem adj_to.calls (Zb:Int) (Zc:Int) (a0_2:Int) (a0_3:Int) (r:Int) (w:World) (h:adj_to.f Zb Zc a0_2 a0_3=some r):
  Calls Try.prog 97 #[.agg #[.int .i64 Zb, .int .i64 Zc, .int .i64 a0_2, .int .i64 a0_3]] w fun e w'=>e= .returned (.int .i64 r)∧Below w.heap.size w w':=by
 have hu50:=Try.underlying50;have HB:=Ya (Yo w.heap.size w);have H:=h;unfold adj_to.f at H;clear h;obtain rfl:=Option.some.inj H;go_enter Try.func97,Try.ntmps97;go_wp2_with (first|(refine bx 1 50 #[.int .i64 Zb, .int .i64 Zc, .int .i64 a0_2, .int .i64 a0_3] ?_;intro gb122 hg w2 Zf hb;have BK122:=Ya (Zf);have GW122:=Ya ((sz hg));have GE122:=Ya ((sz hg));replace HB:=Ya (Yk bl hb);clear hb Zf hg;have hcz3_0:w2.cell? ⟨gb122,0,none⟩=some (.int .i64 Zb):=bc BK122 0;have hcz3_1:w2.cell? ⟨gb122,1,none⟩=some (.int .i64 Zc):=bc BK122 1;have hcz3_2:w2.cell? ⟨gb122,2,none⟩=some (.int .i64 a0_2):=bc BK122 2;have hcz3_3:w2.cell? ⟨gb122,3,none⟩=some (.int .i64 a0_3):=bc BK122 3;have hfz3_0:=Yf BK122.out 0;have hfz3_1:=Yf BK122.out 1;have hfz3_2:=Yf BK122.out 2;have hfz3_3:=Yf BK122.out 3));go_ret;exact⟨by first|rfl|(simp[errW_none,errW_some]<;>rfl)|(simp[*,errW_none,errW_some]<;>rfl),HB.out⟩
end P
namespace H
open P
theorem infoRow:(Try.prog.info? 31).map (fun i=>(i.zero,i.size,i.bytes))=some (some (.slice none 0 0),1,24):=by kernel_rfl
def eFrom (x:S50):Int:=x.f0
def eTo (x:S50):Int:=x.f1
def lsAt (E:S50→Int) (l:List S50) (n:Nat):Nat→List (List Int)
 |0=>List.replicate n []
 |k+1=>(lsAt E l n k).set (E (rd_T50 l k)).toNat (rd_L5 (lsAt E l n k) (E (rd_T50 l k)) ++ [(k:Int)])
theorem lsAt_len (E:S50→Int) (l:List S50) (n k:Nat):(lsAt E l n k).length=n:=by
 induction k with
 |zero=>exact List.length_replicate
 |succ k ih=>show (List.set _ _ _).length=n;rw[List.length_set,ih]
theorem lsAt_row (E:S50→Int) (l:List S50) (n k:Nat) (i:Int):(rd_L5 (lsAt E l n k) i).length≤k:=by
 induction k generalizing i with
 |zero=>
  unfold rd_L5 lsAt;rw[List.getD_eq_getElem?_getD,List.getElem?_replicate];split<;>simp
 |succ k ih=>
  unfold rd_L5;show ((List.set _ _ _).getD i.toNat []).length≤k+1;rw[List.getD_eq_getElem?_getD,List.getElem?_set];have hi:=ih i;unfold rd_L5 at hi;rw[List.getD_eq_getElem?_getD] at hi;split
  ·split
   ·have:=ih (E (rd_T50 l k))
    simp only[Option.getD_some,List.length_append,List.length_cons,List.length_nil];omega
   ·simp
  ·omega
set_option maxHeartbeats 4000000 in
set_option maxRecDepth 100000 in
theorem listsFrom_calls (Zb:Int) (Zc:Bool) (Ze:Option Addr) (Zd:Nat) (Za:List S50) (w:World) (Zp:Kd.C k50 w Ze Za.length Za) (Zq:Za.length≤Zd) (h0:0≤Zb) (h1:Zb≤1000000) (hl:Za.length≤1000000) (hE: ∀ k:Nat,k<Za.length→0≤eFrom (rd_T50 Za k)∧eFrom (rd_T50 Za k)<Zb):
  Calls Try.prog 95 #[.agg #[.int .i64 Zb, .bool Zc, .slice Ze Za.length Zd], .func (.func 96) #[] #[]] w fun e w'=> ∃ v0_:Value,e= .returned v0_∧Kd.S (Kd.slice 3 (Kd.int .i64)) 31 w' w.heap.size (fun _=>True) v0_ (lsAt eFrom Za Zb.toNat Za.length)∧Below w.heap.size w w':=by
 have hu24:=Try.underlying24;have hu74:=Try.underlying50;have Zh:=Ya Zp;have Zo:=Ya Zq;have HE:=Ya hE;clear Zp Zq hE;have HB:=Ya (Yo w.heap.size w);have c2b1:decide (0≤Zb)=true:=Yv h0;have c3b1:decide ((Zb:Int).toNat≤11728124029610)=true:=Yv (by omega);have c2b0:=eq_true h0;have c3b0:((Zb:Int).toNat≤11728124029610)=True:=eq_true (by omega);have HH0:=Ya h0;have HH1:=Ya h1;clear h0 h1;go_enter Try.func95,Try.ntmps95;go_wp2_with (first|((with_reducible refine gate_dst (N:=2) rfl ?_);refine Yz ?hg (N:=2) ?hd (cs:= #[.int .i64 Zb, .bool Zc, .slice Ze Za.length Zd]) (t:=24) ?hr ?_;(case hd=>rfl);(case hg=>rfl);(case hr=>first|(go_simp;done)|(go_simp;rfl));intro Wp hg w4 Zf hb;have n0_:=Ya (Yk (by repeat(first|(with_reducible first|exact HB.out|apply Ye|apply Yd|apply Yg)|exact HB.out)) hb);have n1_:=Ya (Zf);have n3_:=Ya ((by rw[hg];exact(Yi (by repeat(first|(with_reducible first|exact HB.out|apply Ye|apply Yd|apply Yg)|exact HB.out))):w.heap.size≤Wp));clear HB;have HB:=n0_;have Zy:=n1_;have GE111:=n3_;clear n0_ n1_ n3_;clear hb Zf hg;have hcz5_0:w4.cell? ⟨Wp,0,none⟩=some (.int .i64 Zb):=(Yc Zy.out 0).trans rfl;have hcz5_1:w4.cell? ⟨Wp,1,none⟩=some (.bool Zc):=(Yc Zy.out 1).trans rfl;have hcz5_2:w4.cell? ⟨Wp,2,none⟩=some (.slice Ze Za.length Zd):=(Yc Zy.out 2).trans rfl;have hfz5_0:=Yf Zy.out 0;have hfz5_1:=Yf Zy.out 1;have hfz5_2:=Yf Zy.out 2)|((with_reducible refine gate_dst (N:=11) rfl ?_);refine Kd.S_make (Kd.slice 3 (Kd.int .i64)) _ 31 rfl (N:=11) rfl 124 _ _ rfl Zb rfl rfl Try.underlying124 (.slice none 0 0) 24 infoRow rfl (by decide) (by omega) [] (ok:=fun _=>True) (okp:=fun _=>True) ⟨_,rfl,Kd.R_nil _ _ _ _ _⟩ (fun _ hk=>hk) trivial (Yu (by first|(with_reducible assumption)|assumption)) (Nat.le_trans (Nat.mul_le_mul_right _ (Yu (by first|(with_reducible assumption)|assumption):Zb.toNat≤11728124029610)) (by omega)) (Yo _ _) (Nat.le_refl _) ?_;intro v113 w6 ho7 hb hg_ hnew_;clear hg_ hnew_;have n0_:=Ya (Kd.S_lower ho7 (Yi (by repeat(first|(with_reducible first|exact HB.out|apply Ye|apply Yd|apply Yg|refine Yh ?_ GE111.out)|exact HB.out))));have n1_:=Ya (Yn (g:=Wp) (o:= .cells #[.int .i64 Zb, .bool Zc, .slice Ze Za.length Zd] 24 (0,0)) (by(with_reducible repeat(first|refine Yl ?_ _|refine Ym ?_|refine Yj ?_ _));exact Zy.out) hb);have n2_:=Ya (Yk (by repeat(first|(with_reducible first|exact HB.out|apply Ye|apply Yd|apply Yg|refine Yh ?_ GE111.out)|exact HB.out)) hb);clear Zy;clear HB;have HO114:=n0_;have Zy:=n1_;have HB:=n2_;clear n0_ n1_ n2_;clear hb ho7;have Jq:w6.cell? ⟨Wp,0,none⟩=some (.int .i64 Zb):=(Yc Zy.out 0).trans rfl;have Jr:w6.cell? ⟨Wp,1,none⟩=some (.bool Zc):=(Yc Zy.out 1).trans rfl;have hcz8_2:w6.cell? ⟨Wp,2,none⟩=some (.slice Ze Za.length Zd):=(Yc Zy.out 2).trans rfl;have Js:=Yf Zy.out 0;have Jt:=Yf Zy.out 1;have hfz8_2:=Yf Zy.out 2));go_loopw [15] (fun v15 w'=> ∃ k:Nat,k≤Za.length∧v15= .int .i64 k∧Aside0 (Kd.S (Kd.slice 3 (Kd.int .i64)) 31 w' w.heap.size (fun _=>True) v113 (lsAt eFrom Za Zb.toNat k))∧Aside0 (w'.heap[Wp]? =some (.cells #[.int .i64 Zb, .bool Zc,(.slice Ze Za.length Zd)] 24 (0,0)))∧Aside0 (Below w.heap.size w w')) (fun v15 _=>Za.length - (intOf v15).toNat)
 case atStart=>exact⟨0,Nat.zero_le _,rfl,⟨by(with_reducible repeat(first|apply Kd.S_alloc|apply Kd.S_drewN|apply Kd.S_drew));exact HO114.out⟩,⟨by(with_reducible repeat(first|refine Yl ?_ _|refine Ym ?_|refine Yj ?_ _));exact Zy.out⟩,⟨(by repeat(first|(with_reducible first|exact HB.out|apply Ye|apply Yd|apply Yg|refine Yh ?_ GE111.out)|exact HB.out))⟩⟩
 case round=>
  try clear c2b0
  try clear c2b1
  try clear c3b0
  try clear c3b1
  try clear hcz5_0 hcz5_1 hcz5_2 Jq Jr hcz8_2 hfz5_0 hfz5_1 hfz5_2 Js Jt hfz8_2
  clear HO114 Zy HB;obtain⟨k,hk,rfl,HO_3,Zy,HB⟩:=hrel;by_cases hlt:k<Za.length
  ·have hEk:=HE.out k hlt
   obtain⟨ex,hex0⟩: ∃ ex,eFrom (rd_T50 Za (k:Int))=ex:=⟨_,rfl⟩;have hex:=Ya hex0;have LSN:Aside0 (lsAt eFrom Za Zb.toNat (k+1)=(lsAt eFrom Za Zb.toNat k).set (ex:Int).toNat (rd_L5 (lsAt eFrom Za Zb.toNat k) ex ++ [(k:Int)])):=⟨by rw[← hex0];rfl⟩;rw[hex0] at hEk;clear hex0;have hlen:=lsAt_len eFrom Za Zb.toNat k;have c12b0:decide (0≤ex)=true:=Yv hEk.1;have c13b0:decide (ex<((lsAt eFrom Za Zb.toNat k).length:Int))=true:=Yv (by rw[hlen];have:=HH0.out;omega);have LMc14:Aside0 ((rd_L5 (lsAt eFrom Za Zb.toNat k) ex).length<17592186044416):=⟨by have:=lsAt_row eFrom Za Zb.toNat k ex;omega⟩;clear hEk hlen;have p115:0≤((k:Nat):Int):=by omega
   have q115:((k:Nat):Int)<(Za.length:Int):=by omega
   obtain⟨ad115,e115,hx115_0,hx115_1,hx115_2,hx115_3⟩:=at_T50 Zh.out (k:Int) p115 q115;simp only[Int.toNat_natCast] at hx115_0 hx115_1 hx115_2 hx115_3;cases e115;replace hx115_0:=(HB.out.cell (Yb w _ hx115_0)).trans hx115_0;replace hx115_1:=(HB.out.cell (Yb w _ hx115_1)).trans hx115_1;replace hx115_2:=(HB.out.cell (Yb w _ hx115_2)).trans hx115_2;replace hx115_3:=(HB.out.cell (Yb w _ hx115_3)).trans hx115_3;have c9b0:decide ((k:Int)<(Za.length:Int))=true:=Yv q115;go_wp2_with (first|((with_reducible refine gate_dst (N:=7) rfl ?_);refine Yz ?hg (N:=7) ?hd (cs:= #[.int .i64 0, .int .i64 0, .int .i64 0, .int .i64 0]) (t:=50) ?hr ?_;(case hd=>rfl);(case hg=>rfl);(case hr=>first|(go_simp;done)|(go_simp;rfl));intro Vc hg w16 Zf hb;have n0_:=Ya (Kd.S_below (by(with_reducible repeat(first|apply Kd.S_alloc|apply Kd.S_drewN|apply Kd.S_drew));exact HO_3.out) hb);have n1_:=Ya (Yn (g:=Wp) (o:=(.cells #[.int .i64 Zb, .bool Zc, .slice (some ad115) Za.length Zd] 24 (0,0))) (by(with_reducible repeat(first|refine Yl ?_ _|refine Ym ?_|refine Yj ?_ _));exact Zy.out) hb);have n2_:=Ya (Yk (by repeat(first|(with_reducible first|exact HB.out|apply Ye|apply Yd|apply Yg|refine Yh ?_ GE111.out)|exact HB.out)) hb);have n3_:=Ya (Zf);have n5_:=Ya ((by rw[hg];exact(Yi (by repeat(first|(with_reducible first|exact HB.out|apply Ye|apply Yd|apply Yg|refine Yh ?_ GE111.out)|exact HB.out))):w.heap.size≤Vc));have n6_:=Ya ((by rw[hg];exact Nat.ne_of_lt (blk_lt (g:=Wp) (o:=(.cells #[.int .i64 Zb, .bool Zc, .slice (some ad115) Za.length Zd] 24 (0,0))) (by(with_reducible repeat(first|refine Yl ?_ _|refine Ym ?_|refine Yj ?_ _));exact Zy.out)):Wp≠Vc));have n7_:=Ya ((by rw[hg];exact Nat.ne_of_gt (blk_lt (g:=Wp) (o:=(.cells #[.int .i64 Zb, .bool Zc, .slice (some ad115) Za.length Zd] 24 (0,0))) (by(with_reducible repeat(first|refine Yl ?_ _|refine Ym ?_|refine Yj ?_ _));exact Zy.out)):Vc≠Wp));clear HO_3;clear Zy;clear HB;have HO_3:=n0_;have Zy:=n1_;have HB:=n2_;have Wt:=n3_;have GE116:=n5_;have Jg:=n6_;have NB116_111:=n7_;clear n0_ n1_ n2_ n3_ n5_ n6_ n7_;clear hb Zf hg;have hnb17:=NB116_111.out;have hnc17:=Jg.out;have hcz18_0:w16.cell? ⟨Vc,0,none⟩=some (.int .i64 0):=(Yc Wt.out 0).trans rfl;have hcz18_1:w16.cell? ⟨Vc,1,none⟩=some (.int .i64 0):=(Yc Wt.out 1).trans rfl;have hcz18_2:w16.cell? ⟨Vc,2,none⟩=some (.int .i64 0):=(Yc Wt.out 2).trans rfl;have hcz18_3:w16.cell? ⟨Vc,3,none⟩=some (.int .i64 0):=(Yc Wt.out 3).trans rfl;have hfz18_0:=Yf Wt.out 0;have hfz18_1:=Yf Wt.out 1;have hfz18_2:=Yf Wt.out 2;have hfz18_3:=Yf Wt.out 3)|((with_reducible refine gate_store (t:=50) (p:=7) rfl ?_);refine store_event (t:=50) (p:=7) (v:= ?vo_w19) (w1:=((((w16.setCell ⟨Vc,0,none⟩ (.int .i64 (rd_T50 Za (k:Int)).f0)).setCell ⟨Vc,1,none⟩ (.int .i64 (rd_T50 Za (k:Int)).f1)).setCell ⟨Vc,2,none⟩ (.int .i64 (rd_T50 Za (k:Int)).f2)).setCell ⟨Vc,3,none⟩ (.int .i64 (rd_T50 Za (k:Int)).f3))) ?hg ?ho ?hn ?hr ?_;(case ho=>rfl);(case hg=>rfl);(case hn=>rfl);(case hr=>first|(go_simp;done)|(go_simp;rfl));intro w19 hw;have n0_:Aside0 (Kd.S (Kd.slice 3 (Kd.int .i64)) 31 w19 w.heap.size (fun _=>True) v113 (lsAt eFrom Za Zb.toNat k)):=⟨(by rw[hw];exact(by(with_reducible repeat(first|apply Kd.S_alloc|apply Kd.S_drewN|apply Kd.S_drew));exact Kd.S_mono (Kd.S_far (p:=⟨Vc,3,none⟩) (Kd.S_far (p:=⟨Vc,2,none⟩) (Kd.S_far (p:=⟨Vc,1,none⟩) (Kd.S_far (p:=⟨Vc,0,none⟩) (Kd.S_types HO_3.out Wt.out (by decide)) (fun _ hk=>hk.2) (.int .i64 (rd_T50 Za (k:Int)).f0)) (fun _ hk=>hk.2) (.int .i64 (rd_T50 Za (k:Int)).f1)) (fun _ hk=>hk.2) (.int .i64 (rd_T50 Za (k:Int)).f2)) (fun _ hk=>hk.2) (.int .i64 (rd_T50 Za (k:Int)).f3)) (fun _ hk=>trivial)))⟩;have n1_:Aside0 (w19.heap[Wp]? =some (.cells #[.int .i64 Zb, .bool Zc, .slice (some ad115) Za.length Zd] 24 (0,0))):=⟨(by rw[hw];exact(by(with_reducible repeat(first|refine Yl ?_ _|refine Ym ?_|refine Yj ?_ _));refine blk_far ?_ Jg.out _;(with_reducible repeat(first|refine Yl ?_ _|refine Ym ?_|refine Yj ?_ _));refine blk_far ?_ Jg.out _;(with_reducible repeat(first|refine Yl ?_ _|refine Ym ?_|refine Yj ?_ _));refine blk_far ?_ Jg.out _;(with_reducible repeat(first|refine Yl ?_ _|refine Ym ?_|refine Yj ?_ _));refine blk_far ?_ Jg.out _;(with_reducible repeat(first|refine Yl ?_ _|refine Ym ?_|refine Yj ?_ _));exact Zy.out))⟩;have n2_:Aside0 (w19.heap[Vc]? =some (.cells #[.int .i64 (rd_T50 Za (k:Int)).f0, .int .i64 (rd_T50 Za (k:Int)).f1, .int .i64 (rd_T50 Za (k:Int)).f2, .int .i64 (rd_T50 Za (k:Int)).f3] 50 (0,0))):=⟨(by rw[hw];exact(by(with_reducible repeat(first|refine Yl ?_ _|refine Ym ?_|refine Yj ?_ _));refine YA (cs:= #[.int .i64 (rd_T50 Za (k:Int)).f0, .int .i64 (rd_T50 Za (k:Int)).f1, .int .i64 (rd_T50 Za (k:Int)).f2, .int .i64 0]) ?_ 3 _ rfl;(with_reducible repeat(first|refine Yl ?_ _|refine Ym ?_|refine Yj ?_ _));refine YA (cs:= #[.int .i64 (rd_T50 Za (k:Int)).f0, .int .i64 (rd_T50 Za (k:Int)).f1, .int .i64 0, .int .i64 0]) ?_ 2 _ rfl;(with_reducible repeat(first|refine Yl ?_ _|refine Ym ?_|refine Yj ?_ _));refine YA (cs:= #[.int .i64 (rd_T50 Za (k:Int)).f0, .int .i64 0, .int .i64 0, .int .i64 0]) ?_ 1 _ rfl;(with_reducible repeat(first|refine Yl ?_ _|refine Ym ?_|refine Yj ?_ _));refine YA (cs:= #[.int .i64 0, .int .i64 0, .int .i64 0, .int .i64 0]) ?_ 0 _ rfl;(with_reducible repeat(first|refine Yl ?_ _|refine Ym ?_|refine Yj ?_ _));exact Wt.out))⟩;have n3_:Aside0 (Below w.heap.size w w19):=⟨(by rw[hw];exact(by repeat(first|(with_reducible first|exact HB.out|apply Ye|apply Yd|apply Yg|refine Yh ?_ GE111.out|refine Yh ?_ GE116.out)|exact HB.out)))⟩;clear hw;clear HO_3;clear Zy;clear Wt;clear HB;have HO_3:=n0_;have Zy:=n1_;have Wt:=n2_;have HB:=n3_;clear n0_ n1_ n2_ n3_;have hcz20_0:w19.cell? ⟨Vc,0,none⟩=some (.int .i64 (rd_T50 Za (k:Int)).f0):=(Yc Wt.out 0).trans rfl;have hcz20_1:w19.cell? ⟨Vc,1,none⟩=some (.int .i64 (rd_T50 Za (k:Int)).f1):=(Yc Wt.out 1).trans rfl;have hcz20_2:w19.cell? ⟨Vc,2,none⟩=some (.int .i64 (rd_T50 Za (k:Int)).f2):=(Yc Wt.out 2).trans rfl;have hcz20_3:w19.cell? ⟨Vc,3,none⟩=some (.int .i64 (rd_T50 Za (k:Int)).f3):=(Yc Wt.out 3).trans rfl;have hfz20_0:=Yf Wt.out 0;have hfz20_1:=Yf Wt.out 1;have hfz20_2:=Yf Wt.out 2;have hfz20_3:=Yf Wt.out 3)|(go_at_call 96;refine(adj_from.calls (rd_T50 Za (k:Int)).f0 (rd_T50 Za (k:Int)).f1 (rd_T50 Za (k:Int)).f2 (rd_T50 Za (k:Int)).f3 _ _ rfl).mono ?_;rintro e_ w20 ⟨rfl,hb⟩;rw[show (rd_T50 Za (k:Int)).f0=ex from hex.out];have n0_:=Ya (Kd.S_below (by(with_reducible repeat(first|apply Kd.S_alloc|apply Kd.S_drewN|apply Kd.S_drew));exact HO_3.out) hb);have n1_:=Ya (Yn (g:=Wp) (o:=(.cells #[.int .i64 Zb, .bool Zc, .slice (some ad115) Za.length Zd] 24 (0,0))) (by(with_reducible repeat(first|refine Yl ?_ _|refine Ym ?_|refine Yj ?_ _));exact Zy.out) hb);have n2_:=Ya (Yk (by repeat(first|(with_reducible first|exact HB.out|apply Ye|apply Yd|apply Yg|refine Yh ?_ GE111.out|refine Yh ?_ GE116.out)|exact HB.out)) hb);clear HO_3 Zy HB Wt hcz20_0 hcz20_1 hcz20_2 hcz20_3 hfz20_0 hfz20_1 hfz20_2 hfz20_3 hb;have HO_3:=n0_;have Zy:=n1_;have HB:=n2_;clear n0_ n1_ n2_;obtain⟨Ao21,co21,eo21⟩:=Kd.S_slice HO_3.out;subst eo21;have p117:0≤(ex:Int):=(Yu (by first|(with_reducible assumption)|assumption));have q117:ex<((lsAt eFrom Za Zb.toNat k).length:Int):=(Yu (by first|(with_reducible assumption)|assumption));obtain⟨ad117,A117_0,c117_0,e117,hx117_0,hl117_0,hi117_0⟩:=at_L5 (Kd.S_reads' HO_3.out).2.2 ex p117 q117;cases e117;obtain⟨ce117,hce117,hMe117,hcc117⟩:=Kd.S_get HO_3.out [] ex p117 (by first|exact q117|(have e_:=(Kd.S_reads' HO_3.out).1;omega));obtain⟨ve117_0,rfl,ge117_0⟩:=hMe117;have hv117_0:=hcc117 0 _ rfl;rw[Nat.add_zero,show ((Kd.slice 3 (Kd.int .i64))).sz=1 from rfl,Nat.mul_one] at hv117_0;replace hv117_0:=Option.some.inj (hv117_0.symm.trans hx117_0);rw[hv117_0] at ge117_0;have HL117_0:=Ya (show Kd.R (Kd.int .i64) 3 _ _ _ _ (rd_L5 (lsAt eFrom Za Zb.toNat k) ex) from ge117_0);clear hv117_0 ge117_0;have HX117_0:=Ya hx117_0;clear hcc117 hce117;have HR117_0:=Ya hi117_0;have HC117_0:=Ya hl117_0;clear hi117_0 hl117_0;replace p117:=eq_true p117;replace q117:=eq_true q117;obtain⟨go22,co22,eo22,gb22,gl22,cl22,HG22⟩:=Kd.S_form HO_3.out (by have h_:(ex:Int)<((lsAt eFrom Za Zb.toNat k).length:Int):=(Yu (by first|(with_reducible assumption)|assumption));have h2_:0≤(ex:Int):=(Yu (by first|(with_reducible assumption)|assumption));omega);(first|cases eo22|(injection eo22 with ea_ en_ ec_;(first|subst ea_|(injection ea_ with ea_;subst ea_));subst ec_;clear en_));have GB22:=Ya gb22;have GG22:=Ya HG22;clear gb22 gl22 HG22;(first|simp only[add_plain] at hx117_0|skip);obtain⟨oki22,ce22,hcl22,hM22,hcc22,_,_,hH22⟩:=Kd.S_elem HO_3.out [] (ex:Int) (Yu (by first|(with_reducible assumption)|assumption)) (by have h_:(ex:Int)<((lsAt eFrom Za Zb.toNat k).length:Int):=Yu (by first|(with_reducible assumption)|assumption);first|exact h_|(have e_:=(Kd.S_reads' HO_3.out).1;omega)|simpa using h_);obtain⟨ve22_0,rfl,ge22_0⟩:=hM22;have hv22:=hcc22 0 _ rfl;have hX22:=HX117_0.out;(try simp only[add_plain] at hX22);(try simp only[Nat.add_zero] at hv22);(try rw[show ((Kd.slice 3 (Kd.int .i64))).sz=1 from rfl,Nat.mul_one] at hv22);replace hv22:=Option.some.inj (hv22.symm.trans hX22);subst hv22;clear hX22 hcc22 hcl22;have UU22:=Ya (show Kd.R (Kd.int .i64) 3 _ w.heap.size oki22 (.slice A117_0 (rd_L5 (lsAt eFrom Za Zb.toNat k) ex).length c117_0) (rd_L5 (lsAt eFrom Za Zb.toNat k) ex) from ge22_0);have HH22:=Ya hH22;have HN22:=Ya (Kd.S_reads' HO_3.out).1;clear hH22 ge22_0)|((with_reducible refine gate_builtin (b:= .append) (xs:= #[.tmp 28, .tmp 30]) rfl ?_);at_builtin;refine Kd.R_append (Kd.int .i64) (w0:=w) w.heap.size rfl (.tmp 28) (.tmp 30) 31 3 (.int .i64 0) 8 rfl Try.underlying31 info3 rfl (by decide) (by omega) (.slice A117_0 (rd_L5 (lsAt eFrom Za Zb.toNat k) ex).length c117_0) (rd_L5 (lsAt eFrom Za Zb.toNat k) ex) (k:Int) [.int .i64 (k:Int)] (fun k_=>oki22 k_∨((fun _=>True)) k_∧w20.heap.size≤k_) (fun _=>False) rfl rfl ?aP (fun _ hk=>hk.elim) ?aF ?aO ?aB ?aS ?aL ?_;(case aP=>exact rfl);(case aB=>exact(by repeat(first|(with_reducible first|exact HB.out|apply Ye|apply Yd|apply Yg|refine Yh ?_ GE111.out)|exact HB.out)));(case aF=>exact(fun k_ hk=> .inr ⟨trivial,hk⟩));(case aO=>exact(by(with_reducible repeat(first|apply Yr|apply Yq|apply Yp));exact Kd.R_mono UU22.out (fun _ hk=> .inl hk)));(case aS=>exact(Yi (by repeat(first|(with_reducible first|exact HB.out|apply Ye|apply Yd|apply Yg|refine Yh ?_ GE111.out)|exact HB.out))));(case aL=>have:=LMc14.out;omega);intro v119 w23 ho hb hg hat;have n0_:=Ya (blk_grown (g:=Wp) (o:=(.cells #[.int .i64 Zb, .bool Zc, .slice (some ad115) Za.length Zd] 24 (0,0))) (by(with_reducible repeat(first|refine Yl ?_ _|refine Ym ?_|refine Yj ?_ _));exact Zy.out) hg (Kd.R_ne HL117_0.out Zy.out (by decide)));have n2_:=Ya (hb);have n3_:=Ya (Kd.H_grown (Kd.H_widen (by repeat(first|exact HH22.out|refine Kd.H_alloc ?_ _|refine Kd.H_drewN ?_ _|refine Kd.H_drew ?_))) hg (fun k_ e_=> .inl (UU22.out.1 k_ e_)));have n4_:=Ya (ho);clear Zy;clear HB;clear HH22;clear HO_3;clear UU22;clear HL117_0;have Zy:=n0_;have HB:=n2_;have HH22:=n3_;have HO120:=n4_;clear n0_ n2_ n3_ n4_;clear ho hb hg hat;have p15:0≤(ex:Int):=(Yu (by first|(with_reducible assumption)|assumption));have q15:(ex:Int)<((lsAt eFrom Za Zb.toNat k).length:Int):=(Yu (by first|(with_reducible assumption)|assumption));replace p15:=eq_true p15;replace q15:=eq_true q15;obtain⟨Ao26,co26,eo26⟩:=Kd.R_slice HO120.out;subst eo26;obtain⟨_,_,hraw24,_,_,hcc24,_⟩:=Kd.H_raw HH22.out (Yu (by first|(with_reducible assumption)|assumption)) (by have h_:(ex:Int)<((lsAt eFrom Za Zb.toNat k).length:Int):=Yu (by first|(with_reducible assumption)|assumption);first|exact h_|(have e_:=(HN22.out);omega)|simpa using h_);obtain⟨_,hfr24⟩:=Kd.H_at HH22.out (Yu (by first|(with_reducible assumption)|assumption)) (by have h_:(ex:Int)<((lsAt eFrom Za Zb.toNat k).length:Int):=Yu (by first|(with_reducible assumption)|assumption);first|exact h_|(have e_:=(HN22.out);omega)|simpa using h_);have hx24_0:=hcc24 0 _ rfl;have hf24_0:=hfr24 0;(try simp only[Nat.add_zero] at hx24_0 hf24_0);(try rw[show ((Kd.slice 3 (Kd.int .i64))).sz=1 from rfl,Nat.mul_one] at hx24_0);(try rw[show ((Kd.slice 3 (Kd.int .i64))).sz=1 from rfl,Nat.mul_one] at hf24_0);have HP24:=Kd.S_seg0 HH22.out (Yu (by first|(with_reducible assumption)|assumption)) (by have h_:(ex:Int)<((lsAt eFrom Za Zb.toNat k).length:Int):=Yu (by first|(with_reducible assumption)|assumption);first|exact h_|(have e_:=(HN22.out);omega)|simpa using h_) (seg:=[.slice Ao26 (rd_L5 (lsAt eFrom Za Zb.toNat k) ex ++ [(k:Int)]).length co26]) (j:=0) (show 1≤1 from by decide) (x':=rd_L5 (lsAt eFrom Za Zb.toNat k) ex ++ [(k:Int)]) (Kd.M_row HO120.out) (fun _ hk=>hk);(try simp only[show ((Kd.slice 3 (Kd.int .i64))).sz=1 from rfl,Nat.mul_one,Nat.add_zero] at HP24);clear hcc24 hfr24)|((with_reducible refine gate_store (t:=31) (p:=32) rfl ?_);refine store_event (t:=31) (p:=32) (v:= ?vo_w25) (w1:=(w23.setCell ⟨go22,(ex:Int).toNat,none⟩ (.slice Ao26 (rd_L5 (lsAt eFrom Za Zb.toNat k) ex ++ [(k:Int)]).length co26))) ?hg ?ho ?hn ?hr ?_;(case ho=>rfl);(case hg=>rfl);(case hn=>rfl);(case hr=>first|(go_simp;done)|(go_simp;rfl));intro w25 hw;have hg:w23.grownBy w25 (some go22):=(by rw[hw];exact HP24.2);have hp_:Kd.S (Kd.slice 3 (Kd.int .i64)) 31 w25 w.heap.size (fun _=>True) (.slice (some ⟨go22,0,none⟩) (lsAt eFrom Za Zb.toNat k).length co21) (lsAt eFrom Za Zb.toNat (k+1)):=(by rw[hw,LSN.out];exact HP24.1);clear HP24;have n0_:=Ya (blk_grown (g:=Wp) (o:=(.cells #[.int .i64 Zb, .bool Zc, .slice (some ad115) Za.length Zd] 24 (0,0))) (by(with_reducible repeat(first|refine Yl ?_ _|refine Ym ?_|refine Yj ?_ _));exact Zy.out) hg (Kd.R_ne hraw24 Zy.out (by decide)));have n2_:=Ya ((by rw[hw];exact Yh HB.out GB22.out:Below w.heap.size w w25));have n3_:=Ya (hp_);clear Zy;clear HB;clear HO120;clear HH22;have Zy:=n0_;have HB:=n2_;have HO_3:=n3_;clear n0_ n2_ n3_;clear hg hw hp_ hraw24));go_roundw
   case rel=>exact⟨k+1,by omega,by first|rfl|go_num,⟨by(with_reducible repeat(first|apply Kd.S_alloc|apply Kd.S_drewN|apply Kd.S_drew));exact HO_3.out⟩,⟨by(with_reducible repeat(first|refine Yl ?_ _|refine Ym ?_|refine Yj ?_ _));exact Zy.out⟩,⟨(by repeat(first|(with_reducible first|exact HB.out|apply Ye|apply Yd|apply Yg|refine Yh ?_ GE111.out)|exact HB.out))⟩⟩
   case measure=>simp[intOf]<;>omega
  ·have ek:k=Za.length:=by omega
   subst ek;have c9b0:decide ((Za.length:Int)<(Za.length:Int))=false:=Yw (by omega);go_wp2;go_ret;exact⟨_,rfl,by(with_reducible repeat(first|apply Kd.S_alloc|apply Kd.S_drewN|apply Kd.S_drew));exact HO_3.out,(by repeat(first|(with_reducible first|exact HB.out|apply Ye|apply Yd|apply Yg|refine Yh ?_ GE111.out)|exact HB.out))⟩
set_option maxHeartbeats 4000000 in
set_option maxRecDepth 100000 in
theorem listsTo_calls (Zb:Int) (Zc:Bool) (Ze:Option Addr) (Zd:Nat) (Za:List S50) (w:World) (Zp:Kd.C k50 w Ze Za.length Za) (Zq:Za.length≤Zd) (h0:0≤Zb) (h1:Zb≤1000000) (hl:Za.length≤1000000) (hE: ∀ k:Nat,k<Za.length→0≤eTo (rd_T50 Za k)∧eTo (rd_T50 Za k)<Zb):
  Calls Try.prog 95 #[.agg #[.int .i64 Zb, .bool Zc, .slice Ze Za.length Zd], .func (.func 97) #[] #[]] w fun e w'=> ∃ v0_:Value,e= .returned v0_∧Kd.S (Kd.slice 3 (Kd.int .i64)) 31 w' w.heap.size (fun _=>True) v0_ (lsAt eTo Za Zb.toNat Za.length)∧Below w.heap.size w w':=by
 have hu24:=Try.underlying24;have hu74:=Try.underlying50;have Zh:=Ya Zp;have Zo:=Ya Zq;have HE:=Ya hE;clear Zp Zq hE;have HB:=Ya (Yo w.heap.size w);have c2b1:decide (0≤Zb)=true:=Yv h0;have c3b1:decide ((Zb:Int).toNat≤11728124029610)=true:=Yv (by omega);have c2b0:=eq_true h0;have c3b0:((Zb:Int).toNat≤11728124029610)=True:=eq_true (by omega);have HH0:=Ya h0;have HH1:=Ya h1;clear h0 h1;go_enter Try.func95,Try.ntmps95;go_wp2_with (first|((with_reducible refine gate_dst (N:=2) rfl ?_);refine Yz ?hg (N:=2) ?hd (cs:= #[.int .i64 Zb, .bool Zc, .slice Ze Za.length Zd]) (t:=24) ?hr ?_;(case hd=>rfl);(case hg=>rfl);(case hr=>first|(go_simp;done)|(go_simp;rfl));intro Wp hg w4 Zf hb;have n0_:=Ya (Yk (by repeat(first|(with_reducible first|exact HB.out|apply Ye|apply Yd|apply Yg)|exact HB.out)) hb);have n1_:=Ya (Zf);have n3_:=Ya ((by rw[hg];exact(Yi (by repeat(first|(with_reducible first|exact HB.out|apply Ye|apply Yd|apply Yg)|exact HB.out))):w.heap.size≤Wp));clear HB;have HB:=n0_;have Zy:=n1_;have GE111:=n3_;clear n0_ n1_ n3_;clear hb Zf hg;have hcz5_0:w4.cell? ⟨Wp,0,none⟩=some (.int .i64 Zb):=(Yc Zy.out 0).trans rfl;have hcz5_1:w4.cell? ⟨Wp,1,none⟩=some (.bool Zc):=(Yc Zy.out 1).trans rfl;have hcz5_2:w4.cell? ⟨Wp,2,none⟩=some (.slice Ze Za.length Zd):=(Yc Zy.out 2).trans rfl;have hfz5_0:=Yf Zy.out 0;have hfz5_1:=Yf Zy.out 1;have hfz5_2:=Yf Zy.out 2)|((with_reducible refine gate_dst (N:=11) rfl ?_);refine Kd.S_make (Kd.slice 3 (Kd.int .i64)) _ 31 rfl (N:=11) rfl 124 _ _ rfl Zb rfl rfl Try.underlying124 (.slice none 0 0) 24 infoRow rfl (by decide) (by omega) [] (ok:=fun _=>True) (okp:=fun _=>True) ⟨_,rfl,Kd.R_nil _ _ _ _ _⟩ (fun _ hk=>hk) trivial (Yu (by first|(with_reducible assumption)|assumption)) (Nat.le_trans (Nat.mul_le_mul_right _ (Yu (by first|(with_reducible assumption)|assumption):Zb.toNat≤11728124029610)) (by omega)) (Yo _ _) (Nat.le_refl _) ?_;intro v113 w6 ho7 hb hg_ hnew_;clear hg_ hnew_;have n0_:=Ya (Kd.S_lower ho7 (Yi (by repeat(first|(with_reducible first|exact HB.out|apply Ye|apply Yd|apply Yg|refine Yh ?_ GE111.out)|exact HB.out))));have n1_:=Ya (Yn (g:=Wp) (o:= .cells #[.int .i64 Zb, .bool Zc, .slice Ze Za.length Zd] 24 (0,0)) (by(with_reducible repeat(first|refine Yl ?_ _|refine Ym ?_|refine Yj ?_ _));exact Zy.out) hb);have n2_:=Ya (Yk (by repeat(first|(with_reducible first|exact HB.out|apply Ye|apply Yd|apply Yg|refine Yh ?_ GE111.out)|exact HB.out)) hb);clear Zy;clear HB;have HO114:=n0_;have Zy:=n1_;have HB:=n2_;clear n0_ n1_ n2_;clear hb ho7;have Jq:w6.cell? ⟨Wp,0,none⟩=some (.int .i64 Zb):=(Yc Zy.out 0).trans rfl;have Jr:w6.cell? ⟨Wp,1,none⟩=some (.bool Zc):=(Yc Zy.out 1).trans rfl;have hcz8_2:w6.cell? ⟨Wp,2,none⟩=some (.slice Ze Za.length Zd):=(Yc Zy.out 2).trans rfl;have Js:=Yf Zy.out 0;have Jt:=Yf Zy.out 1;have hfz8_2:=Yf Zy.out 2));go_loopw [15] (fun v15 w'=> ∃ k:Nat,k≤Za.length∧v15= .int .i64 k∧Aside0 (Kd.S (Kd.slice 3 (Kd.int .i64)) 31 w' w.heap.size (fun _=>True) v113 (lsAt eTo Za Zb.toNat k))∧Aside0 (w'.heap[Wp]? =some (.cells #[.int .i64 Zb, .bool Zc,(.slice Ze Za.length Zd)] 24 (0,0)))∧Aside0 (Below w.heap.size w w')) (fun v15 _=>Za.length - (intOf v15).toNat)
 case atStart=>exact⟨0,Nat.zero_le _,rfl,⟨by(with_reducible repeat(first|apply Kd.S_alloc|apply Kd.S_drewN|apply Kd.S_drew));exact HO114.out⟩,⟨by(with_reducible repeat(first|refine Yl ?_ _|refine Ym ?_|refine Yj ?_ _));exact Zy.out⟩,⟨(by repeat(first|(with_reducible first|exact HB.out|apply Ye|apply Yd|apply Yg|refine Yh ?_ GE111.out)|exact HB.out))⟩⟩
 case round=>
  try clear c2b0
  try clear c2b1
  try clear c3b0
  try clear c3b1
  try clear hcz5_0 hcz5_1 hcz5_2 Jq Jr hcz8_2 hfz5_0 hfz5_1 hfz5_2 Js Jt hfz8_2
  clear HO114 Zy HB;obtain⟨k,hk,rfl,HO_3,Zy,HB⟩:=hrel;by_cases hlt:k<Za.length
  ·have hEk:=HE.out k hlt
   obtain⟨ex,hex0⟩: ∃ ex,eTo (rd_T50 Za (k:Int))=ex:=⟨_,rfl⟩;have hex:=Ya hex0;have LSN:Aside0 (lsAt eTo Za Zb.toNat (k+1)=(lsAt eTo Za Zb.toNat k).set (ex:Int).toNat (rd_L5 (lsAt eTo Za Zb.toNat k) ex ++ [(k:Int)])):=⟨by rw[← hex0];rfl⟩;rw[hex0] at hEk;clear hex0;have hlen:=lsAt_len eTo Za Zb.toNat k;have c12b0:decide (0≤ex)=true:=Yv hEk.1;have c13b0:decide (ex<((lsAt eTo Za Zb.toNat k).length:Int))=true:=Yv (by rw[hlen];have:=HH0.out;omega);have LMc14:Aside0 ((rd_L5 (lsAt eTo Za Zb.toNat k) ex).length<17592186044416):=⟨by have:=lsAt_row eTo Za Zb.toNat k ex;omega⟩;clear hEk hlen;have p115:0≤((k:Nat):Int):=by omega
   have q115:((k:Nat):Int)<(Za.length:Int):=by omega
   obtain⟨ad115,e115,hx115_0,hx115_1,hx115_2,hx115_3⟩:=at_T50 Zh.out (k:Int) p115 q115;simp only[Int.toNat_natCast] at hx115_0 hx115_1 hx115_2 hx115_3;cases e115;replace hx115_0:=(HB.out.cell (Yb w _ hx115_0)).trans hx115_0;replace hx115_1:=(HB.out.cell (Yb w _ hx115_1)).trans hx115_1;replace hx115_2:=(HB.out.cell (Yb w _ hx115_2)).trans hx115_2;replace hx115_3:=(HB.out.cell (Yb w _ hx115_3)).trans hx115_3;have c9b0:decide ((k:Int)<(Za.length:Int))=true:=Yv q115;go_wp2_with (first|((with_reducible refine gate_dst (N:=7) rfl ?_);refine Yz ?hg (N:=7) ?hd (cs:= #[.int .i64 0, .int .i64 0, .int .i64 0, .int .i64 0]) (t:=50) ?hr ?_;(case hd=>rfl);(case hg=>rfl);(case hr=>first|(go_simp;done)|(go_simp;rfl));intro Vc hg w16 Zf hb;have n0_:=Ya (Kd.S_below (by(with_reducible repeat(first|apply Kd.S_alloc|apply Kd.S_drewN|apply Kd.S_drew));exact HO_3.out) hb);have n1_:=Ya (Yn (g:=Wp) (o:=(.cells #[.int .i64 Zb, .bool Zc, .slice (some ad115) Za.length Zd] 24 (0,0))) (by(with_reducible repeat(first|refine Yl ?_ _|refine Ym ?_|refine Yj ?_ _));exact Zy.out) hb);have n2_:=Ya (Yk (by repeat(first|(with_reducible first|exact HB.out|apply Ye|apply Yd|apply Yg|refine Yh ?_ GE111.out)|exact HB.out)) hb);have n3_:=Ya (Zf);have n5_:=Ya ((by rw[hg];exact(Yi (by repeat(first|(with_reducible first|exact HB.out|apply Ye|apply Yd|apply Yg|refine Yh ?_ GE111.out)|exact HB.out))):w.heap.size≤Vc));have n6_:=Ya ((by rw[hg];exact Nat.ne_of_lt (blk_lt (g:=Wp) (o:=(.cells #[.int .i64 Zb, .bool Zc, .slice (some ad115) Za.length Zd] 24 (0,0))) (by(with_reducible repeat(first|refine Yl ?_ _|refine Ym ?_|refine Yj ?_ _));exact Zy.out)):Wp≠Vc));have n7_:=Ya ((by rw[hg];exact Nat.ne_of_gt (blk_lt (g:=Wp) (o:=(.cells #[.int .i64 Zb, .bool Zc, .slice (some ad115) Za.length Zd] 24 (0,0))) (by(with_reducible repeat(first|refine Yl ?_ _|refine Ym ?_|refine Yj ?_ _));exact Zy.out)):Vc≠Wp));clear HO_3;clear Zy;clear HB;have HO_3:=n0_;have Zy:=n1_;have HB:=n2_;have Wt:=n3_;have GE116:=n5_;have Jg:=n6_;have NB116_111:=n7_;clear n0_ n1_ n2_ n3_ n5_ n6_ n7_;clear hb Zf hg;have hnb17:=NB116_111.out;have hnc17:=Jg.out;have hcz18_0:w16.cell? ⟨Vc,0,none⟩=some (.int .i64 0):=(Yc Wt.out 0).trans rfl;have hcz18_1:w16.cell? ⟨Vc,1,none⟩=some (.int .i64 0):=(Yc Wt.out 1).trans rfl;have hcz18_2:w16.cell? ⟨Vc,2,none⟩=some (.int .i64 0):=(Yc Wt.out 2).trans rfl;have hcz18_3:w16.cell? ⟨Vc,3,none⟩=some (.int .i64 0):=(Yc Wt.out 3).trans rfl;have hfz18_0:=Yf Wt.out 0;have hfz18_1:=Yf Wt.out 1;have hfz18_2:=Yf Wt.out 2;have hfz18_3:=Yf Wt.out 3)|((with_reducible refine gate_store (t:=50) (p:=7) rfl ?_);refine store_event (t:=50) (p:=7) (v:= ?vo_w19) (w1:=((((w16.setCell ⟨Vc,0,none⟩ (.int .i64 (rd_T50 Za (k:Int)).f0)).setCell ⟨Vc,1,none⟩ (.int .i64 (rd_T50 Za (k:Int)).f1)).setCell ⟨Vc,2,none⟩ (.int .i64 (rd_T50 Za (k:Int)).f2)).setCell ⟨Vc,3,none⟩ (.int .i64 (rd_T50 Za (k:Int)).f3))) ?hg ?ho ?hn ?hr ?_;(case ho=>rfl);(case hg=>rfl);(case hn=>rfl);(case hr=>first|(go_simp;done)|(go_simp;rfl));intro w19 hw;have n0_:Aside0 (Kd.S (Kd.slice 3 (Kd.int .i64)) 31 w19 w.heap.size (fun _=>True) v113 (lsAt eTo Za Zb.toNat k)):=⟨(by rw[hw];exact(by(with_reducible repeat(first|apply Kd.S_alloc|apply Kd.S_drewN|apply Kd.S_drew));exact Kd.S_mono (Kd.S_far (p:=⟨Vc,3,none⟩) (Kd.S_far (p:=⟨Vc,2,none⟩) (Kd.S_far (p:=⟨Vc,1,none⟩) (Kd.S_far (p:=⟨Vc,0,none⟩) (Kd.S_types HO_3.out Wt.out (by decide)) (fun _ hk=>hk.2) (.int .i64 (rd_T50 Za (k:Int)).f0)) (fun _ hk=>hk.2) (.int .i64 (rd_T50 Za (k:Int)).f1)) (fun _ hk=>hk.2) (.int .i64 (rd_T50 Za (k:Int)).f2)) (fun _ hk=>hk.2) (.int .i64 (rd_T50 Za (k:Int)).f3)) (fun _ hk=>trivial)))⟩;have n1_:Aside0 (w19.heap[Wp]? =some (.cells #[.int .i64 Zb, .bool Zc, .slice (some ad115) Za.length Zd] 24 (0,0))):=⟨(by rw[hw];exact(by(with_reducible repeat(first|refine Yl ?_ _|refine Ym ?_|refine Yj ?_ _));refine blk_far ?_ Jg.out _;(with_reducible repeat(first|refine Yl ?_ _|refine Ym ?_|refine Yj ?_ _));refine blk_far ?_ Jg.out _;(with_reducible repeat(first|refine Yl ?_ _|refine Ym ?_|refine Yj ?_ _));refine blk_far ?_ Jg.out _;(with_reducible repeat(first|refine Yl ?_ _|refine Ym ?_|refine Yj ?_ _));refine blk_far ?_ Jg.out _;(with_reducible repeat(first|refine Yl ?_ _|refine Ym ?_|refine Yj ?_ _));exact Zy.out))⟩;have n2_:Aside0 (w19.heap[Vc]? =some (.cells #[.int .i64 (rd_T50 Za (k:Int)).f0, .int .i64 (rd_T50 Za (k:Int)).f1, .int .i64 (rd_T50 Za (k:Int)).f2, .int .i64 (rd_T50 Za (k:Int)).f3] 50 (0,0))):=⟨(by rw[hw];exact(by(with_reducible repeat(first|refine Yl ?_ _|refine Ym ?_|refine Yj ?_ _));refine YA (cs:= #[.int .i64 (rd_T50 Za (k:Int)).f0, .int .i64 (rd_T50 Za (k:Int)).f1, .int .i64 (rd_T50 Za (k:Int)).f2, .int .i64 0]) ?_ 3 _ rfl;(with_reducible repeat(first|refine Yl ?_ _|refine Ym ?_|refine Yj ?_ _));refine YA (cs:= #[.int .i64 (rd_T50 Za (k:Int)).f0, .int .i64 (rd_T50 Za (k:Int)).f1, .int .i64 0, .int .i64 0]) ?_ 2 _ rfl;(with_reducible repeat(first|refine Yl ?_ _|refine Ym ?_|refine Yj ?_ _));refine YA (cs:= #[.int .i64 (rd_T50 Za (k:Int)).f0, .int .i64 0, .int .i64 0, .int .i64 0]) ?_ 1 _ rfl;(with_reducible repeat(first|refine Yl ?_ _|refine Ym ?_|refine Yj ?_ _));refine YA (cs:= #[.int .i64 0, .int .i64 0, .int .i64 0, .int .i64 0]) ?_ 0 _ rfl;(with_reducible repeat(first|refine Yl ?_ _|refine Ym ?_|refine Yj ?_ _));exact Wt.out))⟩;have n3_:Aside0 (Below w.heap.size w w19):=⟨(by rw[hw];exact(by repeat(first|(with_reducible first|exact HB.out|apply Ye|apply Yd|apply Yg|refine Yh ?_ GE111.out|refine Yh ?_ GE116.out)|exact HB.out)))⟩;clear hw;clear HO_3;clear Zy;clear Wt;clear HB;have HO_3:=n0_;have Zy:=n1_;have Wt:=n2_;have HB:=n3_;clear n0_ n1_ n2_ n3_;have hcz20_0:w19.cell? ⟨Vc,0,none⟩=some (.int .i64 (rd_T50 Za (k:Int)).f0):=(Yc Wt.out 0).trans rfl;have hcz20_1:w19.cell? ⟨Vc,1,none⟩=some (.int .i64 (rd_T50 Za (k:Int)).f1):=(Yc Wt.out 1).trans rfl;have hcz20_2:w19.cell? ⟨Vc,2,none⟩=some (.int .i64 (rd_T50 Za (k:Int)).f2):=(Yc Wt.out 2).trans rfl;have hcz20_3:w19.cell? ⟨Vc,3,none⟩=some (.int .i64 (rd_T50 Za (k:Int)).f3):=(Yc Wt.out 3).trans rfl;have hfz20_0:=Yf Wt.out 0;have hfz20_1:=Yf Wt.out 1;have hfz20_2:=Yf Wt.out 2;have hfz20_3:=Yf Wt.out 3)|(go_at_call 97;refine(adj_to.calls (rd_T50 Za (k:Int)).f0 (rd_T50 Za (k:Int)).f1 (rd_T50 Za (k:Int)).f2 (rd_T50 Za (k:Int)).f3 _ _ rfl).mono ?_;rintro e_ w20 ⟨rfl,hb⟩;rw[show (rd_T50 Za (k:Int)).f1=ex from hex.out];have n0_:=Ya (Kd.S_below (by(with_reducible repeat(first|apply Kd.S_alloc|apply Kd.S_drewN|apply Kd.S_drew));exact HO_3.out) hb);have n1_:=Ya (Yn (g:=Wp) (o:=(.cells #[.int .i64 Zb, .bool Zc, .slice (some ad115) Za.length Zd] 24 (0,0))) (by(with_reducible repeat(first|refine Yl ?_ _|refine Ym ?_|refine Yj ?_ _));exact Zy.out) hb);have n2_:=Ya (Yk (by repeat(first|(with_reducible first|exact HB.out|apply Ye|apply Yd|apply Yg|refine Yh ?_ GE111.out|refine Yh ?_ GE116.out)|exact HB.out)) hb);clear HO_3 Zy HB Wt hcz20_0 hcz20_1 hcz20_2 hcz20_3 hfz20_0 hfz20_1 hfz20_2 hfz20_3 hb;have HO_3:=n0_;have Zy:=n1_;have HB:=n2_;clear n0_ n1_ n2_;obtain⟨Ao21,co21,eo21⟩:=Kd.S_slice HO_3.out;subst eo21;have p117:0≤(ex:Int):=(Yu (by first|(with_reducible assumption)|assumption));have q117:ex<((lsAt eTo Za Zb.toNat k).length:Int):=(Yu (by first|(with_reducible assumption)|assumption));obtain⟨ad117,A117_0,c117_0,e117,hx117_0,hl117_0,hi117_0⟩:=at_L5 (Kd.S_reads' HO_3.out).2.2 ex p117 q117;cases e117;obtain⟨ce117,hce117,hMe117,hcc117⟩:=Kd.S_get HO_3.out [] ex p117 (by first|exact q117|(have e_:=(Kd.S_reads' HO_3.out).1;omega));obtain⟨ve117_0,rfl,ge117_0⟩:=hMe117;have hv117_0:=hcc117 0 _ rfl;rw[Nat.add_zero,show ((Kd.slice 3 (Kd.int .i64))).sz=1 from rfl,Nat.mul_one] at hv117_0;replace hv117_0:=Option.some.inj (hv117_0.symm.trans hx117_0);rw[hv117_0] at ge117_0;have HL117_0:=Ya (show Kd.R (Kd.int .i64) 3 _ _ _ _ (rd_L5 (lsAt eTo Za Zb.toNat k) ex) from ge117_0);clear hv117_0 ge117_0;have HX117_0:=Ya hx117_0;clear hcc117 hce117;have HR117_0:=Ya hi117_0;have HC117_0:=Ya hl117_0;clear hi117_0 hl117_0;replace p117:=eq_true p117;replace q117:=eq_true q117;obtain⟨go22,co22,eo22,gb22,gl22,cl22,HG22⟩:=Kd.S_form HO_3.out (by have h_:(ex:Int)<((lsAt eTo Za Zb.toNat k).length:Int):=(Yu (by first|(with_reducible assumption)|assumption));have h2_:0≤(ex:Int):=(Yu (by first|(with_reducible assumption)|assumption));omega);(first|cases eo22|(injection eo22 with ea_ en_ ec_;(first|subst ea_|(injection ea_ with ea_;subst ea_));subst ec_;clear en_));have GB22:=Ya gb22;have GG22:=Ya HG22;clear gb22 gl22 HG22;(first|simp only[add_plain] at hx117_0|skip);obtain⟨oki22,ce22,hcl22,hM22,hcc22,_,_,hH22⟩:=Kd.S_elem HO_3.out [] (ex:Int) (Yu (by first|(with_reducible assumption)|assumption)) (by have h_:(ex:Int)<((lsAt eTo Za Zb.toNat k).length:Int):=Yu (by first|(with_reducible assumption)|assumption);first|exact h_|(have e_:=(Kd.S_reads' HO_3.out).1;omega)|simpa using h_);obtain⟨ve22_0,rfl,ge22_0⟩:=hM22;have hv22:=hcc22 0 _ rfl;have hX22:=HX117_0.out;(try simp only[add_plain] at hX22);(try simp only[Nat.add_zero] at hv22);(try rw[show ((Kd.slice 3 (Kd.int .i64))).sz=1 from rfl,Nat.mul_one] at hv22);replace hv22:=Option.some.inj (hv22.symm.trans hX22);subst hv22;clear hX22 hcc22 hcl22;have UU22:=Ya (show Kd.R (Kd.int .i64) 3 _ w.heap.size oki22 (.slice A117_0 (rd_L5 (lsAt eTo Za Zb.toNat k) ex).length c117_0) (rd_L5 (lsAt eTo Za Zb.toNat k) ex) from ge22_0);have HH22:=Ya hH22;have HN22:=Ya (Kd.S_reads' HO_3.out).1;clear hH22 ge22_0)|((with_reducible refine gate_builtin (b:= .append) (xs:= #[.tmp 28, .tmp 30]) rfl ?_);at_builtin;refine Kd.R_append (Kd.int .i64) (w0:=w) w.heap.size rfl (.tmp 28) (.tmp 30) 31 3 (.int .i64 0) 8 rfl Try.underlying31 info3 rfl (by decide) (by omega) (.slice A117_0 (rd_L5 (lsAt eTo Za Zb.toNat k) ex).length c117_0) (rd_L5 (lsAt eTo Za Zb.toNat k) ex) (k:Int) [.int .i64 (k:Int)] (fun k_=>oki22 k_∨((fun _=>True)) k_∧w20.heap.size≤k_) (fun _=>False) rfl rfl ?aP (fun _ hk=>hk.elim) ?aF ?aO ?aB ?aS ?aL ?_;(case aP=>exact rfl);(case aB=>exact(by repeat(first|(with_reducible first|exact HB.out|apply Ye|apply Yd|apply Yg|refine Yh ?_ GE111.out)|exact HB.out)));(case aF=>exact(fun k_ hk=> .inr ⟨trivial,hk⟩));(case aO=>exact(by(with_reducible repeat(first|apply Yr|apply Yq|apply Yp));exact Kd.R_mono UU22.out (fun _ hk=> .inl hk)));(case aS=>exact(Yi (by repeat(first|(with_reducible first|exact HB.out|apply Ye|apply Yd|apply Yg|refine Yh ?_ GE111.out)|exact HB.out))));(case aL=>have:=LMc14.out;omega);intro v119 w23 ho hb hg hat;have n0_:=Ya (blk_grown (g:=Wp) (o:=(.cells #[.int .i64 Zb, .bool Zc, .slice (some ad115) Za.length Zd] 24 (0,0))) (by(with_reducible repeat(first|refine Yl ?_ _|refine Ym ?_|refine Yj ?_ _));exact Zy.out) hg (Kd.R_ne HL117_0.out Zy.out (by decide)));have n2_:=Ya (hb);have n3_:=Ya (Kd.H_grown (Kd.H_widen (by repeat(first|exact HH22.out|refine Kd.H_alloc ?_ _|refine Kd.H_drewN ?_ _|refine Kd.H_drew ?_))) hg (fun k_ e_=> .inl (UU22.out.1 k_ e_)));have n4_:=Ya (ho);clear Zy;clear HB;clear HH22;clear HO_3;clear UU22;clear HL117_0;have Zy:=n0_;have HB:=n2_;have HH22:=n3_;have HO120:=n4_;clear n0_ n2_ n3_ n4_;clear ho hb hg hat;have p15:0≤(ex:Int):=(Yu (by first|(with_reducible assumption)|assumption));have q15:(ex:Int)<((lsAt eTo Za Zb.toNat k).length:Int):=(Yu (by first|(with_reducible assumption)|assumption));replace p15:=eq_true p15;replace q15:=eq_true q15;obtain⟨Ao26,co26,eo26⟩:=Kd.R_slice HO120.out;subst eo26;obtain⟨_,_,hraw24,_,_,hcc24,_⟩:=Kd.H_raw HH22.out (Yu (by first|(with_reducible assumption)|assumption)) (by have h_:(ex:Int)<((lsAt eTo Za Zb.toNat k).length:Int):=Yu (by first|(with_reducible assumption)|assumption);first|exact h_|(have e_:=(HN22.out);omega)|simpa using h_);obtain⟨_,hfr24⟩:=Kd.H_at HH22.out (Yu (by first|(with_reducible assumption)|assumption)) (by have h_:(ex:Int)<((lsAt eTo Za Zb.toNat k).length:Int):=Yu (by first|(with_reducible assumption)|assumption);first|exact h_|(have e_:=(HN22.out);omega)|simpa using h_);have hx24_0:=hcc24 0 _ rfl;have hf24_0:=hfr24 0;(try simp only[Nat.add_zero] at hx24_0 hf24_0);(try rw[show ((Kd.slice 3 (Kd.int .i64))).sz=1 from rfl,Nat.mul_one] at hx24_0);(try rw[show ((Kd.slice 3 (Kd.int .i64))).sz=1 from rfl,Nat.mul_one] at hf24_0);have HP24:=Kd.S_seg0 HH22.out (Yu (by first|(with_reducible assumption)|assumption)) (by have h_:(ex:Int)<((lsAt eTo Za Zb.toNat k).length:Int):=Yu (by first|(with_reducible assumption)|assumption);first|exact h_|(have e_:=(HN22.out);omega)|simpa using h_) (seg:=[.slice Ao26 (rd_L5 (lsAt eTo Za Zb.toNat k) ex ++ [(k:Int)]).length co26]) (j:=0) (show 1≤1 from by decide) (x':=rd_L5 (lsAt eTo Za Zb.toNat k) ex ++ [(k:Int)]) (Kd.M_row HO120.out) (fun _ hk=>hk);(try simp only[show ((Kd.slice 3 (Kd.int .i64))).sz=1 from rfl,Nat.mul_one,Nat.add_zero] at HP24);clear hcc24 hfr24)|((with_reducible refine gate_store (t:=31) (p:=32) rfl ?_);refine store_event (t:=31) (p:=32) (v:= ?vo_w25) (w1:=(w23.setCell ⟨go22,(ex:Int).toNat,none⟩ (.slice Ao26 (rd_L5 (lsAt eTo Za Zb.toNat k) ex ++ [(k:Int)]).length co26))) ?hg ?ho ?hn ?hr ?_;(case ho=>rfl);(case hg=>rfl);(case hn=>rfl);(case hr=>first|(go_simp;done)|(go_simp;rfl));intro w25 hw;have hg:w23.grownBy w25 (some go22):=(by rw[hw];exact HP24.2);have hp_:Kd.S (Kd.slice 3 (Kd.int .i64)) 31 w25 w.heap.size (fun _=>True) (.slice (some ⟨go22,0,none⟩) (lsAt eTo Za Zb.toNat k).length co21) (lsAt eTo Za Zb.toNat (k+1)):=(by rw[hw,LSN.out];exact HP24.1);clear HP24;have n0_:=Ya (blk_grown (g:=Wp) (o:=(.cells #[.int .i64 Zb, .bool Zc, .slice (some ad115) Za.length Zd] 24 (0,0))) (by(with_reducible repeat(first|refine Yl ?_ _|refine Ym ?_|refine Yj ?_ _));exact Zy.out) hg (Kd.R_ne hraw24 Zy.out (by decide)));have n2_:=Ya ((by rw[hw];exact Yh HB.out GB22.out:Below w.heap.size w w25));have n3_:=Ya (hp_);clear Zy;clear HB;clear HO120;clear HH22;have Zy:=n0_;have HB:=n2_;have HO_3:=n3_;clear n0_ n2_ n3_;clear hg hw hp_ hraw24));go_roundw
   case rel=>exact⟨k+1,by omega,by first|rfl|go_num,⟨by(with_reducible repeat(first|apply Kd.S_alloc|apply Kd.S_drewN|apply Kd.S_drew));exact HO_3.out⟩,⟨by(with_reducible repeat(first|refine Yl ?_ _|refine Ym ?_|refine Yj ?_ _));exact Zy.out⟩,⟨(by repeat(first|(with_reducible first|exact HB.out|apply Ye|apply Yd|apply Yg|refine Yh ?_ GE111.out)|exact HB.out))⟩⟩
   case measure=>simp[intOf]<;>omega
  ·have ek:k=Za.length:=by omega
   subst ek;have c9b0:decide ((Za.length:Int)<(Za.length:Int))=false:=Yw (by omega);go_wp2;go_ret;exact⟨_,rfl,by(with_reducible repeat(first|apply Kd.S_alloc|apply Kd.S_drewN|apply Kd.S_drew));exact HO_3.out,(by repeat(first|(with_reducible first|exact HB.out|apply Ye|apply Yd|apply Yg|refine Yh ?_ GE111.out)|exact HB.out))⟩
set_option maxHeartbeats 1000000 in
set_option maxRecDepth 100000 in
theorem leaving_calls (Zb:Int) (Zc:Bool) (Ze:Option Addr) (Zd:Nat) (Za:List S50) (w:World) (Zp:Kd.C k50 w Ze Za.length Za) (Zq:Za.length≤Zd) (h0:0≤Zb) (h1:Zb≤1000000) (hl:Za.length≤1000000) (hE: ∀ k:Nat,k<Za.length→0≤eFrom (rd_T50 Za k)∧eFrom (rd_T50 Za k)<Zb):
  Calls Try.prog 83 #[.agg #[.int .i64 Zb, .bool Zc, .slice Ze Za.length Zd]] w fun e w'=> ∃ v0_:Value,e= .returned v0_∧Kd.S (Kd.slice 3 (Kd.int .i64)) 31 w' w.heap.size (fun _=>True) v0_ (lsAt eFrom Za Zb.toNat Za.length)∧Below w.heap.size w w':=by
 have hu24:=Try.underlying24;have Zh:=Ya Zp;have Zo:=Ya Zq;have HE:=Ya hE;clear Zp Zq hE;have HB:=Ya (Yo w.heap.size w);go_enter Try.func83,Try.ntmps83;go_wp2_with (first|((with_reducible refine gate_dst (N:=1) rfl ?_);refine Yz ?hg (N:=1) ?hd (cs:= #[.int .i64 Zb, .bool Zc, .slice Ze Za.length Zd]) (t:=24) ?hr ?_;(case hd=>rfl);(case hg=>rfl);(case hr=>first|(go_simp;done)|(go_simp;rfl));intro Wp hg w4 Zf hb;have n0_:=Ya (Yk (by repeat(first|(with_reducible first|exact HB.out|apply Ye|apply Yd|apply Yg)|exact HB.out)) hb);have n1_:=Ya (Zf);have n2_:=Ya (Yt Zh.out hb);clear HB Zh;have HB:=n0_;have Zy:=n1_;have Zh:=n2_;clear n0_ n1_ n2_;clear hb Zf hg;have hcz5_0:w4.cell? ⟨Wp,0,none⟩=some (.int .i64 Zb):=(Yc Zy.out 0).trans rfl;have hcz5_1:w4.cell? ⟨Wp,1,none⟩=some (.bool Zc):=(Yc Zy.out 1).trans rfl;have hcz5_2:w4.cell? ⟨Wp,2,none⟩=some (.slice Ze Za.length Zd):=(Yc Zy.out 2).trans rfl)|fail);refine(listsFrom_calls Zb Zc Ze Zd Za _ Zh.out Zo.out h0 h1 hl HE.out).mono ?_;rintro e w5 ⟨v0,rfl,hS,hb⟩;have HS:=Ya (Kd.S_lower hS HB.out.size);have HB5:=Ya (Yk HB.out hb);clear hS hb hcz5_0 hcz5_1 hcz5_2 Zy;go_wp2;go_ret;exact⟨_,rfl,HS.out,HB5.out⟩
set_option maxHeartbeats 1000000 in
set_option maxRecDepth 100000 in
theorem coming_calls (Zb:Int) (Zc:Bool) (Ze:Option Addr) (Zd:Nat) (Za:List S50) (w:World) (Zp:Kd.C k50 w Ze Za.length Za) (Zq:Za.length≤Zd) (h0:0≤Zb) (h1:Zb≤1000000) (hl:Za.length≤1000000) (hE: ∀ k:Nat,k<Za.length→0≤eTo (rd_T50 Za k)∧eTo (rd_T50 Za k)<Zb):
  Calls Try.prog 84 #[.agg #[.int .i64 Zb, .bool Zc, .slice Ze Za.length Zd]] w fun e w'=> ∃ v0_:Value,e= .returned v0_∧Kd.S (Kd.slice 3 (Kd.int .i64)) 31 w' w.heap.size (fun _=>True) v0_ (lsAt eTo Za Zb.toNat Za.length)∧Below w.heap.size w w':=by
 have hu24:=Try.underlying24;have Zh:=Ya Zp;have Zo:=Ya Zq;have HE:=Ya hE;clear Zp Zq hE;have HB:=Ya (Yo w.heap.size w);go_enter Try.func84,Try.ntmps84;go_wp2_with (first|((with_reducible refine gate_dst (N:=1) rfl ?_);refine Yz ?hg (N:=1) ?hd (cs:= #[.int .i64 Zb, .bool Zc, .slice Ze Za.length Zd]) (t:=24) ?hr ?_;(case hd=>rfl);(case hg=>rfl);(case hr=>first|(go_simp;done)|(go_simp;rfl));intro Wp hg w4 Zf hb;have n0_:=Ya (Yk (by repeat(first|(with_reducible first|exact HB.out|apply Ye|apply Yd|apply Yg)|exact HB.out)) hb);have n1_:=Ya (Zf);have n2_:=Ya (Yt Zh.out hb);clear HB Zh;have HB:=n0_;have Zy:=n1_;have Zh:=n2_;clear n0_ n1_ n2_;clear hb Zf hg;have hcz5_0:w4.cell? ⟨Wp,0,none⟩=some (.int .i64 Zb):=(Yc Zy.out 0).trans rfl;have hcz5_1:w4.cell? ⟨Wp,1,none⟩=some (.bool Zc):=(Yc Zy.out 1).trans rfl;have hcz5_2:w4.cell? ⟨Wp,2,none⟩=some (.slice Ze Za.length Zd):=(Yc Zy.out 2).trans rfl)|fail);refine(listsTo_calls Zb Zc Ze Zd Za _ Zh.out Zo.out h0 h1 hl HE.out).mono ?_;rintro e w5 ⟨v0,rfl,hS,hb⟩;have HS:=Ya (Kd.S_lower hS HB.out.size);have HB5:=Ya (Yk HB.out hb);clear hS hb hcz5_0 hcz5_1 hcz5_2 Zy;go_wp2;go_ret;exact⟨_,rfl,HS.out,HB5.out⟩
end H
namespace H
open P
def stL (l:List S50) (v:Int):Nat→List S79
 |0=>[]
 |k+1=>stL l v k ++ (if eFrom (rd_T50 l k)=v then [⟨k,false⟩] else []) ++ (if eTo (rd_T50 l k)=v then [⟨k,true⟩] else [])
def ltS (x y:S79):Prop:=x.f0<y.f0∨x.f0=y.f0∧x.f1=false∧y.f1=true
def IsSt (l:List S50) (v:Int) (k:Nat) (s:S79):Prop:= ∃ i:Nat,i<k∧s.f0=i∧(s.f1=false∧eFrom (rd_T50 l i)=v∨s.f1=true∧eTo (rd_T50 l i)=v)
theorem mem_stL (l:List S50) (v:Int) (k:Nat) (s:S79):s∈stL l v k↔IsSt l v k s:=by
 induction k with
 |zero=>
  constructor
  ·intro h;cases h
  ·rintro⟨i,h,_⟩;omega
 |succ k ih=>
  unfold stL;rw[List.mem_append,List.mem_append,ih];constructor
  ·rintro((⟨i,h1,h2⟩|h)|h)
   ·exact⟨i,by omega,h2⟩
   ·split at h
    ·rename_i he
     rw[List.mem_singleton] at h;subst h;exact⟨k,by omega,rfl,Or.inl ⟨rfl,he⟩⟩
    ·cases h
   ·split at h
    ·rename_i he
     rw[List.mem_singleton] at h;subst h;exact⟨k,by omega,rfl,Or.inr ⟨rfl,he⟩⟩
    ·cases h
  ·rintro⟨i,h1,h2,h3⟩
   by_cases hi:i<k
   ·exact Or.inl (Or.inl ⟨i,hi,h2,h3⟩)
   ·have e:i=k:=by omega
    subst e;obtain⟨x,y⟩:=s;simp only at h2 h3;subst h2;rcases h3 with ⟨rfl,h4⟩|⟨rfl,h4⟩
    ·exact Or.inl (Or.inr (by rw[Yx h4];exact List.mem_singleton.2 rfl))
    ·exact Or.inr (by rw[Yx h4];exact List.mem_singleton.2 rfl)
theorem sorted_stL (l:List S50) (v:Int) (k:Nat):(stL l v k).Pairwise ltS:=by
 induction k with
 |zero=>exact List.Pairwise.nil
 |succ k ih=>
  unfold stL;rw[List.pairwise_append,List.pairwise_append];refine⟨⟨ih,by split<;>simp,fun a ha b hb=> ?_⟩,by split<;>simp,fun a ha b hb=> ?_⟩
  ·obtain⟨i,h1,h2,_⟩:=(mem_stL l v k a).1 ha
   split at hb
   ·rw[List.mem_singleton] at hb
    subst hb;exact Or.inl (by show a.f0<(k:Int);omega)
   ·cases hb
  ·split at hb
   ·rw[List.mem_singleton] at hb
    subst hb;rcases List.mem_append.1 ha with ha|ha
    ·obtain⟨i,h1,h2,_⟩:=(mem_stL l v k a).1 ha
     exact Or.inl (by show a.f0<(k:Int);omega)
    ·split at ha
     ·rw[List.mem_singleton] at ha
      subst ha;exact Or.inr ⟨rfl,rfl,rfl⟩
     ·cases ha
   ·cases hb
theorem ltS_irr (x:S79): ¬ ltS x x:=by
 rintro(h|⟨_,h1,h2⟩)
 ·omega
 ·rw[h1] at h2;cases h2
theorem ltS_trans {x y z:S79} (h:ltS x y) (k:ltS y z):ltS x z:=by
 rcases h with h|⟨h1,h2,h3⟩<;>rcases k with k|⟨k1,k2,k3⟩
 ·exact Or.inl (by omega)
 ·exact Or.inl (by omega)
 ·exact Or.inl (by omega)
 ·rw[h3] at k2;cases k2
theorem sorted_uniq: ∀ (a b:List S79),a.Pairwise ltS→b.Pairwise ltS→(∀ s,s∈a↔s∈b)→a=b
 |[],[],_,_,_=>rfl
 |[],y::b,_,_,h=>by have:=(h y).2 (List.mem_cons_self ..);cases this
 |x::a,[],_,_,h=>by have:=(h x).1 (List.mem_cons_self ..);cases this
 |x::a,y::b,ha,hb,h=>by
  rw[List.pairwise_cons] at ha hb;have e:x=y:=by
   rcases List.mem_cons.1 ((h x).1 (List.mem_cons_self ..)) with e|h1
   ·exact e
   ·rcases List.mem_cons.1 ((h y).2 (List.mem_cons_self ..)) with e|h2
    ·exact e.symm
    ·exact absurd (ltS_trans (ha.1 y h2) (hb.1 x h1)) (ltS_irr x)
  subst e;rw[sorted_uniq a b ha.2 hb.2 fun s=>⟨fun hs=> ?_,fun hs=> ?_⟩]
  ·rcases List.mem_cons.1 ((h s).1 (List.mem_cons_of_mem _ hs)) with e|h1
   ·subst e;exact absurd (ha.1 s hs) (ltS_irr s)
   ·exact h1
  ·rcases List.mem_cons.1 ((h s).2 (List.mem_cons_of_mem _ hs)) with e|h1
   ·subst e;exact absurd (hb.1 s hs) (ltS_irr s)
   ·exact h1
theorem lsAt_spec (E:S50→Int) (l:List S50) (n:Nat) (v:Int) (hv0:0≤v) (hv:v<n): ∀ k:Nat,(∀ i:Nat,i<k→0≤E (rd_T50 l i)∧E (rd_T50 l i)<n)→
  (∀ x,x∈rd_L5 (lsAt E l n k) v↔ ∃ i:Nat,i<k∧x=i∧E (rd_T50 l i)=v)∧(rd_L5 (lsAt E l n k) v).Pairwise (· < ·):=by
 intro k
 induction k with
 |zero=>
  intro _;have e:rd_L5 (lsAt E l n 0) v=[]:=by
   unfold rd_L5 lsAt;rw[List.getD_eq_getElem?_getD,List.getElem?_replicate];split<;>rfl
  rw[e];refine⟨fun x=>Iff.intro (fun h=>by cases h) ?_,List.Pairwise.nil⟩;rintro⟨i,h,_⟩;omega
 |succ k ih=>
  intro hE;obtain⟨h1,h2⟩:=ih fun i hi=>hE i (by omega)
  have hk:=hE k (by omega);by_cases c:E (rd_T50 l k)=v
  ·have e:rd_L5 (lsAt E l n (k+1)) v=rd_L5 (lsAt E l n k) v ++ [(k:Int)]:=by
    show (List.set _ _ _).getD v.toNat []=_;rw[c,List.getD_eq_getElem?_getD,List.getElem?_set_self (by rw[lsAt_len];omega)];rfl
   rw[e];refine⟨fun x=> ?_,?_⟩
   ·rw[List.mem_append,h1,List.mem_singleton]
    constructor
    ·rintro(⟨i,a,b,d⟩|rfl)
     ·exact⟨i,by omega,b,d⟩
     ·exact⟨k,by omega,rfl,c⟩
    ·rintro⟨i,a,b,d⟩
     by_cases hi:i<k
     ·exact Or.inl ⟨i,hi,b,d⟩
     ·exact Or.inr (by rw[b];congr 1;omega)
   ·rw[List.pairwise_append]
    refine⟨h2,List.pairwise_singleton _ _,fun a ha b hb=> ?_⟩;rw[List.mem_singleton] at hb;obtain⟨i,q1,q2,_⟩:=(h1 a).1 ha;omega
  ·have e:rd_L5 (lsAt E l n (k+1)) v=rd_L5 (lsAt E l n k) v:=by
    show (List.set _ _ _).getD v.toNat []=_;rw[List.getD_eq_getElem?_getD,List.getElem?_set_ne (by omega), ← List.getD_eq_getElem?_getD];rfl
   rw[e];refine⟨fun x=> ?_,h2⟩;rw[h1];constructor
   ·rintro⟨i,a,b,d⟩;exact⟨i,by omega,b,d⟩
   ·rintro⟨i,a,b,d⟩
    by_cases hi:i<k
    ·exact⟨i,hi,b,d⟩
    ·have e2:i=k:=by omega
     subst e2;exact absurd d c
def stepsU (l:List S50) (n:Nat) (v:Int):List S79:=
 (rd_L5 (lsAt eFrom l n l.length) v).map (fun i=>⟨i,false⟩) ++ (rd_L5 (lsAt eTo l n l.length) v).map (fun i=>⟨i,true⟩)
def ends (l:List S50) (n:Nat):Prop:= ∀ i:Nat,i<l.length→(0≤eFrom (rd_T50 l i)∧eFrom (rd_T50 l i)<n)∧(0≤eTo (rd_T50 l i)∧eTo (rd_T50 l i)<n)
theorem mem_stepsU (l:List S50) (n:Nat) (v:Int) (hv0:0≤v) (hv:v<n) (h:ends l n) (s:S79):s∈stepsU l n v↔IsSt l v l.length s:=by
 have hf:=(lsAt_spec eFrom l n v hv0 hv l.length fun i hi=>(h i hi).1).1;have ht:=(lsAt_spec eTo l n v hv0 hv l.length fun i hi=>(h i hi).2).1;unfold stepsU;rw[List.mem_append,List.mem_map,List.mem_map];constructor
 ·rintro(⟨x,hx,rfl⟩|⟨x,hx,rfl⟩)
  ·obtain⟨i,a,b,d⟩:=(hf x).1 hx
   exact⟨i,a,b,Or.inl ⟨rfl,d⟩⟩
  ·obtain⟨i,a,b,d⟩:=(ht x).1 hx
   exact⟨i,a,b,Or.inr ⟨rfl,d⟩⟩
 ·rintro⟨i,a,b,⟨c,d⟩|⟨c,d⟩⟩
  ·exact Or.inl ⟨s.f0,(hf _).2 ⟨i,a,b,d⟩,by obtain⟨x,y⟩:=s;simp only at c;subst c;rfl⟩
  ·exact Or.inr ⟨s.f0,(ht _).2 ⟨i,a,b,d⟩,by obtain⟨x,y⟩:=s;simp only at c;subst c;rfl⟩
theorem stab_stepsU (l:List S50) (n:Nat) (v:Int) (hv0:0≤v) (hv:v<n) (h:ends l n):(stepsU l n v).Pairwise fun x y=>x.f0=y.f0→x.f1=false∧y.f1=true:=by
 have hf:=(lsAt_spec eFrom l n v hv0 hv l.length fun i hi=>(h i hi).1).2;have ht:=(lsAt_spec eTo l n v hv0 hv l.length fun i hi=>(h i hi).2).2;unfold stepsU;rw[List.pairwise_append,List.pairwise_map,List.pairwise_map];refine⟨hf.imp fun {a b} hab e=> ?_,ht.imp fun {a b} hab e=> ?_,fun a ha b hb e=> ?_⟩
 ·simp only at e;omega
 ·simp only at e;omega
 ·obtain⟨x,_,rfl⟩:=List.mem_map.1 ha
  obtain⟨y,_,rfl⟩:=List.mem_map.1 hb;exact⟨rfl,rfl⟩
end H
namespace H
open P
def stFrom (l:List S50) (s:S79):Int:=if s.f1 then eTo (rd_T50 l s.f0) else eFrom (rd_T50 l s.f0)
def stTo (l:List S50) (s:S79):Int:=if s.f1 then eFrom (rd_T50 l s.f0) else eTo (rd_T50 l s.f0)
def stTime (l:List S50) (s:S79):Int:=if s.f1 then -(rd_T50 l s.f0).f3 else(rd_T50 l s.f0).f3
def stRoom (l:List S50) (F:List Int) (s:S79):Int:=if s.f1 then F.getD s.f0.toNat 0 else(rd_T50 l s.f0).f2 - F.getD s.f0.toNat 0
structure Rch where
 D:List Int
 I:List Bool
 B:List S79
 still:Bool
def visC (l:List S50) (F:List Int) (v:Nat) (x:Rch) (s:S79):Bool:=
 decide (0<stRoom l F s) && (!x.I.getD (stTo l s).toNat false || decide (x.D.getD v 0+stTime l s<x.D.getD (stTo l s).toNat 0))
def visR (l:List S50) (F:List Int) (v:Nat) (x:Rch) (s:S79):Rch:=
 if visC l F v x s then⟨x.D.set (stTo l s).toNat (x.D.getD v 0+stTime l s),x.I.set (stTo l s).toNat true,x.B.set (stTo l s).toNat s,false⟩ else x
def rowR (l:List S50) (F:List Int) (x:Rch) (v:Nat):Rch:=if x.I.getD v false then(stL l v l.length).foldl (visR l F v) x else x
def roundR (l:List S50) (F:List Int) (n:Nat) (x:Rch):Rch:=(List.range n).foldl (rowR l F) { x with still:=true }
def goesR (l:List S50) (F:List Int) (n:Nat):Nat→Rch→Rch × Bool
 |0,x=>(x,false)
 |k+1,x=>if (roundR l F n x).still then(roundR l F n x,true) else goesR l F n k (roundR l F n x)
def absR (x:Rch):Tm:=fun v=>if x.I.getD v false then some (x.D.getD v 0) else none
structure Rch.Ok (n:Nat) (x:Rch):Prop where
 hD:x.D.length=n
 hI:x.I.length=n
 hB:x.B.length=n
theorem visR_ok {l:List S50} {F:List Int} {n v:Nat} {x:Rch} (h:x.Ok n) (s:S79):(visR l F v x s).Ok n:=by
 unfold visR;split
 ·exact⟨by simp[h.hD],by simp[h.hI],by simp[h.hB]⟩
 ·exact h
theorem foldR_ok {l:List S50} {F:List Int} {n v:Nat} (r:List S79) {x:Rch} (h:x.Ok n):(r.foldl (visR l F v) x).Ok n:=by
 induction r generalizing x with
 |nil=>exact h
 |cons s r ih=>exact ih (visR_ok h s)
theorem rowR_ok {l:List S50} {F:List Int} {n v:Nat} {x:Rch} (h:x.Ok n):(rowR l F x v).Ok n:=by
 unfold rowR;split
 ·exact foldR_ok _ h
 ·exact h
def edgeS (l:List S50) (v:Nat) (s:S79):Ed:=(v,(stTo l s).toNat,stTime l s)
theorem getD_set_ne {β:Type} (L:List β) (i j:Nat) (x d:β) (h:i≠j):(L.set i x).getD j d=L.getD j d:=by
 rw[List.getD_eq_getElem?_getD,List.getElem?_set_ne h,List.getD_eq_getElem?_getD]
theorem getD_set_eq {β:Type} (L:List β) (i:Nat) (x d:β) (h:i<L.length):(L.set i x).getD i d=x:=by
 rw[List.getD_eq_getElem?_getD,List.getElem?_set_self h];rfl
theorem visR_abs {l:List S50} {F:List Int} {n v:Nat} {x:Rch} (h:x.Ok n) (s:S79) (hv:x.I.getD v false=true) (hw:(stTo l s).toNat<n):
  absR (visR l F v x s)=(if 0<stRoom l F s then relax (absR x) (edgeS l v s) else absR x)∧(visR l F v x s).still=(x.still && !(decide (0<stRoom l F s) && trig (absR x) (edgeS l v s)))∧(visR l F v x s).I.getD v false=true:=by
 have hσ:absR x v=some (x.D.getD v 0):=by unfold absR;rw[Yx hv]
 have htr:trig (absR x) (edgeS l v s)=(!x.I.getD (stTo l s).toNat false || decide (x.D.getD v 0+stTime l s<x.D.getD (stTo l s).toNat 0)):=by
  unfold trig edgeS;simp only[hσ];cases hi:x.I.getD (stTo l s).toNat false with
  |false=>
   have h2:absR x (stTo l s).toNat=none:=by unfold absR;rw[hi];rfl
   rw[h2];rfl
  |true=>
   have h2:absR x (stTo l s).toNat=some (x.D.getD (stTo l s).toNat 0):=by unfold absR;rw[hi];rfl
   rw[h2];rfl
 have hc:visC l F v x s=(decide (0<stRoom l F s) && trig (absR x) (edgeS l v s)):=by rw[htr];rfl
 unfold visR;rw[hc];by_cases hr:0<stRoom l F s
 ·rw[Yx hr,Yv hr,Bool.true_and]
  cases ht:trig (absR x) (edgeS l v s) with
  |false=>
   rw[relax_off ht];refine⟨rfl,?_,hv⟩;simp
  |true=>
   refine⟨?_,by simp,?_⟩
   ·funext u
    rw[relax_on ht (show absR x (edgeS l v s).1=_ from hσ)];show (if (x.I.set (stTo l s).toNat true).getD u false=true then some ((x.D.set (stTo l s).toNat (x.D.getD v 0+stTime l s)).getD u 0) else none)=if u=(stTo l s).toNat then _ else absR x u
    by_cases hu:u=(stTo l s).toNat
    ·subst hu
     rw[Yx rfl,getD_set_eq _ _ _ _ (by rw[h.hI];exact hw),getD_set_eq _ _ _ _ (by rw[h.hD];exact hw),Yx rfl];rfl
    ·rw[Yy hu,getD_set_ne _ _ _ _ _ (Ne.symm hu),getD_set_ne _ _ _ _ _ (Ne.symm hu)]
     rfl
   ·show (x.I.set (stTo l s).toNat true).getD v false=true
    by_cases hu:(stTo l s).toNat=v
    ·rw[hu,getD_set_eq _ _ _ _ (by rw[h.hI, ← hu];exact hw)]
    ·rw[getD_set_ne _ _ _ _ _ hu];exact hv
 ·rw[Yy hr,Yw hr,Bool.false_and]
  refine⟨rfl,by simp,hv⟩
def liveS (l:List S50) (F:List Int) (v:Nat):List Ed:=((stL l v l.length).filter (fun s=>decide (0<stRoom l F s))).map (edgeS l v)
theorem passT_app (E G:List Ed) (σ:Tm) (b:Bool):passT (E ++ G) σ b=passT G (passT E σ b).1 (passT E σ b).2:=by
 unfold passT;rw[List.foldl_append]
theorem passT_or (E:List Ed) (σ:Tm) (b:Bool):(passT E σ b).2=(b || (passT E σ false).2):=by
 cases b with
 |false=>rw[Bool.false_or]
 |true=>rw[passT_true];rfl
theorem foldR_abs {l:List S50} {F:List Int} {n v:Nat} (r:List S79) (hw: ∀ s,s∈r→(stTo l s).toNat<n) {x:Rch} (h:x.Ok n) (hv:x.I.getD v false=true):
  absR (r.foldl (visR l F v) x)=pass ((r.filter (fun s=>decide (0<stRoom l F s))).map (edgeS l v)) (absR x)∧
  (r.foldl (visR l F v) x).still=(x.still && !(passT ((r.filter (fun s=>decide (0<stRoom l F s))).map (edgeS l v)) (absR x) false).2):=by
 induction r generalizing x with
 |nil=>exact⟨rfl,by simp[passT]⟩
 |cons s r ih=>
  obtain⟨h1,h2,h3⟩:=visR_abs (F:=F) h s hv (hw s List.mem_cons_self);obtain⟨h4,h5⟩:=ih (fun s hs=>hw s (List.mem_cons_of_mem _ hs)) (visR_ok h s) h3;rw[List.foldl_cons];rw[h1] at h4 h5;rw[h2] at h5;rw[h4,h5];by_cases hr:0<stRoom l F s
  ·rw[List.filter_cons_of_pos (p:=fun s=>decide (0<stRoom l F s)) (Yv hr),List.map_cons,Yx hr,Yv hr,Bool.true_and]
   refine⟨rfl,?_⟩;show _=(x.still && !(passT _ (relax (absR x) (edgeS l v s)) (false || trig (absR x) (edgeS l v s))).2);rw[passT_or _ _ (false || _),Bool.false_or];cases x.still<;>cases trig (absR x) (edgeS l v s)<;>simp
  ·rw[List.filter_cons_of_neg (p:=fun s=>decide (0<stRoom l F s)) (by simpa using hr),Yy hr,Yw hr,Bool.false_and]
   exact⟨rfl,by simp⟩
theorem rowR_abs {l:List S50} {F:List Int} {n v:Nat} (hw: ∀ s,s∈stL l v l.length→(stTo l s).toNat<n) {x:Rch} (h:x.Ok n):
  absR (rowR l F x v)=pass (liveS l F v) (absR x)∧(rowR l F x v).still=(x.still && !(passT (liveS l F v) (absR x) false).2):=by
 unfold rowR;by_cases hv:x.I.getD v false=true
 ·rw[Yx hv]
  exact foldR_abs _ hw h hv
 ·rw[Yy hv]
  have h0:absR x v=none:=by unfold absR;rw[Yy hv]
  have h1: ∀ e,e∈liveS l F v→trig (absR x) e=false:=by
   intro e he;obtain⟨s,_,rfl⟩:=List.mem_map.1 he;unfold trig edgeS;simp only[h0]
  have h2:=passT_still h1;refine⟨?_,by rw[h2];simp⟩;rw[← passT_fst _ _ false,h2]
def liveE (l:List S50) (F:List Int) (n:Nat):List Ed:=(List.range n).flatMap (liveS l F)
theorem rows_abs {l:List S50} {F:List Int} {n:Nat} (hw: ∀ (v:Nat) (s:S79),s∈stL l v l.length→(stTo l s).toNat<n) (vs:List Nat) {x:Rch} (h:x.Ok n):
  (vs.foldl (rowR l F) x).Ok n∧absR (vs.foldl (rowR l F) x)=pass (vs.flatMap (liveS l F)) (absR x)∧(vs.foldl (rowR l F) x).still=(x.still && !(passT (vs.flatMap (liveS l F)) (absR x) false).2):=by
 induction vs generalizing x with
 |nil=>exact⟨h,rfl,by simp[passT]⟩
 |cons v vs ih=>
  obtain⟨h1,h2⟩:=rowR_abs (F:=F) (hw v) h;obtain⟨h3,h4,h5⟩:=ih (rowR_ok (l:=l) (F:=F) (v:=v) h);rw[List.foldl_cons,List.flatMap_cons];refine⟨h3,?_,?_⟩
  ·rw[h4,h1]
   unfold pass;rw[List.foldl_append]
  ·rw[h5,h2,h1,passT_app,passT_or _ _ (passT (liveS l F v) (absR x) false).2,passT_fst]
   cases x.still<;>simp
theorem roundR_abs {l:List S50} {F:List Int} {n:Nat} (hw: ∀ (v:Nat) (s:S79),s∈stL l v l.length→(stTo l s).toNat<n) {x:Rch} (h:x.Ok n):
  (roundR l F n x).Ok n∧absR (roundR l F n x)=pass (liveE l F n) (absR x)∧(roundR l F n x).still= !(passT (liveE l F n) (absR x) false).2:=by
 obtain⟨h1,h2,h3⟩:=rows_abs (F:=F) hw (List.range n) (x:= { x with still:=true }) ⟨h.hD,h.hI,h.hB⟩;refine⟨h1,h2,?_⟩;unfold roundR;rw[h3];simp[liveE];rfl
theorem goesR_spec {l:List S50} {F:List Int} {n:Nat} (hw: ∀ (v:Nat) (s:S79),s∈stL l v l.length→(stTo l s).toNat<n) (k:Nat) {x:Rch} (h:x.Ok n):
  (goesR l F n k x).1.Ok n∧(∃ m,m≤k∧absR (goesR l F n k x).1=its (liveE l F n) m (absR x))∧((goesR l F n k x).2=true→ ∀ e,e∈liveE l F n→trig (absR (goesR l F n k x).1) e=false)∧
  ((goesR l F n k x).2=false→ ∀ m,m<k→pass (liveE l F n) (its (liveE l F n) m (absR x))≠its (liveE l F n) m (absR x)):=by
 induction k generalizing x with
 |zero=>exact⟨h,⟨0,Nat.le_refl _,rfl⟩,fun h=>(by cases h),fun _ m hm=>absurd hm (Nat.not_lt_zero _)⟩
 |succ k ih=>
  obtain⟨h1,h2,h3⟩:=roundR_abs (F:=F) hw h;unfold goesR;cases hs:(roundR l F n x).still with
  |true=>
   rw[Yx rfl];have hq:(passT (liveE l F n) (absR x) false).2=false:=by rw[hs] at h3;simpa using h3.symm
   have hq2:=passT_still (passT_false hq);have hq3:pass (liveE l F n) (absR x)=absR x:=by rw[← passT_fst _ _ false,hq2]
   refine⟨h1,⟨0,Nat.zero_le _,by show absR (roundR l F n x)=absR x;rw[h2,hq3]⟩,fun _=> ?_,fun h=>(by cases h)⟩;show ∀ e,e∈liveE l F n→trig (absR (roundR l F n x)) e=false;rw[h2,hq3];exact passT_false hq
  |false=>
   rw[Yy (by simp)];obtain⟨g1,⟨m,hm,g2⟩,g3,g4⟩:=ih h1;refine⟨g1,⟨m+1,by omega,?_⟩,g3,fun hf m hm=> ?_⟩
   ·rw[g2,h2];rfl
   ·cases m with
    |zero=>
     show pass (liveE l F n) (absR x)≠absR x;intro he;have:=passT_still (pass_fix he);rw[this,hs] at h3;cases h3
    |succ m=>
     have:=g4 hf m (by omega);rw[h2] at this;exact this
end H
namespace H
structure BelowW (w:World) where
 at_:World
 below:Below w.heap.size w at_
instance (w:World):Inhabited (BelowW w):=⟨⟨w,Yo _ _⟩⟩
theorem wp_region_quiet_below {P:Program} {id:Nat} {Q:Exit→Act→World→Prop} {a:Act} {w:World} {l:List Oper} (hm:P.follows .mixedOrders=true) (hB:Region.lexB .any l.toArray=true)
  (h:wpQuiet P l.toArray (fun w'=> ∃ p:BelowW w,w'=p.at_) (fun a'=> ∀ w',(∃ p:BelowW w,w'=p.at_)→Q .normal a' w') l a):(Code.region id l.toArray true).wp P Q a w:=
 wp_region_quiet (C:=fun w'=> ∃ p:BelowW w,w'=p.at_) hm hB ⟨⟨w.drew,below_drew (Yo _ _)⟩,rfl⟩ (by simpa using h)
theorem calls_below_of {P:Program} {f:FuncId} {args:Array Value} {w:World} {p:BelowW w} {v:Value} (h:Calls P f args p.at_ fun e w'=>e= .returned v∧Below p.at_.heap.size p.at_ w'):
  Calls P f args p.at_ fun e w''=>e= .returned v∧ ∃ q:BelowW w,w''=q.at_:=
 h.mono fun _ w' ⟨he,hb⟩=>⟨he,⟨w',below_then p.below p.below.size hb⟩,rfl⟩
theorem BelowW.cell {w:World} (p:BelowW w) {a:Addr} {v:Value} (h:w.cell? a=some v):p.at_.cell? a=some v:=pw_cell_below p.below h
end H
namespace H
open P
attribute [local irreducible] wpQuiet
set_option maxRecDepth 100000 in
theorem cmp_calls (x y:S79) (hx0:0≤x.f0) (hx1:x.f0≤1000000) (hy0:0≤y.f0) (hy1:y.f0≤1000000) (w:World):
  Calls Try.prog 86 #[.agg #[.int .i64 x.f0, .bool x.f1], .agg #[.int .i64 y.f0, .bool y.f1]] w fun e w'=>e= .returned (.int .i64 (x.f0 - y.f0))∧Below w.heap.size w w':=by
 go_enter Try.func86,Try.ntmps86;go_wp2;go_ret;exact⟨rfl,((Yo _ _).alloc (Nat.le_refl _) _).alloc (by simp) _⟩
set_option maxHeartbeats 1000000 in
set_option maxRecDepth 100000 in
theorem insertion_calls (g N cap:Nat) (M:Nat→S79) (a b:Nat) (w:World) (h:Arr w g N M) (hN:N≤1000000) (hab:a≤b) (hb:b≤N) (hs:Stab M N) (hsm:Small M N):
  Calls Try.prog 104 #[.slice (some ⟨g,0,none⟩) N cap, .int .i64 (a:Int), .int .i64 (b:Int), .func (.func 86) #[] #[]] w fun e w'=>e= .returned (.tuple #[])∧(∃ K,Arr w' g N K∧Sorted M K N a b)∧Fr w w' g:=by
 have HA:=Ya h;have HSM:=Ya hsm;have HST:=Ya hs;clear h hs hsm;go_enter Try.func104,Try.ntmps104;go_wp2;go_loopw [8] (fun i wr=> ∃ k:Nat,a+1≤k∧(k≤b∨k=a+1)∧i= .int .i64 k∧(∃ K,Aside0 (Arr wr g N K)∧Aside0 (Mix M K a b∧Stab K N∧Small K N∧Le K a k))∧Aside0 (Fr w wr g)) (fun i _=>b+1 - (intOf i).toNat)
 case atStart=>exact⟨a+1,by omega,by omega,by go_num,⟨M,HA,⟨mix_refl _ _ _,HST.out,HSM.out,le_one _ _ _ (Nat.le_refl _)⟩⟩,⟨grow_refl _ _⟩⟩
 case round=>
  obtain⟨k,hk0,hk,rfl,⟨K,HA1,HK1⟩,HG⟩:=hrel;clear HA HSM HST;by_cases hlt:k<b
  ·have HH:Aside0 (Mix M K a b∧Stab K N∧Small K N∧Hole K a k k):=⟨HK1.out.1,HK1.out.2.1,HK1.out.2.2.1,hole_start HK1.out.2.2.2⟩
   clear HK1;go_wp2;obtain⟨wo,rfl⟩: ∃ wo:World,wo=wr:=⟨_,rfl⟩;go_loopw [9] (fun vj wr=> ∃ j:Nat,a≤j∧j≤k∧vj= .int .i64 j∧(∃ K,Aside0 (Arr wr g N K)∧Aside0 (Mix M K a b∧Stab K N∧Small K N∧Hole K a k j))∧Aside0 (Fr w wr g)) (fun vj _=>(intOf vj).toNat)
   case atStart=>exact⟨k,by omega,Nat.le_refl _,rfl,⟨K,HA1,HH⟩,HG⟩
   case round=>
    clear HA1 HH HG;obtain⟨j,hj0,hj,rfl,⟨K,HA1,HK⟩,HG⟩:=hrel;by_cases hja:a<j
    ·obtain⟨jp,rfl⟩: ∃ jp,j=jp+1:=⟨j - 1,by omega⟩
     have c0:=HA1.out.cell0 (x:=jp+1) (by omega);have c1:=HA1.out.cell1 (x:=jp+1) (by omega);have d0:=HA1.out.cell0 (x:=jp) (by omega);have d1:=HA1.out.cell1 (x:=jp) (by omega);have cc0: ∀ p:BelowW wr,p.at_.cell? ⟨g,(jp+1) * 2,none⟩=some (.int .i64 (K (jp+1)).f0):=fun p=>p.cell c0
     have cc1: ∀ p:BelowW wr,p.at_.cell? ⟨g,(jp+1) * 2+1,none⟩=some (.bool (K (jp+1)).f1):=fun p=>p.cell c1
     have dd0: ∀ p:BelowW wr,p.at_.cell? ⟨g,jp * 2,none⟩=some (.int .i64 (K jp).f0):=fun p=>p.cell d0
     have dd1: ∀ p:BelowW wr,p.at_.cell? ⟨g,jp * 2+1,none⟩=some (.bool (K jp).f1):=fun p=>p.cell d1
     have hwp:IntKind.i64.wrap (jp:Int)=(jp:Int):=by rw[IntKind.wrap_i64];omega
     have jz:(jp:Int)+1<(N:Int):=by omega
     have jz1:(jp:Int)<(N:Int):=by omega
     have p0:(0:Int)≤(jp:Int)+1:=by omega
     have e0:((jp:Int)+1).toNat=jp+1:=by omega
     have g1:(a:Int)<(jp:Int)+1:=by omega
     have e1:=HK.out.2.2.1 (jp+1) (by omega);have e2:=HK.out.2.2.1 jp (by omega);clear c0 c1 d0 d1;go_wp2;refine wp_region_quiet_below (by kernel_rfl) (by kernel_rfl) ?_;(repeat(quiet_step ((go_at_call 86;exact calls_below_of (cmp_calls (K (jp+1)) (K jp) e1.1 e1.2 e2.1 e2.2 _)))));refine wpQuiet_nil ?_;intro wq hw';obtain⟨⟨wz,hbq⟩,hwq⟩:=hw';subst hwq;have HA2:Aside0 (Arr wq g N K):=⟨HA1.out.below hbq⟩;have HG2:Aside0 (Fr w wq g):=⟨grow_trans HG.out (grow_below hbq)⟩;clear cc0 cc1 dd0 dd1 HA1 HG hbq;by_cases hc:(K (jp+1)).f0<(K jp).f0
     ·have hcd:(K (jp+1)).f0 - (K jp).f0<0:=by omega
      have HK2:Aside0 (Mix M (sw K jp) a b∧Stab (sw K jp) N∧Small (sw K jp) N∧Hole (sw K jp) a k jp):=
       ⟨mix_trans HK.out.1 (sw_mix K jp a b (by omega) (by omega)),sw_stab HK.out.2.1 (by omega) hc,mix_small (sw_mix K jp a b (by omega) (by omega)) hb HK.out.2.2.1,hole_swap HK.out.2.2.2 (by omega) (by omega) hc⟩
      have c0:=HA2.out.cell0 (x:=jp+1) (by omega);have c1:=HA2.out.cell1 (x:=jp+1) (by omega);have d0:=HA2.out.cell0 (x:=jp) (by omega);have d1:=HA2.out.cell1 (x:=jp) (by omega);have f0:=HA2.out.free;have HE:Aside0 (∀ x,upd (upd K (jp+1) (K jp)) jp (K (jp+1)) x=sw K jp x):=⟨sw_put1 K jp⟩;obtain⟨s1,hs1⟩: ∃ s,K (jp+1)=s:=⟨_,rfl⟩;obtain⟨s2,hs2⟩: ∃ s,K jp=s:=⟨_,rfl⟩;have HE2:Aside0 (∀ x,upd (upd K (jp+1) s2) jp s1 x=sw K jp x):=by rw[← hs1, ← hs2];exact HE
      rw[hs1] at c0 c1 hcd ⊢;rw[hs2] at d0 d1 hcd ⊢;clear e1 e2 HK hc HE hs1 hs2;go_wp2_with fail;go_region;have HA3:Aside0 (Arr (((((wq.setCell ⟨g,(jp+1) * 2,none⟩ (.int .i64 s2.f0)).setCell ⟨g,(jp+1) * 2+1,none⟩ (.bool s2.f1)).setCell ⟨g,jp * 2,none⟩ (.int .i64 s1.f0)).setCell ⟨g,jp * 2+1,none⟩ (.bool s1.f1)).drew) g N (sw K jp)):=
       ⟨(((HA2.out.put (by omega) s2).put (by omega) s1).drew).congr fun x _=>(HE2.out x).symm⟩
      have HG3:=Ya (grow_drew (grow_set (grow_set (grow_set (grow_set HG2.out ((jp+1) * 2) (.int .i64 s2.f0)) ((jp+1) * 2+1) (.bool s2.f1)) (jp * 2) (.int .i64 s1.f0)) (jp * 2+1) (.bool s1.f1)));clear c0 c1 d0 d1 f0 HA2 HG2 HE2;go_wp2;go_roundw
      case rel=>exact⟨jp,by omega,by omega,rfl,⟨_,HA3,HK2⟩,HG3⟩
      case measure=>simp[intOf]<;>omega
     ·have hcd: ¬ ((K (jp+1)).f0 - (K jp).f0<0):=by omega
      have HK2:Aside0 (Mix M K a b∧Stab K N∧Small K N∧Le K a (k+1)):=
       ⟨HK.out.1,HK.out.2.1,HK.out.2.2.1,hole_stop HK.out.2.2.2 (Or.inr ⟨by omega,by rw[Nat.add_sub_cancel];omega⟩)⟩
      clear e1 e2 HK hc;go_wp2_with fail;go_roundw
      case rel=>exact⟨k+1,by omega,by omega,by go_num,⟨_,HA2,HK2⟩,HG2⟩
      case measure=>simp[intOf]<;>omega
    ·have ej:j=a:=by omega
     have HK2:Aside0 (Mix M K a b∧Stab K N∧Small K N∧Le K a (k+1)):=
      ⟨HK.out.1,HK.out.2.1,HK.out.2.2.1,hole_stop HK.out.2.2.2 (Or.inl ej)⟩
     have g1: ¬ ((a:Int)<(j:Int)):=by omega
     clear HK;go_wp2;refine wp_region_quiet_below (by kernel_rfl) (by kernel_rfl) ?_;(repeat(quiet_step ((fail))));refine wpQuiet_nil ?_;intro wq hw';obtain⟨⟨wz,hbq⟩,hwq⟩:=hw';subst hwq;have HA2:Aside0 (Arr wq g N K):=⟨HA1.out.below hbq⟩;have HG2:Aside0 (Fr w wq g):=⟨grow_trans HG.out (grow_below hbq)⟩;clear HA1 HG hbq;go_wp2_with fail;go_roundw
     case rel=>exact⟨k+1,by omega,by omega,by go_num,⟨_,HA2,HK2⟩,HG2⟩
     case measure=>simp[intOf]<;>omega
  ·go_wp2
   go_end0;refine⟨rfl,⟨K,HA1.out,HK1.out.1,HK1.out.2.1,HK1.out.2.2.1,?_⟩,HG.out⟩;intro x y h1 h2 h3;exact HK1.out.2.2.2 x y h1 h2 (by omega)
end H
namespace H
open P
attribute [local irreducible] wpQuiet
theorem Arr.q0 {w:World} {g N:Nat} {M:Nat→S79} (h:Arr w g N M) {x:Nat} (hx:x<N): ∀ p:BelowW w,p.at_.cell? ⟨g,x * 2,none⟩=some (.int .i64 (M x).f0):=fun p=>p.cell (h.cell0 hx)
theorem Arr.q1 {w:World} {g N:Nat} {M:Nat→S79} (h:Arr w g N M) {x:Nat} (hx:x<N): ∀ p:BelowW w,p.at_.cell? ⟨g,x * 2+1,none⟩=some (.bool (M x).f1):=fun p=>p.cell (h.cell1 hx)
set_option maxHeartbeats 1000000 in
set_option maxRecDepth 100000 in
theorem symLo_calls (g N cap:Nat) (M:Nat→S79) (a b:Nat) (w:World) (h:Arr w g N M) (hN:N≤1000000) (hab:a+1<b) (hb:b≤N) (hs:Stab M N) (hsm:Small M N) (hle:Le M (a+1) b):
  Calls Try.prog 105 #[.slice (some ⟨g,0,none⟩) N cap, .int .i64 (a:Int), .int .i64 ((a:Int)+1), .int .i64 (b:Int), .func (.func 86) #[] #[]] w fun e w'=>e= .returned (.tuple #[])∧(∃ K,Arr w' g N K∧Sorted M K N a b)∧Fr w w' g:=by
 have HA:=Ya h;have HSM:=Ya hsm;have HST:=Ya hs;have HLE:=Ya hle;clear h hs hsm hle;have e1:(a:Int)+1 - (a:Int)=1:=by omega
 go_enter Try.func105,Try.ntmps105;go_wp2_with fail;go_loopw [10,11] (fun vi vj wr=> ∃ i j:Nat,a+1≤i∧i≤j∧j≤b∧vi= .int .i64 i∧vj= .int .i64 j∧Aside0 (Arr wr g N M)∧Aside0 (∀ y,a+1≤y→y<i→(M y).f0<(M a).f0)∧Aside0 (∀ y,j≤y→y<b→(M a).f0≤(M y).f0)∧Aside0 (Fr w wr g)) (fun vi vj _=>(intOf vj).toNat - (intOf vi).toNat)
 case atStart=>exact⟨a+1,b,Nat.le_refl _,by omega,Nat.le_refl _,by go_num,rfl,HA,⟨fun y h1 h2=>by omega⟩,⟨fun y h1 h2=>by omega⟩,⟨grow_refl _ _⟩⟩
 case round=>
  clear HA;obtain⟨i,j,hi,hij,hj,rfl,rfl,HA1,HL,HR,HG⟩:=hrel;by_cases hlt:i<j
  ·obtain⟨c,hc⟩: ∃ c,(i+j) / 2=c:=⟨_,rfl⟩
   have hcz:((i:Int)+(j:Int)) / 2=(c:Int):=by omega
   have b1:=HSM.out c (by omega);have b2:=HSM.out a (by omega);have c0:=HA1.out.q0 (x:=c) (by omega);have c1:=HA1.out.q1 (x:=c) (by omega);have d0:=HA1.out.q0 (x:=a) (by omega);have d1:=HA1.out.q1 (x:=a) (by omega);have z1:(c:Int)<(N:Int):=by omega
   have z2:(a:Int)<(N:Int):=by omega
   go_wp2_with fail;refine wp_region_quiet_below (by kernel_rfl) (by kernel_rfl) ?_;(repeat(quiet_step ((go_at_call 86;exact calls_below_of (cmp_calls (M c) (M a) b1.1 b1.2 b2.1 b2.2 _)))));refine wpQuiet_nil ?_;intro wq hw';obtain⟨⟨wz,hbq⟩,hwq⟩:=hw';subst hwq;have HA2:Aside0 (Arr wq g N M):=⟨HA1.out.below hbq⟩;have HG2:Aside0 (Fr w wq g):=⟨grow_trans HG.out (grow_below hbq)⟩;have HC:=Ya hc;clear c0 c1 d0 d1 HA1 HG hbq hcz hc;have HC2:Aside0 (a+1≤c∧i≤c∧c<j):=by have:=HC.out;exact⟨by omega,by omega,by omega⟩
   clear HC;by_cases hlc:(M c).f0<(M a).f0
   ·have hcd:(M c).f0 - (M a).f0<0:=by omega
    have HL2:Aside0 (∀ y,a+1≤y→y<c+1→(M y).f0<(M a).f0):=⟨fun y h1 h2=>by
     have:=le_le HLE.out h1 (show y≤c by omega) (by have:=HC2.out;omega);omega⟩
    clear HL hlc b1 b2;go_wp2_with fail;go_roundw
    case rel=>exact⟨c+1,j,by have:=HC2.out;omega,by have:=HC2.out;omega,hj,by go_num,rfl,HA2,HL2,HR,HG2⟩
    case measure=>have:=HC2.out;simp[intOf]<;>omega
   ·have hcd: ¬ ((M c).f0 - (M a).f0<0):=by omega
    have HR2:Aside0 (∀ y,c≤y→y<b→(M a).f0≤(M y).f0):=⟨fun y h1 h2=>by
     have:=le_le HLE.out (show a+1≤c by have:=HC2.out;omega) h1 h2;omega⟩
    clear HR hlc b1 b2;go_wp2_with fail;go_roundw
    case rel=>exact⟨i,c,hi,by have:=HC2.out;omega,by have:=HC2.out;omega,rfl,rfl,HA2,HL,HR2,HG2⟩
    case measure=>have:=HC2.out;simp[intOf]<;>omega
  ·have ij:i=j:=by omega
   subst ij;go_wp2_with fail;have HB:Aside0 (Le (rotM M a (a+1) i) a b∧Stab (rotM M a (a+1) i) N):=⟨rot_one_lo HLE.out hi hj HL.out HR.out,rot_stab HST.out (by omega) hi (by omega) (fun x y h1 h2 h3 h4=>by
    have e:x=a:=by omega
    subst e;exact HL.out y h3 h4)⟩
   clear HL HR HLE HST;obtain⟨wo,rfl⟩: ∃ wo:World,wo=wr:=⟨_,rfl⟩;go_loopw [13] (fun vk wr=> ∃ k:Nat,a≤k∧k<i∧vk= .int .i64 k∧(∃ K,Aside0 (Arr wr g N K)∧Aside0 (∀ x,K x=rotM M a (a+1) (k+1) x))∧Aside0 (Fr w wr g)) (fun vk _=>i - (intOf vk).toNat)
   case atStart=>exact⟨a,by omega,by omega,rfl,⟨M,HA1,⟨fun x=>(rot_none M (by omega) (by omega) (Or.inr rfl) x).symm⟩⟩,HG⟩
   case round=>
    clear HA1 HG;obtain⟨k,hk0,hk,rfl,⟨K,HA1,HK⟩,HG⟩:=hrel;by_cases hlt2:k+1<i
    ·have c0:=HA1.out.cell0 (x:=k+1) (by omega)
     have c1:=HA1.out.cell1 (x:=k+1) (by omega);have d0:=HA1.out.cell0 (x:=k) (by omega);have d1:=HA1.out.cell1 (x:=k) (by omega);have f0:=HA1.out.free;have HK2:Aside0 (∀ x,upd (upd K k (K (k+1))) (k+1) (K k) x=rotM M a (a+1) (k+1+1) x):=⟨fun x=>by
      rw[sw_put2];have e:K=rotM M a (a+1) (k+1):=funext HK.out;rw[e];exact sw_rot_lo M hk0 x⟩
     obtain⟨s1,hs1⟩: ∃ s,K (k+1)=s:=⟨_,rfl⟩;obtain⟨s2,hs2⟩: ∃ s,K k=s:=⟨_,rfl⟩;rw[hs1] at c0 c1 HK2;rw[hs2] at d0 d1 HK2;clear HK hs1 hs2;go_wp2;go_region;have HA3:Aside0 (Arr (((((wr.setCell ⟨g,k * 2,none⟩ (.int .i64 s1.f0)).setCell ⟨g,k * 2+1,none⟩ (.bool s1.f1)).setCell ⟨g,(k+1) * 2,none⟩ (.int .i64 s2.f0)).setCell ⟨g,(k+1) * 2+1,none⟩ (.bool s2.f1)).drew) g N (upd (upd K k s1) (k+1) s2)):=
      ⟨((HA1.out.put (by omega) s1).put (by omega) s2).drew⟩
     have HG3:=Ya (grow_drew (grow_set (grow_set (grow_set (grow_set HG.out (k * 2) (.int .i64 s1.f0)) (k * 2+1) (.bool s1.f1)) ((k+1) * 2) (.int .i64 s2.f0)) ((k+1) * 2+1) (.bool s2.f1)));clear c0 c1 d0 d1 f0 HA1 HG;go_wp2;go_roundw
     case rel=>exact⟨k+1,by omega,by omega,by go_num,⟨_,HA3,HK2⟩,HG3⟩
     case measure=>simp[intOf]<;>omega
    ·have ek:k+1=i:=by omega
     have HA3:Aside0 (Arr wr g N (rotM M a (a+1) i)):=⟨HA1.out.congr fun x _=>by rw[HK.out,ek]⟩;clear HA1 HK;go_wp2
     (try simp only[Exit.inBlock,Exit.then]);refine bodyPost_ret (results_none rfl _ _ _) rfl ?_
     exact⟨rfl,⟨_,HA3.out,mix_wide (rot_mix M (by omega) (by omega)) (Nat.le_refl _) hj,HB.out.2,mix_small (rot_mix M (by omega) hi) (by omega) HSM.out,HB.out.1⟩,HG.out⟩
end H
namespace H
open P
attribute [local irreducible] wpQuiet
set_option maxHeartbeats 2000000 in
set_option maxRecDepth 100000 in
theorem symHi_calls (g N cap:Nat) (M:Nat→S79) (a m:Nat) (w:World) (h:Arr w g N M) (hN:N≤1000000) (hab:a+1<m) (hb:m+1≤N) (hs:Stab M N) (hsm:Small M N) (hle:Le M a m):
  Calls Try.prog 105 #[.slice (some ⟨g,0,none⟩) N cap, .int .i64 (a:Int), .int .i64 (m:Int), .int .i64 ((m:Int)+1), .func (.func 86) #[] #[]] w fun e w'=>e= .returned (.tuple #[])∧(∃ K,Arr w' g N K∧Sorted M K N a (m+1))∧Fr w w' g:=by
 have HA:=Ya h;have HSM:=Ya hsm;have HST:=Ya hs;have HLE:=Ya hle;clear h hs hsm hle;have e1:(m:Int)+1 - (m:Int)=1:=by omega
 have e2:(((m:Int) - (a:Int)) == 1)=false:=by rw[beq_eq_false_iff_ne];omega
 go_enter Try.func105,Try.ntmps105;go_wp2_with fail;go_loopw [14,15] (fun vi vj wr=> ∃ i j:Nat,a≤i∧i≤j∧j≤m∧vi= .int .i64 i∧vj= .int .i64 j∧Aside0 (Arr wr g N M)∧Aside0 (∀ y,a≤y→y<i→(M y).f0≤(M m).f0)∧Aside0 (∀ y,j≤y→y<m→(M m).f0<(M y).f0)∧Aside0 (Fr w wr g)) (fun vi vj _=>(intOf vj).toNat - (intOf vi).toNat)
 case atStart=>exact⟨a,m,Nat.le_refl _,by omega,Nat.le_refl _,rfl,rfl,HA,⟨fun y h1 h2=>by omega⟩,⟨fun y h1 h2=>by omega⟩,⟨grow_refl _ _⟩⟩
 case round=>
  clear HA;obtain⟨i,j,hi,hij,hj,rfl,rfl,HA1,HL,HR,HG⟩:=hrel;by_cases hlt:i<j
  ·obtain⟨c,hc⟩: ∃ c,(i+j) / 2=c:=⟨_,rfl⟩
   have hcz:((i:Int)+(j:Int)) / 2=(c:Int):=by omega
   have b1:=HSM.out c (by omega);have b2:=HSM.out m (by omega);have c0:=HA1.out.q0 (x:=c) (by omega);have c1:=HA1.out.q1 (x:=c) (by omega);have d0:=HA1.out.q0 (x:=m) (by omega);have d1:=HA1.out.q1 (x:=m) (by omega);have z1:(c:Int)<(N:Int):=by omega
   have z2:(m:Int)<(N:Int):=by omega
   go_wp2_with fail;refine wp_region_quiet_below (by kernel_rfl) (by kernel_rfl) ?_;(repeat(quiet_step ((go_at_call 86;exact calls_below_of (cmp_calls (M m) (M c) b2.1 b2.2 b1.1 b1.2 _)))));refine wpQuiet_nil ?_;intro wq hw';obtain⟨⟨wz,hbq⟩,hwq⟩:=hw';subst hwq;have HA2:Aside0 (Arr wq g N M):=⟨HA1.out.below hbq⟩;have HG2:Aside0 (Fr w wq g):=⟨grow_trans HG.out (grow_below hbq)⟩;have HC:=Ya hc;clear c0 c1 d0 d1 HA1 HG hbq hcz hc;have HC2:Aside0 (a≤c∧i≤c∧c<j):=by have:=HC.out;exact⟨by omega,by omega,by omega⟩
   clear HC;by_cases hlc:(M m).f0<(M c).f0
   ·have hcd:(!decide ((M m).f0 - (M c).f0<0))=false:=by rw[Yv (by omega)];rfl
    have HR2:Aside0 (∀ y,c≤y→y<m→(M m).f0<(M y).f0):=⟨fun y h1 h2=>by
     have:=le_le HLE.out (show a≤c by have:=HC2.out;omega) h1 h2;omega⟩
    clear HR hlc b1 b2;rw[hcd];clear hcd;go_wp2_with fail;go_roundw
    case rel=>exact⟨i,c,hi,by have:=HC2.out;omega,by have:=HC2.out;omega,rfl,rfl,HA2,HL,HR2,HG2⟩
    case measure=>have:=HC2.out;simp[intOf]<;>omega
   ·have hcd:(!decide ((M m).f0 - (M c).f0<0))=true:=by rw[Yw (by omega)];rfl
    have HL2:Aside0 (∀ y,a≤y→y<c+1→(M y).f0≤(M m).f0):=⟨fun y h1 h2=>by
     have:=le_le HLE.out h1 (show y≤c by omega) (by have:=HC2.out;omega);omega⟩
    clear HL hlc b1 b2;rw[hcd];clear hcd;go_wp2_with fail;go_roundw
    case rel=>exact⟨c+1,j,by have:=HC2.out;omega,by have:=HC2.out;omega,hj,by go_num,rfl,HA2,HL2,HR,HG2⟩
    case measure=>have:=HC2.out;simp[intOf]<;>omega
  ·have ij:i=j:=by omega
   subst ij;go_wp2_with fail;have HB:Aside0 (Le (rotM M i m (m+1)) a (m+1)∧Stab (rotM M i m (m+1)) N):=⟨rot_one_hi HLE.out hi hj HL.out HR.out,rot_stab HST.out hj (by omega) (by omega) (fun x y h1 h2 h3 h4=>by
    have e:y=m:=by omega
    subst e;exact HR.out x h1 h2)⟩
   clear HL HR HLE HST;obtain⟨wo,rfl⟩: ∃ wo:World,wo=wr:=⟨_,rfl⟩;go_loopw [17] (fun vk wr=> ∃ k:Nat,i≤k∧k≤m∧vk= .int .i64 k∧(∃ K,Aside0 (Arr wr g N K)∧Aside0 (∀ x,K x=rotM M k m (m+1) x))∧Aside0 (Fr w wr g)) (fun vk _=>(intOf vk).toNat)
   case atStart=>exact⟨m,by omega,Nat.le_refl _,rfl,⟨M,HA1,⟨fun x=>(rot_none M (Nat.le_refl _) (by omega) (Or.inl rfl) x).symm⟩⟩,HG⟩
   case round=>
    clear HA1 HG;obtain⟨k1,hk0,hk,rfl,⟨K,HA1,HK⟩,HG⟩:=hrel;by_cases hlt2:i<k1
    ·obtain⟨k,rfl⟩: ∃ k,k1=k+1:=⟨k1 - 1,by omega⟩
     have c0:=HA1.out.cell0 (x:=k+1) (by omega);have c1:=HA1.out.cell1 (x:=k+1) (by omega);have d0:=HA1.out.cell0 (x:=k) (by omega);have d1:=HA1.out.cell1 (x:=k) (by omega);have f0:=HA1.out.free;have hwp:IntKind.i64.wrap (k:Int)=(k:Int):=by rw[IntKind.wrap_i64];omega
     have jz:(k:Int)+1<(N:Int):=by omega
     have jz1:(k:Int)<(N:Int):=by omega
     have p0:(0:Int)≤(k:Int)+1:=by omega
     have e0:((k:Int)+1).toNat=k+1:=by omega
     have g1:(i:Int)<(k:Int)+1:=by omega
     have HK2:Aside0 (∀ x,upd (upd K (k+1) (K k)) k (K (k+1)) x=rotM M k m (m+1) x):=⟨fun x=>by
      rw[sw_put1];have e:K=rotM M (k+1) m (m+1):=funext HK.out;rw[e];exact sw_rot_hi M (by omega) x⟩
     obtain⟨s1,hs1⟩: ∃ s,K (k+1)=s:=⟨_,rfl⟩;obtain⟨s2,hs2⟩: ∃ s,K k=s:=⟨_,rfl⟩;rw[hs1] at c0 c1 HK2;rw[hs2] at d0 d1 HK2;clear HK hs1 hs2;go_wp2;go_region;have HA3:Aside0 (Arr (((((wr.setCell ⟨g,(k+1) * 2,none⟩ (.int .i64 s2.f0)).setCell ⟨g,(k+1) * 2+1,none⟩ (.bool s2.f1)).setCell ⟨g,k * 2,none⟩ (.int .i64 s1.f0)).setCell ⟨g,k * 2+1,none⟩ (.bool s1.f1)).drew) g N (upd (upd K (k+1) s2) k s1)):=
      ⟨((HA1.out.put (by omega) s2).put (by omega) s1).drew⟩
     have HG3:=Ya (grow_drew (grow_set (grow_set (grow_set (grow_set HG.out ((k+1) * 2) (.int .i64 s2.f0)) ((k+1) * 2+1) (.bool s2.f1)) (k * 2) (.int .i64 s1.f0)) (k * 2+1) (.bool s1.f1)));clear c0 c1 d0 d1 f0 HA1 HG;go_wp2;go_roundw
     case rel=>exact⟨k,by omega,by omega,rfl,⟨_,HA3,HK2⟩,HG3⟩
     case measure=>simp[intOf]<;>omega
    ·have ek:k1=i:=by omega
     have HA3:Aside0 (Arr wr g N (rotM M i m (m+1))):=⟨HA1.out.congr fun x _=>by rw[HK.out,ek]⟩;clear HA1 HK;go_wp2
     (try simp only[Exit.inBlock,Exit.then]);refine bodyPost_ret (results_none rfl _ _ _) rfl ?_
     exact⟨rfl,⟨_,HA3.out,mix_wide (rot_mix M hj (by omega)) hi (Nat.le_refl _),HB.out.2,mix_small (rot_mix M hj (by omega)) (by omega) HSM.out,HB.out.1⟩,HG.out⟩
end H
namespace H
open P
attribute [local irreducible] wpQuiet
def Cross (K:Nat→S79) (a mid b:Nat):Prop:= ∀ x y,a≤x→x<mid→mid≤y→y<b→(K x).f0≤(K y).f0
def F1 (M K:Nat→S79) (N a s mid e b:Nat):Prop:=Mix M K a b∧Stab K N∧Small K N∧Le K a s∧Le K s mid∧Le K mid e∧Le K e b∧Cross K a mid b
def F2 (M K:Nat→S79) (N a mid e b:Nat):Prop:=Mix M K a b∧Stab K N∧Small K N∧Le K a mid∧Le K mid e∧Le K e b∧Cross K a mid b
theorem f1_rot {M:Nat→S79} {N a m b mid s e:Nat} (h1:Le M a m) (h2:Le M m b) (has:a≤s) (hsm:s≤m) (hme:m≤e) (heb:e≤b) (hsum:s+e=mid+m) (hsmid:s≤mid) (hmide:mid≤e)
  (hge:a<s→e<b→(M (s - 1)).f0≤(M e).f0) (hlt:s<m→m<e→(M (e - 1)).f0<(M s).f0) (hst:Stab M N) (hsmall:Small M N) (hb:b≤N):F1 M (rotM M s m e) N a s mid e b:=by
 obtain⟨p1,p2,p3,p4,p5,p6⟩:=sym_rot h1 h2 has hsm hme heb hsum hsmid hmide hge hlt hst hb;have hx:=mix_wide (rot_mix M hsm hme) has heb;exact⟨hx,p1,mix_small hx hb hsmall,p2,p3,p4,p5,p6⟩
theorem f2_rec {M K L:Nat→S79} {N a s mid e b:Nat} (h:F1 M K N a s mid e b) (hl:Sorted K L N a mid) (hm:mid≤e) (he:e≤b):F2 M L N a mid e b:=by
 obtain⟨h1,h2,h3,h4,h5,h6,h7,h8⟩:=h;obtain⟨l1,l2,l3,l4⟩:=hl;exact⟨mix_trans h1 (mix_wide l1 (Nat.le_refl _) (by omega)),l2,l3,l4,mix_le l1 (Or.inr (Nat.le_refl _)) h6,mix_le l1 (Or.inr hm) h7,mix_cross h8 (Or.inl l1)⟩
theorem f2_no {M K:Nat→S79} {N a s mid e b:Nat} (h:F1 M K N a s mid e b) (hs:s=a∨s=mid):F2 M K N a mid e b:=by
 obtain⟨h1,h2,h3,h4,h5,h6,h7,h8⟩:=h;refine⟨h1,h2,h3,?_,h6,h7,h8⟩;rcases hs with hs|hs
 ·subst hs;exact h5
 ·subst hs;exact h4
theorem f3_rec {M K L:Nat→S79} {N a mid e b:Nat} (h:F2 M K N a mid e b) (hl:Sorted K L N mid b) (ha:a≤mid):Sorted M L N a b:=by
 obtain⟨h1,h2,h3,h4,h6,h7,h8⟩:=h;obtain⟨l1,l2,l3,l4⟩:=hl;exact⟨mix_trans h1 (mix_wide l1 ha (Nat.le_refl _)),l2,l3,le_join (mix_le l1 (Or.inl (Nat.le_refl _)) h4) l4 (mix_cross h8 (Or.inr l1))⟩
theorem f3_no {M K:Nat→S79} {N a mid e b:Nat} (h:F2 M K N a mid e b) (hs:e=mid∨e=b):Sorted M K N a b:=by
 obtain⟨h1,h2,h3,h4,h6,h7,h8⟩:=h;refine⟨h1,h2,h3,le_join h4 ?_ h8⟩;rcases hs with hs|hs
 ·subst hs;exact h7
 ·subst hs;exact h6
structure Mid (a m b mid s0 r0 p:Nat):Prop where
 lo:2 * mid≤a+b
 hi:a+b<2 * mid+2
 am:a+2≤m
 mb:m+2≤b
 s0a:a≤s0
 r0m:r0≤m
 r0mid:r0≤mid
 s0b:mid+m≤s0+b
 sr:s0≤r0
 p:p+1=mid+m
 s0e:s0=a∨s0+b=mid+m
 r0e:r0=mid∨r0=m
theorem mid_f1 {M:Nat→S79} {N a m b mid s0 r0 p s e:Nat} (H:Mid a m b mid s0 r0 p) (h0:s0≤s) (h1:s≤r0) (hse:s+e=mid+m) (hL: ∀ c,s0≤c→c<s→(M c).f0≤(M (p - c)).f0) (hR: ∀ c,s≤c→c<r0→(M (p - c)).f0<(M c).f0)
  (l1:Le M a m) (l2:Le M m b) (hst:Stab M N) (hsm:Small M N) (hb:b≤N):F1 M (rotM M s m e) N a s mid e b:=by
 obtain⟨q1,q2,q3,q4,q5,q6,q7,q8,q9,q10,q11,q12⟩:=H;refine f1_rot l1 l2 (by omega) (by omega) (by omega) (by omega) hse (by omega) (by omega) (fun k1 k2=> ?_) (fun k1 k2=> ?_) hst hsm hb
 ·have:=hL (s - 1) (by omega) (by omega)
  rwa [show p - (s - 1)=e by omega] at this
 ·have:=hR s (Nat.le_refl _) (by omega)
  rwa [show p - s=e - 1 by omega] at this
theorem mid_left {M:Nat→S79} {a m b mid s0 r0 p c:Nat} (H:Mid a m b mid s0 r0 p) (h0:s0≤c) (h1:c<r0) (l1:Le M a m) (l2:Le M m b) (h:(M c).f0≤(M (p - c)).f0): ∀ x,s0≤x→x<c+1→(M x).f0≤(M (p - x)).f0:=by
 obtain⟨q1,q2,q3,q4,q5,q6,q7,q8,q9,q10,q11,q12⟩:=H;intro x k1 k2;have k3:(M x).f0≤(M c).f0:=le_le l1 (by omega) (by omega) (by omega);have k4:(M (p - c)).f0≤(M (p - x)).f0:=le_le l2 (by omega) (by omega) (by omega);omega
theorem mid_right {M:Nat→S79} {a m b mid s0 r0 p c:Nat} (H:Mid a m b mid s0 r0 p) (h0:s0≤c) (h1:c<r0) (l1:Le M a m) (l2:Le M m b) (h:(M (p - c)).f0<(M c).f0): ∀ x,c≤x→x<r0→(M (p - x)).f0<(M x).f0:=by
 obtain⟨q1,q2,q3,q4,q5,q6,q7,q8,q9,q10,q11,q12⟩:=H;intro x k1 k2;have k3:(M c).f0≤(M x).f0:=le_le l1 (by omega) (by omega) (by omega);have k4:(M (p - x)).f0≤(M (p - c)).f0:=le_le l2 (by omega) (by omega) (by omega);omega
theorem mid_two {a m b mid p:Nat} (h1:(a+b) / 2=mid) (h2:a+2≤m) (h3:m+2≤b) (h4:p+1=mid+m):
  ∃ s0 r0:Nat,Aside0 (Mid a m b mid s0 r0 p)∧((mid<m∧s0+b=mid+m∧r0=mid)∨(¬ mid<m∧s0=a∧r0=m)):=by
 by_cases h:mid<m
 ·exact⟨mid+m - b,mid,⟨by omega,by omega,h2,h3,by omega,by omega,by omega,by omega,by omega,h4,Or.inr (by omega),Or.inl rfl⟩,Or.inl ⟨h,by omega,rfl⟩⟩
 ·exact⟨a,m,⟨by omega,by omega,h2,h3,by omega,by omega,by omega,by omega,by omega,h4,Or.inl rfl,Or.inr rfl⟩,Or.inr ⟨h,rfl,rfl⟩⟩
def SymOk (g N cap:Nat) (d:Nat):Prop:= ∀ (M:Nat→S79) (a m b:Nat) (w:World),b≤a+d→Arr w g N M→a<m→m<b→b≤N→Stab M N→Small M N→Le M a m→Le M m b→
  Calls Try.prog 105 #[.slice (some ⟨g,0,none⟩) N cap, .int .i64 (a:Int), .int .i64 (m:Int), .int .i64 (b:Int), .func (.func 86) #[] #[]] w fun e w'=>e= .returned (.tuple #[])∧(∃ K,Arr w' g N K∧Sorted M K N a b)∧Fr w w' g
set_option maxHeartbeats 4000000 in
set_option maxRecDepth 100000 in
theorem symMid_calls (g N cap d:Nat) (ih:SymOk g N cap d) (M:Nat→S79) (a m b:Nat) (w:World) (hd:b≤a+d+1) (h:Arr w g N M) (hN:N≤1000000) (ham:a+2≤m) (hmb:m+2≤b) (hb:b≤N) (hs:Stab M N) (hsm:Small M N) (hl1:Le M a m) (hl2:Le M m b):
  Calls Try.prog 105 #[.slice (some ⟨g,0,none⟩) N cap, .int .i64 (a:Int), .int .i64 (m:Int), .int .i64 (b:Int), .func (.func 86) #[] #[]] w fun e w'=>e= .returned (.tuple #[])∧(∃ K,Arr w' g N K∧Sorted M K N a b)∧Fr w w' g:=by
 obtain⟨mid,hmid⟩: ∃ mid,(a+b) / 2=mid:=⟨_,rfl⟩;obtain⟨p,hp⟩: ∃ p,p+1=mid+m:=⟨mid+m - 1,by omega⟩;obtain⟨s0,r0,HM,hor⟩:=mid_two hmid ham hmb hp;have HA:=Ya h;have HSM:=Ya hsm;have HST:=Ya hs;have HL1:=Ya hl1;have HL2:=Ya hl2;have IH:=Ya ih;clear h hs hsm hl1 hl2 ih;have hmz:((a:Int)+(b:Int)) / 2=(mid:Int):=by omega
 have hpz:(mid:Int)+(m:Int) - 1=(p:Int):=by omega
 have e1:(((b:Int) - (m:Int)) == 1)=false:=by rw[beq_eq_false_iff_ne];omega
 have e2:(((m:Int) - (a:Int)) == 1)=false:=by rw[beq_eq_false_iff_ne];omega
 have bp:p<2000000:=by omega
 have bmid:mid≤1000000:=by omega
 clear hmid;go_enter Try.func105,Try.ntmps105;rcases hor with ⟨hc,hs0,hr0⟩|⟨hc,hs0,hr0⟩
 ·have hcb:decide ((mid:Int)<(m:Int))=true:=Yv (by omega)
  have hsz:(mid:Int)+(m:Int) - (b:Int)=(s0:Int):=by omega
  go_wp2_with fail;go_loopw [20,21] (fun vs vr wr=> ∃ s r:Nat,s0≤s∧s≤r∧r≤r0∧vs= .int .i64 s∧vr= .int .i64 r∧Aside0 (Arr wr g N M)∧Aside0 (∀ c,s0≤c→c<s→(M c).f0≤(M (p - c)).f0)∧Aside0 (∀ c,r≤c→c<r0→(M (p - c)).f0<(M c).f0)∧Aside0 (Fr w wr g)) (fun vs vr _=>(intOf vr).toNat - (intOf vs).toNat)
  case atStart=>exact⟨s0,r0,Nat.le_refl _,HM.out.sr,Nat.le_refl _,by first|rfl|rw[hs0],by rw[hr0],HA,⟨fun y h1 h2=>by omega⟩,⟨fun y h1 h2=>by omega⟩,⟨grow_refl _ _⟩⟩
  case round=>
   clear HA;obtain⟨s,r,hsr0,hsr,hrr,rfl,rfl,HA1,HL,HR,HG⟩:=hrel;by_cases hlt:s<r
   ·obtain⟨c,hcq⟩: ∃ c,(s+r) / 2=c:=⟨_,rfl⟩
    have hcz:((s:Int)+(r:Int)) / 2=(c:Int):=by omega
    have HB:Aside0 (s≤c∧c<r∧s0≤c∧c<r0∧c<N∧p - c<N∧c≤p):=by
     obtain⟨q1,q2,q3,q4,q5,q6,q7,q8,q9,q10,q11,q12⟩:=HM.out;exact⟨by omega,by omega,by omega,by omega,by omega,by omega,by omega⟩
    have bc:c<N:=HB.out.2.2.2.2.1;obtain⟨q,hq⟩: ∃ q,p - c=q:=⟨_,rfl⟩;have hqz:(p:Int) - (c:Int)=(q:Int):=by have:=HB.out;omega
    have hwp:IntKind.i64.wrap (q:Int)=(q:Int):=by have:=HB.out;rw[IntKind.wrap_i64];omega
    have b1:=HSM.out c HB.out.2.2.2.2.1;have b2:=HSM.out q (by have:=HB.out;omega);have c0:=HA1.out.q0 (x:=c) HB.out.2.2.2.2.1;have c1:=HA1.out.q1 (x:=c) HB.out.2.2.2.2.1;have d0:=HA1.out.q0 (x:=q) (by have:=HB.out;omega);have d1:=HA1.out.q1 (x:=q) (by have:=HB.out;omega);have z1:(c:Int)<(N:Int):=by have:=HB.out;omega
    have z2:(q:Int)<(N:Int):=by have:=HB.out;omega
    have HQ:=Ya hq;clear hcq hq;go_wp2_with fail;refine wp_region_quiet_below (by kernel_rfl) (by kernel_rfl) ?_;(repeat(quiet_step ((go_at_call 86;exact calls_below_of (cmp_calls (M q) (M c) b2.1 b2.2 b1.1 b1.2 _)))));refine wpQuiet_nil ?_;intro wq hw';obtain⟨⟨wz,hbq⟩,hwq⟩:=hw';subst hwq;have HA2:Aside0 (Arr wq g N M):=⟨HA1.out.below hbq⟩;have HG2:Aside0 (Fr w wq g):=⟨grow_trans HG.out (grow_below hbq)⟩;clear c0 c1 d0 d1 HA1 HG hbq hcz z1 z2 hqz;by_cases hlc:(M q).f0<(M c).f0
    ·have hcd:(!decide ((M q).f0 - (M c).f0<0))=false:=by rw[Yv (by omega)];rfl
     have HR2:Aside0 (∀ y,c≤y→y<r0→(M (p - y)).f0<(M y).f0):=⟨mid_right HM.out HB.out.2.2.1 HB.out.2.2.2.1 HL1.out HL2.out (by rw[HQ.out];exact hlc)⟩;clear HR hlc b1 b2;rw[hcd];clear hcd;go_wp2_with fail;go_roundw
     case rel=>exact⟨s,c,hsr0,HB.out.1,by have:=HB.out;omega,rfl,rfl,HA2,HL,HR2,HG2⟩
     case measure=>have:=HB.out;simp[intOf]<;>omega
    ·have hcd:(!decide ((M q).f0 - (M c).f0<0))=true:=by rw[Yw (by omega)];rfl
     have HL2':Aside0 (∀ y,s0≤y→y<c+1→(M y).f0≤(M (p - y)).f0):=⟨mid_left HM.out HB.out.2.2.1 HB.out.2.2.2.1 HL1.out HL2.out (by rw[HQ.out];omega)⟩;clear HL hlc b1 b2;rw[hcd];clear hcd;go_wp2_with fail;go_roundw
     case rel=>exact⟨c+1,r,by have:=HB.out;omega,by have:=HB.out;omega,hrr,by go_num,rfl,HA2,HL2',HR,HG2⟩
     case measure=>have:=HB.out;simp[intOf]<;>omega
   ·have er:s=r:=by omega
    subst er;obtain⟨e,he⟩: ∃ e,s+e=mid+m:=⟨mid+m - s,by have:=HM.out.r0m;omega⟩;have hez:(mid:Int)+(m:Int) - (s:Int)=(e:Int):=by omega
    have HF:Aside0 (F1 M (rotM M s m e) N a s mid e b):=⟨mid_f1 HM.out hsr0 hrr he HL.out HR.out HL1.out HL2.out HST.out HSM.out hb⟩;have b1:a≤s:=by have:=HM.out.s0a;omega
    have b2:s≤mid:=by have:=HM.out.r0mid;omega
    have b3:s≤m:=by have:=HM.out.r0m;omega
    have b4:m≤e:=by omega
    have b5:mid≤e:=by omega
    have b6:e≤b:=by have:=HM.out.s0b;omega
    have b7:a+2≤mid+1:=by have:=HM.out.hi;omega
    have b8:mid+2≤b:=by have:=HM.out.lo;omega
    clear HL HR HL1 HL2 HST HSM hlt he hsr hsr0 hrr;by_cases c1:s<m
    ·have hb1:decide ((s:Int)<(m:Int))=true:=Yv (by omega)
     by_cases c2:m<e
     ·have hb2:decide ((m:Int)<(e:Int))=true:=Yv (by omega)
      go_wp2_with fail;refine(rotate_calls g N cap M s m e _ _ HA1.out hN c1 c2 (by omega)).mono ?_;rintro e3 w3 ⟨rfl,ha3,hg3⟩;have HA3:=Ya ha3;have HG3:Aside0 (Fr w w3 g):=⟨grow_trans HG.out hg3⟩;clear ha3 hg3 HA1 HG;obtain⟨K,hK⟩: ∃ K,K=rotM M s m e:=⟨_,rfl⟩;rw[← hK] at HA3 HF;clear hK;by_cases c3:a<s
      ·have hb3:decide ((a:Int)<(s:Int))=true:=Yv (by omega)
       by_cases c4:s<mid
       ·have hb4:decide ((s:Int)<(mid:Int))=true:=Yv (by omega)
        go_wp2_with fail;refine(IH.out K a s mid _ (by omega) HA3.out c3 c4 (by omega) HF.out.2.1 HF.out.2.2.1 HF.out.2.2.2.1 HF.out.2.2.2.2.1).mono ?_;rintro e4 w4 ⟨rfl,⟨K2,ha4,hk4⟩,hg4⟩;have HA4:=Ya ha4;have HF2:Aside0 (F2 M K2 N a mid e b):=⟨f2_rec HF.out hk4 b5 b6⟩;have HG4:Aside0 (Fr w w4 g):=⟨grow_trans HG3.out hg4⟩;clear ha4 hk4 hg4 HA3 HF HG3;by_cases c5:mid<e
        ·have hb5:decide ((mid:Int)<(e:Int))=true:=Yv (by omega)
         by_cases c6:e<b
         ·have hb6:decide ((e:Int)<(b:Int))=true:=Yv (by omega)
          go_wp2_with fail;refine(IH.out K2 mid e b _ (by omega) HA4.out c5 c6 hb HF2.out.2.1 HF2.out.2.2.1 HF2.out.2.2.2.2.1 HF2.out.2.2.2.2.2.1).mono ?_;rintro e5 w5 ⟨rfl,⟨K3,ha5,hk5⟩,hg5⟩;have HA5:=Ya ha5;have HS5:Aside0 (Sorted M K3 N a b):=⟨f3_rec HF2.out hk5 (by omega)⟩;have HG5:Aside0 (Fr w w5 g):=⟨grow_trans HG4.out hg5⟩;clear ha5 hk5 hg5 HA4 HF2 HG4;go_wp2_with fail;go_end0;exact⟨rfl,⟨K3,HA5.out,HS5.out⟩,HG5.out⟩
         ·have hb6:decide ((e:Int)<(b:Int))=false:=Yw (by omega)
          have HS5:Aside0 (Sorted M K2 N a b):=⟨f3_no HF2.out (Or.inr (by omega))⟩;clear HF2;go_wp2_with fail;go_end0;exact⟨rfl,⟨K2,HA4.out,HS5.out⟩,HG4.out⟩
        ·have hb5:decide ((mid:Int)<(e:Int))=false:=Yw (by omega)
         have HS5:Aside0 (Sorted M K2 N a b):=⟨f3_no HF2.out (Or.inl (by omega))⟩;clear HF2;go_wp2_with fail;go_end0;exact⟨rfl,⟨K2,HA4.out,HS5.out⟩,HG4.out⟩
       ·have hb4:decide ((s:Int)<(mid:Int))=false:=Yw (by omega)
        have HF2:Aside0 (F2 M K N a mid e b):=⟨f2_no HF.out (Or.inr (by omega))⟩;have HA4:=HA3;have HG4:=HG3;obtain⟨K2,rfl⟩: ∃ K2,K2=K:=⟨K,rfl⟩;clear HF HA3 HG3;by_cases c5:mid<e
        ·have hb5:decide ((mid:Int)<(e:Int))=true:=Yv (by omega)
         by_cases c6:e<b
         ·have hb6:decide ((e:Int)<(b:Int))=true:=Yv (by omega)
          go_wp2_with fail;refine(IH.out K2 mid e b _ (by omega) HA4.out c5 c6 hb HF2.out.2.1 HF2.out.2.2.1 HF2.out.2.2.2.2.1 HF2.out.2.2.2.2.2.1).mono ?_;rintro e5 w5 ⟨rfl,⟨K3,ha5,hk5⟩,hg5⟩;have HA5:=Ya ha5;have HS5:Aside0 (Sorted M K3 N a b):=⟨f3_rec HF2.out hk5 (by omega)⟩;have HG5:Aside0 (Fr w w5 g):=⟨grow_trans HG4.out hg5⟩;clear ha5 hk5 hg5 HA4 HF2 HG4;go_wp2_with fail;go_end0;exact⟨rfl,⟨K3,HA5.out,HS5.out⟩,HG5.out⟩
         ·have hb6:decide ((e:Int)<(b:Int))=false:=Yw (by omega)
          have HS5:Aside0 (Sorted M K2 N a b):=⟨f3_no HF2.out (Or.inr (by omega))⟩;clear HF2;go_wp2_with fail;go_end0;exact⟨rfl,⟨K2,HA4.out,HS5.out⟩,HG4.out⟩
        ·have hb5:decide ((mid:Int)<(e:Int))=false:=Yw (by omega)
         have HS5:Aside0 (Sorted M K2 N a b):=⟨f3_no HF2.out (Or.inl (by omega))⟩;clear HF2;go_wp2_with fail;go_end0;exact⟨rfl,⟨K2,HA4.out,HS5.out⟩,HG4.out⟩
      ·have hb3:decide ((a:Int)<(s:Int))=false:=Yw (by omega)
       have HF2:Aside0 (F2 M K N a mid e b):=⟨f2_no HF.out (Or.inl (by omega))⟩;have HA4:=HA3;have HG4:=HG3;obtain⟨K2,rfl⟩: ∃ K2,K2=K:=⟨K,rfl⟩;clear HF HA3 HG3;by_cases c5:mid<e
       ·have hb5:decide ((mid:Int)<(e:Int))=true:=Yv (by omega)
        by_cases c6:e<b
        ·have hb6:decide ((e:Int)<(b:Int))=true:=Yv (by omega)
         go_wp2_with fail;refine(IH.out K2 mid e b _ (by omega) HA4.out c5 c6 hb HF2.out.2.1 HF2.out.2.2.1 HF2.out.2.2.2.2.1 HF2.out.2.2.2.2.2.1).mono ?_;rintro e5 w5 ⟨rfl,⟨K3,ha5,hk5⟩,hg5⟩;have HA5:=Ya ha5;have HS5:Aside0 (Sorted M K3 N a b):=⟨f3_rec HF2.out hk5 (by omega)⟩;have HG5:Aside0 (Fr w w5 g):=⟨grow_trans HG4.out hg5⟩;clear ha5 hk5 hg5 HA4 HF2 HG4;go_wp2_with fail;go_end0;exact⟨rfl,⟨K3,HA5.out,HS5.out⟩,HG5.out⟩
        ·have hb6:decide ((e:Int)<(b:Int))=false:=Yw (by omega)
         have HS5:Aside0 (Sorted M K2 N a b):=⟨f3_no HF2.out (Or.inr (by omega))⟩;clear HF2;go_wp2_with fail;go_end0;exact⟨rfl,⟨K2,HA4.out,HS5.out⟩,HG4.out⟩
       ·have hb5:decide ((mid:Int)<(e:Int))=false:=Yw (by omega)
        have HS5:Aside0 (Sorted M K2 N a b):=⟨f3_no HF2.out (Or.inl (by omega))⟩;clear HF2;go_wp2_with fail;go_end0;exact⟨rfl,⟨K2,HA4.out,HS5.out⟩,HG4.out⟩
     ·have hb2:decide ((m:Int)<(e:Int))=false:=Yw (by omega)
      have HA3:Aside0 (Arr wr g N (rotM M s m e)):=⟨HA1.out.congr fun x _=>rot_none M (by omega) (by omega) (Or.inr (by omega)) x⟩;have HG3:=HG;clear HA1 HG;obtain⟨K,hK⟩: ∃ K,K=rotM M s m e:=⟨_,rfl⟩;rw[← hK] at HA3 HF;clear hK;by_cases c3:a<s
      ·have hb3:decide ((a:Int)<(s:Int))=true:=Yv (by omega)
       by_cases c4:s<mid
       ·have hb4:decide ((s:Int)<(mid:Int))=true:=Yv (by omega)
        go_wp2_with fail;refine(IH.out K a s mid _ (by omega) HA3.out c3 c4 (by omega) HF.out.2.1 HF.out.2.2.1 HF.out.2.2.2.1 HF.out.2.2.2.2.1).mono ?_;rintro e4 w4 ⟨rfl,⟨K2,ha4,hk4⟩,hg4⟩;have HA4:=Ya ha4;have HF2:Aside0 (F2 M K2 N a mid e b):=⟨f2_rec HF.out hk4 b5 b6⟩;have HG4:Aside0 (Fr w w4 g):=⟨grow_trans HG3.out hg4⟩;clear ha4 hk4 hg4 HA3 HF HG3;by_cases c5:mid<e
        ·have hb5:decide ((mid:Int)<(e:Int))=true:=Yv (by omega)
         by_cases c6:e<b
         ·have hb6:decide ((e:Int)<(b:Int))=true:=Yv (by omega)
          go_wp2_with fail;refine(IH.out K2 mid e b _ (by omega) HA4.out c5 c6 hb HF2.out.2.1 HF2.out.2.2.1 HF2.out.2.2.2.2.1 HF2.out.2.2.2.2.2.1).mono ?_;rintro e5 w5 ⟨rfl,⟨K3,ha5,hk5⟩,hg5⟩;have HA5:=Ya ha5;have HS5:Aside0 (Sorted M K3 N a b):=⟨f3_rec HF2.out hk5 (by omega)⟩;have HG5:Aside0 (Fr w w5 g):=⟨grow_trans HG4.out hg5⟩;clear ha5 hk5 hg5 HA4 HF2 HG4;go_wp2_with fail;go_end0;exact⟨rfl,⟨K3,HA5.out,HS5.out⟩,HG5.out⟩
         ·have hb6:decide ((e:Int)<(b:Int))=false:=Yw (by omega)
          have HS5:Aside0 (Sorted M K2 N a b):=⟨f3_no HF2.out (Or.inr (by omega))⟩;clear HF2;go_wp2_with fail;go_end0;exact⟨rfl,⟨K2,HA4.out,HS5.out⟩,HG4.out⟩
        ·have hb5:decide ((mid:Int)<(e:Int))=false:=Yw (by omega)
         have HS5:Aside0 (Sorted M K2 N a b):=⟨f3_no HF2.out (Or.inl (by omega))⟩;clear HF2;go_wp2_with fail;go_end0;exact⟨rfl,⟨K2,HA4.out,HS5.out⟩,HG4.out⟩
       ·have hb4:decide ((s:Int)<(mid:Int))=false:=Yw (by omega)
        have HF2:Aside0 (F2 M K N a mid e b):=⟨f2_no HF.out (Or.inr (by omega))⟩;have HA4:=HA3;have HG4:=HG3;obtain⟨K2,rfl⟩: ∃ K2,K2=K:=⟨K,rfl⟩;clear HF HA3 HG3;by_cases c5:mid<e
        ·have hb5:decide ((mid:Int)<(e:Int))=true:=Yv (by omega)
         by_cases c6:e<b
         ·have hb6:decide ((e:Int)<(b:Int))=true:=Yv (by omega)
          go_wp2_with fail;refine(IH.out K2 mid e b _ (by omega) HA4.out c5 c6 hb HF2.out.2.1 HF2.out.2.2.1 HF2.out.2.2.2.2.1 HF2.out.2.2.2.2.2.1).mono ?_;rintro e5 w5 ⟨rfl,⟨K3,ha5,hk5⟩,hg5⟩;have HA5:=Ya ha5;have HS5:Aside0 (Sorted M K3 N a b):=⟨f3_rec HF2.out hk5 (by omega)⟩;have HG5:Aside0 (Fr w w5 g):=⟨grow_trans HG4.out hg5⟩;clear ha5 hk5 hg5 HA4 HF2 HG4;go_wp2_with fail;go_end0;exact⟨rfl,⟨K3,HA5.out,HS5.out⟩,HG5.out⟩
         ·have hb6:decide ((e:Int)<(b:Int))=false:=Yw (by omega)
          have HS5:Aside0 (Sorted M K2 N a b):=⟨f3_no HF2.out (Or.inr (by omega))⟩;clear HF2;go_wp2_with fail;go_end0;exact⟨rfl,⟨K2,HA4.out,HS5.out⟩,HG4.out⟩
        ·have hb5:decide ((mid:Int)<(e:Int))=false:=Yw (by omega)
         have HS5:Aside0 (Sorted M K2 N a b):=⟨f3_no HF2.out (Or.inl (by omega))⟩;clear HF2;go_wp2_with fail;go_end0;exact⟨rfl,⟨K2,HA4.out,HS5.out⟩,HG4.out⟩
      ·have hb3:decide ((a:Int)<(s:Int))=false:=Yw (by omega)
       have HF2:Aside0 (F2 M K N a mid e b):=⟨f2_no HF.out (Or.inl (by omega))⟩;have HA4:=HA3;have HG4:=HG3;obtain⟨K2,rfl⟩: ∃ K2,K2=K:=⟨K,rfl⟩;clear HF HA3 HG3;by_cases c5:mid<e
       ·have hb5:decide ((mid:Int)<(e:Int))=true:=Yv (by omega)
        by_cases c6:e<b
        ·have hb6:decide ((e:Int)<(b:Int))=true:=Yv (by omega)
         go_wp2_with fail;refine(IH.out K2 mid e b _ (by omega) HA4.out c5 c6 hb HF2.out.2.1 HF2.out.2.2.1 HF2.out.2.2.2.2.1 HF2.out.2.2.2.2.2.1).mono ?_;rintro e5 w5 ⟨rfl,⟨K3,ha5,hk5⟩,hg5⟩;have HA5:=Ya ha5;have HS5:Aside0 (Sorted M K3 N a b):=⟨f3_rec HF2.out hk5 (by omega)⟩;have HG5:Aside0 (Fr w w5 g):=⟨grow_trans HG4.out hg5⟩;clear ha5 hk5 hg5 HA4 HF2 HG4;go_wp2_with fail;go_end0;exact⟨rfl,⟨K3,HA5.out,HS5.out⟩,HG5.out⟩
        ·have hb6:decide ((e:Int)<(b:Int))=false:=Yw (by omega)
         have HS5:Aside0 (Sorted M K2 N a b):=⟨f3_no HF2.out (Or.inr (by omega))⟩;clear HF2;go_wp2_with fail;go_end0;exact⟨rfl,⟨K2,HA4.out,HS5.out⟩,HG4.out⟩
       ·have hb5:decide ((mid:Int)<(e:Int))=false:=Yw (by omega)
        have HS5:Aside0 (Sorted M K2 N a b):=⟨f3_no HF2.out (Or.inl (by omega))⟩;clear HF2;go_wp2_with fail;go_end0;exact⟨rfl,⟨K2,HA4.out,HS5.out⟩,HG4.out⟩
    ·have hb1:decide ((s:Int)<(m:Int))=false:=Yw (by omega)
     have HA3:Aside0 (Arr wr g N (rotM M s m e)):=⟨HA1.out.congr fun x _=>rot_none M (by omega) (by omega) (Or.inl (by omega)) x⟩;have HG3:=HG;clear HA1 HG;obtain⟨K,hK⟩: ∃ K,K=rotM M s m e:=⟨_,rfl⟩;rw[← hK] at HA3 HF;clear hK;by_cases c3:a<s
     ·have hb3:decide ((a:Int)<(s:Int))=true:=Yv (by omega)
      by_cases c4:s<mid
      ·have hb4:decide ((s:Int)<(mid:Int))=true:=Yv (by omega)
       go_wp2_with fail;refine(IH.out K a s mid _ (by omega) HA3.out c3 c4 (by omega) HF.out.2.1 HF.out.2.2.1 HF.out.2.2.2.1 HF.out.2.2.2.2.1).mono ?_;rintro e4 w4 ⟨rfl,⟨K2,ha4,hk4⟩,hg4⟩;have HA4:=Ya ha4;have HF2:Aside0 (F2 M K2 N a mid e b):=⟨f2_rec HF.out hk4 b5 b6⟩;have HG4:Aside0 (Fr w w4 g):=⟨grow_trans HG3.out hg4⟩;clear ha4 hk4 hg4 HA3 HF HG3;by_cases c5:mid<e
       ·have hb5:decide ((mid:Int)<(e:Int))=true:=Yv (by omega)
        by_cases c6:e<b
        ·have hb6:decide ((e:Int)<(b:Int))=true:=Yv (by omega)
         go_wp2_with fail;refine(IH.out K2 mid e b _ (by omega) HA4.out c5 c6 hb HF2.out.2.1 HF2.out.2.2.1 HF2.out.2.2.2.2.1 HF2.out.2.2.2.2.2.1).mono ?_;rintro e5 w5 ⟨rfl,⟨K3,ha5,hk5⟩,hg5⟩;have HA5:=Ya ha5;have HS5:Aside0 (Sorted M K3 N a b):=⟨f3_rec HF2.out hk5 (by omega)⟩;have HG5:Aside0 (Fr w w5 g):=⟨grow_trans HG4.out hg5⟩;clear ha5 hk5 hg5 HA4 HF2 HG4;go_wp2_with fail;go_end0;exact⟨rfl,⟨K3,HA5.out,HS5.out⟩,HG5.out⟩
        ·have hb6:decide ((e:Int)<(b:Int))=false:=Yw (by omega)
         have HS5:Aside0 (Sorted M K2 N a b):=⟨f3_no HF2.out (Or.inr (by omega))⟩;clear HF2;go_wp2_with fail;go_end0;exact⟨rfl,⟨K2,HA4.out,HS5.out⟩,HG4.out⟩
       ·have hb5:decide ((mid:Int)<(e:Int))=false:=Yw (by omega)
        have HS5:Aside0 (Sorted M K2 N a b):=⟨f3_no HF2.out (Or.inl (by omega))⟩;clear HF2;go_wp2_with fail;go_end0;exact⟨rfl,⟨K2,HA4.out,HS5.out⟩,HG4.out⟩
      ·have hb4:decide ((s:Int)<(mid:Int))=false:=Yw (by omega)
       have HF2:Aside0 (F2 M K N a mid e b):=⟨f2_no HF.out (Or.inr (by omega))⟩;have HA4:=HA3;have HG4:=HG3;obtain⟨K2,rfl⟩: ∃ K2,K2=K:=⟨K,rfl⟩;clear HF HA3 HG3;by_cases c5:mid<e
       ·have hb5:decide ((mid:Int)<(e:Int))=true:=Yv (by omega)
        by_cases c6:e<b
        ·have hb6:decide ((e:Int)<(b:Int))=true:=Yv (by omega)
         go_wp2_with fail;refine(IH.out K2 mid e b _ (by omega) HA4.out c5 c6 hb HF2.out.2.1 HF2.out.2.2.1 HF2.out.2.2.2.2.1 HF2.out.2.2.2.2.2.1).mono ?_;rintro e5 w5 ⟨rfl,⟨K3,ha5,hk5⟩,hg5⟩;have HA5:=Ya ha5;have HS5:Aside0 (Sorted M K3 N a b):=⟨f3_rec HF2.out hk5 (by omega)⟩;have HG5:Aside0 (Fr w w5 g):=⟨grow_trans HG4.out hg5⟩;clear ha5 hk5 hg5 HA4 HF2 HG4;go_wp2_with fail;go_end0;exact⟨rfl,⟨K3,HA5.out,HS5.out⟩,HG5.out⟩
        ·have hb6:decide ((e:Int)<(b:Int))=false:=Yw (by omega)
         have HS5:Aside0 (Sorted M K2 N a b):=⟨f3_no HF2.out (Or.inr (by omega))⟩;clear HF2;go_wp2_with fail;go_end0;exact⟨rfl,⟨K2,HA4.out,HS5.out⟩,HG4.out⟩
       ·have hb5:decide ((mid:Int)<(e:Int))=false:=Yw (by omega)
        have HS5:Aside0 (Sorted M K2 N a b):=⟨f3_no HF2.out (Or.inl (by omega))⟩;clear HF2;go_wp2_with fail;go_end0;exact⟨rfl,⟨K2,HA4.out,HS5.out⟩,HG4.out⟩
     ·have hb3:decide ((a:Int)<(s:Int))=false:=Yw (by omega)
      have HF2:Aside0 (F2 M K N a mid e b):=⟨f2_no HF.out (Or.inl (by omega))⟩;have HA4:=HA3;have HG4:=HG3;obtain⟨K2,rfl⟩: ∃ K2,K2=K:=⟨K,rfl⟩;clear HF HA3 HG3;by_cases c5:mid<e
      ·have hb5:decide ((mid:Int)<(e:Int))=true:=Yv (by omega)
       by_cases c6:e<b
       ·have hb6:decide ((e:Int)<(b:Int))=true:=Yv (by omega)
        go_wp2_with fail;refine(IH.out K2 mid e b _ (by omega) HA4.out c5 c6 hb HF2.out.2.1 HF2.out.2.2.1 HF2.out.2.2.2.2.1 HF2.out.2.2.2.2.2.1).mono ?_;rintro e5 w5 ⟨rfl,⟨K3,ha5,hk5⟩,hg5⟩;have HA5:=Ya ha5;have HS5:Aside0 (Sorted M K3 N a b):=⟨f3_rec HF2.out hk5 (by omega)⟩;have HG5:Aside0 (Fr w w5 g):=⟨grow_trans HG4.out hg5⟩;clear ha5 hk5 hg5 HA4 HF2 HG4;go_wp2_with fail;go_end0;exact⟨rfl,⟨K3,HA5.out,HS5.out⟩,HG5.out⟩
       ·have hb6:decide ((e:Int)<(b:Int))=false:=Yw (by omega)
        have HS5:Aside0 (Sorted M K2 N a b):=⟨f3_no HF2.out (Or.inr (by omega))⟩;clear HF2;go_wp2_with fail;go_end0;exact⟨rfl,⟨K2,HA4.out,HS5.out⟩,HG4.out⟩
      ·have hb5:decide ((mid:Int)<(e:Int))=false:=Yw (by omega)
       have HS5:Aside0 (Sorted M K2 N a b):=⟨f3_no HF2.out (Or.inl (by omega))⟩;clear HF2;go_wp2_with fail;go_end0;exact⟨rfl,⟨K2,HA4.out,HS5.out⟩,HG4.out⟩
 ·have hcb:decide ((mid:Int)<(m:Int))=false:=Yw (by omega)
  go_wp2_with fail;go_loopw [20,21] (fun vs vr wr=> ∃ s r:Nat,s0≤s∧s≤r∧r≤r0∧vs= .int .i64 s∧vr= .int .i64 r∧Aside0 (Arr wr g N M)∧Aside0 (∀ c,s0≤c→c<s→(M c).f0≤(M (p - c)).f0)∧Aside0 (∀ c,r≤c→c<r0→(M (p - c)).f0<(M c).f0)∧Aside0 (Fr w wr g)) (fun vs vr _=>(intOf vr).toNat - (intOf vs).toNat)
  case atStart=>exact⟨s0,r0,Nat.le_refl _,HM.out.sr,Nat.le_refl _,by first|rfl|rw[hs0],by rw[hr0],HA,⟨fun y h1 h2=>by omega⟩,⟨fun y h1 h2=>by omega⟩,⟨grow_refl _ _⟩⟩
  case round=>
   clear HA;obtain⟨s,r,hsr0,hsr,hrr,rfl,rfl,HA1,HL,HR,HG⟩:=hrel;by_cases hlt:s<r
   ·obtain⟨c,hcq⟩: ∃ c,(s+r) / 2=c:=⟨_,rfl⟩
    have hcz:((s:Int)+(r:Int)) / 2=(c:Int):=by omega
    have HB:Aside0 (s≤c∧c<r∧s0≤c∧c<r0∧c<N∧p - c<N∧c≤p):=by
     obtain⟨q1,q2,q3,q4,q5,q6,q7,q8,q9,q10,q11,q12⟩:=HM.out;exact⟨by omega,by omega,by omega,by omega,by omega,by omega,by omega⟩
    have bc:c<N:=HB.out.2.2.2.2.1;obtain⟨q,hq⟩: ∃ q,p - c=q:=⟨_,rfl⟩;have hqz:(p:Int) - (c:Int)=(q:Int):=by have:=HB.out;omega
    have hwp:IntKind.i64.wrap (q:Int)=(q:Int):=by have:=HB.out;rw[IntKind.wrap_i64];omega
    have b1:=HSM.out c HB.out.2.2.2.2.1;have b2:=HSM.out q (by have:=HB.out;omega);have c0:=HA1.out.q0 (x:=c) HB.out.2.2.2.2.1;have c1:=HA1.out.q1 (x:=c) HB.out.2.2.2.2.1;have d0:=HA1.out.q0 (x:=q) (by have:=HB.out;omega);have d1:=HA1.out.q1 (x:=q) (by have:=HB.out;omega);have z1:(c:Int)<(N:Int):=by have:=HB.out;omega
    have z2:(q:Int)<(N:Int):=by have:=HB.out;omega
    have HQ:=Ya hq;clear hcq hq;go_wp2_with fail;refine wp_region_quiet_below (by kernel_rfl) (by kernel_rfl) ?_;(repeat(quiet_step ((go_at_call 86;exact calls_below_of (cmp_calls (M q) (M c) b2.1 b2.2 b1.1 b1.2 _)))));refine wpQuiet_nil ?_;intro wq hw';obtain⟨⟨wz,hbq⟩,hwq⟩:=hw';subst hwq;have HA2:Aside0 (Arr wq g N M):=⟨HA1.out.below hbq⟩;have HG2:Aside0 (Fr w wq g):=⟨grow_trans HG.out (grow_below hbq)⟩;clear c0 c1 d0 d1 HA1 HG hbq hcz z1 z2 hqz;by_cases hlc:(M q).f0<(M c).f0
    ·have hcd:(!decide ((M q).f0 - (M c).f0<0))=false:=by rw[Yv (by omega)];rfl
     have HR2:Aside0 (∀ y,c≤y→y<r0→(M (p - y)).f0<(M y).f0):=⟨mid_right HM.out HB.out.2.2.1 HB.out.2.2.2.1 HL1.out HL2.out (by rw[HQ.out];exact hlc)⟩;clear HR hlc b1 b2;rw[hcd];clear hcd;go_wp2_with fail;go_roundw
     case rel=>exact⟨s,c,hsr0,HB.out.1,by have:=HB.out;omega,rfl,rfl,HA2,HL,HR2,HG2⟩
     case measure=>have:=HB.out;simp[intOf]<;>omega
    ·have hcd:(!decide ((M q).f0 - (M c).f0<0))=true:=by rw[Yw (by omega)];rfl
     have HL2':Aside0 (∀ y,s0≤y→y<c+1→(M y).f0≤(M (p - y)).f0):=⟨mid_left HM.out HB.out.2.2.1 HB.out.2.2.2.1 HL1.out HL2.out (by rw[HQ.out];omega)⟩;clear HL hlc b1 b2;rw[hcd];clear hcd;go_wp2_with fail;go_roundw
     case rel=>exact⟨c+1,r,by have:=HB.out;omega,by have:=HB.out;omega,hrr,by go_num,rfl,HA2,HL2',HR,HG2⟩
     case measure=>have:=HB.out;simp[intOf]<;>omega
   ·have er:s=r:=by omega
    subst er;obtain⟨e,he⟩: ∃ e,s+e=mid+m:=⟨mid+m - s,by have:=HM.out.r0m;omega⟩;have hez:(mid:Int)+(m:Int) - (s:Int)=(e:Int):=by omega
    have HF:Aside0 (F1 M (rotM M s m e) N a s mid e b):=⟨mid_f1 HM.out hsr0 hrr he HL.out HR.out HL1.out HL2.out HST.out HSM.out hb⟩;have b1:a≤s:=by have:=HM.out.s0a;omega
    have b2:s≤mid:=by have:=HM.out.r0mid;omega
    have b3:s≤m:=by have:=HM.out.r0m;omega
    have b4:m≤e:=by omega
    have b5:mid≤e:=by omega
    have b6:e≤b:=by have:=HM.out.s0b;omega
    have b7:a+2≤mid+1:=by have:=HM.out.hi;omega
    have b8:mid+2≤b:=by have:=HM.out.lo;omega
    clear HL HR HL1 HL2 HST HSM hlt he hsr hsr0 hrr;by_cases c1:s<m
    ·have hb1:decide ((s:Int)<(m:Int))=true:=Yv (by omega)
     by_cases c2:m<e
     ·have hb2:decide ((m:Int)<(e:Int))=true:=Yv (by omega)
      go_wp2_with fail;refine(rotate_calls g N cap M s m e _ _ HA1.out hN c1 c2 (by omega)).mono ?_;rintro e3 w3 ⟨rfl,ha3,hg3⟩;have HA3:=Ya ha3;have HG3:Aside0 (Fr w w3 g):=⟨grow_trans HG.out hg3⟩;clear ha3 hg3 HA1 HG;obtain⟨K,hK⟩: ∃ K,K=rotM M s m e:=⟨_,rfl⟩;rw[← hK] at HA3 HF;clear hK;by_cases c3:a<s
      ·have hb3:decide ((a:Int)<(s:Int))=true:=Yv (by omega)
       by_cases c4:s<mid
       ·have hb4:decide ((s:Int)<(mid:Int))=true:=Yv (by omega)
        go_wp2_with fail;refine(IH.out K a s mid _ (by omega) HA3.out c3 c4 (by omega) HF.out.2.1 HF.out.2.2.1 HF.out.2.2.2.1 HF.out.2.2.2.2.1).mono ?_;rintro e4 w4 ⟨rfl,⟨K2,ha4,hk4⟩,hg4⟩;have HA4:=Ya ha4;have HF2:Aside0 (F2 M K2 N a mid e b):=⟨f2_rec HF.out hk4 b5 b6⟩;have HG4:Aside0 (Fr w w4 g):=⟨grow_trans HG3.out hg4⟩;clear ha4 hk4 hg4 HA3 HF HG3;by_cases c5:mid<e
        ·have hb5:decide ((mid:Int)<(e:Int))=true:=Yv (by omega)
         by_cases c6:e<b
         ·have hb6:decide ((e:Int)<(b:Int))=true:=Yv (by omega)
          go_wp2_with fail;refine(IH.out K2 mid e b _ (by omega) HA4.out c5 c6 hb HF2.out.2.1 HF2.out.2.2.1 HF2.out.2.2.2.2.1 HF2.out.2.2.2.2.2.1).mono ?_;rintro e5 w5 ⟨rfl,⟨K3,ha5,hk5⟩,hg5⟩;have HA5:=Ya ha5;have HS5:Aside0 (Sorted M K3 N a b):=⟨f3_rec HF2.out hk5 (by omega)⟩;have HG5:Aside0 (Fr w w5 g):=⟨grow_trans HG4.out hg5⟩;clear ha5 hk5 hg5 HA4 HF2 HG4;go_wp2_with fail;go_end0;exact⟨rfl,⟨K3,HA5.out,HS5.out⟩,HG5.out⟩
         ·have hb6:decide ((e:Int)<(b:Int))=false:=Yw (by omega)
          have HS5:Aside0 (Sorted M K2 N a b):=⟨f3_no HF2.out (Or.inr (by omega))⟩;clear HF2;go_wp2_with fail;go_end0;exact⟨rfl,⟨K2,HA4.out,HS5.out⟩,HG4.out⟩
        ·have hb5:decide ((mid:Int)<(e:Int))=false:=Yw (by omega)
         have HS5:Aside0 (Sorted M K2 N a b):=⟨f3_no HF2.out (Or.inl (by omega))⟩;clear HF2;go_wp2_with fail;go_end0;exact⟨rfl,⟨K2,HA4.out,HS5.out⟩,HG4.out⟩
       ·have hb4:decide ((s:Int)<(mid:Int))=false:=Yw (by omega)
        have HF2:Aside0 (F2 M K N a mid e b):=⟨f2_no HF.out (Or.inr (by omega))⟩;have HA4:=HA3;have HG4:=HG3;obtain⟨K2,rfl⟩: ∃ K2,K2=K:=⟨K,rfl⟩;clear HF HA3 HG3;by_cases c5:mid<e
        ·have hb5:decide ((mid:Int)<(e:Int))=true:=Yv (by omega)
         by_cases c6:e<b
         ·have hb6:decide ((e:Int)<(b:Int))=true:=Yv (by omega)
          go_wp2_with fail;refine(IH.out K2 mid e b _ (by omega) HA4.out c5 c6 hb HF2.out.2.1 HF2.out.2.2.1 HF2.out.2.2.2.2.1 HF2.out.2.2.2.2.2.1).mono ?_;rintro e5 w5 ⟨rfl,⟨K3,ha5,hk5⟩,hg5⟩;have HA5:=Ya ha5;have HS5:Aside0 (Sorted M K3 N a b):=⟨f3_rec HF2.out hk5 (by omega)⟩;have HG5:Aside0 (Fr w w5 g):=⟨grow_trans HG4.out hg5⟩;clear ha5 hk5 hg5 HA4 HF2 HG4;go_wp2_with fail;go_end0;exact⟨rfl,⟨K3,HA5.out,HS5.out⟩,HG5.out⟩
         ·have hb6:decide ((e:Int)<(b:Int))=false:=Yw (by omega)
          have HS5:Aside0 (Sorted M K2 N a b):=⟨f3_no HF2.out (Or.inr (by omega))⟩;clear HF2;go_wp2_with fail;go_end0;exact⟨rfl,⟨K2,HA4.out,HS5.out⟩,HG4.out⟩
        ·have hb5:decide ((mid:Int)<(e:Int))=false:=Yw (by omega)
         have HS5:Aside0 (Sorted M K2 N a b):=⟨f3_no HF2.out (Or.inl (by omega))⟩;clear HF2;go_wp2_with fail;go_end0;exact⟨rfl,⟨K2,HA4.out,HS5.out⟩,HG4.out⟩
      ·have hb3:decide ((a:Int)<(s:Int))=false:=Yw (by omega)
       have HF2:Aside0 (F2 M K N a mid e b):=⟨f2_no HF.out (Or.inl (by omega))⟩;have HA4:=HA3;have HG4:=HG3;obtain⟨K2,rfl⟩: ∃ K2,K2=K:=⟨K,rfl⟩;clear HF HA3 HG3;by_cases c5:mid<e
       ·have hb5:decide ((mid:Int)<(e:Int))=true:=Yv (by omega)
        by_cases c6:e<b
        ·have hb6:decide ((e:Int)<(b:Int))=true:=Yv (by omega)
         go_wp2_with fail;refine(IH.out K2 mid e b _ (by omega) HA4.out c5 c6 hb HF2.out.2.1 HF2.out.2.2.1 HF2.out.2.2.2.2.1 HF2.out.2.2.2.2.2.1).mono ?_;rintro e5 w5 ⟨rfl,⟨K3,ha5,hk5⟩,hg5⟩;have HA5:=Ya ha5;have HS5:Aside0 (Sorted M K3 N a b):=⟨f3_rec HF2.out hk5 (by omega)⟩;have HG5:Aside0 (Fr w w5 g):=⟨grow_trans HG4.out hg5⟩;clear ha5 hk5 hg5 HA4 HF2 HG4;go_wp2_with fail;go_end0;exact⟨rfl,⟨K3,HA5.out,HS5.out⟩,HG5.out⟩
        ·have hb6:decide ((e:Int)<(b:Int))=false:=Yw (by omega)
         have HS5:Aside0 (Sorted M K2 N a b):=⟨f3_no HF2.out (Or.inr (by omega))⟩;clear HF2;go_wp2_with fail;go_end0;exact⟨rfl,⟨K2,HA4.out,HS5.out⟩,HG4.out⟩
       ·have hb5:decide ((mid:Int)<(e:Int))=false:=Yw (by omega)
        have HS5:Aside0 (Sorted M K2 N a b):=⟨f3_no HF2.out (Or.inl (by omega))⟩;clear HF2;go_wp2_with fail;go_end0;exact⟨rfl,⟨K2,HA4.out,HS5.out⟩,HG4.out⟩
     ·have hb2:decide ((m:Int)<(e:Int))=false:=Yw (by omega)
      have HA3:Aside0 (Arr wr g N (rotM M s m e)):=⟨HA1.out.congr fun x _=>rot_none M (by omega) (by omega) (Or.inr (by omega)) x⟩;have HG3:=HG;clear HA1 HG;obtain⟨K,hK⟩: ∃ K,K=rotM M s m e:=⟨_,rfl⟩;rw[← hK] at HA3 HF;clear hK;by_cases c3:a<s
      ·have hb3:decide ((a:Int)<(s:Int))=true:=Yv (by omega)
       by_cases c4:s<mid
       ·have hb4:decide ((s:Int)<(mid:Int))=true:=Yv (by omega)
        go_wp2_with fail;refine(IH.out K a s mid _ (by omega) HA3.out c3 c4 (by omega) HF.out.2.1 HF.out.2.2.1 HF.out.2.2.2.1 HF.out.2.2.2.2.1).mono ?_;rintro e4 w4 ⟨rfl,⟨K2,ha4,hk4⟩,hg4⟩;have HA4:=Ya ha4;have HF2:Aside0 (F2 M K2 N a mid e b):=⟨f2_rec HF.out hk4 b5 b6⟩;have HG4:Aside0 (Fr w w4 g):=⟨grow_trans HG3.out hg4⟩;clear ha4 hk4 hg4 HA3 HF HG3;by_cases c5:mid<e
        ·have hb5:decide ((mid:Int)<(e:Int))=true:=Yv (by omega)
         by_cases c6:e<b
         ·have hb6:decide ((e:Int)<(b:Int))=true:=Yv (by omega)
          go_wp2_with fail;refine(IH.out K2 mid e b _ (by omega) HA4.out c5 c6 hb HF2.out.2.1 HF2.out.2.2.1 HF2.out.2.2.2.2.1 HF2.out.2.2.2.2.2.1).mono ?_;rintro e5 w5 ⟨rfl,⟨K3,ha5,hk5⟩,hg5⟩;have HA5:=Ya ha5;have HS5:Aside0 (Sorted M K3 N a b):=⟨f3_rec HF2.out hk5 (by omega)⟩;have HG5:Aside0 (Fr w w5 g):=⟨grow_trans HG4.out hg5⟩;clear ha5 hk5 hg5 HA4 HF2 HG4;go_wp2_with fail;go_end0;exact⟨rfl,⟨K3,HA5.out,HS5.out⟩,HG5.out⟩
         ·have hb6:decide ((e:Int)<(b:Int))=false:=Yw (by omega)
          have HS5:Aside0 (Sorted M K2 N a b):=⟨f3_no HF2.out (Or.inr (by omega))⟩;clear HF2;go_wp2_with fail;go_end0;exact⟨rfl,⟨K2,HA4.out,HS5.out⟩,HG4.out⟩
        ·have hb5:decide ((mid:Int)<(e:Int))=false:=Yw (by omega)
         have HS5:Aside0 (Sorted M K2 N a b):=⟨f3_no HF2.out (Or.inl (by omega))⟩;clear HF2;go_wp2_with fail;go_end0;exact⟨rfl,⟨K2,HA4.out,HS5.out⟩,HG4.out⟩
       ·have hb4:decide ((s:Int)<(mid:Int))=false:=Yw (by omega)
        have HF2:Aside0 (F2 M K N a mid e b):=⟨f2_no HF.out (Or.inr (by omega))⟩;have HA4:=HA3;have HG4:=HG3;obtain⟨K2,rfl⟩: ∃ K2,K2=K:=⟨K,rfl⟩;clear HF HA3 HG3;by_cases c5:mid<e
        ·have hb5:decide ((mid:Int)<(e:Int))=true:=Yv (by omega)
         by_cases c6:e<b
         ·have hb6:decide ((e:Int)<(b:Int))=true:=Yv (by omega)
          go_wp2_with fail;refine(IH.out K2 mid e b _ (by omega) HA4.out c5 c6 hb HF2.out.2.1 HF2.out.2.2.1 HF2.out.2.2.2.2.1 HF2.out.2.2.2.2.2.1).mono ?_;rintro e5 w5 ⟨rfl,⟨K3,ha5,hk5⟩,hg5⟩;have HA5:=Ya ha5;have HS5:Aside0 (Sorted M K3 N a b):=⟨f3_rec HF2.out hk5 (by omega)⟩;have HG5:Aside0 (Fr w w5 g):=⟨grow_trans HG4.out hg5⟩;clear ha5 hk5 hg5 HA4 HF2 HG4;go_wp2_with fail;go_end0;exact⟨rfl,⟨K3,HA5.out,HS5.out⟩,HG5.out⟩
         ·have hb6:decide ((e:Int)<(b:Int))=false:=Yw (by omega)
          have HS5:Aside0 (Sorted M K2 N a b):=⟨f3_no HF2.out (Or.inr (by omega))⟩;clear HF2;go_wp2_with fail;go_end0;exact⟨rfl,⟨K2,HA4.out,HS5.out⟩,HG4.out⟩
        ·have hb5:decide ((mid:Int)<(e:Int))=false:=Yw (by omega)
         have HS5:Aside0 (Sorted M K2 N a b):=⟨f3_no HF2.out (Or.inl (by omega))⟩;clear HF2;go_wp2_with fail;go_end0;exact⟨rfl,⟨K2,HA4.out,HS5.out⟩,HG4.out⟩
      ·have hb3:decide ((a:Int)<(s:Int))=false:=Yw (by omega)
       have HF2:Aside0 (F2 M K N a mid e b):=⟨f2_no HF.out (Or.inl (by omega))⟩;have HA4:=HA3;have HG4:=HG3;obtain⟨K2,rfl⟩: ∃ K2,K2=K:=⟨K,rfl⟩;clear HF HA3 HG3;by_cases c5:mid<e
       ·have hb5:decide ((mid:Int)<(e:Int))=true:=Yv (by omega)
        by_cases c6:e<b
        ·have hb6:decide ((e:Int)<(b:Int))=true:=Yv (by omega)
         go_wp2_with fail;refine(IH.out K2 mid e b _ (by omega) HA4.out c5 c6 hb HF2.out.2.1 HF2.out.2.2.1 HF2.out.2.2.2.2.1 HF2.out.2.2.2.2.2.1).mono ?_;rintro e5 w5 ⟨rfl,⟨K3,ha5,hk5⟩,hg5⟩;have HA5:=Ya ha5;have HS5:Aside0 (Sorted M K3 N a b):=⟨f3_rec HF2.out hk5 (by omega)⟩;have HG5:Aside0 (Fr w w5 g):=⟨grow_trans HG4.out hg5⟩;clear ha5 hk5 hg5 HA4 HF2 HG4;go_wp2_with fail;go_end0;exact⟨rfl,⟨K3,HA5.out,HS5.out⟩,HG5.out⟩
        ·have hb6:decide ((e:Int)<(b:Int))=false:=Yw (by omega)
         have HS5:Aside0 (Sorted M K2 N a b):=⟨f3_no HF2.out (Or.inr (by omega))⟩;clear HF2;go_wp2_with fail;go_end0;exact⟨rfl,⟨K2,HA4.out,HS5.out⟩,HG4.out⟩
       ·have hb5:decide ((mid:Int)<(e:Int))=false:=Yw (by omega)
        have HS5:Aside0 (Sorted M K2 N a b):=⟨f3_no HF2.out (Or.inl (by omega))⟩;clear HF2;go_wp2_with fail;go_end0;exact⟨rfl,⟨K2,HA4.out,HS5.out⟩,HG4.out⟩
    ·have hb1:decide ((s:Int)<(m:Int))=false:=Yw (by omega)
     have HA3:Aside0 (Arr wr g N (rotM M s m e)):=⟨HA1.out.congr fun x _=>rot_none M (by omega) (by omega) (Or.inl (by omega)) x⟩;have HG3:=HG;clear HA1 HG;obtain⟨K,hK⟩: ∃ K,K=rotM M s m e:=⟨_,rfl⟩;rw[← hK] at HA3 HF;clear hK;by_cases c3:a<s
     ·have hb3:decide ((a:Int)<(s:Int))=true:=Yv (by omega)
      by_cases c4:s<mid
      ·have hb4:decide ((s:Int)<(mid:Int))=true:=Yv (by omega)
       go_wp2_with fail;refine(IH.out K a s mid _ (by omega) HA3.out c3 c4 (by omega) HF.out.2.1 HF.out.2.2.1 HF.out.2.2.2.1 HF.out.2.2.2.2.1).mono ?_;rintro e4 w4 ⟨rfl,⟨K2,ha4,hk4⟩,hg4⟩;have HA4:=Ya ha4;have HF2:Aside0 (F2 M K2 N a mid e b):=⟨f2_rec HF.out hk4 b5 b6⟩;have HG4:Aside0 (Fr w w4 g):=⟨grow_trans HG3.out hg4⟩;clear ha4 hk4 hg4 HA3 HF HG3;by_cases c5:mid<e
       ·have hb5:decide ((mid:Int)<(e:Int))=true:=Yv (by omega)
        by_cases c6:e<b
        ·have hb6:decide ((e:Int)<(b:Int))=true:=Yv (by omega)
         go_wp2_with fail;refine(IH.out K2 mid e b _ (by omega) HA4.out c5 c6 hb HF2.out.2.1 HF2.out.2.2.1 HF2.out.2.2.2.2.1 HF2.out.2.2.2.2.2.1).mono ?_;rintro e5 w5 ⟨rfl,⟨K3,ha5,hk5⟩,hg5⟩;have HA5:=Ya ha5;have HS5:Aside0 (Sorted M K3 N a b):=⟨f3_rec HF2.out hk5 (by omega)⟩;have HG5:Aside0 (Fr w w5 g):=⟨grow_trans HG4.out hg5⟩;clear ha5 hk5 hg5 HA4 HF2 HG4;go_wp2_with fail;go_end0;exact⟨rfl,⟨K3,HA5.out,HS5.out⟩,HG5.out⟩
        ·have hb6:decide ((e:Int)<(b:Int))=false:=Yw (by omega)
         have HS5:Aside0 (Sorted M K2 N a b):=⟨f3_no HF2.out (Or.inr (by omega))⟩;clear HF2;go_wp2_with fail;go_end0;exact⟨rfl,⟨K2,HA4.out,HS5.out⟩,HG4.out⟩
       ·have hb5:decide ((mid:Int)<(e:Int))=false:=Yw (by omega)
        have HS5:Aside0 (Sorted M K2 N a b):=⟨f3_no HF2.out (Or.inl (by omega))⟩;clear HF2;go_wp2_with fail;go_end0;exact⟨rfl,⟨K2,HA4.out,HS5.out⟩,HG4.out⟩
      ·have hb4:decide ((s:Int)<(mid:Int))=false:=Yw (by omega)
       have HF2:Aside0 (F2 M K N a mid e b):=⟨f2_no HF.out (Or.inr (by omega))⟩;have HA4:=HA3;have HG4:=HG3;obtain⟨K2,rfl⟩: ∃ K2,K2=K:=⟨K,rfl⟩;clear HF HA3 HG3;by_cases c5:mid<e
       ·have hb5:decide ((mid:Int)<(e:Int))=true:=Yv (by omega)
        by_cases c6:e<b
        ·have hb6:decide ((e:Int)<(b:Int))=true:=Yv (by omega)
         go_wp2_with fail;refine(IH.out K2 mid e b _ (by omega) HA4.out c5 c6 hb HF2.out.2.1 HF2.out.2.2.1 HF2.out.2.2.2.2.1 HF2.out.2.2.2.2.2.1).mono ?_;rintro e5 w5 ⟨rfl,⟨K3,ha5,hk5⟩,hg5⟩;have HA5:=Ya ha5;have HS5:Aside0 (Sorted M K3 N a b):=⟨f3_rec HF2.out hk5 (by omega)⟩;have HG5:Aside0 (Fr w w5 g):=⟨grow_trans HG4.out hg5⟩;clear ha5 hk5 hg5 HA4 HF2 HG4;go_wp2_with fail;go_end0;exact⟨rfl,⟨K3,HA5.out,HS5.out⟩,HG5.out⟩
        ·have hb6:decide ((e:Int)<(b:Int))=false:=Yw (by omega)
         have HS5:Aside0 (Sorted M K2 N a b):=⟨f3_no HF2.out (Or.inr (by omega))⟩;clear HF2;go_wp2_with fail;go_end0;exact⟨rfl,⟨K2,HA4.out,HS5.out⟩,HG4.out⟩
       ·have hb5:decide ((mid:Int)<(e:Int))=false:=Yw (by omega)
        have HS5:Aside0 (Sorted M K2 N a b):=⟨f3_no HF2.out (Or.inl (by omega))⟩;clear HF2;go_wp2_with fail;go_end0;exact⟨rfl,⟨K2,HA4.out,HS5.out⟩,HG4.out⟩
     ·have hb3:decide ((a:Int)<(s:Int))=false:=Yw (by omega)
      have HF2:Aside0 (F2 M K N a mid e b):=⟨f2_no HF.out (Or.inl (by omega))⟩;have HA4:=HA3;have HG4:=HG3;obtain⟨K2,rfl⟩: ∃ K2,K2=K:=⟨K,rfl⟩;clear HF HA3 HG3;by_cases c5:mid<e
      ·have hb5:decide ((mid:Int)<(e:Int))=true:=Yv (by omega)
       by_cases c6:e<b
       ·have hb6:decide ((e:Int)<(b:Int))=true:=Yv (by omega)
        go_wp2_with fail;refine(IH.out K2 mid e b _ (by omega) HA4.out c5 c6 hb HF2.out.2.1 HF2.out.2.2.1 HF2.out.2.2.2.2.1 HF2.out.2.2.2.2.2.1).mono ?_;rintro e5 w5 ⟨rfl,⟨K3,ha5,hk5⟩,hg5⟩;have HA5:=Ya ha5;have HS5:Aside0 (Sorted M K3 N a b):=⟨f3_rec HF2.out hk5 (by omega)⟩;have HG5:Aside0 (Fr w w5 g):=⟨grow_trans HG4.out hg5⟩;clear ha5 hk5 hg5 HA4 HF2 HG4;go_wp2_with fail;go_end0;exact⟨rfl,⟨K3,HA5.out,HS5.out⟩,HG5.out⟩
       ·have hb6:decide ((e:Int)<(b:Int))=false:=Yw (by omega)
        have HS5:Aside0 (Sorted M K2 N a b):=⟨f3_no HF2.out (Or.inr (by omega))⟩;clear HF2;go_wp2_with fail;go_end0;exact⟨rfl,⟨K2,HA4.out,HS5.out⟩,HG4.out⟩
      ·have hb5:decide ((mid:Int)<(e:Int))=false:=Yw (by omega)
       have HS5:Aside0 (Sorted M K2 N a b):=⟨f3_no HF2.out (Or.inl (by omega))⟩;clear HF2;go_wp2_with fail;go_end0;exact⟨rfl,⟨K2,HA4.out,HS5.out⟩,HG4.out⟩
theorem sym_ok (g N cap:Nat) (hN:N≤1000000): ∀ d,SymOk g N cap d
 |0=>fun M a m b w hd h h1 h2 hb hs hsm l1 l2=>by omega
 |d+1=>fun M a m b w hd h h1 h2 hb hs hsm l1 l2=>by
  by_cases e1:m=a+1
  ·subst e1
   have:=symLo_calls g N cap M a b w h hN h2 hb hs hsm l2;exact this
  ·by_cases e2:b=m+1
   ·subst e2
    have:=symHi_calls g N cap M a m w h hN (by omega) hb hs hsm l1;exact this
   ·exact symMid_calls g N cap d (sym_ok g N cap hN d) M a m b w hd h hN (by omega) (by omega) hb hs hsm l1 l2
end H
namespace H
open P
def Blk (K:Nat→S79) (bs lo hi:Nat):Prop:= ∀ t i j,t * bs+lo≤i→i<j→j<t * bs+bs+lo→j<hi→(K i).f0≤(K j).f0
theorem blk_shift {K:Nat→S79} {bs lo hi:Nat} (h:Blk K bs lo hi):Blk K bs (lo+bs) hi:=fun t i j h1 h2 h3 h4=>by
 have e:(t+1) * bs=t * bs+bs:=Nat.succ_mul t bs;exact h (t+1) i j (by omega) h2 (by omega) h4
theorem blk_head {K:Nat→S79} {bs lo hi c:Nat} (h:Blk K bs lo hi) (h1:c≤lo+bs) (h2:c≤hi):Le K lo c:=fun i j k1 k2 k3=>h 0 i j (by omega) k2 (by omega) (by omega)
theorem blk_snoc {K:Nat→S79} {bs a c k:Nat} (h:Blk K bs 0 a) (ha:a=k * bs) (hl:Le K a c):Blk K bs 0 c:=fun t i j h1 h2 h3 h4=>by
 by_cases e1:j<a
 ·exact h t i j h1 h2 h3 e1
 ·by_cases e2:a≤i
  ·exact hl i j e2 h2 h4
  ·exfalso
   have e:(t+1) * bs=t * bs+bs:=Nat.succ_mul t bs;have l1:t * bs<k * bs:=by omega
   have l2:k * bs<(t+1) * bs:=by omega
   have:=Nat.lt_of_mul_lt_mul_right l1;have:=Nat.lt_of_mul_lt_mul_right l2;omega
theorem blk_mix {K L:Nat→S79} {bs lo hi c d:Nat} (h:Blk K bs lo hi) (hm:Mix K L c d) (hd:hi≤c∨d≤lo):Blk L bs lo hi:=fun t i j h1 h2 h3 h4=>by
 rw[hm.1 i (by omega),hm.1 j (by omega)];exact h t i j h1 h2 h3 h4
theorem blk_nil (K:Nat→S79) (bs lo:Nat):Blk K bs lo lo:=fun t i j h1 h2 h3 h4=>by omega
def Base3 (M K:Nat→S79) (N:Nat):Prop:=Mix M K 0 N∧Stab K N∧Small K N
theorem base_more {M K L:Nat→S79} {N a b:Nat} (h:Base3 M K N) (hl:Sorted K L N a b) (hb:b≤N):Base3 M L N:=⟨mix_trans h.1 (mix_wide hl.1 (Nat.zero_le _) hb),hl.2.1,hl.2.2.1⟩
set_option maxHeartbeats 2000000 in
set_option maxRecDepth 100000 in
theorem stable_calls (g N cap:Nat) (M:Nat→S79) (w:World) (h:Arr w g N M) (hN:N≤1000000) (hs:Stab M N) (hsm:Small M N):
  Calls Try.prog 98 #[.slice (some ⟨g,0,none⟩) N cap, .int .i64 (N:Int), .func (.func 86) #[] #[]] w fun e w'=>e= .returned (.tuple #[])∧(∃ K,Arr w' g N K∧Sorted M K N 0 N)∧Fr w w' g:=by
 have HA:=Ya h;have HB:=Ya (show Base3 M M N from⟨mix_refl _ _ _,hs,hsm⟩);clear h hs hsm;go_enter Try.func98,Try.ntmps98;go_wp2_with fail;go_loopw [7,8] (fun va vb wr=> ∃ a:Nat,a≤N∧va= .int .i64 a∧vb= .int .i64 ((a:Int)+20)∧(∃ k,Aside0 (a=k * 20))∧(∃ K,Aside0 (Arr wr g N K)∧Aside0 (Base3 M K N)∧Aside0 (Blk K 20 0 a))∧Aside0 (Fr w wr g)) (fun va _ _=>N+1 - (intOf va).toNat)
 case atStart=>exact⟨0,by omega,by go_num,by go_num,⟨0,⟨rfl⟩⟩,⟨M,HA,HB,⟨blk_nil _ _ _⟩⟩,⟨grow_refl _ _⟩⟩
 case round=>
  clear HA HB;obtain⟨a,haN,rfl,rfl,⟨k,hk⟩,⟨K,HA1,HB1,HK⟩,HG⟩:=hrel;by_cases hlt:a+20≤N
  ·have hz:(a:Int)+20=((a+20:Nat):Int):=by omega
   have hcb:decide (((a+20:Nat):Int)≤(N:Int))=true:=Yv (by omega);rw[hz];clear hz;go_wp2_with fail;refine(insertion_calls g N cap K a (a+20) _ HA1.out hN (by omega) hlt HB1.out.2.1 HB1.out.2.2).mono ?_;rintro e1 w1 ⟨rfl,⟨K1,ha1,hk1⟩,hg1⟩;have HA2:=Ya ha1;have HB2:Aside0 (Base3 M K1 N):=⟨base_more HB1.out hk1 hlt⟩;have HK2:Aside0 (Blk K1 20 0 (a+20)):=⟨blk_snoc (blk_mix HK.out hk1.1 (Or.inl (Nat.le_refl _))) hk.out hk1.2.2.2⟩;have HG2:Aside0 (Fr w w1 g):=⟨grow_trans HG.out hg1⟩;have hk2:Aside0 (a+20=(k+1) * 20):=by have:=hk.out;exact⟨by omega⟩
   clear ha1 hk1 hg1 HA1 HB1 HK HG hk;go_wp2_with fail;go_roundw
   case rel=>exact⟨a+20,hlt,rfl,by go_num,⟨k+1,hk2⟩,⟨K1,HA2,HB2,HK2⟩,HG2⟩
   case measure=>simp[intOf]<;>omega
  ·have hcb:decide ((a:Int)+20≤(N:Int))=false:=Yw (by omega)
   go_wp2_with fail;refine(insertion_calls g N cap K a N _ HA1.out hN haN (Nat.le_refl _) HB1.out.2.1 HB1.out.2.2).mono ?_;rintro e1 w1 ⟨rfl,⟨K1,ha1,hk1⟩,hg1⟩;have HA2:=Ya ha1;have HB2:Aside0 (Base3 M K1 N):=⟨base_more HB1.out hk1 (Nat.le_refl _)⟩;have HK2:Aside0 (Blk K1 20 0 N):=⟨blk_snoc (blk_mix HK.out hk1.1 (Or.inl (Nat.le_refl _))) hk.out hk1.2.2.2⟩;have HG2:Aside0 (Fr w w1 g):=⟨grow_trans HG.out hg1⟩;clear ha1 hk1 hg1 HA1 HB1 HK HG hk hcb;go_wp2_with fail;go_loopw [6] (fun vs wr=> ∃ s:Nat,0<s∧s≤2000020∧vs= .int .i64 s∧(∃ K,Aside0 (Arr wr g N K)∧Aside0 (Base3 M K N)∧Aside0 (Blk K s 0 N))∧Aside0 (Fr w wr g)) (fun vs _=>N - (intOf vs).toNat)
   case atStart=>exact⟨20,by omega,by omega,by go_num,⟨K1,HA2,HB2,HK2⟩,HG2⟩
   case round=>
    clear HA2 HB2 HK2 HG2;obtain⟨s,hs0,hs1,rfl,⟨K,HA1,HB1,HK⟩,HG⟩:=hrel;by_cases hsn:s<N
    ·obtain⟨s2,hs2⟩: ∃ s2,2 * s=s2:=⟨_,rfl⟩
     have hz:(2:Int) * (s:Int)=(s2:Int):=by omega
     have hz3:(s:Int) * 2=(s2:Int):=by omega
     have bs2:s2≤2000000:=by omega
     have hcs:decide ((s:Int)<(N:Int))=true:=Yv (by omega);have HS:=Ya hs2;have HK0:Aside0 (Blk K s2 0 0∧Blk K s 0 N):=⟨blk_nil _ _ _,HK.out⟩;clear HK hs2;go_wp2_with fail;obtain⟨wo,rfl⟩: ∃ wo:World,wo=wr:=⟨_,rfl⟩;go_loopw [7,8] (fun va vb wr=> ∃ a b:Nat,a≤N∧va= .int .i64 a∧vb= .int .i64 b∧Aside0 (a+s2=b)∧(∃ k,Aside0 (a=k * s2))∧(∃ K,Aside0 (Arr wr g N K)∧Aside0 (Base3 M K N)∧Aside0 (Blk K s2 0 a∧Blk K s a N))∧Aside0 (Fr w wr g)) (fun va _ _=>N+1 - (intOf va).toNat)
     case atStart=>exact⟨0,s2,by omega,by go_num,rfl,⟨by omega⟩,⟨0,⟨by omega⟩⟩,⟨K,HA1,HB1,HK0⟩,HG⟩
     case round=>
      clear HA1 HB1 HK0 HG;obtain⟨a,b,haN,rfl,rfl,HBB,⟨k,hk⟩,⟨K,HA1,HB1,HK⟩,HG⟩:=hrel;obtain⟨m,hm⟩: ∃ m,a+s=m:=⟨_,rfl⟩;have hz2:(a:Int)+(s:Int)=(m:Int):=by omega
      have HM:=Ya hm;clear hm;by_cases hlt:b≤N
      ·have hcb:decide ((b:Int)≤(N:Int))=true:=Yv (by omega)
       go_wp2_with fail;refine(sym_ok g N cap hN N K a m b _ (by omega) HA1.out (by have:=HM.out;omega) (by have:=HM.out;have:=HBB.out;have:=HS.out;omega) hlt HB1.out.2.1 HB1.out.2.2 (blk_head HK.out.2 (by have:=HM.out;omega) (by have:=HM.out;have:=HBB.out;have:=HS.out;omega)) (blk_head (by rw[← HM.out];exact blk_shift HK.out.2) (by have:=HM.out;have:=HBB.out;have:=HS.out;omega) hlt)).mono ?_;rintro e1 w1 ⟨rfl,⟨K1,ha1,hk1⟩,hg1⟩;have HA2:=Ya ha1;have HB2:Aside0 (Base3 M K1 N):=⟨base_more HB1.out hk1 hlt⟩;have HK2:Aside0 (Blk K1 s2 0 b∧Blk K1 s b N):=⟨blk_snoc (blk_mix HK.out.1 hk1.1 (Or.inl (Nat.le_refl _))) hk.out hk1.2.2.2,blk_mix (by rw[show b=a+s+s by have:=HBB.out;have:=HS.out;omega];exact blk_shift (blk_shift HK.out.2)) hk1.1 (Or.inr (Nat.le_refl _))⟩;have HG2:Aside0 (Fr w w1 g):=⟨grow_trans HG.out hg1⟩;have hk2:Aside0 (b=(k+1) * s2):=⟨by rw[Nat.succ_mul, ← hk.out,HBB.out]⟩;have hlb:Aside0 (a<b):=⟨by have:=HBB.out;have:=HS.out;omega⟩;clear ha1 hk1 hg1 HA1 HB1 HK HG hk HBB HM;go_wp2_with fail;go_roundw
       case rel=>exact⟨b,b+s2,hlt,rfl,by rw[Int.natCast_add],⟨rfl⟩,⟨k+1,hk2⟩,⟨K1,HA2,HB2,HK2⟩,HG2⟩
       case measure=>have:=hlb.out;simp[intOf]<;>omega
      ·have hcb:decide ((b:Int)≤(N:Int))=false:=Yw (by omega)
       have hsp:Aside0 (0<s2∧s<s2):=⟨by have:=HS.out;omega⟩;by_cases hmn:m<N
       ·have hcm:decide ((m:Int)<(N:Int))=true:=Yv (by omega)
        go_wp2_with fail;refine(sym_ok g N cap hN N K a m N _ (by omega) HA1.out (by have:=HM.out;omega) hmn (Nat.le_refl _) HB1.out.2.1 HB1.out.2.2 (blk_head HK.out.2 (by have:=HM.out;omega) (by omega)) (blk_head (by rw[← HM.out];exact blk_shift HK.out.2) (by have:=HM.out;have:=HBB.out;have:=HS.out;omega) (Nat.le_refl _))).mono ?_;rintro e1 w1 ⟨rfl,⟨K1,ha1,hk1⟩,hg1⟩;have HA2:=Ya ha1;have HB2:Aside0 (Base3 M K1 N):=⟨base_more HB1.out hk1 (Nat.le_refl _)⟩;have HK2:Aside0 (Blk K1 s2 0 N):=⟨blk_snoc (blk_mix HK.out.1 hk1.1 (Or.inl (Nat.le_refl _))) hk.out hk1.2.2.2⟩;have HG2:Aside0 (Fr w w1 g):=⟨grow_trans HG.out hg1⟩;clear ha1 hk1 hg1 HA1 HB1 HK HG hk HBB HM;go_wp2_with fail;go_roundw
        case rel=>exact⟨s2,hsp.out.1,by omega,rfl,⟨K1,HA2,HB2,HK2⟩,HG2⟩
        case measure=>have:=hsp.out;simp[intOf]<;>omega
       ·have hcm:decide ((m:Int)<(N:Int))=false:=Yw (by omega)
        have HK2:Aside0 (Blk K s2 0 N):=⟨blk_snoc HK.out.1 hk.out (blk_head HK.out.2 (by have:=HM.out;omega) (Nat.le_refl _))⟩;clear HK hk HBB HM;go_wp2_with fail;go_roundw
        case rel=>exact⟨s2,hsp.out.1,by omega,rfl,⟨K,HA1,HB1,HK2⟩,HG⟩
        case measure=>have:=hsp.out;simp[intOf]<;>omega
    ·have hcs:decide ((s:Int)<(N:Int))=false:=Yw (by omega)
     go_wp2_with fail;go_end0;exact⟨rfl,⟨K,HA1.out,HB1.out.1,HB1.out.2.1,HB1.out.2.2,blk_head HK.out (by omega) (Nat.le_refl _)⟩,HG.out⟩
theorem sortStable_calls (g N cap:Nat) (M:Nat→S79) (w:World) (h:Arr w g N M) (hN:N≤1000000) (hs:Stab M N) (hsm:Small M N):
  Calls Try.prog 85 #[.slice (some ⟨g,0,none⟩) N cap, .func (.func 86) #[] #[]] w fun e w'=>e= .returned (.tuple #[])∧(∃ K,Arr w' g N K∧Sorted M K N 0 N)∧Fr w w' g:=by
 go_enter Try.func85,Try.ntmps85;go_wp2_with fail;refine(stable_calls g N cap M w h hN hs hsm).mono ?_;rintro e1 w1 ⟨rfl,h1,h2⟩;go_wp2_with fail;go_end0;exact⟨rfl,h1,h2⟩
end H
namespace H
open P
theorem arr_of_R {w:World} {base g cap:Nat} {ok:Nat→Prop} {xs:List S79} (h:Kd.R k79 79 w base ok (.slice (some ⟨g,0,none⟩) xs.length cap) xs) (hp:0<xs.length):Arr w g xs.length fun i=>xs.getD i z79:=by
 obtain⟨g2,cap2,e,_,_,cells,hb⟩:=Kd.R_form h hp;have eg:g=g2:=by
  injection e with e1 e2 e3
  injection e1 with e1
  injection e1
 subst eg;refine⟨cells,hb,fun x hx=> ?_⟩;obtain⟨ad,ea,h1,h2⟩:=at_T79 (Kd.R_reads' h).2.2 (x:Int) (by omega) (by omega);injection ea with ea
 subst ea;simp only[Int.toNat_natCast,add_plain] at h1 h2;constructor
 ·have:=h1
  simp only[World.cell?,hb] at this
  simpa [rd_T79] using this
 ·have:=h2
  simp only[World.cell?,hb] at this
  simpa [rd_T79] using this
theorem R_of_arr {w w':World} {base g N cap:Nat} {ok ok':Nat→Prop} {xs:List S79} {K:Nat→S79} (h:Kd.R k79 79 w base ok (.slice (some ⟨g,0,none⟩) xs.length cap) xs) (hN:xs.length=N) (hp:0<N) (ha:Arr w' g N K) (hf:Fr w w' g) (hok:ok' g):
  Kd.R k79 79 w' base ok' (.slice (some ⟨g,0,none⟩) N cap) ((List.range N).map K):=by
 obtain⟨h0,inner,ho,hr⟩:=h;obtain⟨cells',hb',hc⟩:=ha;obtain⟨_,hq⟩:=ho;rcases hq with ⟨e,_⟩|⟨g2,cap2,cur,e,hbase,hb,hn,hm,hs,ht⟩
 ·injection e with e1;cases e1
 ·injection e with e1 e2 e3
  injection e1 with e1
  injection e1 with e1
  subst e1;subst e3;obtain⟨c2,hb2,hs2⟩:=hf.2 _ _ _ hb;have ec:c2=cells':=by
   have:=hb2.symm.trans hb';injection this with this
   injection this
  subst ec;have hlen:(c2.toList.take (N * 2)).length=N * 2:=by
   rw[List.length_take,Array.length_toList,hs2,hs];have:N≤cap:=by omega
   have:N * 2≤cap * 2:=Nat.mul_le_mul_right _ this;show min (N * 2) (cap * 2)=N * 2;omega
  refine⟨fun k hk=> ?_,c2.toList.take (N * 2),⟨?_,Or.inr ⟨g,cap,c2,?_,hbase,hb2,?_,hm,by rw[hs2,hs],?_⟩⟩,?_,fun j p hj=> ?_⟩
  ·have:g=k:=by simpa [Value.ownBlock] using hk
   subst this;exact hok
  ·rw[hlen,List.length_map,List.length_range];rfl
  ·rw[List.length_map,List.length_range]
  ·rw[List.length_map,List.length_range];omega
  ·rw[List.length_map,List.length_range];rfl
  ·rw[hlen,List.length_map,List.length_range];rfl
  ·rw[List.getElem?_map] at hj
   obtain⟨q,hq,rfl⟩:=Option.map_eq_some_iff.1 hj;have hjN:j<N:=by
    have:=(List.getElem?_eq_some_iff.1 hq).1
    rwa [List.length_range] at this
   have eq:q=j:=by
    rw[List.getElem?_range hjN] at hq;injection hq with hq;exact hq.symm
   subst eq;have e:((c2.toList.take (N * 2)).drop (q * 2)).take 2=[.int .i64 (K q).f0, .bool (K q).f1]:=by
    obtain⟨c0,c1⟩:=hc q hjN;apply List.ext_getElem?;intro m;rw[List.getElem?_take,List.getElem?_drop,List.getElem?_take]
    match m with
    |0=>rw[Yx (by omega),Yx (by omega),Nat.add_zero,Array.getElem?_toList,c0];rfl
    |1=>rw[Yx (by omega),Yx (by omega),Array.getElem?_toList,c1];rfl
    |m+2=>rw[Yy (by omega)];rfl
   show (Kd.M k79 w' base _ (K q) (((c2.toList.take (N * 2)).drop (q * 2)).take 2));rw[e];exact k79_mkM _ _ _ _
theorem stab_of_list {xs:List S79} (h:xs.Pairwise fun x y=>x.f0=y.f0→x.f1=false∧y.f1=true):Stab (fun i=>xs.getD i z79) xs.length:=by
 intro i j hij hj e;rw[List.pairwise_iff_getElem] at h;have hi:i<xs.length:=by omega
 simp only[List.getD_eq_getElem?_getD,List.getElem?_eq_getElem hi,List.getElem?_eq_getElem hj,Option.getD_some] at e ⊢;exact h i j hi hj hij e
theorem small_steps {l:List S50} {n:Nat} {v:Int} (hv0:0≤v) (hv:v<n) (hE:ends l n) (hl:l.length≤1000000):Small (fun i=>(stepsU l n v).getD i z79) (stepsU l n v).length:=by
 intro i hi;simp only[List.getD_eq_getElem?_getD,List.getElem?_eq_getElem hi,Option.getD_some];obtain⟨k,h1,h2,_⟩:=(mem_stepsU l n v hv0 hv hE _).1 (List.getElem_mem hi);rw[h2];omega
theorem sorted_is {l:List S50} {n:Nat} {v:Int} {K:Nat→S79} (hv0:0≤v) (hv:v<n) (hE:ends l n)
  (h:Sorted (fun i=>(stepsU l n v).getD i z79) K (stepsU l n v).length 0 (stepsU l n v).length):(List.range (stepsU l n v).length).map K=stL l v l.length:=by
 obtain⟨⟨_,m1,m2⟩,hst,_,hle⟩:=h;refine sorted_uniq _ _ ?_ (sorted_stL l v l.length) fun s=> ?_
 ·rw[List.pairwise_map]
  refine List.Pairwise.imp_of_mem (R:=(· < ·)) (fun {a b} ha hb hab=> ?_) List.pairwise_lt_range;rw[List.mem_range] at ha hb;have:=hle a b (Nat.zero_le _) hab hb;by_cases e:(K a).f0=(K b).f0
  ·exact Or.inr ⟨e,hst a b hab hb e⟩
  ·exact Or.inl (by omega)
 ·rw[mem_stL, ← mem_stepsU l n v hv0 hv hE,List.mem_map]
  constructor
  ·rintro⟨i,hi,rfl⟩
   rw[List.mem_range] at hi;obtain⟨y,_,hy,e⟩:=m1 i (Nat.zero_le _) hi;rw[e];simp only[List.getD_eq_getElem?_getD,List.getElem?_eq_getElem hy,Option.getD_some];exact List.getElem_mem hy
  ·intro hs
   obtain⟨y,hy,e⟩:=List.mem_iff_getElem.1 hs;obtain⟨x,_,hx,e2⟩:=m2 y (Nat.zero_le _) hy;refine⟨x,List.mem_range.2 hx,?_⟩;rw[e2];simp only[List.getD_eq_getElem?_getD,List.getElem?_eq_getElem hy,Option.getD_some];exact e
def rowsAt (l:List S50) (n k:Nat):List (List S79):=(List.range n).map fun v=>if v<k then stL l v l.length else []
theorem rowsAt_len (l:List S50) (n k:Nat):(rowsAt l n k).length=n:=by
 unfold rowsAt;rw[List.length_map,List.length_range]
theorem rowsAt_get (l:List S50) (n k v:Nat) (hv:v<n):(rowsAt l n k)[v]? =some (if v<k then stL l v l.length else []):=by
 unfold rowsAt;rw[List.getElem?_map,List.getElem?_range hv];rfl
theorem rowsAt_zero (l:List S50) (n:Nat):rowsAt l n 0=List.replicate n []:=by
 apply List.ext_getElem?;intro v;by_cases hv:v<n
 ·rw[rowsAt_get l n 0 v hv,List.getElem?_replicate,Yx hv,Yy (by omega)]
 ·rw[List.getElem?_eq_none (by rw[rowsAt_len];omega),List.getElem?_eq_none (by rw[List.length_replicate];omega)]
theorem rowsAt_set (l:List S50) (n k:Nat) (hk:k<n):(rowsAt l n k).set k (stL l k l.length)=rowsAt l n (k+1):=by
 apply List.ext_getElem?;intro v;by_cases hv:v<n
 ·rw[rowsAt_get l n (k+1) v hv]
  by_cases e:k=v
  ·subst e
   rw[List.getElem?_set_self (by rw[rowsAt_len];exact hk),Yx (by omega)]
  ·rw[List.getElem?_set_ne e,rowsAt_get l n k v hv]
   by_cases c:v<k
   ·rw[Yx c,Yx (by omega)]
   ·rw[Yy c,Yy (by omega)]
 ·rw[List.getElem?_eq_none (by rw[List.length_set,rowsAt_len];omega),List.getElem?_eq_none (by rw[rowsAt_len];omega)]
theorem rowsAt_self (l:List S50) (n k:Nat) (hk:k<n):(rowsAt l n k).set k []=rowsAt l n k:=by
 apply List.ext_getElem?;intro v;by_cases e:k=v
 ·subst e
  rw[List.getElem?_set_self (by rw[rowsAt_len];exact hk),rowsAt_get l n k k hk,Yy (by omega)]
 ·rw[List.getElem?_set_ne e]
theorem rd_set (X:List (List S79)) (k:Nat) (r:List S79) (hk:k<X.length):rd_L4 (X.set k r) (k:Int)=r:=by
 unfold rd_L4;rw[List.getD_eq_getElem?_getD,Int.toNat_natCast,List.getElem?_set_self hk];rfl
end H
namespace H
open P
structure Kp (gd gi gb:Nat) (w w':World):Prop where
 os:w'.os=w.os
 tape:w'.tape=w.tape
 output:w'.output=w.output
 size:w.heap.size≤w'.heap.size
 block: ∀ k,k<w.heap.size→k≠gd→k≠gi→k≠gb→w'.heap[k]? =w.heap[k]?
theorem Kp.refl (gd gi gb:Nat) (w:World):Kp gd gi gb w w:=⟨rfl,rfl,rfl,Nat.le_refl _,fun _ _ _ _ _=>rfl⟩
theorem Kp.below {gd gi gb:Nat} {w w1 w2:World} (h:Kp gd gi gb w w1) (hb:Below w1.heap.size w1 w2):Kp gd gi gb w w2:=
 ⟨hb.os.trans h.os,hb.tape.trans h.tape,hb.output.trans h.output,Nat.le_trans h.size hb.size,fun k hk h1 h2 h3=>(hb.block k (Nat.lt_of_lt_of_le hk h.size)).trans (h.block k hk h1 h2 h3)⟩
theorem Kp.set {gd gi gb:Nat} {w w1:World} (h:Kp gd gi gb w w1) {g:Nat} (hg:g=gd∨g=gi∨g=gb) (j:Nat) (u:Value):Kp gd gi gb w (w1.setCell ⟨g,j,none⟩ u):=
 ⟨h.os,h.tape,h.output,by simpa [World.setCell] using h.size,fun k hk h1 h2 h3=>(Below.heap_setCell w1 ⟨g,j,none⟩ u k (by rcases hg with rfl|rfl|rfl<;>assumption)).trans (h.block k hk h1 h2 h3)⟩
theorem Kp.toBelow {gd gi gb B:Nat} {w0 w w':World} (h:Kp gd gi gb w w') (hb:Below B w0 w) (hB:B≤w.heap.size) (h1:B≤gd) (h2:B≤gi) (h3:B≤gb):Below B w0 w':=
 hb.trans ⟨h.os,h.tape,h.output,h.size,fun k hk=>h.block k (by omega) (by omega) (by omega) (by omega)⟩
def Bd (D:List Int) (c:Int):Prop:= ∀ v:Nat, -(1048576 * c)≤D.getD v 0∧D.getD v 0≤1048576 * c
theorem Bd.mono {D:List Int} {c c':Int} (h:Bd D c) (hc:c≤c'):Bd D c':=fun v=>by have:=h v;omega
theorem Bd.set {D:List Int} {c:Int} (h:Bd D c) (hc:0≤c) (u v:Nat) (t:Int) (h1: -1048576≤t) (h2:t≤1048576):Bd (D.set u (D.getD v 0+t)) (c+1):=by
 intro z;have hz:=h z;have hv:=h v;by_cases e:u=z
 ·subst e
  by_cases hl:u<D.length
  ·rw[getD_set_eq _ _ _ _ hl];omega
  ·rw[List.getD_eq_getElem?_getD,List.getElem?_eq_none (by rw[List.length_set];omega)]
   show _≤(0:Int)∧(0:Int)≤_;omega
 ·rw[getD_set_ne _ _ _ _ _ e];omega
structure Right (l:List S50) (F:List Int) (n:Nat):Prop where
 pos:0<n
 fifty:n≤50
 arcs:l.length≤200
 len:F.length=l.length
 ends:ends l n
 nums: ∀ i:Nat,i<l.length→0≤(rd_T50 l i).f3∧(rd_T50 l i).f3≤1048576∧0≤F.getD i 0∧F.getD i 0≤(rd_T50 l i).f2∧(rd_T50 l i).f2≤1048576
theorem stL_len (l:List S50) (v:Int) (k:Nat):(stL l v k).length≤2 * k:=by
 induction k with
 |zero=>exact Nat.le_refl _
 |succ k ih=>
  unfold stL;rw[List.length_append,List.length_append];split<;>split<;>simp<;>omega
def StepOf (l:List S50) (s:S79):Prop:= ∃ i:Nat,i<l.length∧s.f0=i
theorem stL_of {l:List S50} {v:Int} {s:S79} (h:s∈stL l v l.length):StepOf l s:=by
 obtain⟨i,h1,h2,_⟩:=(mem_stL l v l.length s).1 h;exact⟨i,h1,h2⟩
theorem stL_from {l:List S50} {v:Int} {s:S79} (h:s∈stL l v l.length):stFrom l s=v:=by
 obtain⟨i,h1,h2,h3⟩:=(mem_stL l v l.length s).1 h;unfold stFrom;rw[h2];rcases h3 with ⟨h3,h4⟩|⟨h3,h4⟩
 ·rw[h3];exact h4
 ·rw[h3];exact h4
theorem stTo_in {l:List S50} {F:List Int} {n:Nat} (hr:Right l F n) {s:S79} (hs:StepOf l s):0≤stTo l s∧stTo l s<n:=by
 obtain⟨i,h1,h2⟩:=hs;have:=hr.ends i h1;unfold stTo;rw[h2];split
 ·exact this.1
 ·exact this.2
theorem stTime_in {l:List S50} {F:List Int} {n:Nat} (hr:Right l F n) {s:S79} (hs:StepOf l s): -1048576≤stTime l s∧stTime l s≤1048576:=by
 obtain⟨i,h1,h2⟩:=hs;have:=hr.nums i h1;unfold stTime;rw[h2];split<;>omega
theorem to_f {l:List S50} {F:List Int} {n:Nat} (hr:Right l F n) {s:S79} (hs:StepOf l s) (a:Int) (b:Bool):static_Flowing_To.f a b l F s.f0 s.f1=some (stTo l s):=by
 obtain⟨i,h1,h2⟩:=hs;unfold static_Flowing_To.f static_Flowing_From.f stTo eFrom eTo;rw[h2];cases s.f1<;>simp[h1]
theorem time_f {l:List S50} {F:List Int} {n:Nat} (hr:Right l F n) {s:S79} (hs:StepOf l s) (a:Int) (b:Bool):static_Flowing_Time.f a b l F s.f0 s.f1=some (stTime l s):=by
 obtain⟨i,h1,h2⟩:=hs;have h3:=hr.nums i h1;unfold static_Flowing_Time.f stTime;rw[h2];cases s.f1
 ·simp[h1]
 ·have:wrap64 (-(rd_T50 l i).f3)= -(rd_T50 l i).f3:=by unfold wrap64;omega
  simp[h1,this]
theorem room_f {l:List S50} {F:List Int} {n:Nat} (hr:Right l F n) {s:S79} (hs:StepOf l s) (a:Int) (b:Bool):static_Flowing_Room.f a b l F s.f0 s.f1=some (stRoom l F s):=by
 obtain⟨i,h1,h2⟩:=hs;have h3:=hr.nums i h1;have h4:=hr.len;unfold static_Flowing_Room.f stRoom;rw[h2];have e:rd F (i:Int)=F.getD i 0:=by unfold rd;rw[Int.toNat_natCast]
 cases s.f1
 ·have:wrap64 ((rd_T50 l i).f2 - F.getD i 0)=(rd_T50 l i).f2 - F.getD i 0:=by unfold wrap64;omega
  rw[Yy (by simp),Yx (by omega),Yx (by omega),Yx (by omega),Yy (by simp),e,this,Int.toNat_natCast]
 ·rw[Yx rfl,Yx (by omega),Yx (by omega),Yx rfl,e,Int.toNat_natCast]
end H
namespace Q
theorem Ev.pos {α:Type} {c:Prop} [Decidable c] {f g:Nat→Option α} {r:α} (h:c) (e:Ev f r):Ev (fun k=>if c then f k else g k) r:=
 Ev.congr (fun _=>Yx h) e
theorem Ev.neg {α:Type} {c:Prop} [Decidable c] {f g:Nat→Option α} {r:α} (h: ¬ c) (e:Ev g r):Ev (fun k=>if c then f k else g k) r:=
 Ev.congr (fun _=>Yy h) e
theorem Ev.ite {α:Type} {c:Prop} [Decidable c] {f g:Nat→Option α} {r:α} (e:c→Ev f r) (e': ¬ c→Ev g r):Ev (fun k=>if c then f k else g k) r:=by
 by_cases h:c
 ·exact Ev.pos h (e h)
 ·exact Ev.neg h (e' h)
theorem Ev.succ {α:Type} {g:Nat→Option α} {r:α} (e:Ev (fun k=>g (k+1)) r):Ev g r:=Ev.step (fun _=>rfl) e
theorem Ev.let_ {α β:Type} {a:α} {f:Nat→α→Option β} {r:β} (e:Ev (fun k=>f k a) r):Ev (fun k=>(some a).bind (f k)) r:=e
theorem Ev.call {α β:Type} {g:Option α} {a:α} {f:Nat→α→Option β} {r:β} (h:g=some a) (e:Ev (fun k=>f k a) r):Ev (fun k=>g.bind (f k)) r:=by
 subst h;exact e
theorem Ev.done {α:Type} {a r:α} (h:a=r):Ev (fun _=>some a) r:=h▸Ev.now a
theorem Ev.eq {α:Type} {g:Nat→Option α} {a r:α} (h:Ev g a) (e:a=r):Ev g r:=e▸h
theorem wrap_id {x:Int} (h0: -9223372036854775808≤x) (h1:x≤9223372036854775807):wrap64 x=x:=by
 unfold wrap64;omega
theorem wrap_succ {i n:Nat} (h:i<n) (hn:n≤9223372036854775807):wrap64 ((i:Int)+1)=((i+1:Nat):Int):=by
 unfold wrap64;omega
theorem drop_getD {α:Type} (l:List α) (i:Nat) (d:α) (h:i<l.length):l.drop i=l.getD i d::l.drop (i+1):=by
 rw[List.drop_eq_getElem_cons h,List.getD_eq_getElem?_getD,List.getElem?_eq_getElem h];rfl
theorem rd_nat (xs:List Int) (i:Nat):rd xs (i:Int)=xs.getD i 0:=by
 unfold rd;rw[Int.toNat_natCast]
theorem getD_mem {α:Type} {l:List α} {i:Nat} {d:α} (h:i<l.length):l.getD i d∈l:=by
 rw[List.getD_eq_getElem?_getD,List.getElem?_eq_getElem h];exact List.getElem_mem h
theorem getD_set {α:Type} (l:List α) (i j:Nat) (a d:α) (h:i<l.length):(l.set i a).getD j d=if i=j then a else l.getD j d:=by
 rw[List.getD_eq_getElem?_getD,List.getD_eq_getElem?_getD,List.getElem?_set];by_cases e:i=j
 ·subst e;simp[h]
 ·simp[e]
theorem rd_set (l:List Int) (i j a:Int) (h0:0≤i) (h1:i<l.length) (h2:0≤j):rd (l.set i.toNat a) j=if i=j then a else rd l j:=by
 unfold rd;rw[getD_set _ _ _ _ _ (by omega)];by_cases e:i=j
 ·rw[Yx e,Yx (by omega)]
 ·rw[Yy e,Yy (by omega)]
theorem ext_rd {a b:List Int} (hl:a.length=b.length) (h: ∀ i:Nat,i<a.length→rd a i=rd b i):a=b:=by
 apply List.ext_getElem hl;intro i h1 h2;have:=h i h1;rw[rd_nat,rd_nat,List.getD_eq_getElem?_getD,List.getD_eq_getElem?_getD,List.getElem?_eq_getElem h1,List.getElem?_eq_getElem h2] at this;exact this
end Q
namespace H
open P Q
def stepsR (l:List S50) (F:List Int):Nat→List S79
 |0=>[]
 |k+1=>stepsR l F k ++ (if F.getD k 0<(rd_T50 l k).f2 then [⟨k,false⟩] else []) ++ (if 0<F.getD k 0 then [⟨k,true⟩] else [])
theorem stepsR_len (l:List S50) (F:List Int) (k:Nat):(stepsR l F k).length≤2 * k:=by
 induction k with
 |zero=>exact Nat.le_refl _
 |succ k ih=>
  unfold stepsR;rw[List.length_append,List.length_append];split<;>split<;>simp<;>omega
theorem mem_stepsR (l:List S50) (F:List Int) (k:Nat) (s:S79):s∈stepsR l F k↔(∃ i:Nat,i<k∧s.f0=i)∧0<stRoom l F s:=by
 induction k with
 |zero=>
  constructor
  ·intro h;cases h
  ·rintro⟨⟨i,h,_⟩,_⟩;omega
 |succ k ih=>
  unfold stepsR;rw[List.mem_append,List.mem_append,ih];constructor
  ·rintro((⟨⟨i,h1,h2⟩,h3⟩|h)|h)
   ·exact⟨⟨i,by omega,h2⟩,h3⟩
   ·split at h
    ·rename_i he
     rw[List.mem_singleton] at h;subst h;refine⟨⟨k,by omega,rfl⟩,?_⟩;unfold stRoom;simp only[Bool.false_eq_true,if_false,Int.toNat_natCast];omega
    ·cases h
   ·split at h
    ·rename_i he
     rw[List.mem_singleton] at h;subst h;refine⟨⟨k,by omega,rfl⟩,?_⟩;unfold stRoom;simp only[if_true,Int.toNat_natCast];exact he
    ·cases h
  ·rintro⟨⟨i,h1,h2⟩,h3⟩
   by_cases hi:i<k
   ·exact Or.inl (Or.inl ⟨⟨i,hi,h2⟩,h3⟩)
   ·have e:i=k:=by omega
    subst e;obtain⟨x,y⟩:=s;simp only at h2;subst h2;unfold stRoom at h3;cases y
    ·simp only[Bool.false_eq_true,if_false,Int.toNat_natCast] at h3
     exact Or.inl (Or.inr (by rw[Yx (by omega)];exact List.mem_singleton.2 rfl))
    ·simp only[if_true,Int.toNat_natCast] at h3
     exact Or.inr (by rw[Yx h3];exact List.mem_singleton.2 rfl)
theorem steps_l0 {l:List S50} {F:List Int} {n:Nat} (hr:Right l F n) (a:Int) (b:Bool) (d:Nat): ∀ i:Nat,i+d=F.length→
  Ev (fun k=>ebbtideref07_Steps.l0 k F (stepsR l F i) (i:Int) a b l) (stepsR l F F.length):=by
 have hl:=hr.len;have hl2:=hr.arcs
 induction d with
 |zero=>
  intro i hi;refine Ev.succ ?_;simp only[ebbtideref07_Steps.l0];repeat(first|exact Ev.now _|with_reducible refine Ev.pos (by first|assumption|omega) ?_|with_reducible refine Ev.neg (by first|assumption|omega) ?_|with_reducible refine Ev.let_ ?_)
  exact Ev.done (by rw[show i=F.length by omega])
 |succ d ih=>
  intro i hi;have hn:=ih (i+1) (by omega);have hsl:=stepsR_len l F i;have e1:rd F (i:Int)=F.getD i 0:=rd_nat F i;have e2:stepsR l F (i+1)=stepsR l F i ++ (if F.getD i 0<(rd_T50 l i).f2 then [⟨i,false⟩] else []) ++ (if 0<F.getD i 0 then [⟨i,true⟩] else []):=rfl;rw[e2] at hn;refine Ev.succ ?_;simp only[ebbtideref07_Steps.l0];repeat(first|exact Ev.now _|with_reducible refine Ev.pos (by first|assumption|omega) ?_|with_reducible refine Ev.neg (by first|assumption|omega) ?_|with_reducible refine Ev.let_ ?_)
  rw[wrap_succ (n:=F.length) (by omega) (by omega),e1];refine Ev.ite (fun g=> ?_) (fun g=> ?_)
  ·rw[Yx (show F.getD i 0<(rd_T50 l i).f2 from g)] at hn
   repeat(first|exact Ev.now _|with_reducible refine Ev.pos (by first|assumption|omega) ?_|with_reducible refine Ev.neg (by first|assumption|omega) ?_|with_reducible refine Ev.let_ ?_)
   refine Ev.ite (fun g2=> ?_) (fun g2=> ?_)
   ·rw[Yx (show 0<F.getD i 0 from g2)] at hn
    refine Ev.pos (by rw[List.length_append];simp;omega) ?_;exact hn
   ·rw[Yy (show ¬ 0<F.getD i 0 from g2),List.append_nil] at hn
    exact hn
  ·rw[Yy (show ¬ F.getD i 0<(rd_T50 l i).f2 from g),List.append_nil] at hn
   refine Ev.ite (fun g2=> ?_) (fun g2=> ?_)
   ·rw[Yx (show 0<F.getD i 0 from g2)] at hn
    refine Ev.pos (by omega) ?_;exact hn
   ·rw[Yy (show ¬ 0<F.getD i 0 from g2),List.append_nil] at hn
    exact hn
theorem steps_ev {l:List S50} {F:List Int} {n:Nat} (hr:Right l F n) (a:Int) (b:Bool):Ev (fun k=>ebbtideref07_Steps.f k a b l F) (stepsR l F F.length):=by
 unfold ebbtideref07_Steps.f;exact steps_l0 hr a b F.length 0 (by omega)
structure Rf where
 D:List Int
 I:List Bool
 OK:Bool
def visF (l:List S50) (x:Rf) (s:S79):Rf:=
 if x.I.getD (stFrom l s).toNat false && (!x.I.getD (stTo l s).toNat false || decide (x.D.getD (stFrom l s).toNat 0+stTime l s<x.D.getD (stTo l s).toNat 0)) then
  ⟨x.D.set (stTo l s).toNat (x.D.getD (stFrom l s).toNat 0+stTime l s),x.I.set (stTo l s).toNat true,false⟩ else x
def roundF (l:List S50) (S:List S79) (x:Rf):Rf:=S.foldl (visF l) { x with OK:=true }
def itF (l:List S50) (S:List S79):Nat→Rf→Rf
 |0,x=>x
 |k+1,x=>itF l S k (roundF l S x)
structure Rf.Ok (n:Nat) (x:Rf):Prop where
 hD:x.D.length=n
 hI:x.I.length=n
theorem visF_ok {l:List S50} {n:Nat} {x:Rf} (h:x.Ok n) (s:S79):(visF l x s).Ok n:=by
 unfold visF;split
 ·exact⟨by simp[h.hD],by simp[h.hI]⟩
 ·exact h
theorem stFrom_in {l:List S50} {F:List Int} {n:Nat} (hr:Right l F n) {s:S79} (hs:StepOf l s):0≤stFrom l s∧stFrom l s<n:=by
 obtain⟨i,h1,h2⟩:=hs;have:=hr.ends i h1;unfold stFrom;rw[h2];split
 ·exact this.2
 ·exact this.1
theorem visF_bd {l:List S50} {F:List Int} {n:Nat} (hr:Right l F n) {x:Rf} {c:Int} (hc:0≤c) (h:Bd x.D c) {s:S79} (hs:StepOf l s):Bd (visF l x s).D (c+1):=by
 unfold visF;split
 ·have:=stTime_in hr hs
  exact h.set hc _ _ _ this.1 this.2
 ·exact h.mono (by omega)
theorem rfrom_f {l:List S50} {F:List Int} {n:Nat} (hr:Right l F n) {s:S79} (hs:StepOf l s) (a:Int) (b:Bool):ebbtideref07_From.f a b l s.f0 s.f1=some (stFrom l s):=by
 obtain⟨i,h1,h2⟩:=hs;unfold ebbtideref07_From.f stFrom eFrom eTo;rw[h2];cases s.f1<;>simp[h1]
theorem rto_f {l:List S50} {F:List Int} {n:Nat} (hr:Right l F n) {s:S79} (hs:StepOf l s) (a:Int) (b:Bool):ebbtideref07_To.f a b l s.f0 s.f1=some (stTo l s):=by
 obtain⟨i,h1,h2⟩:=hs;unfold ebbtideref07_To.f stTo eFrom eTo;rw[h2];cases s.f1<;>simp[h1]
theorem rtime_f {l:List S50} {F:List Int} {n:Nat} (hr:Right l F n) {s:S79} (hs:StepOf l s) (a:Int) (b:Bool):ebbtideref11_Time.f a b l s.f0 s.f1=some (stTime l s):=by
 obtain⟨i,h1,h2⟩:=hs;have h3:=hr.nums i h1;unfold ebbtideref11_Time.f stTime;rw[h2];cases s.f1
 ·simp[h1]
 ·have:wrap64 (-(rd_T50 l i).f3)= -(rd_T50 l i).f3:=by unfold wrap64;omega
  simp[h1,this]
theorem from_l1 {l:List S50} {F:List Int} {n:Nat} (hr:Right l F n) (b:Bool) (S:List S79) (hS: ∀ s,s∈S→StepOf l s) (hSl:S.length≤400) (i:Nat) (hi:i≤n) (r:List Int × List Bool × Bool) (d:Nat): ∀ (j:Nat) (x:Rf) (c:Int),j+d=S.length→x.Ok n→0≤c→c+(d:Int)≤1000000→Bd x.D c→
  Ev (fun k=>ebbtideref11_From.l0 k S ((i+1:Nat):Int) n b l ((S.drop j).foldl (visF l) x).D ((S.drop j).foldl (visF l) x).I ((S.drop j).foldl (visF l) x).OK) r→
  Ev (fun k=>ebbtideref11_From.l1 k S (i:Int) (j:Int) n b l x.D x.I x.OK) r:=by
 have hn:=hr.fifty
 induction d with
 |zero=>
  intro j x c hj hx hc0 hc hb h;rw[List.drop_of_length_le (by omega)] at h;refine Ev.succ ?_;simp only[ebbtideref11_From.l1];repeat(first|exact Ev.now _|with_reducible refine Ev.pos (by first|assumption|omega) ?_|with_reducible refine Ev.neg (by first|assumption|omega) ?_|with_reducible refine Ev.let_ ?_)
  rw[wrap_succ (n:=51) (by omega) (by omega)];exact h
 |succ d ih=>
  intro j x c hj hx hc0 hc hb h;have hjl:j<S.length:=by omega
  have hm:rd_T79 S (j:Int)∈S:=by
   unfold rd_T79;rw[Int.toNat_natCast,List.getD_eq_getElem?_getD,List.getElem?_eq_getElem hjl];exact List.getElem_mem hjl
  have hs:=hS _ hm;have hd:S.drop j=rd_T79 S (j:Int)::S.drop (j+1):=by
   rw[drop_getD S j z79 hjl];unfold rd_T79;rw[Int.toNat_natCast]
  rw[hd,List.foldl_cons] at h;obtain⟨s,es⟩: ∃ s_,s_=rd_T79 S (j:Int):=⟨_,rfl⟩;rw[← es] at h hs;have hf:=stFrom_in hr hs;have ht:=stTo_in hr hs;have htm:=stTime_in hr hs;have hDl:=hx.hD;have hIl:=hx.hI;have hv:=ih (j+1) (visF l x s) (c+1) (by omega) (visF_ok hx s) (by omega) (by omega);have hbf:=hb (stFrom l s).toNat
  refine Ev.succ ?_;simp only[ebbtideref11_From.l1];rw[← es];refine Ev.pos (by omega) ?_;refine Ev.pos (by omega) ?_;refine Ev.call (rfrom_f hr hs _ _) ?_;refine Ev.call (rto_f hr hs _ _) ?_;refine Ev.pos (by omega) ?_;refine Ev.pos (by omega) ?_;refine Ev.call (rtime_f hr hs _ _) ?_;refine Ev.pos (by omega) ?_;rw[wrap_succ (n:=400) (by omega) (by omega)];have eD: ∀ v:Int,rd x.D v=x.D.getD v.toNat 0:=fun v=>rfl
  have eI: ∀ v:Int,rdOf false x.I v=x.I.getD v.toNat false:=fun v=>rfl
  rw[eD,eD,eI,eI,wrap_id (x:=x.D.getD (stFrom l s).toNat 0+stTime l s) (by omega) (by omega)];unfold visF at hv h;refine Ev.ite (fun g1=> ?_) (fun g1=> ?_)
  ·rw[g1,Bool.true_and] at hv h
   refine Ev.pos (by omega) ?_;refine Ev.pos (by omega) ?_;refine Ev.ite (fun g2=> ?_) (fun g2=> ?_)
   ·rw[g2,Bool.not_true,Bool.false_or] at hv h
    refine Ev.pos (by omega) ?_;refine Ev.ite (fun g3=> ?_) (fun g3=> ?_)
    ·rw[Yx (Yv g3)] at hv h
     exact hv (hb.set hc0 _ _ _ htm.1 htm.2) h
    ·rw[Yy (by simpa using g3)] at hv h
     exact hv (hb.mono (by omega)) h
   ·have g2':x.I.getD (stTo l s).toNat false=false:=by simpa using g2
    rw[g2',Bool.not_false,Bool.true_or,Yx rfl] at hv h;refine Ev.pos (by omega) ?_;exact hv (hb.set hc0 _ _ _ htm.1 htm.2) h
  ·have g1':x.I.getD (stFrom l s).toNat false=false:=by simpa using g1
   rw[g1',Bool.false_and,Yy (by simp)] at hv h;exact hv (hb.mono (by omega)) h
theorem foldF_bd {l:List S50} {F:List Int} {n:Nat} (hr:Right l F n) (S:List S79): ∀ (hS: ∀ s,s∈S→StepOf l s) (x:Rf) (c:Int),x.Ok n→0≤c→Bd x.D c→(S.foldl (visF l) x).Ok n∧Bd (S.foldl (visF l) x).D (c+S.length):=by
 induction S with
 |nil=>intro _ x c hx hc hb;exact⟨hx,by simpa using hb⟩
 |cons s S ih=>
  intro hS x c hx hc hb;have h1:=visF_bd hr hc hb (hS s List.mem_cons_self);obtain⟨h2,h3⟩:=ih (fun s hs=>hS s (List.mem_cons_of_mem _ hs)) (visF l x s) (c+1) (visF_ok hx s) (by omega) h1;refine⟨h2,h3.mono ?_⟩;rw[List.length_cons];omega
theorem from_l0 {l:List S50} {F:List Int} {n:Nat} (hr:Right l F n) (b:Bool) (S:List S79) (hS: ∀ s,s∈S→StepOf l s) (hSl:S.length≤400) (d:Nat): ∀ (i:Nat) (x:Rf),i+d=n+1→x.Ok n→Bd x.D (400 * (i:Int))→
  Ev (fun k=>ebbtideref11_From.l0 k S (i:Int) n b l x.D x.I x.OK) ((itF l S d x).D,(itF l S d x).I,(itF l S d x).OK):=by
 have hn:=hr.fifty
 induction d with
 |zero=>
  intro i x hi hx hb;refine Ev.succ ?_;simp only[ebbtideref11_From.l0];refine Ev.neg (by omega) ?_;exact Ev.now _
 |succ d ih=>
  intro i x hi hx hb;refine Ev.succ ?_;simp only[ebbtideref11_From.l0];refine Ev.pos (by omega) ?_;obtain⟨h1,h2⟩:=foldF_bd hr S hS { x with OK:=true } (400 * (i:Int)) ⟨hx.hD,hx.hI⟩ (by omega) hb;have h3:=ih (i+1) (roundF l S x) (by omega) h1 (h2.mono (by omega));refine from_l1 hr b S hS hSl i (by omega) _ S.length 0 { x with OK:=true } (400 * (i:Int)) (by omega) ⟨hx.hD,hx.hI⟩ (by omega) (by omega) hb ?_;rw[List.drop_zero];exact h3
def startF (n s:Nat):Rf:=⟨List.replicate n 0,(List.replicate n false).set s true,false⟩
def refF (l:List S50) (F:List Int) (n s:Nat):Rf:=itF l (stepsR l F F.length) (n+1) (startF n s)
theorem stepsR_of {l:List S50} {F:List Int} {n:Nat} (hr:Right l F n): ∀ s,s∈stepsR l F F.length→StepOf l s:=by
 intro s hs;have h:=((mem_stepsR l F F.length s).1 hs).1;rw[hr.len] at h;exact h
theorem from_ev {l:List S50} {F:List Int} {n:Nat} (hr:Right l F n) (b:Bool) (s:Nat) (hs:s<n):Ev (fun k=>ebbtideref11_From.f k n b l F s) ((refF l F n s).D,(refF l F n s).I,(refF l F n s).OK):=by
 have hn:=hr.fifty;have hl:=hr.len;have hl2:=hr.arcs;unfold ebbtideref11_From.f;refine Ev.pos (by omega) ?_;refine Ev.pos (by omega) ?_;refine Ev.pos (by omega) ?_;refine Ev.let_ ?_;refine Ev.pos (by omega) ?_;refine Ev.pos (by rw[List.length_replicate];omega) ?_;refine Ev.bind (steps_ev hr _ _) ?_;rw[Int.toNat_natCast,Int.toNat_natCast];have hsl:=stepsR_len l F F.length;refine from_l0 hr b _ (stepsR_of hr) (by omega) (n+1) 0 (startF n s) (by omega) ⟨by simp[startF],by simp[startF]⟩ ?_;intro v;have:(List.replicate n (0:Int)).getD v 0=0:=by
  rw[List.getD_eq_getElem?_getD,List.getElem?_replicate];split<;>rfl
 show _≤(List.replicate n (0:Int)).getD v 0∧(List.replicate n (0:Int)).getD v 0≤_;rw[this];omega
end H
namespace P
attribute [local go_sem] max2_int min2_int max_two min_two max_three min_three max_four min_four
def ebbtideref07_Leaves.l0:Nat→List Int→Int→Int→Int→Int→Bool→List (S50)→Option (Int)
 |0,_,_,_,_,_,_,_=>none
 |k+1,x1,x2,x7,x8,x203000,x203001,x203002=>if x8<(x1.length:Int) then(if 0≤x8 then(if x8<(x203002.length:Int) then(if ((rd_T50 x203002 x8).f0)=x2 then(if ((rd_T50 x203002 x8).f1)=x2 then(ebbtideref07_Leaves.l0 k x1 x2 (wrap64 ((wrap64 (x7+(rd x1 x8))) - (rd x1 x8))) (wrap64 (x8+1)) x203000 x203001 x203002) else(ebbtideref07_Leaves.l0 k x1 x2 (wrap64 (x7+(rd x1 x8))) (wrap64 (x8+1)) x203000 x203001 x203002)) else(if ((rd_T50 x203002 x8).f1)=x2 then(ebbtideref07_Leaves.l0 k x1 x2 (wrap64 (x7 - (rd x1 x8))) (wrap64 (x8+1)) x203000 x203001 x203002) else(ebbtideref07_Leaves.l0 k x1 x2 x7 (wrap64 (x8+1)) x203000 x203001 x203002))) else(none)) else(none)) else(some x7)
def ebbtideref07_Leaves.f (k:Nat) (Zb:Int) (Zc:Bool) (Za:List (S50)) (l1:List Int) (a2:Int):Option (Int):=ebbtideref07_Leaves.l0 k l1 a2 0 0 Zb Zc Za
set_option maxHeartbeats 8000000 in
set_option maxRecDepth 100000 in
theorem ebbtideref07_Leaves.calls (k:Nat) (Zb:Int) (Zc:Bool) (Ze:Option Addr) (Zd:Nat) (Za:List (S50)) (A1:Option Addr) (c1:Nat) (l1:List Int) (a2:Int) (r:Int) (w:World) (Zp:Kd.C k50 w Ze Za.length Za) (Zq:Za.length≤Zd) (hr1:Kd.C (Kd.int .i64) w A1 l1.length l1) (hc1:l1.length≤c1) (h:ebbtideref07_Leaves.f k Zb Zc Za l1 a2=some r):
  Calls Try.prog 76 #[.agg #[.int .i64 Zb, .bool Zc, .slice Ze Za.length Zd], .slice A1 l1.length c1, .int .i64 a2] w fun e w'=>e= .returned (.int .i64 r)∧Below w.heap.size w w':=by
 have hu24:=Try.underlying24;have Zh:=Ya Zp;have Zo:=Ya Zq;clear Zp Zq;have HR1:=Ya hr1;have HC1:=Ya hc1;clear hr1 hc1;have HB:=Ya (Yo w.heap.size w);have H:=h;unfold ebbtideref07_Leaves.f at H;clear h;have H':=Ya H;clear H;go_enter Try.func76,Try.ntmps76;go_wp2_with (first|(refine bx 3 24 #[.int .i64 Zb, .bool Zc, .slice Ze Za.length Zd] ?_;intro gb202 hg w4 Zf hb;have Uo:=Ya (Zf);have GW202:=Ya ((sz hg));have GE202:=Ya ((sz hg));replace HB:=Ya (Yk bl hb);clear hb Zf hg));go_loopg [7,8] k (fun kq v7 v8 w'=> ∃ (Xu:Int) (Zn:Int),v7= .int .i64 Xu∧v8= .int .i64 Zn∧Aside0 (ebbtideref07_Leaves.l0 kq l1 a2 Xu Zn Zb Zc Za=some r)∧Aside0 (kq≤k)∧Aside0 (w'.heap[gb202]? =some (.cells #[.int .i64 Zb, .bool Zc,(.slice Ze Za.length Zd)] 24 (0,0)))∧Aside0 (Below w.heap.size w w'))
 case atStart=>exact⟨(0),(0),(by first|rfl|(simp;done)|(simp[*];done)),(by first|rfl|(simp;done)|(simp[*];done)),H',⟨Nat.le_refl _⟩,⟨Uo.out⟩,⟨HB.out⟩⟩
 case round=>
  clear H';try clear c1
  obtain⟨Xu,Zn,rfl,rfl,HA,HK1,Uo,HB⟩:=hrel;cases gk with
  |zero=>exact absurd HA.out (by simp[ebbtideref07_Leaves.l0])
  |succ k1=>
   have H:=HA.out;clear HA;simp only[ebbtideref07_Leaves.l0] at H;by_cases c5:Zn<(l1.length:Int)
   rotate_left
   ·rw[Yy c5] at H
    have c5b0:decide (Zn<(l1.length:Int))=false:=Yw c5;clear c5;obtain rfl:=Option.some.inj H;go_wp2;go_ret;exact⟨by first|rfl|(simp[errW_none,errW_some]<;>rfl)|(simp[*,errW_none,errW_some]<;>rfl),HB.out⟩
   rw[Yx c5] at H;have c5b0:decide (Zn<(l1.length:Int))=true:=Yv c5;clear c5;by_cases c6:0≤Zn
   rotate_left
   ·rw[Yy c6] at H
    exact absurd H (by simp)
   rw[Yx c6] at H;have c6b0:decide (0≤Zn)=true:=Yv c6;clear c6;by_cases c7:Zn<(Za.length:Int)
   rotate_left
   ·rw[Yy c7] at H
    exact absurd H (by simp)
   rw[Yx c7] at H;have c7b0:decide (Zn<(Za.length:Int))=true:=Yv c7;clear c7;by_cases c8:((rd_T50 Za Zn).f0)=a2
   rotate_left
   ·rw[Yy c8] at H
    have c8b0:(((rd_T50 Za Zn).f0) == a2)=false:=beq_eq_false_iff_ne.mpr c8;have c8b1:(((rd_T50 Za Zn).f0) != a2)=true:=bne_iff_ne.mpr c8;by_cases c12:((rd_T50 Za Zn).f1)=a2
    rotate_left
    ·rw[Yy c12] at H
     have c12b0:(((rd_T50 Za Zn).f1) == a2)=false:=beq_eq_false_iff_ne.mpr c12;have c12b1:(((rd_T50 Za Zn).f1) != a2)=true:=bne_iff_ne.mpr c12;have H':=Ya H;clear H;have Vy:wr.cell? ⟨gb202,0,none⟩=some (.int .i64 Zb):=bc Uo 0;have Ud:wr.cell? ⟨gb202,1,none⟩=some (.bool Zc):=bc Uo 1;have Jo:wr.cell? ⟨gb202,2,none⟩=some (.slice Ze Za.length Zd):=bc Uo 2;have Ue:=Yf Uo.out 0;have Uf:=Yf Uo.out 1;have Jp:=Yf Uo.out 2;have p203:0≤(Zn:Int):=od;have q203:Zn<(Za.length:Int):=od;obtain⟨ad203,e203,hx203_0,hx203_1,hx203_2,hx203_3⟩:=at_T50 Zh.out Zn p203 q203;cases e203;replace hx203_0:=hc HB hx203_0;replace hx203_1:=hc HB hx203_1;replace hx203_2:=hc HB hx203_2;replace hx203_3:=hc HB hx203_3;replace p203:=eq_true p203;replace q203:=eq_true q203;have p207:0≤(Zn:Int):=od;have q207:Zn<(Za.length:Int):=od;obtain⟨ad207,e207,hx207_0,hx207_1,hx207_2,hx207_3⟩:=at_T50 Zh.out Zn p207 q207;obtain rfl:ad203=ad207:=(by injection e207);replace hx207_0:=hc HB hx207_0;replace hx207_1:=hc HB hx207_1;replace hx207_2:=hc HB hx207_2;replace hx207_3:=hc HB hx207_3;replace p207:=eq_true p207;replace q207:=eq_true q207;go_wp2;go_roundg k1
     case measure=>have:=HK1.out;omega
     case rel=>exact⟨(Xu),(wrap64 (Zn+1)),(by first|rfl|(simp;done)|(simp[*];done)),(by first|rfl|(simp;done)|(simp[*];done)),H',⟨by have:=HK1.out;omega⟩,⟨Uo.out⟩,⟨HB.out⟩⟩
    rw[Yx c12] at H;have c12b0:(((rd_T50 Za Zn).f1) == a2)=true:=beq_iff_eq.mpr c12;have c12b1:(((rd_T50 Za Zn).f1) != a2)=false:=bne_eq_false_iff_eq.mpr c12;clear c12;have H':=Ya H;clear H;have hcz13_0:wr.cell? ⟨gb202,0,none⟩=some (.int .i64 Zb):=bc Uo 0;have hcz13_1:wr.cell? ⟨gb202,1,none⟩=some (.bool Zc):=bc Uo 1;have hcz13_2:wr.cell? ⟨gb202,2,none⟩=some (.slice Ze Za.length Zd):=bc Uo 2;have hfz13_0:=Yf Uo.out 0;have hfz13_1:=Yf Uo.out 1;have hfz13_2:=Yf Uo.out 2;have p203:0≤(Zn:Int):=od;have q203:Zn<(Za.length:Int):=od;obtain⟨ad203,e203,hx203_0,hx203_1,hx203_2,hx203_3⟩:=at_T50 Zh.out Zn p203 q203;cases e203;replace hx203_0:=hc HB hx203_0;replace hx203_1:=hc HB hx203_1;replace hx203_2:=hc HB hx203_2;replace hx203_3:=hc HB hx203_3;replace p203:=eq_true p203;replace q203:=eq_true q203;have p207:0≤(Zn:Int):=od;have q207:Zn<(Za.length:Int):=od;obtain⟨ad207,e207,hx207_0,hx207_1,hx207_2,hx207_3⟩:=at_T50 Zh.out Zn p207 q207;obtain rfl:ad203=ad207:=(by injection e207);replace hx207_0:=hc HB hx207_0;replace hx207_1:=hc HB hx207_1;replace hx207_2:=hc HB hx207_2;replace hx207_3:=hc HB hx207_3;replace p207:=eq_true p207;replace q207:=eq_true q207;have p208:0≤(Zn:Int):=od;have q208:Zn<(l1.length:Int):=od;obtain⟨ad208,e208,hx208_0⟩:=Kd.at_int HR1.out Zn p208 q208;cases e208;replace hx208_0:=hc HB hx208_0;replace p208:=eq_true p208;replace q208:=eq_true q208;go_wp2;go_roundg k1
    case measure=>have:=HK1.out;omega
    case rel=>exact⟨(wrap64 (Xu - (rd l1 Zn))),(wrap64 (Zn+1)),(by first|rfl|(simp;done)|(simp[*];done)),(by first|rfl|(simp;done)|(simp[*];done)),H',⟨by have:=HK1.out;omega⟩,⟨Uo.out⟩,⟨HB.out⟩⟩
   rw[Yx c8] at H;have c8b0:(((rd_T50 Za Zn).f0) == a2)=true:=beq_iff_eq.mpr c8;have c8b1:(((rd_T50 Za Zn).f0) != a2)=false:=bne_eq_false_iff_eq.mpr c8;clear c8;by_cases c9:((rd_T50 Za Zn).f1)=a2
   rotate_left
   ·rw[Yy c9] at H
    have c9b0:(((rd_T50 Za Zn).f1) == a2)=false:=beq_eq_false_iff_ne.mpr c9;have c9b1:(((rd_T50 Za Zn).f1) != a2)=true:=bne_iff_ne.mpr c9;have H':=Ya H;clear H;have hcz11_0:wr.cell? ⟨gb202,0,none⟩=some (.int .i64 Zb):=bc Uo 0;have hcz11_1:wr.cell? ⟨gb202,1,none⟩=some (.bool Zc):=bc Uo 1;have hcz11_2:wr.cell? ⟨gb202,2,none⟩=some (.slice Ze Za.length Zd):=bc Uo 2;have hfz11_0:=Yf Uo.out 0;have hfz11_1:=Yf Uo.out 1;have hfz11_2:=Yf Uo.out 2;have p203:0≤(Zn:Int):=od;have q203:Zn<(Za.length:Int):=od;obtain⟨ad203,e203,hx203_0,hx203_1,hx203_2,hx203_3⟩:=at_T50 Zh.out Zn p203 q203;cases e203;replace hx203_0:=hc HB hx203_0;replace hx203_1:=hc HB hx203_1;replace hx203_2:=hc HB hx203_2;replace hx203_3:=hc HB hx203_3;replace p203:=eq_true p203;replace q203:=eq_true q203;have p204:0≤(Zn:Int):=od;have q204:Zn<(l1.length:Int):=od;obtain⟨ad204,e204,hx204_0⟩:=Kd.at_int HR1.out Zn p204 q204;cases e204;replace hx204_0:=hc HB hx204_0;replace p204:=eq_true p204;replace q204:=eq_true q204;have p205:0≤(Zn:Int):=od;have q205:Zn<(Za.length:Int):=od;obtain⟨ad205,e205,hx205_0,hx205_1,hx205_2,hx205_3⟩:=at_T50 Zh.out Zn p205 q205;obtain rfl:ad203=ad205:=(by injection e205);replace hx205_0:=hc HB hx205_0;replace hx205_1:=hc HB hx205_1;replace hx205_2:=hc HB hx205_2;replace hx205_3:=hc HB hx205_3;replace p205:=eq_true p205;replace q205:=eq_true q205;go_wp2;go_roundg k1
    case measure=>have:=HK1.out;omega
    case rel=>exact⟨(wrap64 (Xu+(rd l1 Zn))),(wrap64 (Zn+1)),(by first|rfl|(simp;done)|(simp[*];done)),(by first|rfl|(simp;done)|(simp[*];done)),H',⟨by have:=HK1.out;omega⟩,⟨Uo.out⟩,⟨HB.out⟩⟩
   rw[Yx c9] at H;have c9b0:(((rd_T50 Za Zn).f1) == a2)=true:=beq_iff_eq.mpr c9;have c9b1:(((rd_T50 Za Zn).f1) != a2)=false:=bne_eq_false_iff_eq.mpr c9;clear c9;have H':=Ya H;clear H;have Wu:wr.cell? ⟨gb202,0,none⟩=some (.int .i64 Zb):=bc Uo 0;have Wv:wr.cell? ⟨gb202,1,none⟩=some (.bool Zc):=bc Uo 1;have Vl:wr.cell? ⟨gb202,2,none⟩=some (.slice Ze Za.length Zd):=bc Uo 2;have Ww:=Yf Uo.out 0;have Wx:=Yf Uo.out 1;have Vm:=Yf Uo.out 2;have p203:0≤(Zn:Int):=od;have q203:Zn<(Za.length:Int):=od;obtain⟨ad203,e203,hx203_0,hx203_1,hx203_2,hx203_3⟩:=at_T50 Zh.out Zn p203 q203;cases e203;replace hx203_0:=hc HB hx203_0;replace hx203_1:=hc HB hx203_1;replace hx203_2:=hc HB hx203_2;replace hx203_3:=hc HB hx203_3;replace p203:=eq_true p203;replace q203:=eq_true q203;have p204:0≤(Zn:Int):=od;have q204:Zn<(l1.length:Int):=od;obtain⟨ad204,e204,hx204_0⟩:=Kd.at_int HR1.out Zn p204 q204;cases e204;replace hx204_0:=hc HB hx204_0;replace p204:=eq_true p204;replace q204:=eq_true q204;have p205:0≤(Zn:Int):=od;have q205:Zn<(Za.length:Int):=od;obtain⟨ad205,e205,hx205_0,hx205_1,hx205_2,hx205_3⟩:=at_T50 Zh.out Zn p205 q205;obtain rfl:ad203=ad205:=(by injection e205);replace hx205_0:=hc HB hx205_0;replace hx205_1:=hc HB hx205_1;replace hx205_2:=hc HB hx205_2;replace hx205_3:=hc HB hx205_3;replace p205:=eq_true p205;replace q205:=eq_true q205;have p206:0≤(Zn:Int):=od;have q206:Zn<(l1.length:Int):=od;obtain⟨ad206,e206,hx206_0⟩:=Kd.at_int HR1.out Zn p206 q206;obtain rfl:ad204=ad206:=(by injection e206);replace hx206_0:=hc HB hx206_0;replace p206:=eq_true p206;replace q206:=eq_true q206;go_wp2;go_roundg k1
   case measure=>have:=HK1.out;omega
   case rel=>exact⟨(wrap64 ((wrap64 (Xu+(rd l1 Zn))) - (rd l1 Zn))),(wrap64 (Zn+1)),(by first|rfl|(simp;done)|(simp[*];done)),(by first|rfl|(simp;done)|(simp[*];done)),H',⟨by have:=HK1.out;omega⟩,⟨Uo.out⟩,⟨HB.out⟩⟩
end P
namespace P
attribute [local go_sem] max2_int min2_int max_two min_two max_three min_three max_four min_four
def ebbtideref05_nodes.f (a0:Int):Option (Int):=if a0<1 then(some 51) else(if a0>50 then(some 2) else(some 0))
set_option maxHeartbeats 8000000 in
set_option maxRecDepth 100000 in
theorem ebbtideref05_nodes.calls (a0:Int) (r:Int) (w:World) (h:ebbtideref05_nodes.f a0=some r):
  Calls Try.prog 62 #[.int .i64 a0] w fun e w'=>e= .returned (.int .i64 r)∧Drawn0 w w':=by
 have H:=h;unfold ebbtideref05_nodes.f at H;clear h;by_cases c2:a0<1
 ·rw[Yx c2] at H
  have c2b0:decide (a0<1)=true:=Yv c2;clear c2;obtain rfl:=Option.some.inj H;go_enter Try.func62,Try.ntmps62;go_wp2;go_ret;exact⟨by first|rfl|(simp;done)|(simp[*];done),by repeat(first|exact Drawn0.refl _|apply Drawn0.step)⟩
 rw[Yy c2] at H;have c2b0:decide (a0<1)=false:=Yw c2;clear c2;by_cases c3:a0>50
 rotate_left
 ·rw[Yy c3] at H
  have c3b0:decide (50<a0)=false:=Yw c3;clear c3;obtain rfl:=Option.some.inj H;go_enter Try.func62,Try.ntmps62;go_wp2;go_ret;exact⟨by first|rfl|(simp;done)|(simp[*];done),by repeat(first|exact Drawn0.refl _|apply Drawn0.step)⟩
 rw[Yx c3] at H;have c3b0:decide (50<a0)=true:=Yv c3;clear c3;obtain rfl:=Option.some.inj H;go_enter Try.func62,Try.ntmps62;go_wp2;go_ret;exact⟨by first|rfl|(simp;done)|(simp[*];done),by repeat(first|exact Drawn0.refl _|apply Drawn0.step)⟩
end P
namespace P
attribute [local go_sem] max2_int min2_int max_two min_two max_three min_three max_four min_four
def ebbtideref05_Arc.j0:Nat→Bool→Int→Int→Int→Int→Option (Int)
 |0,_,_,_,_,_=>none
 |k+1,x34,x186000,x186001,x186002,x186003=>if x34=true then(some 51) else(if x186002>1048576 then(some 2) else(if x186003>1048576 then(some 2) else(some 0)))
def ebbtideref05_Arc.f (k:Nat) (a0:Int) (Zj:Int) (Xh:Int) (Vk:Int) (Vn:Int):Option (Int):=if Zj<0 then(ebbtideref05_Arc.j0 k true Zj Xh Vk Vn) else(if Zj≥a0 then(ebbtideref05_Arc.j0 k true Zj Xh Vk Vn) else(if Xh<0 then(ebbtideref05_Arc.j0 k true Zj Xh Vk Vn) else(if Xh≥a0 then(ebbtideref05_Arc.j0 k true Zj Xh Vk Vn) else(if Vk<0 then(ebbtideref05_Arc.j0 k true Zj Xh Vk Vn) else(ebbtideref05_Arc.j0 k (decide (Vn<0)) Zj Xh Vk Vn)))))
set_option maxHeartbeats 8000000 in
set_option maxRecDepth 100000 in
theorem ebbtideref05_Arc.calls (k:Nat) (a0:Int) (Zj:Int) (Xh:Int) (Vk:Int) (Vn:Int) (r:Int) (w:World) (h:ebbtideref05_Arc.f k a0 Zj Xh Vk Vn=some r):
  Calls Try.prog 63 #[.int .i64 a0, .agg #[.int .i64 Zj, .int .i64 Xh, .int .i64 Vk, .int .i64 Vn]] w fun e w'=>e= .returned (.int .i64 r)∧Below w.heap.size w w':=by
 have hu50:=Try.underlying50;have HB:=Ya (Yo w.heap.size w);have H:=h;unfold ebbtideref05_Arc.f at H;clear h;have HC3:=Ya H;clear H;go_enter Try.func63,Try.ntmps63;go_upto_region 1 with (first|((with_reducible refine gate_dst (N:=3) rfl ?_);refine Yz ?hg (N:=3) ?hd (cs:= #[.int .i64 Zj, .int .i64 Xh, .int .i64 Vk, .int .i64 Vn]) (t:=50) ?hr ?_;(case hd=>rfl);(case hg=>rfl);(case hr=>first|(go_simp;done)|(go_simp;rfl));intro Vh hg w4 Zf hb;have n0_:=Ya (Yk (by repeat(first|(with_reducible first|exact HB.out|apply Ye|apply Yd|apply Yg)|exact HB.out)) hb);have n1_:=Ya (Zf);have n2_:=Ya ((by rw[hg];exact(Yi (by repeat(first|(with_reducible first|exact HB.out|apply Ye|apply Yd|apply Yg)|exact HB.out))):w.heap.size≤Vh));have n3_:=Ya ((by rw[hg];exact(Yi (by repeat(first|(with_reducible first|exact HB.out|apply Ye|apply Yd|apply Yg)|exact HB.out))):w.heap.size≤Vh));clear HB;have HB:=n0_;have Xb:=n1_;have GW185:=n2_;have GE185:=n3_;clear n0_ n1_ n2_ n3_;clear hb Zf hg))
 (try simp only[Act.put,List.setIfInBounds_toArray,List.set_cons_zero,List.set_cons_succ])
 go_cut [34] (fun v34 wc=> ∃ (kq:Nat) (x34_2:Bool),v34= .bool x34_2∧Aside0 (ebbtideref05_Arc.j0 kq x34_2 Zj Xh Vk Vn=some r)∧Aside0 (kq≤k)∧Aside0 (wc.heap[Vh]? =some (.cells #[.int .i64 Zj, .int .i64 Xh, .int .i64 Vk, .int .i64 Vn] 50 (0,0)))∧Aside0 (Below w.heap.size w wc))
 case first=>
  have H:=HC3.out;clear HC3;by_cases c5:Zj<0
  ·rw[Yx c5] at H
   have c5b0:decide (Zj<0)=true:=Yv c5;clear c5
   (first|rw[c5b0]|(simp only[i64_w,i32_w];rw[c5b0])|skip)
   have H':=Ya H;clear H;have hcz6_0:w4.cell? ⟨Vh,0,none⟩=some (.int .i64 Zj):=bc Xb 0;have hcz6_1:w4.cell? ⟨Vh,1,none⟩=some (.int .i64 Xh):=bc Xb 1;have hcz6_2:w4.cell? ⟨Vh,2,none⟩=some (.int .i64 Vk):=bc Xb 2;have hcz6_3:w4.cell? ⟨Vh,3,none⟩=some (.int .i64 Vn):=bc Xb 3;have hfz6_0:=Yf Xb.out 0;have hfz6_1:=Yf Xb.out 1;have hfz6_2:=Yf Xb.out 2;have hfz6_3:=Yf Xb.out 3;go_wp2;go_meet
   case rel=>exact⟨_,(true),(by first|rfl|(simp;done)|(simp[*];done)),H',⟨by first|omega|exact Nat.le_refl _⟩,⟨Xb.out⟩,⟨HB.out⟩⟩
  rw[Yy c5] at H;have c5b0:decide (Zj<0)=false:=Yw c5;clear c5
  (first|rw[c5b0]|(simp only[i64_w,i32_w];rw[c5b0])|skip)
  by_cases c7:Zj≥a0
  ·rw[Yx c7] at H
   have c7b0:decide (a0≤Zj)=true:=Yv c7;clear c7;have H':=Ya H;clear H;have Jq:w4.cell? ⟨Vh,0,none⟩=some (.int .i64 Zj):=bc Xb 0;have Jr:w4.cell? ⟨Vh,1,none⟩=some (.int .i64 Xh):=bc Xb 1;have hcz8_2:w4.cell? ⟨Vh,2,none⟩=some (.int .i64 Vk):=bc Xb 2;have hcz8_3:w4.cell? ⟨Vh,3,none⟩=some (.int .i64 Vn):=bc Xb 3;have Js:=Yf Xb.out 0;have Jt:=Yf Xb.out 1;have hfz8_2:=Yf Xb.out 2;have hfz8_3:=Yf Xb.out 3;go_wp2;go_meet
   case rel=>exact⟨_,(true),(by first|rfl|(simp;done)|(simp[*];done)),H',⟨by first|omega|exact Nat.le_refl _⟩,⟨Xb.out⟩,⟨HB.out⟩⟩
  rw[Yy c7] at H;have c7b0:decide (a0≤Zj)=false:=Yw c7;clear c7;by_cases c9:Xh<0
  ·rw[Yx c9] at H
   have c9b0:decide (Xh<0)=true:=Yv c9;clear c9;have H':=Ya H;clear H;have Wu:w4.cell? ⟨Vh,0,none⟩=some (.int .i64 Zj):=bc Xb 0;have Wv:w4.cell? ⟨Vh,1,none⟩=some (.int .i64 Xh):=bc Xb 1;have Vl:w4.cell? ⟨Vh,2,none⟩=some (.int .i64 Vk):=bc Xb 2;have hcz10_3:w4.cell? ⟨Vh,3,none⟩=some (.int .i64 Vn):=bc Xb 3;have Ww:=Yf Xb.out 0;have Wx:=Yf Xb.out 1;have Vm:=Yf Xb.out 2;have hfz10_3:=Yf Xb.out 3;go_wp2;go_meet
   case rel=>exact⟨_,(true),(by first|rfl|(simp;done)|(simp[*];done)),H',⟨by first|omega|exact Nat.le_refl _⟩,⟨Xb.out⟩,⟨HB.out⟩⟩
  rw[Yy c9] at H;have c9b0:decide (Xh<0)=false:=Yw c9;clear c9;by_cases c11:Xh≥a0
  ·rw[Yx c11] at H
   have c11b0:decide (a0≤Xh)=true:=Yv c11;clear c11;have H':=Ya H;clear H;have hcz12_0:w4.cell? ⟨Vh,0,none⟩=some (.int .i64 Zj):=bc Xb 0;have hcz12_1:w4.cell? ⟨Vh,1,none⟩=some (.int .i64 Xh):=bc Xb 1;have hcz12_2:w4.cell? ⟨Vh,2,none⟩=some (.int .i64 Vk):=bc Xb 2;have hcz12_3:w4.cell? ⟨Vh,3,none⟩=some (.int .i64 Vn):=bc Xb 3;have hfz12_0:=Yf Xb.out 0;have hfz12_1:=Yf Xb.out 1;have hfz12_2:=Yf Xb.out 2;have hfz12_3:=Yf Xb.out 3;go_wp2;go_meet
   case rel=>exact⟨_,(true),(by first|rfl|(simp;done)|(simp[*];done)),H',⟨by first|omega|exact Nat.le_refl _⟩,⟨Xb.out⟩,⟨HB.out⟩⟩
  rw[Yy c11] at H;have c11b0:decide (a0≤Xh)=false:=Yw c11;clear c11;by_cases c13:Vk<0
  rotate_left
  ·rw[Yy c13] at H
   have c13b0:decide (Vk<0)=false:=Yw c13;clear c13;have H':=Ya H;clear H;have hcz15_0:w4.cell? ⟨Vh,0,none⟩=some (.int .i64 Zj):=bc Xb 0;have hcz15_1:w4.cell? ⟨Vh,1,none⟩=some (.int .i64 Xh):=bc Xb 1;have hcz15_2:w4.cell? ⟨Vh,2,none⟩=some (.int .i64 Vk):=bc Xb 2;have hcz15_3:w4.cell? ⟨Vh,3,none⟩=some (.int .i64 Vn):=bc Xb 3;have hfz15_0:=Yf Xb.out 0;have hfz15_1:=Yf Xb.out 1;have hfz15_2:=Yf Xb.out 2;have hfz15_3:=Yf Xb.out 3;go_wp2;go_meet
   case rel=>exact⟨_,(decide (Vn<0)),(by first|rfl|(simp;done)|(simp[*];done)),H',⟨by first|omega|exact Nat.le_refl _⟩,⟨Xb.out⟩,⟨HB.out⟩⟩
  rw[Yx c13] at H;have c13b0:decide (Vk<0)=true:=Yv c13;clear c13;have H':=Ya H;clear H;have Vy:w4.cell? ⟨Vh,0,none⟩=some (.int .i64 Zj):=bc Xb 0;have Ud:w4.cell? ⟨Vh,1,none⟩=some (.int .i64 Xh):=bc Xb 1;have Jo:w4.cell? ⟨Vh,2,none⟩=some (.int .i64 Vk):=bc Xb 2;have hcz14_3:w4.cell? ⟨Vh,3,none⟩=some (.int .i64 Vn):=bc Xb 3;have Ue:=Yf Xb.out 0;have Uf:=Yf Xb.out 1;have Jp:=Yf Xb.out 2;have hfz14_3:=Yf Xb.out 3;go_wp2;go_meet
  case rel=>exact⟨_,(true),(by first|rfl|(simp;done)|(simp[*];done)),H',⟨by first|omega|exact Nat.le_refl _⟩,⟨Xb.out⟩,⟨HB.out⟩⟩
 case rest=>
  clear HC3;try clear c5
  try clear c5b0
  try clear c7
  try clear c7b0
  try clear c9
  try clear c9b0
  try clear c11
  try clear c11b0
  try clear c13
  try clear c13b0
  try clear Wu
  try clear Wv
  try clear Vl
  try clear hcz10_3
  try clear hcz12_0
  try clear hcz12_1
  try clear hcz12_2
  try clear hcz12_3
  try clear Vy
  try clear Ud
  try clear Jo
  try clear hcz14_3
  try clear hcz15_0
  try clear hcz15_1
  try clear hcz15_2
  try clear hcz15_3
  try clear hcz6_0
  try clear hcz6_1
  try clear hcz6_2
  try clear hcz6_3
  try clear Jq
  try clear Jr
  try clear hcz8_2
  try clear hcz8_3
  try clear Ww
  try clear Wx
  try clear Vm
  try clear hfz10_3
  try clear hfz12_0
  try clear hfz12_1
  try clear hfz12_2
  try clear hfz12_3
  try clear Ue
  try clear Uf
  try clear Jp
  try clear hfz14_3
  try clear hfz15_0
  try clear hfz15_1
  try clear hfz15_2
  try clear hfz15_3
  try clear hfz6_0
  try clear hfz6_1
  try clear hfz6_2
  try clear hfz6_3
  try clear Js
  try clear Jt
  try clear hfz8_2
  try clear hfz8_3
  obtain⟨kq,x34_2,rfl,HA,HJ2,Xb,HB⟩:=hcut;cases kq with
  |zero=>exact absurd HA.out (by simp[ebbtideref05_Arc.j0])
  |succ kj2=>
   have H:=HA.out;clear HA;simp only[ebbtideref05_Arc.j0] at H;by_cases c16:x34_2=true
   ·subst c16
    first|rw[Yx rfl] at H|rw[Yx trivial] at H
    obtain rfl:=Option.some.inj H;go_wp2;go_ret;exact⟨by first|rfl|(simp[errW_none,errW_some]<;>rfl)|(simp[*,errW_none,errW_some]<;>rfl),HB.out⟩
   replace c16:=Bool.eq_false_iff.mpr c16;subst c16;rw[Yy (show ¬ (false=true) by decide)] at H;by_cases c17:Vk>1048576
   ·rw[Yx c17] at H
    have c17b0:decide (1048576<Vk)=true:=Yv c17;clear c17;obtain rfl:=Option.some.inj H;have hcz18_0:wc.cell? ⟨Vh,0,none⟩=some (.int .i64 Zj):=bc Xb 0;have hcz18_1:wc.cell? ⟨Vh,1,none⟩=some (.int .i64 Xh):=bc Xb 1;have hcz18_2:wc.cell? ⟨Vh,2,none⟩=some (.int .i64 Vk):=bc Xb 2;have hcz18_3:wc.cell? ⟨Vh,3,none⟩=some (.int .i64 Vn):=bc Xb 3;have hfz18_0:=Yf Xb.out 0;have hfz18_1:=Yf Xb.out 1;have hfz18_2:=Yf Xb.out 2;have hfz18_3:=Yf Xb.out 3;go_wp2;go_ret;exact⟨by first|rfl|(simp[errW_none,errW_some]<;>rfl)|(simp[*,errW_none,errW_some]<;>rfl),HB.out⟩
   rw[Yy c17] at H;have c17b0:decide (1048576<Vk)=false:=Yw c17;clear c17;by_cases c19:Vn>1048576
   rotate_left
   ·rw[Yy c19] at H
    have c19b0:decide (1048576<Vn)=false:=Yw c19;clear c19;obtain rfl:=Option.some.inj H;have hcz21_0:wc.cell? ⟨Vh,0,none⟩=some (.int .i64 Zj):=bc Xb 0;have hcz21_1:wc.cell? ⟨Vh,1,none⟩=some (.int .i64 Xh):=bc Xb 1;have hcz21_2:wc.cell? ⟨Vh,2,none⟩=some (.int .i64 Vk):=bc Xb 2;have hcz21_3:wc.cell? ⟨Vh,3,none⟩=some (.int .i64 Vn):=bc Xb 3;have hfz21_0:=Yf Xb.out 0;have hfz21_1:=Yf Xb.out 1;have hfz21_2:=Yf Xb.out 2;have hfz21_3:=Yf Xb.out 3;go_wp2;go_ret;exact⟨by first|rfl|(simp[errW_none,errW_some]<;>rfl)|(simp[*,errW_none,errW_some]<;>rfl),HB.out⟩
   rw[Yx c19] at H;have c19b0:decide (1048576<Vn)=true:=Yv c19;clear c19;obtain rfl:=Option.some.inj H;have hcz20_0:wc.cell? ⟨Vh,0,none⟩=some (.int .i64 Zj):=bc Xb 0;have hcz20_1:wc.cell? ⟨Vh,1,none⟩=some (.int .i64 Xh):=bc Xb 1;have hcz20_2:wc.cell? ⟨Vh,2,none⟩=some (.int .i64 Vk):=bc Xb 2;have hcz20_3:wc.cell? ⟨Vh,3,none⟩=some (.int .i64 Vn):=bc Xb 3;have hfz20_0:=Yf Xb.out 0;have hfz20_1:=Yf Xb.out 1;have hfz20_2:=Yf Xb.out 2;have hfz20_3:=Yf Xb.out 3;go_wp2;go_ret;exact⟨by first|rfl|(simp[errW_none,errW_some]<;>rfl)|(simp[*,errW_none,errW_some]<;>rfl),HB.out⟩
end P
end Go.Proofs.Ytoedkglggapggaa
