/- What the law's row needs of these texts, taken out of them by wip/tool/mini.py: P86 P87 P88 P91 P92 P93 P94 P95 P98 QFewWalk QRefSplit. -/
import Derived.Test.YtoedkglggapggaaMohcidc
import Derived.Test.YtoedkglggapggaaMbhckag
import Derived.Test.YtoedkglggapggaaMmpahga
import Derived.Test.YtoedkglggapggaaMefmnpo
import Derived.Deep.DeepCutAuto
set_option linter.unusedVariables false
set_option linter.unusedSimpArgs false
open Go.RowKit Go.Proofs.YtoedkglggapggaaW.PrintWords Go.Proofs.YtoedkglggapggaaW.PrintLast Go.Proofs.YtoedkglggapggaaW.PrintMore
namespace Go.Proofs.Ytoedkglggapggaa
namespace P
attribute [local go_sem] max2_int min2_int max_two min_two max_three min_three max_four min_four
mutual
def decomp_Lengths.l0:Nat→List Int→List (S47)→Int→Int→Int→Bool→List (S50)→Option (List Int × Int)
 |0,_,_,_,_,_,_,_=>none
 |k+1,x7,x20,x21,x22,x505000,x505001,x505002=>if x22<x21 then(if 0≤x22 then(if x22<(x20.length:Int) then(decomp_Lengths.l1 k x7 x22 x20 x21 x22 ((rd_T47 x20 x22).f0) (((rd_T47 x20 x22).f0).length:Int) 0 x505000 x505001 x505002) else(none)) else(none)) else(some (x7,0))
def decomp_Lengths.l1:Nat→List Int→Int→List (S47)→Int→Int→List Int→Int→Int→Int→Bool→List (S50)→Option (List Int × Int)
 |0,_,_,_,_,_,_,_,_,_,_,_=>none
 |k+1,x7,x8,x20,x21,x22,x28,x29,x30,x505000,x505001,x505002=>if x30<x29 then(if 0≤x30 then(if x30<(x28.length:Int) then(if (rd x28 x30)<0 then(some (([]:List Int),1)) else(if (rd x28 x30)≥(x505002.length:Int) then(some (([]:List Int),1)) else(if 0≤x8 then(if x8<(x7.length:Int) then(if 0≤(rd x28 x30) then(if (rd x28 x30)<(x505002.length:Int) then(decomp_Lengths.l1 k (x7.set (x8:Int).toNat (wrap64 ((rd x7 x8)+((rd_T50 x505002 (rd x28 x30)).f3)))) x8 x20 x21 x22 x28 x29 (wrap64 (x30+1)) x505000 x505001 x505002) else(none)) else(none)) else(none)) else(none)))) else(none)) else(none)) else(decomp_Lengths.l0 k x7 x20 x21 (wrap64 (x22+1)) x505000 x505001 x505002)
end
def decomp_Lengths.f (k:Nat) (Zc:Int) (Zb:Bool) (Za:List (S50)) (l1:List (S47)):Option (List Int × Int):=(netfmt_Check.f k Zc Zb Za).bind fun t505=>(if t505=0 then(if 0≤(l1.length:Int) then(if ((l1.length:Int):Int).toNat≤35184372088832 then(decomp_Lengths.l0 k (List.replicate ((l1.length:Int):Int).toNat 0) l1 (l1.length:Int) 0 Zc Zb Za) else(none)) else(none)) else(some (([]:List Int),t505)))
theorem decomp_Lengths.mono_l: ∀ k,(∀ y0 y1 y2 y3 y4 y5 y6,LeO (decomp_Lengths.l0 k y0 y1 y2 y3 y4 y5 y6) (decomp_Lengths.l0 (k+1) y0 y1 y2 y3 y4 y5 y6))∧(∀ y0 y1 y2 y3 y4 y5 y6 y7 y8 y9 y10,LeO (decomp_Lengths.l1 k y0 y1 y2 y3 y4 y5 y6 y7 y8 y9 y10) (decomp_Lengths.l1 (k+1) y0 y1 y2 y3 y4 y5 y6 y7 y8 y9 y10))
 |0=>⟨fun _ _ _ _ _ _ _ r h=>by simp[decomp_Lengths.l0] at h,fun _ _ _ _ _ _ _ _ _ _ _ r h=>by simp[decomp_Lengths.l1] at h⟩
 |k+1=>by
  obtain⟨ih0,ih1⟩:=decomp_Lengths.mono_l k;refine⟨?_,?_⟩
  ·intro y0 y1 y2 y3 y4 y5 y6
   unfold decomp_Lengths.l0;repeat' first
   |(with_reducible exact ih0 _ _ _ _ _ _ _)
   |(with_reducible exact ih1 _ _ _ _ _ _ _ _ _ _ _)
   |(with_reducible exact netfmt_Check.mono _ _ _ _)
   |(with_reducible exact LeO.refl _)
   |(with_reducible exact LeO.none _)
   |(with_reducible refine LeO.ite ?_ ?_)
   |(with_reducible refine LeO.bind ?_ (fun _=> ?_))
   |refine LeO.ite ?_ ?_
   |refine LeO.bind ?_ (fun _=> ?_)
  ·intro y0 y1 y2 y3 y4 y5 y6 y7 y8 y9 y10
   unfold decomp_Lengths.l1;repeat' first
   |(with_reducible exact ih0 _ _ _ _ _ _ _)
   |(with_reducible exact ih1 _ _ _ _ _ _ _ _ _ _ _)
   |(with_reducible exact netfmt_Check.mono _ _ _ _)
   |(with_reducible exact LeO.refl _)
   |(with_reducible exact LeO.none _)
   |(with_reducible refine LeO.ite ?_ ?_)
   |(with_reducible refine LeO.bind ?_ (fun _=> ?_))
   |refine LeO.ite ?_ ?_
   |refine LeO.bind ?_ (fun _=> ?_)
theorem decomp_Lengths.mono: ∀ a0 a1 a2 a3 k,LeO (decomp_Lengths.f k a0 a1 a2 a3) (decomp_Lengths.f (k+1) a0 a1 a2 a3):=by
 intro a0 a1 a2 a3 k;obtain⟨ih0,ih1⟩:=decomp_Lengths.mono_l k;unfold decomp_Lengths.f;repeat' first
   |(with_reducible exact ih0 _ _ _ _ _ _ _)
   |(with_reducible exact ih1 _ _ _ _ _ _ _ _ _ _ _)
   |(with_reducible exact netfmt_Check.mono _ _ _ _)
   |(with_reducible exact LeO.refl _)
   |(with_reducible exact LeO.none _)
   |(with_reducible refine LeO.ite ?_ ?_)
   |(with_reducible refine LeO.bind ?_ (fun _=> ?_))
   |refine LeO.ite ?_ ?_
   |refine LeO.bind ?_ (fun _=> ?_)
def decomp_Lengths.T13:Bool × List (List Nat × List Nat):=(true,[([],[]),([],[]),([0,1],[0,1]),([2],[2]),([],[]),([4],[4]),([],[]),([5,6],[5,6]),([7],[7]),([8],[8]),([3,9],[3,9]),([0,1,0,1,2,3,4,5,6,7,8,9,10],[0,1]),([11,10,0,1,2,3,4,5,6,7,8,9,10],[10,11])])
def decomp_Lengths.B13:List Nat:=[0,0,3,7,0,16,0,112,240,496,1023,2047,4095]
theorem decomp_Lengths.tab13:rtab .any (opsOf Try.f29 13)=decomp_Lengths.T13:=by kernel_rfl
theorem decomp_Lengths.bits13:waitsOk decomp_Lengths.T13.2 decomp_Lengths.B13=true:=by kernel_rfl
set_option maxHeartbeats 8000000 in
set_option maxRecDepth 100000 in
theorem decomp_Lengths.calls (k:Nat) (Zc:Int) (Zb:Bool) (Ze:Option Addr) (Zd:Nat) (Za:List (S50)) (A1:Option Addr) (c1:Nat) (l1:List (S47)) (r1:List Int) (r2:Int) (w:World) (Zq:Kd.C k50 w Ze Za.length Za) (Zr:Za.length≤Zd) (hr1:Kd.C k47 w A1 l1.length l1) (hc1:l1.length≤c1) (h:decomp_Lengths.f k Zc Zb Za l1=some (r1,r2)):
  Calls Try.prog 29 #[.agg #[.int .i64 Zc, .bool Zb, .slice Ze Za.length Zd], .slice A1 l1.length c1] w fun e w'=> ∃ v0_:Value,e= .returned (.tuple #[v0_, .int .i64 r2])∧Kd.R (Kd.int .i64) 3 w' w.heap.size (fun _=>True) v0_ r1∧Below w.heap.size w w':=by
 have hu24:=Try.underlying24;have hu47:=Try.underlying47;have Zk:=Ya Zq;have Zx:=Ya Zr;clear Zq Zr;have HR1:=Ya hr1;have HC1:=Ya hc1;clear hr1 hc1;have HB:=Ya (Yo w.heap.size w);have H:=h;unfold decomp_Lengths.f at H;clear h;replace H:=Option.bind_eq_some_iff.mp H;obtain⟨t505,A30,H⟩:=H;try dsimp only at H
 have A3:=Ya A30;clear A30;by_cases c4:t505=0
 rotate_left
 ·rw[Yy c4] at H
  have c4b0:(t505 == 0)=false:=beq_eq_false_iff_ne.mpr c4;have c4b1:(t505 != 0)=true:=bne_iff_ne.mpr c4;simp only[Option.some.injEq,Prod.mk.injEq] at H;obtain⟨rfl,rfl⟩:=H;go_enter Try.func29,Try.ntmps29;go_wp2_with (first|((with_reducible refine gate_dst (N:=2) rfl ?_);(try (refine gate_guard (by rfl) ?_;dsimp only));refine Yz ?hg (N:=2) ?hd (cs:= #[.int .i64 Zc, .bool Zb, .slice Ze Za.length Zd]) (t:=24) ?hr ?_;(case hd=>rfl);(case hg=>rfl);(case hr=>first|(go_simp;done)|(go_simp;rfl));intro Uj hg w35 Zf hb;have Xu:=Ya (Zf);have GW504:=Ya (by rw[hg];exact(Yi HB.out):w.heap.size≤Uj);have GE504:=Ya (by rw[hg];exact(Yi HB.out):w.heap.size≤Uj);replace HB:=Ya (Yk HB.out hb);clear hb Zf hg;have hcz36_0:w35.cell? ⟨Uj,0,none⟩=some (.int .i64 Zc):=bc Xu 0;have hcz36_1:w35.cell? ⟨Uj,1,none⟩=some (.bool Zb):=bc Xu 1;have hcz36_2:w35.cell? ⟨Uj,2,none⟩=some (.slice Ze Za.length Zd):=bc Xu 2;have hfz36_0:=Yf Xu.out 0;have hfz36_1:=Yf Xu.out 1;have hfz36_2:=Yf Xu.out 2)|((with_reducible refine gate_callee (f:=61) rfl ?_);refine gl (some 13) Try.func61 #[.agg #[.int .i64 Zc, .bool Zb, .slice Ze Za.length Zd]] ?_;(with_reducible refine(netfmt_Check.calls k Zc Zb _ _ Za t505 _ ?side1 ?side2 A3.out).mono ?_);(case side1=>exact kC (Yt Zk.out HB.out));(case side2=>exact Zx.out);rintro e w37 ⟨rfl,hb⟩;refine⟨_,rfl,?_⟩;replace Xu:=Ya (Yn Xu.out hb);replace HB:=Ya (Yk HB.out hb);(try clear hb)));go_ret2;exact⟨_,by first|rfl|(simp[errW_none,errW_some]<;>rfl)|(simp[*,errW_none,errW_some]<;>rfl),by first|exact Kd.R_nil _ _ _ _ _|exact Kd.N_nil _ _ _ _ _|exact Kd.V_nil _ _ _ _ _|exact Kd.Q_nil _ _ _ _ _|exact Kd.S_nil _ _ _ _ _,HB.out⟩
 rw[Yx c4] at H;have c4b0:(t505 == 0)=true:=beq_iff_eq.mpr c4;have c4b1:(t505 != 0)=false:=bne_eq_false_iff_eq.mpr c4;clear c4;by_cases c5:0≤(l1.length:Int)
 rotate_left
 ·rw[Yy c5] at H
  exact absurd H (by simp)
 rw[Yx c5] at H;have c5b0:=eq_true c5;have c5b1:decide (0≤(l1.length:Int))=true:=Yv c5;clear c5;by_cases c6:((l1.length:Int):Int).toNat≤35184372088832
 rotate_left
 ·rw[Yy c6] at H
  exact absurd H (by simp)
 rw[Yx c6] at H;have c6b0:=eq_true c6;have c6b1:decide (((l1.length:Int):Int).toNat≤35184372088832)=true:=Yv c6;clear c6;obtain⟨y506,hy506⟩: ∃ y_:List Int,y_=(List.replicate ((l1.length:Int):Int).toNat 0):=⟨_,rfl⟩;rw[← hy506] at H;have Ny506:=Ya hy506;clear hy506;have H':=Ya H;clear H;go_enter Try.func29,Try.ntmps29;go_wp2_with (first|((with_reducible refine gate_dst (N:=2) rfl ?_);(try (refine gate_guard (by rfl) ?_;dsimp only));refine Yz ?hg (N:=2) ?hd (cs:= #[.int .i64 Zc, .bool Zb, .slice Ze Za.length Zd]) (t:=24) ?hr ?_;(case hd=>rfl);(case hg=>rfl);(case hr=>first|(go_simp;done)|(go_simp;rfl));intro Uj hg w7 Zf hb;have Xu:=Ya (Zf);have GW504:=Ya (by rw[hg];exact(Yi HB.out):w.heap.size≤Uj);have GE504:=Ya (by rw[hg];exact(Yi HB.out):w.heap.size≤Uj);replace HB:=Ya (Yk HB.out hb);clear hb Zf hg;have Uc:w7.cell? ⟨Uj,0,none⟩=some (.int .i64 Zc):=bc Xu 0;have Ud:w7.cell? ⟨Uj,1,none⟩=some (.bool Zb):=bc Xu 1;have Ut:w7.cell? ⟨Uj,2,none⟩=some (.slice Ze Za.length Zd):=bc Xu 2;have Ue:=Yf Xu.out 0;have Uf:=Yf Xu.out 1;have Uu:=Yf Xu.out 2)|((with_reducible refine gate_callee (f:=61) rfl ?_);refine gl (some 13) Try.func61 #[.agg #[.int .i64 Zc, .bool Zb, .slice Ze Za.length Zd]] ?_;(with_reducible refine(netfmt_Check.calls k Zc Zb _ _ Za t505 _ ?side1 ?side2 A3.out).mono ?_);(case side1=>exact kC (Yt Zk.out HB.out));(case side2=>exact Zx.out);rintro e w9 ⟨rfl,hb⟩;refine⟨_,rfl,?_⟩;replace Xu:=Ya (Yn Xu.out hb);replace HB:=Ya (Yk HB.out hb);(try clear hb))|((with_reducible refine gate_dst (N:=19) rfl ?_);(try (refine gate_guard (by rfl) ?_;dsimp only));refine Kd.R_make (Kd.int .i64) _ 3 rfl (N:=19) rfl 31 _ _ rfl (l1.length:Int) rfl rfl Try.underlying31 (.int .i64 0) 8 info3 rfl (by decide) (by omega) 0 (ok:=fun _=>True) (okp:=fun _=>True) rfl (fun _ hk=>hk) trivial (Yu (by first|(with_reducible assumption)|assumption)) (Nat.le_trans (Nat.mul_le_mul_right _ (Yu (by first|(with_reducible assumption)|assumption):(l1.length:Int).toNat≤35184372088832)) (by omega)) (Yo _ _) (Nat.le_refl _) ?_;intro v507 w10 ho11 hb hg_ hnew_;clear hg_ hnew_;(first|rw[← Ny506.out] at ho11|(simp only[Int.reduceToNat] at ho11;rw[← Ny506.out] at ho11));have HO508:=Ya (Kd.R_lower ho11 (Yi HB.out));replace Xu:=Ya (Yn Xu.out hb);replace HB:=Ya (Yk HB.out hb);clear hb ho11));go_loopg [22] k (fun kq v22 w'=> ∃ (Xz:List Int) (Zg:Int),v22= .int .i64 Zg∧Aside0 (decomp_Lengths.l0 kq Xz l1 (l1.length:Int) Zg Zc Zb Za=some (r1,r2))∧Aside0 (kq≤k)∧Aside0 (Kd.R (Kd.int .i64) 3 w' w.heap.size (fun _=>True) v507 Xz)∧Aside0 (w'.heap[Uj]? =some (.cells #[.int .i64 Zc, .bool Zb,(.slice Ze Za.length Zd)] 24 (0,0)))∧Aside0 (Below w.heap.size w w'))
 case atStart=>exact⟨(y506),(0),(by first|rfl|(simp;done)|(simp[*];done)),H',⟨Nat.le_refl _⟩,⟨HO508.out⟩,⟨Xu.out⟩,⟨HB.out⟩⟩
 case round=>
  clear H';try clear c1
  try clear c4
  try clear c4b0
  try clear c4b1
  try clear c5
  try clear c5b0
  try clear c5b1
  try clear c6
  try clear c6b0
  try clear c6b1
  try clear Uc
  try clear Ud
  try clear Ut
  try clear Ue
  try clear Uf
  try clear Uu
  obtain⟨Xz,Zg,rfl,HA,HK1,HO_7,Xu,HB⟩:=hrel;cases gk with
  |zero=>exact absurd HA.out (by simp[decomp_Lengths.l0])
  |succ k1=>
   have H:=HA.out;clear HA;simp only[decomp_Lengths.l0] at H;by_cases c12:Zg<(l1.length:Int)
   rotate_left
   ·rw[Yy c12] at H
    have c12b0:decide (Zg<(l1.length:Int))=false:=Yw c12;clear c12;simp only[Option.some.injEq,Prod.mk.injEq] at H;obtain⟨rfl,rfl⟩:=H;go_wp2;go_ret2;exact⟨_,by first|rfl|(simp[errW_none,errW_some]<;>rfl)|(simp[*,errW_none,errW_some]<;>rfl),by(with_reducible repeat(first|apply Yr|apply Yq|apply Yp));exact HO_7.out,HB.out⟩
   rw[Yx c12] at H;have c12b0:decide (Zg<(l1.length:Int))=true:=Yv c12;clear c12;by_cases c13:0≤Zg
   rotate_left
   ·rw[Yy c13] at H
    exact absurd H (by simp)
   rw[Yx c13] at H;have c13b0:decide (0≤Zg)=true:=Yv c13;clear c13;by_cases c14:Zg<(l1.length:Int)
   rotate_left
   ·rw[Yy c14] at H
    exact absurd H (by simp)
   rw[Yx c14] at H;have c14b0:decide (Zg<(l1.length:Int))=true:=Yv c14;clear c14;have H':=Ya H;clear H;have p509:0≤(Zg:Int):=od;have q509:Zg<(l1.length:Int):=od;obtain⟨ad509,A509_0,c509_0,e509,hx509_0,hx509_1,hl509_0,hi509_0⟩:=at_T47 HR1.out Zg p509 q509;cases e509;replace hx509_0:=hc HB hx509_0;replace hx509_1:=hc HB hx509_1;have HR509_0:=Ya hi509_0;have HC509_0:=Ya hl509_0;clear hi509_0 hl509_0;replace p509:=eq_true p509;replace q509:=eq_true q509;go_wp2_with (first|((with_reducible refine gate_dst (N:=9) rfl ?_);(try (refine gate_guard (by rfl) ?_;dsimp only));refine Yz ?hg (N:=9) ?hd (cs:= #[.slice none 0 0, .int .i64 0]) (t:=47) ?hr ?_;(case hd=>rfl);(case hg=>rfl);(case hr=>first|(go_simp;done)|(go_simp;rfl));intro gb510 hg w15 Zf hb;replace HO_7:=Ya (Ys HO_7.out hb);have BK510:=Ya (Zf);have GW510:=Ya (by rw[hg];exact(Yi HB.out):w.heap.size≤gb510);have GE510:=Ya (by rw[hg];exact(Yi HB.out):w.heap.size≤gb510);replace HB:=Ya (Yk HB.out hb);have NB504_510:=Ya (by rw[hg];exact Nat.ne_of_lt (blk_lt Xu.out):Uj≠gb510);have NB510_504:=Ya (by rw[hg];exact Nat.ne_of_gt (blk_lt Xu.out):gb510≠Uj);replace Xu:=Ya (Yn Xu.out hb);clear hb Zf hg;have hnb16:=NB510_504.out;have hnc16:=NB504_510.out;have Vm:w15.cell? ⟨gb510,0,none⟩=some (.slice none 0 0):=bc BK510 0;have Vn:w15.cell? ⟨gb510,1,none⟩=some (.int .i64 0):=bc BK510 1;have Vo:=Yf BK510.out 0;have Vp:=Yf BK510.out 1));go_loopg [30] k1 (fun kq v30 w'=> ∃ (x7_2:List Int) (Xx:Int),v30= .int .i64 Xx∧Aside0 (decomp_Lengths.l1 kq x7_2 Zg l1 (l1.length:Int) Zg ((rd_T47 l1 Zg).f0) (((rd_T47 l1 Zg).f0).length:Int) Xx Zc Zb Za=some (r1,r2))∧Aside0 (kq≤k1)∧Aside0 (Kd.R (Kd.int .i64) 3 w' w.heap.size (fun _=>True) v507 x7_2)∧Aside0 (w'.heap[Uj]? =some (.cells #[.int .i64 Zc, .bool Zb,(.slice Ze Za.length Zd)] 24 (0,0)))∧Aside0 (w'.heap[gb510]? =some (.cells #[(.slice A509_0 ((rd_T47 l1 Zg).f0).length c509_0), .int .i64 ((rd_T47 l1 Zg).f1)] 47 (0,0)))∧Aside0 (Below w.heap.size w w'))
   case atStart=>exact⟨(Xz),(0),(by first|rfl|(simp;done)|(simp[*];done)),H',⟨Nat.le_refl _⟩,⟨by(with_reducible repeat(first|apply Yr|apply Yq|apply Yp));exact Kd.R_mono (Kd.R_far (p:=⟨gb510,1,none⟩) (Kd.R_far (p:=⟨gb510,0,none⟩) (Kd.R_types HO_7.out BK510.out (by decide)) (fun _ hk=>hk.2) (.slice A509_0 ((rd_T47 l1 Zg).f0).length c509_0)) (fun _ hk=>hk.2) (.int .i64 ((rd_T47 l1 Zg).f1))) (fun _ hk=>trivial)⟩,⟨by(with_reducible repeat(first|refine Yl ?_ _|refine Ym ?_|refine Yj ?_ _));refine blk_far ?_ NB504_510.out _;(with_reducible repeat(first|refine Yl ?_ _|refine Ym ?_|refine Yj ?_ _));refine blk_far ?_ NB504_510.out _;(with_reducible repeat(first|refine Yl ?_ _|refine Ym ?_|refine Yj ?_ _));exact Xu.out⟩,⟨by(with_reducible repeat(first|refine Yl ?_ _|refine Ym ?_|refine Yj ?_ _));refine YA (cs:= #[.slice A509_0 ((rd_T47 l1 Zg).f0).length c509_0, .int .i64 0]) ?_ 1 _ rfl;(with_reducible repeat(first|refine Yl ?_ _|refine Ym ?_|refine Yj ?_ _));refine YA (cs:= #[.slice none 0 0, .int .i64 0]) ?_ 0 _ rfl;(with_reducible repeat(first|refine Yl ?_ _|refine Ym ?_|refine Yj ?_ _));exact BK510.out⟩,⟨bl⟩⟩
   case round=>
    clear H';try clear c1
    try clear c4
    try clear c4b0
    try clear c4b1
    try clear c5
    try clear c5b0
    try clear c5b1
    try clear c6
    try clear c6b0
    try clear c6b1
    try clear c12
    try clear c12b0
    try clear c13
    try clear c13b0
    try clear c14
    try clear c14b0
    try clear Vm
    try clear Vn
    try clear Uc
    try clear Ud
    try clear Ut
    try clear Vo
    try clear Vp
    try clear Ue
    try clear Uf
    try clear Uu
    try clear hx509_0
    try clear hx509_1
    try clear p509
    try clear q509
    obtain⟨x7_2,Xx,rfl,HA,HK2,HO_7,Xu,BK510,HB⟩:=hrel;cases gk with
    |zero=>exact absurd HA.out (by simp[decomp_Lengths.l1])
    |succ k2=>
     have H:=HA.out;clear HA;simp only[decomp_Lengths.l1] at H;by_cases c18:Xx<(((rd_T47 l1 Zg).f0).length:Int)
     rotate_left
     ·rw[Yy c18] at H
      have c18b0:decide (Xx<(((rd_T47 l1 Zg).f0).length:Int))=false:=Yw c18;clear c18;have H':=Ya H;clear H;go_wp2;go_roundg k2
      case measure=>have:=HK1.out;have:=HK2.out;omega
      case rel=>exact⟨(x7_2),(wrap64 (Zg+1)),(by first|rfl|(simp;done)|(simp[*];done)),H',⟨by have:=HK1.out;have:=HK2.out;omega⟩,⟨HO_7.out⟩,⟨Xu.out⟩,⟨HB.out⟩⟩
     rw[Yx c18] at H;have c18b0:decide (Xx<(((rd_T47 l1 Zg).f0).length:Int))=true:=Yv c18;clear c18;by_cases c19:0≤Xx
     rotate_left
     ·rw[Yy c19] at H
      exact absurd H (by simp)
     rw[Yx c19] at H;have c19b0:decide (0≤Xx)=true:=Yv c19;clear c19;by_cases c20:Xx<(((rd_T47 l1 Zg).f0).length:Int)
     rotate_left
     ·rw[Yy c20] at H
      exact absurd H (by simp)
     rw[Yx c20] at H;have c20b0:decide (Xx<(((rd_T47 l1 Zg).f0).length:Int))=true:=Yv c20;clear c20;by_cases c21:(rd ((rd_T47 l1 Zg).f0) Xx)<0
     ·rw[Yx c21] at H
      have c21b0:decide ((rd ((rd_T47 l1 Zg).f0) Xx)<0)=true:=Yv c21;clear c21;simp only[Option.some.injEq,Prod.mk.injEq] at H;obtain⟨rfl,rfl⟩:=H;have p511:0≤(Xx:Int):=od;have q511:Xx<(((rd_T47 l1 Zg).f0).length:Int):=od;obtain⟨ad511,e511,hx511_0⟩:=Kd.at_int HR509_0.out Xx p511 q511;cases e511;replace hx511_0:=hc HB hx511_0;replace p511:=eq_true p511;replace q511:=eq_true q511;go_wp2;go_ret2;exact⟨_,by first|rfl|(simp[errW_none,errW_some]<;>rfl)|(simp[*,errW_none,errW_some]<;>rfl),by first|exact Kd.R_nil _ _ _ _ _|exact Kd.N_nil _ _ _ _ _|exact Kd.V_nil _ _ _ _ _|exact Kd.Q_nil _ _ _ _ _|exact Kd.S_nil _ _ _ _ _,HB.out⟩
     rw[Yy c21] at H;have c21b0:decide ((rd ((rd_T47 l1 Zg).f0) Xx)<0)=false:=Yw c21;clear c21;by_cases c22:(rd ((rd_T47 l1 Zg).f0) Xx)≥(Za.length:Int)
     ·rw[Yx c22] at H
      have c22b0:decide ((Za.length:Int)≤(rd ((rd_T47 l1 Zg).f0) Xx))=true:=Yv c22;clear c22;simp only[Option.some.injEq,Prod.mk.injEq] at H;obtain⟨rfl,rfl⟩:=H;have p511:0≤(Xx:Int):=od;have q511:Xx<(((rd_T47 l1 Zg).f0).length:Int):=od;obtain⟨ad511,e511,hx511_0⟩:=Kd.at_int HR509_0.out Xx p511 q511;cases e511;replace hx511_0:=hc HB hx511_0;replace p511:=eq_true p511;replace q511:=eq_true q511;have hnb23:=NB504_510.out;have hnc23:=NB510_504.out;have hcz24_0:wr.cell? ⟨Uj,0,none⟩=some (.int .i64 Zc):=bc Xu 0;have hcz24_1:wr.cell? ⟨Uj,1,none⟩=some (.bool Zb):=bc Xu 1;have hcz24_2:wr.cell? ⟨Uj,2,none⟩=some (.slice Ze Za.length Zd):=bc Xu 2;have hfz24_0:=Yf Xu.out 0;have hfz24_1:=Yf Xu.out 1;have hfz24_2:=Yf Xu.out 2;go_wp2;go_ret2;exact⟨_,by first|rfl|(simp[errW_none,errW_some]<;>rfl)|(simp[*,errW_none,errW_some]<;>rfl),by first|exact Kd.R_nil _ _ _ _ _|exact Kd.N_nil _ _ _ _ _|exact Kd.V_nil _ _ _ _ _|exact Kd.Q_nil _ _ _ _ _|exact Kd.S_nil _ _ _ _ _,HB.out⟩
     rw[Yy c22] at H;have c22b0:decide ((Za.length:Int)≤(rd ((rd_T47 l1 Zg).f0) Xx))=false:=Yw c22;clear c22;by_cases c25:0≤Zg
     rotate_left
     ·rw[Yy c25] at H
      exact absurd H (by simp)
     rw[Yx c25] at H;have c25b0:decide (0≤Zg)=true:=Yv c25;clear c25;by_cases c26:Zg<(x7_2.length:Int)
     rotate_left
     ·rw[Yy c26] at H
      exact absurd H (by simp)
     rw[Yx c26] at H;have c26b0:decide (Zg<(x7_2.length:Int))=true:=Yv c26;clear c26;by_cases c27:0≤(rd ((rd_T47 l1 Zg).f0) Xx)
     rotate_left
     ·rw[Yy c27] at H
      exact absurd H (by simp)
     rw[Yx c27] at H;have c27b0:decide (0≤(rd ((rd_T47 l1 Zg).f0) Xx))=true:=Yv c27;clear c27;by_cases c28:(rd ((rd_T47 l1 Zg).f0) Xx)<(Za.length:Int)
     rotate_left
     ·rw[Yy c28] at H
      exact absurd H (by simp)
     rw[Yx c28] at H;have c28b0:decide ((rd ((rd_T47 l1 Zg).f0) Xx)<(Za.length:Int))=true:=Yv c28;clear c28;obtain⟨y514,hy514⟩: ∃ y_:List Int,y_=(x7_2.set (Zg:Int).toNat (wrap64 ((rd x7_2 Zg)+((rd_T50 Za (rd ((rd_T47 l1 Zg).f0) Xx)).f3)))):=⟨_,rfl⟩;rw[← hy514] at H;have Ny514:=Ya hy514;clear hy514;have H':=Ya H;clear H;have p511:0≤(Xx:Int):=od;have q511:Xx<(((rd_T47 l1 Zg).f0).length:Int):=od;obtain⟨ad511,e511,hx511_0⟩:=Kd.at_int HR509_0.out Xx p511 q511;cases e511;replace hx511_0:=hc HB hx511_0;replace p511:=eq_true p511;replace q511:=eq_true q511;have hnb30:=NB504_510.out;have hnc30:=NB510_504.out;have hcz31_0:wr.cell? ⟨Uj,0,none⟩=some (.int .i64 Zc):=bc Xu 0;have hcz31_1:wr.cell? ⟨Uj,1,none⟩=some (.bool Zb):=bc Xu 1;have hcz31_2:wr.cell? ⟨Uj,2,none⟩=some (.slice Ze Za.length Zd):=bc Xu 2;have hfz31_0:=Yf Xu.out 0;have hfz31_1:=Yf Xu.out 1;have hfz31_2:=Yf Xu.out 2;try go_wp2
     replace HO_7:=Ya (Yp HO_7.out);replace Xu:=Ya (Ym Xu.out);replace BK510:=Ya (Ym BK510.out);replace HB:=Ya (Yg HB.out);obtain⟨Ao33,co33,eo33⟩:=Kd.R_slice HO_7.out
     (first|subst eo33|(injection eo33 with f1_ f2_ f3_;have f4_:=f1_.symm;have f5_:=f3_.symm;clear f1_ f2_ f3_;subst f4_;subst f5_))
     have p512:0≤(Zg:Int):=od;have q512:Zg<(x7_2.length:Int):=od;obtain⟨ad512,e512,hx512_0⟩:=Kd.at_int (Kd.R_reads' HO_7.out).2.2 Zg p512 q512;cases e512;replace p512:=eq_true p512;replace q512:=eq_true q512;have p513:0≤((rd ((rd_T47 l1 Zg).f0) Xx):Int):=od;have q513:(rd ((rd_T47 l1 Zg).f0) Xx)<(Za.length:Int):=od;obtain⟨ad513,e513,hx513_0,hx513_1,hx513_2,hx513_3⟩:=at_T50 Zk.out (rd ((rd_T47 l1 Zg).f0) Xx) p513 q513;have hw513_3:=hx513_3;have hw513_2:=hx513_2;have hw513_1:=hx513_1;have hw513_0:=hx513_0;cases e513;replace hx513_0:=hc HB hx513_0;replace hx513_1:=hc HB hx513_1;replace hx513_2:=hc HB hx513_2;replace hx513_3:=hc HB hx513_3;replace p513:=eq_true p513;replace q513:=eq_true q513;have p29:0≤(Zg:Int):=od;have q29:(Zg:Int)<((x7_2.length:Int):Int):=od;obtain⟨go29,co29,eo29,gb29,gl29,cl29,HG29⟩:=Kd.R_form HO_7.out (by omega)
     (first|cases eo29|(injection eo29 with ea_ en_ ec_;(first|subst ea_|(injection ea_ with ea_;subst ea_));subst ec_;clear en_))
     have GB29:=Ya gb29;have GG29:=Ya HG29;clear gb29 gl29 HG29
     (first|simp only[add_plain] at hx512_0|skip)
     obtain⟨hx29_0,hf29_0⟩:=Kd.R_celln 0 HO_7.out (Zg:Int) p29 q29;replace p29:=eq_true p29;replace q29:=eq_true q29;have HP34:=Kd.R_putn HO_7.out (Zg:Int) (wrap64 ((rd x7_2 Zg)+((rd_T50 Za (rd ((rd_T47 l1 Zg).f0) Xx)).f3)));rw[← Ny514.out] at HP34;have HQ34:=Ya HP34;clear HP34;refine start_ (n:=13) (S:=fun w'=>w'.cell? ⟨Uj,0,none⟩=some (.int .i64 Zc)∧w'.cell? ⟨Uj,1,none⟩=some (.bool Zb)∧w'.cell? ⟨Uj,2,none⟩=some (.slice (some ad513) Za.length Zd)∧w'.cell? ⟨go29,(Zg).toNat,none⟩=some (.int .i64 (rd x7_2 Zg))∧w'.cell? (ad513.add (((rd ((rd_T47 l1 Zg).f0) Xx)).toNat * 4))=some (.int .i64 ((rd_T50 Za (rd ((rd_T47 l1 Zg).f0) Xx)).f0))∧w'.cell? ⟨(ad513.add (((rd ((rd_T47 l1 Zg).f0) Xx)).toNat * 4)).block,(ad513.add (((rd ((rd_T47 l1 Zg).f0) Xx)).toNat * 4)).off+1,none⟩=some (.int .i64 ((rd_T50 Za (rd ((rd_T47 l1 Zg).f0) Xx)).f1))∧w'.cell? ⟨(ad513.add (((rd ((rd_T47 l1 Zg).f0) Xx)).toNat * 4)).block,(ad513.add (((rd ((rd_T47 l1 Zg).f0) Xx)).toNat * 4)).off+2,none⟩=some (.int .i64 ((rd_T50 Za (rd ((rd_T47 l1 Zg).f0) Xx)).f2))∧w'.cell? ⟨(ad513.add (((rd ((rd_T47 l1 Zg).f0) Xx)).toNat * 4)).block,(ad513.add (((rd ((rd_T47 l1 Zg).f0) Xx)).toNat * 4)).off+3,none⟩=some (.int .i64 ((rd_T50 Za (rd ((rd_T47 l1 Zg).f0) Xx)).f3))) (ds:=[12]) #[false,false,false,false,false,false,false,false,false,false,false,false,false] (by kernel_rfl) rfl rfl ⟨(Yc Xu.out 0).trans rfl,(Yc Xu.out 1).trans rfl,(Yc Xu.out 2).trans rfl,hx512_0,((HB.out.cell (Yb w _ hw513_0)).trans hw513_0),((HB.out.cell (Yb w _ hw513_1)).trans hw513_1),((HB.out.cell (Yb w _ hw513_2)).trans hw513_2),((HB.out.cell (Yb w _ hw513_3)).trans hw513_3)⟩ (fun hHeld=> ?_);refine with_tabW decomp_Lengths.tab13 decomp_Lengths.bits13 (fun HT_ HW_=> ?_);generalize wr.drew=w32 at HO_7 Xu BK510 HB GG29 HQ34 hf29_0 hx29_0 hx512_0 hx513_0 hx513_1 hx513_2 hx513_3 hHeld ⊢;refine pu 0 43 (bm 13 1) ?_;refine pu 1 44 (bm 13 3) ?_;refine pu 2 45 (bm 13 7) ?_;refine pu 4 47 (bm 13 23) ?_;refine pu 6 49 (bm 13 87) ?_;refine ta 3 46 (bm 13 95) hHeld ?_;refine ta 5 48 (bm 13 127) hHeld ?_;refine pu 7 50 (bm 13 255) ?_;refine pu 8 51 (bm 13 511) ?_;refine ta 9 52 (bm 13 1023) hHeld ?_;refine pu 10 53 (bm 13 2047) ?_;refine pu 11 54 (bm 13 4095) ?_;refine last_ (i:=12) (N:=none) #[true,true,true,true,true,true,true,true,true,true,true,true,true] rfl rfl (one_of HT_.out (by kernel_rfl)) (by decide) (fun K hK=> ?_);refine skip_ (w1:= ?_) (by rfl) rfl ?_ ?_
     rotate_left
     ·go_simp
      rfl
     refine hK.out _ _ ?_;clear hK K;refine done_ (done_of HT_.out (by kernel_rfl)) ?_;try go_wp2
     go_roundg k2
     case measure=>have:=HK1.out;have:=HK2.out;omega
     case rel=>exact⟨(y514),(wrap64 (Xx+1)),(by first|rfl|(simp;done)|(simp[*];done)),H',⟨by have:=HK1.out;have:=HK2.out;omega⟩,⟨kR HQ34⟩,⟨by(with_reducible repeat(first|refine Yl ?_ _|refine Ym ?_|refine Yj ?_ _));refine blk_far ?_ (by have h_:=Kd.R_ne HO_7.out Xu.out (by decide);intro e_;exact h_ (by rw[e_];rfl)) _;(with_reducible repeat(first|refine Yl ?_ _|refine Ym ?_|refine Yj ?_ _));exact Xu.out⟩,⟨by(with_reducible repeat(first|refine Yl ?_ _|refine Ym ?_|refine Yj ?_ _));refine blk_far ?_ (by have h_:=Kd.R_ne HO_7.out BK510.out (by decide);intro e_;exact h_ (by rw[e_];rfl)) _;(with_reducible repeat(first|refine Yl ?_ _|refine Ym ?_|refine Yj ?_ _));exact BK510.out⟩,⟨bl⟩⟩
end P
namespace P
attribute [local go_sem] max2_int min2_int max_two min_two max_three min_three max_four min_four
def ebbtidelaw13_loop.f  :Option (Int × Bool × (List (S50))):=some (3,false,(([(⟨0,1,3,1⟩:S50),(⟨1,2,3,1⟩:S50),(⟨2,1,3,1⟩:S50)]:List (S50))))
set_option maxHeartbeats 8000000 in
set_option maxRecDepth 100000 in
theorem ebbtidelaw13_loop.calls  (r1:Int) (r2:Bool) (r3:List (S50)) (w:World) (h:ebbtidelaw13_loop.f  =some (r1,r2,r3)):
  Calls Try.prog 45 #[] w fun e w'=> ∃ v2_:Value,e= .returned (.agg #[.int .i64 r1, .bool r2,v2_])∧Kd.R k50 50 w' w.heap.size (fun _=>True) v2_ r3∧Below w.heap.size w w':=by
 have hu24:=Try.underlying24;have hu50:=Try.underlying50;have HB:=Ya (Yo w.heap.size w);have H:=h;unfold ebbtidelaw13_loop.f at H;clear h;obtain⟨y516,hy516⟩: ∃ y_:List (S50),y_=(([(⟨0,1,3,1⟩:S50),(⟨1,2,3,1⟩:S50),(⟨2,1,3,1⟩:S50)]:List (S50))):=⟨_,rfl⟩;rw[← hy516] at H;have Ny516:=Ya hy516;clear hy516;simp only[Option.some.injEq,Prod.mk.injEq] at H;obtain⟨rfl,rfl,rfl⟩:=H;go_enter Try.func45,Try.ntmps45;go_wp2_with (first|(refine bx 0 24 #[.int .i64 0, .bool false, .slice none 0 0] ?_;intro gb515 hg w1 Zf hb;have BK515:=Ya (Zf);have GW515:=Ya ((sz hg));have GE515:=Ya ((sz hg));replace HB:=Ya (Yk bl hb);clear hb Zf hg)|((with_reducible refine gate_dst (N:=4) rfl ?_);refine Kd.R_lit k50 _ 50 ?hg (N:=4) ?hd (xs:=([(⟨0,1,3,1⟩:S50),(⟨1,2,3,1⟩:S50),(⟨2,1,3,1⟩:S50)]:List (S50))) (inner:=[.int .i64 0, .int .i64 1, .int .i64 3, .int .i64 1, .int .i64 1, .int .i64 2, .int .i64 3, .int .i64 1, .int .i64 2, .int .i64 1, .int .i64 3, .int .i64 1]) (ok:=fun _=>True) (okp:=fun _=>True) ?hr ?hp (fun _ hk=>hk) trivial (Yo _ _) (Nat.le_refl _) (by simp) ?_;(case hd=>rfl);(case hg=>rfl);(case hr=>first|(go_simp;done)|(go_simp;rfl));(case hp=>exact(Reps.c4 (show Kd.M k50 _ _ _ (⟨0,1,3,1⟩:S50) [.int .i64 0, .int .i64 1, .int .i64 3, .int .i64 1] from(k50_mkM _ _ _ (⟨0,1,3,1⟩:S50) )) (Reps.c4 (show Kd.M k50 _ _ _ (⟨1,2,3,1⟩:S50) [.int .i64 1, .int .i64 2, .int .i64 3, .int .i64 1] from(k50_mkM _ _ _ (⟨1,2,3,1⟩:S50) )) (Reps.c4 (show Kd.M k50 _ _ _ (⟨2,1,3,1⟩:S50) [.int .i64 2, .int .i64 1, .int .i64 3, .int .i64 1] from(k50_mkM _ _ _ (⟨2,1,3,1⟩:S50) )) (Reps.none _ _)))));intro v517 w2 ho3 hb hg_ hnew_;clear hg_ hnew_;(first|rw[← Ny516.out] at ho3|(simp only[Int.reduceToNat] at ho3;rw[← Ny516.out] at ho3));have HO518:=Ya (Kd.R_lower ho3 (Yi bl));replace BK515:=Ya (Yn (bk BK515) hb);replace HB:=Ya (Yk bl hb);clear hb ho3;obtain⟨Ao4,co4,eo4⟩:=Kd.R_slice HO518.out;subst eo4;have hcz5_0:w2.cell? ⟨gb515,0,none⟩=some (.int .i64 0):=bc BK515 0;have hcz5_1:w2.cell? ⟨gb515,1,none⟩=some (.bool false):=bc BK515 1;have hcz5_2:w2.cell? ⟨gb515,2,none⟩=some (.slice none 0 0):=bc BK515 2;have hfz5_0:=Yf BK515.out 0;have hfz5_1:=Yf BK515.out 1;have hfz5_2:=Yf BK515.out 2));refine bodyPost_ret (results_cell_row rfl _ _ gb515 24 #[.int .i64 3, .bool false, .slice Ao4 y516.length co4] (0,0) _ rfl (by(with_reducible repeat(first|refine Yl ?_ _|refine Ym ?_|refine Yj ?_ _));refine YA (cs:= #[.int .i64 3, .bool false, .slice none 0 0]) ?_ 2 _ rfl;(with_reducible repeat(first|refine Yl ?_ _|refine Ym ?_|refine Yj ?_ _));refine YA (cs:= #[.int .i64 3, .bool false, .slice none 0 0]) ?_ 1 _ rfl;(with_reducible repeat(first|refine Yl ?_ _|refine Ym ?_|refine Yj ?_ _));refine YA (cs:= #[.int .i64 0, .bool false, .slice none 0 0]) ?_ 0 _ rfl;(with_reducible repeat(first|refine Yl ?_ _|refine Ym ?_|refine Yj ?_ _));exact BK515.out) Try.underlying24 rfl (by kernel_rfl)) rfl ?_;exact⟨_,by first|rfl|(simp[errW_none,errW_some]<;>rfl)|(simp[*,errW_none,errW_some]<;>rfl),by(with_reducible repeat(first|apply Yr|apply Yq|apply Yp));exact Kd.R_mono (Kd.R_far (p:=⟨gb515,2,none⟩) (Kd.R_far (p:=⟨gb515,1,none⟩) (Kd.R_far (p:=⟨gb515,0,none⟩) (Kd.R_types HO518.out BK515.out (by decide)) (fun _ hk=>hk.2) (.int .i64 3)) (fun _ hk=>hk.2) (.bool false)) (fun _ hk=>hk.2) (.slice Ao4 y516.length co4)) (fun _ hk=>trivial),bl⟩
end P
namespace P
attribute [local go_sem] max2_int min2_int max_two min_two max_three min_three max_four min_four
def ebbtidelaw13_awake.f (k:Nat)  :Option (Bool):=(ebbtidelaw13_loop.f).bind fun bt519=>((decomp_Split.f bt519.1 bt519.2.1 bt519.2.2 0 2 (([1,2,1]:List Int))).bind fun bt527=>((ebbtidelaw13_loop.f).bind fun bt534=>((decomp_Lengths.f k bt534.1 bt534.2.1 bt534.2.2 bt527.1).bind fun bt539=>(if bt527.2.2=0 then(if bt539.2=0 then((ebbtideref13_Same.f k bt527.1 (([(⟨(([0,1]:List Int)),1⟩:S47)]:List (S47)))).bind fun t549=>(if t549=true then((ebbtideref13_Same.f k bt527.2.1 (([(⟨(([1,2]:List Int)),1⟩:S47)]:List (S47)))).bind fun t556=>(if t556=true then((ebbtideref03_SameInts.f k bt539.1 (([2]:List Int))).bind fun t560=>(some t560)) else(some false))) else(some false))) else(some false)) else(some false)))))
theorem ebbtidelaw13_awake.mono: ∀ k,LeO (ebbtidelaw13_awake.f k ) (ebbtidelaw13_awake.f (k+1) ):=by
 intro  k;unfold ebbtidelaw13_awake.f;repeat' first
   |(with_reducible exact decomp_Lengths.mono _ _ _ _ _)
   |(with_reducible exact ebbtideref03_SameInts.mono _ _ _)
   |(with_reducible exact ebbtideref13_Same.mono _ _ _)
   |(with_reducible exact LeO.refl _)
   |(with_reducible exact LeO.none _)
   |(with_reducible refine LeO.ite ?_ ?_)
   |(with_reducible refine LeO.bind ?_ (fun _=> ?_))
   |refine LeO.ite ?_ ?_
   |refine LeO.bind ?_ (fun _=> ?_)
set_option maxHeartbeats 8000000 in
set_option maxRecDepth 100000 in
theorem ebbtidelaw13_awake.calls (k:Nat)  (r:Bool) (w:World) (h:ebbtidelaw13_awake.f k  =some r) (hrT_:r=true:=by first|rfl|exact Aside0.out (by assumption)):
  Calls Try.prog 18 #[] w fun e w'=>e= .returned (.bool r)∧Below w.heap.size w w':=by
 have HRT:=Ya hrT_;clear hrT_;have hu47:=Try.underlying47;have HB:=Ya (Yo w.heap.size w);have H:=h;unfold ebbtidelaw13_awake.f at H;clear h;replace H:=Option.bind_eq_some_iff.mp H;obtain⟨⟨t519,t520,t521⟩,A10,H⟩:=H;dsimp only at H;have A1:=Ya A10;clear A10;obtain⟨y524,hy524⟩: ∃ y_:List Int,y_=(([1,2,1]:List Int)):=⟨_,rfl⟩;rw[← hy524] at H;have Ny524:=Ya hy524;clear hy524;replace H:=Option.bind_eq_some_iff.mp H;obtain⟨⟨t527,t530,t533⟩,A20,H⟩:=H;dsimp only at H;have A2:=Ya A20;clear A20;replace H:=Option.bind_eq_some_iff.mp H;obtain⟨⟨t534,t535,t536⟩,A30,H⟩:=H;dsimp only at H;have A3:=Ya A30;clear A30;replace H:=Option.bind_eq_some_iff.mp H;obtain⟨⟨t539,t542⟩,A40,H⟩:=H;dsimp only at H;have A4:=Ya A40;clear A40;by_cases c5:t533=0
 rotate_left
 ·rw[Yy c5] at H
  exact absurd (Option.some.inj H) (by rw[HRT.out];decide)
 rw[Yx c5] at H;have c5b0:(t533 == 0)=true:=beq_iff_eq.mpr c5;have c5b1:(t533 != 0)=false:=bne_eq_false_iff_eq.mpr c5;clear c5;by_cases c6:t542=0
 rotate_left
 ·rw[Yy c6] at H
  exact absurd (Option.some.inj H) (by rw[HRT.out];decide)
 rw[Yx c6] at H;have c6b0:(t542 == 0)=true:=beq_iff_eq.mpr c6;have c6b1:(t542 != 0)=false:=bne_eq_false_iff_eq.mpr c6;clear c6;obtain⟨y543,hy543⟩: ∃ y_:List Int,y_=(([0,1]:List Int)):=⟨_,rfl⟩;rw[← hy543] at H;have Ny543:=Ya hy543;clear hy543;obtain⟨y546,hy546⟩: ∃ y_:List (S47),y_=(([(⟨y543,1⟩:S47)]:List (S47))):=⟨_,rfl⟩;rw[← hy546] at H;have Ny546:=Ya hy546;clear hy546;replace H:=Option.bind_eq_some_iff.mp H;obtain⟨t549,A70,H⟩:=H;replace H:(if t549=true then((ebbtideref13_Same.f k t530 (([(⟨(([1,2]:List Int)),1⟩:S47)]:List (S47)))).bind fun t556=>(if t556=true then((ebbtideref03_SameInts.f k t539 (([2]:List Int))).bind fun t560=>(some t560)) else(some false))) else(some false))=some r:=H;have A7:=Ya A70;clear A70;by_cases c8:t549=true
 rotate_left
 ·replace c8:=Bool.eq_false_iff.mpr c8
  subst c8;have H1:(some false)=some r:=by rw[Yy (show ¬ (false=true) by decide)] at H;exact H
  exact absurd (Option.some.inj H1) (by rw[HRT.out];decide)
 subst c8;first|rw[Yx rfl] at H|rw[Yx trivial] at H
 obtain⟨y550,hy550⟩: ∃ y_:List Int,y_=(([1,2]:List Int)):=⟨_,rfl⟩;rw[← hy550] at H;have Ny550:=Ya hy550;clear hy550;obtain⟨y553,hy553⟩: ∃ y_:List (S47),y_=(([(⟨y550,1⟩:S47)]:List (S47))):=⟨_,rfl⟩;rw[← hy553] at H;have Ny553:=Ya hy553;clear hy553;replace H:=Option.bind_eq_some_iff.mp H;obtain⟨t556,A90,H⟩:=H;replace H:(if t556=true then((ebbtideref03_SameInts.f k t539 (([2]:List Int))).bind fun t560=>(some t560)) else(some false))=some r:=H;have A9:=Ya A90;clear A90;by_cases c10:t556=true
 rotate_left
 ·replace c10:=Bool.eq_false_iff.mpr c10
  subst c10;have H1:(some false)=some r:=by rw[Yy (show ¬ (false=true) by decide)] at H;exact H
  exact absurd (Option.some.inj H1) (by rw[HRT.out];decide)
 subst c10;first|rw[Yx rfl] at H|rw[Yx trivial] at H
 obtain⟨y557,hy557⟩: ∃ y_:List Int,y_=(([2]:List Int)):=⟨_,rfl⟩;rw[← hy557] at H;have Ny557:=Ya hy557;clear hy557;replace H:=Option.bind_eq_some_iff.mp H;obtain⟨t560,A110,H⟩:=H;replace H:(some t560)=some r:=H;have A11:=Ya A110;clear A110;obtain rfl:=Option.some.inj H;go_enter Try.func18,Try.ntmps18;go_wp2_with (first|((with_reducible refine gate_callee (f:=45) rfl ?_);refine gl (some 7) Try.func45 #[] ?_;(with_reducible refine(ebbtidelaw13_loop.calls  t519 t520 t521 _ A1.out).mono ?_);rintro e w12 ⟨v522,rfl,ho0,hb⟩;refine⟨_,rfl,?_⟩;have Vi:=Ya (Kd.R_lower ho0 (Yi bl));replace HB:=Ya (Yk bl hb);(try clear hb);(try clear ho0))|((with_reducible refine gate_dst (N:=8) rfl ?_);(try (refine gate_guard (by rfl) ?_;dsimp only));refine Kd.R_lit (Kd.int .i64) _ 3 ?hg (N:=8) ?hd (xs:=([1,2,1]:List Int)) (inner:=[.int .i64 1, .int .i64 2, .int .i64 1]) (ok:=fun _=>True) (okp:=fun _=>True) ?hr ?hp (fun _ hk=>hk) trivial (Yo _ _) (Nat.le_refl _) (by simp) ?_;(case hd=>rfl);(case hg=>rfl);(case hr=>first|(go_simp;done)|(go_simp;rfl));(case hp=>exact(Reps.one (show Kd.M (Kd.int .i64) _ _ _ 1 [.int .i64 1] from rfl) (Reps.one (show Kd.M (Kd.int .i64) _ _ _ 2 [.int .i64 2] from rfl) (Reps.one (show Kd.M (Kd.int .i64) _ _ _ 1 [.int .i64 1] from rfl) (Reps.none _ _)))));intro v525 w13 ho14 hb hg_ hnew_;clear hg_ hnew_;(first|rw[← Ny524.out] at ho14|(simp only[Int.reduceToNat] at ho14;rw[← Ny524.out] at ho14));replace Vi:=Ya (Ys (kR Vi) hb);have Vv:=Ya (Kd.R_lower ho14 (Yi bl));replace HB:=Ya (Yk bl hb);clear hb ho14;obtain⟨Ao15,co15,eo15⟩:=Kd.R_slice Vi.out;subst eo15;obtain⟨Ji,Jj,eo16⟩:=Kd.R_slice Vv.out;subst eo16)|((with_reducible refine gate_callee (f:=19) rfl ?_);refine gl (some 9) Try.func19 #[.agg #[.int .i64 t519, .bool t520, .slice Ao15 t521.length co15], .int .i64 0, .int .i64 2, .slice Ji y524.length Jj] ?_;(with_reducible refine(decomp_Split.calls t519 t520 _ _ t521 0 2 _ _ y524 t527 t530 t533 _ ?side1 ?side2 ?side3 ?side4 A2.out).mono ?_);(case side1=>exact kC (Kd.R_reads' Vi.out).2.2);(case side2=>exact(Kd.R_reads' Vi.out).2.1);(case side3=>exact kC (Kd.R_reads' Vv.out).2.2);(case side4=>exact(Kd.R_reads' Vv.out).2.1);rintro e w17 ⟨v528,v531,rfl,ho0,ho1,hb⟩;refine⟨_,rfl,?_⟩;have Ub:=Ya (Kd.N_lower (Kd.N_mono (ok':=fun k_=>some k_≠(v531:Value).ownBlock∧some k_≠(.slice Ao15 t521.length co15:Value).ownBlock∧some k_≠(.slice Ji y524.length Jj:Value).ownBlock) (Kd.S_N (Kd.S_bound ho0)) (fun k_ hk_=>⟨hk_.1,(Kd.fresh' (Kd.R_lt (kR Vi)) k_ hk_.2.1),(Kd.fresh' (Kd.R_lt (kR Vv)) k_ hk_.2.1)⟩)) (Yi bl));have Uw:=Ya (Kd.N_lower (Kd.N_mono (ok':=fun k_=>some k_≠(v528:Value).ownBlock∧some k_≠(.slice Ao15 t521.length co15:Value).ownBlock∧some k_≠(.slice Ji y524.length Jj:Value).ownBlock) (Kd.S_N (Kd.S_bound ho1)) (fun k_ hk_=>⟨hk_.1,(Kd.fresh' (Kd.R_lt (kR Vi)) k_ hk_.2.1),(Kd.fresh' (Kd.R_lt (kR Vv)) k_ hk_.2.1)⟩)) (Yi bl));replace Vi:=Ya (Ys (kR Vi) hb);replace Vv:=Ya (Ys (kR Vv) hb);replace HB:=Ya (Yk bl hb);(try clear hb);(try clear hb2);(try clear hk);(try clear hi);(try clear ho0);(try clear ho1))|((with_reducible refine gate_callee (f:=45) rfl ?_);refine gl (some 14) Try.func45 #[] ?_;(with_reducible refine(ebbtidelaw13_loop.calls  t534 t535 t536 _ A3.out).mono ?_);rintro e w18 ⟨v537,rfl,ho0,hb⟩;refine⟨_,rfl,?_⟩;replace Vv:=Ya (Ys (kR Vv) hb);replace Ub:=Ya (Kd.N_elder' (kN Ub) (Kd.R_base ho0) hb);replace Uw:=Ya (Kd.N_elder' (kN Uw) (Kd.R_base ho0) hb);have Jk:=Ya (Kd.R_lower (Kd.R_new' ho0 (Kd.R_lt (kR Vi))) (Yi bl));replace Vi:=Ya (Kd.R_elder' (kR Vi) (Kd.R_base ho0) hb);replace HB:=Ya (Yk bl hb);(try clear hb);(try clear hb2);(try clear hk);(try clear hi);(try clear ho0);obtain⟨Ao19,co19,eo19⟩:=Kd.R_slice Jk.out;subst eo19;obtain⟨Ao20,co20,eo20⟩:=Kd.N_slice Ub.out;subst eo20)|((with_reducible refine gate_callee (f:=29) rfl ?_);refine gl (some 16) Try.func29 #[.agg #[.int .i64 t534, .bool t535, .slice Ao19 t536.length co19], .slice Ao20 t527.length co20] ?_;(with_reducible refine(decomp_Lengths.calls k t534 t535 _ _ t536 _ _ t527 t539 t542 _ ?side1 ?side2 ?side3 ?side4 A4.out).mono ?_);(case side1=>exact kC (Kd.R_reads' Jk.out).2.2);(case side2=>exact(Kd.R_reads' Jk.out).2.1);(case side3=>exact kC (Kd.N_reads' Ub.out).2.2);(case side4=>exact(Kd.N_reads' Ub.out).2.1);rintro e w21 ⟨v540,rfl,ho0,hb⟩;refine⟨_,rfl,?_⟩;replace Vi:=Ya (Ys (kR Vi) hb);replace Ub:=Ya (Kd.N_elder' (kN Ub) (Kd.R_base ho0) hb);replace Uw:=Ya (Kd.N_elder' (kN Uw) (Kd.R_base ho0) hb);replace Jk:=Ya (Ys (kR Jk) hb);have HO541:=Ya (Kd.R_lower (Kd.R_new' ho0 (Kd.R_lt (kR Vv))) (Yi bl));replace Vv:=Ya (Kd.R_elder' (kR Vv) (Kd.R_base ho0) hb);replace HB:=Ya (Yk bl hb);(try clear hb);(try clear hb2);(try clear hk);(try clear hi);(try clear ho0))|((with_reducible refine gate_dst (N:=27) rfl ?_);(try (refine gate_guard (by rfl) ?_;dsimp only));refine Kd.R_lit (Kd.int .i64) _ 3 ?hg (N:=27) ?hd (xs:=([0,1]:List Int)) (inner:=[.int .i64 0, .int .i64 1]) (ok:=fun _=>True) (okp:=fun _=>True) ?hr ?hp (fun _ hk=>hk) trivial (Yo _ _) (Nat.le_refl _) (by simp) ?_;(case hd=>rfl);(case hg=>rfl);(case hr=>first|(go_simp;done)|(go_simp;rfl));(case hp=>exact(Reps.one (show Kd.M (Kd.int .i64) _ _ _ 0 [.int .i64 0] from rfl) (Reps.one (show Kd.M (Kd.int .i64) _ _ _ 1 [.int .i64 1] from rfl) (Reps.none _ _))));intro v544 w22 ho23 hb hg_ hnew_;clear hg_ hnew_;(first|rw[← Ny543.out] at ho23|(simp only[Int.reduceToNat] at ho23;rw[← Ny543.out] at ho23));replace Vi:=Ya (Ys (kR Vi) hb);replace Ub:=Ya (Kd.N_elder' (kN Ub) (Kd.R_base ho23) hb);replace Uw:=Ya (Kd.N_elder' (kN Uw) (Kd.R_base ho23) hb);replace Jk:=Ya (Ys (kR Jk) hb);have HO545:=Ya (Kd.R_lower (Kd.R_new' (Kd.R_new' ho23 (Kd.R_lt (kR Vv))) (Kd.R_lt (kR HO541))) (Yi bl));replace Vv:=Ya (Kd.R_elder' (kR Vv) (Kd.R_base ho23) hb);replace HO541:=Ya (Kd.R_elder' (kR HO541) (Kd.R_base ho23) hb);replace HB:=Ya (Yk bl hb);clear hb ho23;obtain⟨Ao24,co24,eo24⟩:=Kd.R_slice HO545.out;subst eo24)|((with_reducible refine gate_dst (N:=29) rfl ?_);(try (refine gate_guard (by rfl) ?_;dsimp only));refine Kd.N_lit k47 _ 47 ?hg (N':=29) ?hd (xs:=([(⟨y543,1⟩:S47)]:List (S47))) (inner:=[.slice Ao24 y543.length co24, .int .i64 1]) (ok:=(fun k_=>some k_≠(.slice Ao15 t521.length co15:Value).ownBlock∧some k_≠(.slice Ji y524.length Jj:Value).ownBlock∧some k_≠(.slice Ao20 t527.length co20:Value).ownBlock∧some k_≠(v531:Value).ownBlock∧some k_≠(.slice Ao19 t536.length co19:Value).ownBlock∧some k_≠(v540:Value).ownBlock)) (okp:=(fun k_=>some k_≠(.slice Ao15 t521.length co15:Value).ownBlock∧some k_≠(.slice Ji y524.length Jj:Value).ownBlock∧some k_≠(.slice Ao20 t527.length co20:Value).ownBlock∧some k_≠(v531:Value).ownBlock∧some k_≠(.slice Ao19 t536.length co19:Value).ownBlock∧some k_≠(v540:Value).ownBlock)) ?hr ?hp (fun _ hk=>hk) ((show ∀ k_,w22.heap.size≤k_→(fun k_=>some k_≠(.slice Ao15 t521.length co15:Value).ownBlock∧some k_≠(.slice Ji y524.length Jj:Value).ownBlock∧some k_≠(.slice Ao20 t527.length co20:Value).ownBlock∧some k_≠(v531:Value).ownBlock∧some k_≠(.slice Ao19 t536.length co19:Value).ownBlock∧some k_≠(v540:Value).ownBlock) k_ from fun k_ hk=>⟨Kd.fresh' (Kd.R_lt (kR Vi)) k_ hk,Kd.fresh' (Kd.R_lt (kR Vv)) k_ hk,Kd.fresh' (Kd.N_lt (kN Ub)) k_ hk,Kd.fresh' (Kd.N_lt (kN Uw)) k_ hk,Kd.fresh' (Kd.R_lt (kR Jk)) k_ hk,Kd.fresh' (Kd.R_lt (kR HO541)) k_ hk⟩) _ (Nat.le_refl _)) (Yo _ _) (Nat.le_refl _) (by simp) ?_;(case hd=>rfl);(case hg=>rfl);(case hr=>first|(go_simp;done)|(go_simp;rfl));(case hp=>exact(Reps.c2 (show Kd.FK k47 _ _ (⟨y543,1⟩:S47) [.slice Ao24 y543.length co24, .int .i64 1] from(k47_mkF _ _ (⟨y543,1⟩:S47) (Kd.R_reads' (Kd.R_mono (ok':=(fun k_=>some k_≠(.slice Ao15 t521.length co15:Value).ownBlock∧some k_≠(.slice Ji y524.length Jj:Value).ownBlock∧some k_≠(.slice Ao20 t527.length co20:Value).ownBlock∧some k_≠(v531:Value).ownBlock∧some k_≠(.slice Ao19 t536.length co19:Value).ownBlock∧some k_≠(v540:Value).ownBlock)) (Kd.R_apart' (Kd.R_apart' (Kd.R_apart' (Kd.R_apart' (HO545.out) (Kd.R_typed Vi.out) (by decide)) (Kd.N_typed Ub.out) (by decide)) (Kd.N_typed Uw.out) (by decide)) (Kd.R_typed Jk.out) (by decide)) (fun k_ hk=>⟨hk.1.1.1.2,⟨hk.1.1.1.1.1.2,⟨hk.1.1.2,⟨hk.1.2,⟨hk.2,hk.1.1.1.1.2⟩⟩⟩⟩⟩))).2.1 (Kd.R_F (Kd.R_mono (ok':=(fun k_=>some k_≠(.slice Ao15 t521.length co15:Value).ownBlock∧some k_≠(.slice Ji y524.length Jj:Value).ownBlock∧some k_≠(.slice Ao20 t527.length co20:Value).ownBlock∧some k_≠(v531:Value).ownBlock∧some k_≠(.slice Ao19 t536.length co19:Value).ownBlock∧some k_≠(v540:Value).ownBlock)) (Kd.R_apart' (Kd.R_apart' (Kd.R_apart' (Kd.R_apart' (HO545.out) (Kd.R_typed Vi.out) (by decide)) (Kd.N_typed Ub.out) (by decide)) (Kd.N_typed Uw.out) (by decide)) (Kd.R_typed Jk.out) (by decide)) (fun k_ hk=>⟨hk.1.1.1.2,⟨hk.1.1.1.1.1.2,⟨hk.1.1.2,⟨hk.1.2,⟨hk.2,hk.1.1.1.1.2⟩⟩⟩⟩⟩))))) (Reps.none _ _)));intro v547 w25 ho26 hb hg_ hnew_;clear hg_ hnew_;(first|rw[← Ny546.out] at ho26|(simp only[Int.reduceToNat] at ho26;rw[← Ny546.out] at ho26));replace Vi:=Ya (Ys (kR Vi) hb);replace Vv:=Ya (Ys (kR Vv) hb);replace Ub:=Ya (Kd.N_elder' (kN Ub) (Kd.N_base ho26) hb);replace Uw:=Ya (Kd.N_elder' (kN Uw) (Kd.N_base ho26) hb);replace Jk:=Ya (Ys (kR Jk) hb);replace HO541:=Ya (Ys (kR HO541) hb);have HO548:=Ya (Kd.N_lower ho26 (Yi bl));replace HB:=Ya (Yk bl hb);clear HO545;clear hb ho26;obtain⟨Ao27,co27,eo27⟩:=Kd.N_slice HO548.out;subst eo27)|(go_at_call 26;(with_reducible refine(ebbtideref13_Same.calls k _ _ t527 _ _ y546 true _ ?side1 ?side2 ?side3 ?side4 A7.out).mono ?_);(case side1=>exact kC (Kd.N_reads' Ub.out).2.2);(case side2=>exact(Kd.N_reads' Ub.out).2.1);(case side3=>exact kC (Kd.N_reads' HO548.out).2.2);(case side4=>exact(Kd.N_reads' HO548.out).2.1);rintro e w' ⟨rfl,⟨nd,rfl⟩⟩)|((with_reducible refine gate_dst (N:=34) rfl ?_);(try (refine gate_guard (by rfl) ?_;dsimp only));refine Kd.R_lit (Kd.int .i64) _ 3 ?hg (N:=34) ?hd (xs:=([1,2]:List Int)) (inner:=[.int .i64 1, .int .i64 2]) (ok:=fun _=>True) (okp:=fun _=>True) ?hr ?hp (fun _ hk=>hk) trivial (Yo _ _) (Nat.le_refl _) (by simp) ?_;(case hd=>rfl);(case hg=>rfl);(case hr=>first|(go_simp;done)|(go_simp;rfl));(case hp=>exact(Reps.one (show Kd.M (Kd.int .i64) _ _ _ 1 [.int .i64 1] from rfl) (Reps.one (show Kd.M (Kd.int .i64) _ _ _ 2 [.int .i64 2] from rfl) (Reps.none _ _))));intro v551 w28 ho29 hb hg_ hnew_;clear hg_ hnew_;(first|rw[← Ny550.out] at ho29|(simp only[Int.reduceToNat] at ho29;rw[← Ny550.out] at ho29));replace Vi:=Ya (Ys (kR Vi) hb);replace Ub:=Ya (Kd.N_elder' (kN Ub) (Kd.R_base ho29) hb);replace Uw:=Ya (Kd.N_elder' (kN Uw) (Kd.R_base ho29) hb);replace Jk:=Ya (Ys (kR Jk) hb);replace HO548:=Ya (Kd.N_elder' (kN HO548) (Kd.R_base ho29) hb);have HO552:=Ya (Kd.R_lower (Kd.R_new' (Kd.R_new' ho29 (Kd.R_lt (kR Vv))) (Kd.R_lt (kR HO541))) (Yi bl));replace Vv:=Ya (Kd.R_elder' (kR Vv) (Kd.R_base ho29) hb);replace HO541:=Ya (Kd.R_elder' (kR HO541) (Kd.R_base ho29) hb);replace HB:=Ya (Yk bl hb);clear hb ho29;obtain⟨Ao30,co30,eo30⟩:=Kd.R_slice HO552.out;subst eo30)|((with_reducible refine gate_dst (N:=36) rfl ?_);(try (refine gate_guard (by rfl) ?_;dsimp only));refine Kd.N_lit k47 _ 47 ?hg (N':=36) ?hd (xs:=([(⟨y550,1⟩:S47)]:List (S47))) (inner:=[.slice Ao30 y550.length co30, .int .i64 1]) (ok:=(fun k_=>some k_≠(.slice Ao15 t521.length co15:Value).ownBlock∧some k_≠(.slice Ji y524.length Jj:Value).ownBlock∧some k_≠(.slice Ao20 t527.length co20:Value).ownBlock∧some k_≠(v531:Value).ownBlock∧some k_≠(.slice Ao19 t536.length co19:Value).ownBlock∧some k_≠(v540:Value).ownBlock∧some k_≠(.slice Ao27 y546.length co27:Value).ownBlock)) (okp:=(fun k_=>some k_≠(.slice Ao15 t521.length co15:Value).ownBlock∧some k_≠(.slice Ji y524.length Jj:Value).ownBlock∧some k_≠(.slice Ao20 t527.length co20:Value).ownBlock∧some k_≠(v531:Value).ownBlock∧some k_≠(.slice Ao19 t536.length co19:Value).ownBlock∧some k_≠(v540:Value).ownBlock∧some k_≠(.slice Ao27 y546.length co27:Value).ownBlock)) ?hr ?hp (fun _ hk=>hk) ((show ∀ k_,w28.heap.size≤k_→(fun k_=>some k_≠(.slice Ao15 t521.length co15:Value).ownBlock∧some k_≠(.slice Ji y524.length Jj:Value).ownBlock∧some k_≠(.slice Ao20 t527.length co20:Value).ownBlock∧some k_≠(v531:Value).ownBlock∧some k_≠(.slice Ao19 t536.length co19:Value).ownBlock∧some k_≠(v540:Value).ownBlock∧some k_≠(.slice Ao27 y546.length co27:Value).ownBlock) k_ from fun k_ hk=>⟨Kd.fresh' (Kd.R_lt (kR Vi)) k_ hk,Kd.fresh' (Kd.R_lt (kR Vv)) k_ hk,Kd.fresh' (Kd.N_lt (kN Ub)) k_ hk,Kd.fresh' (Kd.N_lt (kN Uw)) k_ hk,Kd.fresh' (Kd.R_lt (kR Jk)) k_ hk,Kd.fresh' (Kd.R_lt (kR HO541)) k_ hk,Kd.fresh' (Kd.N_lt (kN HO548)) k_ hk⟩) _ (Nat.le_refl _)) (Yo _ _) (Nat.le_refl _) (by simp) ?_;(case hd=>rfl);(case hg=>rfl);(case hr=>first|(go_simp;done)|(go_simp;rfl));(case hp=>exact(Reps.c2 (show Kd.FK k47 _ _ (⟨y550,1⟩:S47) [.slice Ao30 y550.length co30, .int .i64 1] from(k47_mkF _ _ (⟨y550,1⟩:S47) (Kd.R_reads' (Kd.R_mono (ok':=(fun k_=>some k_≠(.slice Ao15 t521.length co15:Value).ownBlock∧some k_≠(.slice Ji y524.length Jj:Value).ownBlock∧some k_≠(.slice Ao20 t527.length co20:Value).ownBlock∧some k_≠(v531:Value).ownBlock∧some k_≠(.slice Ao19 t536.length co19:Value).ownBlock∧some k_≠(v540:Value).ownBlock∧some k_≠(.slice Ao27 y546.length co27:Value).ownBlock)) (Kd.R_apart' (Kd.R_apart' (Kd.R_apart' (Kd.R_apart' (Kd.R_apart' (HO552.out) (Kd.R_typed Vi.out) (by decide)) (Kd.N_typed Ub.out) (by decide)) (Kd.N_typed Uw.out) (by decide)) (Kd.R_typed Jk.out) (by decide)) (Kd.N_typed HO548.out) (by decide)) (fun k_ hk=>⟨hk.1.1.1.1.2,⟨hk.1.1.1.1.1.1.2,⟨hk.1.1.1.2,⟨hk.1.1.2,⟨hk.1.2,⟨hk.1.1.1.1.1.2,hk.2⟩⟩⟩⟩⟩⟩))).2.1 (Kd.R_F (Kd.R_mono (ok':=(fun k_=>some k_≠(.slice Ao15 t521.length co15:Value).ownBlock∧some k_≠(.slice Ji y524.length Jj:Value).ownBlock∧some k_≠(.slice Ao20 t527.length co20:Value).ownBlock∧some k_≠(v531:Value).ownBlock∧some k_≠(.slice Ao19 t536.length co19:Value).ownBlock∧some k_≠(v540:Value).ownBlock∧some k_≠(.slice Ao27 y546.length co27:Value).ownBlock)) (Kd.R_apart' (Kd.R_apart' (Kd.R_apart' (Kd.R_apart' (Kd.R_apart' (HO552.out) (Kd.R_typed Vi.out) (by decide)) (Kd.N_typed Ub.out) (by decide)) (Kd.N_typed Uw.out) (by decide)) (Kd.R_typed Jk.out) (by decide)) (Kd.N_typed HO548.out) (by decide)) (fun k_ hk=>⟨hk.1.1.1.1.2,⟨hk.1.1.1.1.1.1.2,⟨hk.1.1.1.2,⟨hk.1.1.2,⟨hk.1.2,⟨hk.1.1.1.1.1.2,hk.2⟩⟩⟩⟩⟩⟩))))) (Reps.none _ _)));intro v554 w31 ho32 hb hg_ hnew_;clear hg_ hnew_;(first|rw[← Ny553.out] at ho32|(simp only[Int.reduceToNat] at ho32;rw[← Ny553.out] at ho32));replace Vi:=Ya (Ys (kR Vi) hb);replace Vv:=Ya (Ys (kR Vv) hb);replace Ub:=Ya (Kd.N_elder' (kN Ub) (Kd.N_base ho32) hb);replace Uw:=Ya (Kd.N_elder' (kN Uw) (Kd.N_base ho32) hb);replace Jk:=Ya (Ys (kR Jk) hb);replace HO541:=Ya (Ys (kR HO541) hb);replace HO548:=Ya (Kd.N_elder' (kN HO548) (Kd.N_base ho32) hb);have HO555:=Ya (Kd.N_lower ho32 (Yi bl));replace HB:=Ya (Yk bl hb);clear HO552;clear hb ho32;obtain⟨Ao33,co33,eo33⟩:=Kd.N_slice Uw.out;subst eo33;obtain⟨Ao34,co34,eo34⟩:=Kd.N_slice HO555.out;subst eo34)|(go_at_call 26;(with_reducible refine(ebbtideref13_Same.calls k _ _ t530 _ _ y553 true _ ?side1 ?side2 ?side3 ?side4 A9.out).mono ?_);(case side1=>exact kC (Kd.N_reads' Uw.out).2.2);(case side2=>exact(Kd.N_reads' Uw.out).2.1);(case side3=>exact kC (Kd.N_reads' HO555.out).2.2);(case side4=>exact(Kd.N_reads' HO555.out).2.1);rintro e w' ⟨rfl,⟨nd,rfl⟩⟩)|((with_reducible refine gate_dst (N:=41) rfl ?_);(try (refine gate_guard (by rfl) ?_;dsimp only));refine Kd.R_lit (Kd.int .i64) _ 3 ?hg (N:=41) ?hd (xs:=([2]:List Int)) (inner:=[.int .i64 2]) (ok:=fun _=>True) (okp:=fun _=>True) ?hr ?hp (fun _ hk=>hk) trivial (Yo _ _) (Nat.le_refl _) (by simp) ?_;(case hd=>rfl);(case hg=>rfl);(case hr=>first|(go_simp;done)|(go_simp;rfl));(case hp=>exact(Reps.one (show Kd.M (Kd.int .i64) _ _ _ 2 [.int .i64 2] from rfl) (Reps.none _ _)));intro v558 w35 ho36 hb hg_ hnew_;clear hg_ hnew_;(first|rw[← Ny557.out] at ho36|(simp only[Int.reduceToNat] at ho36;rw[← Ny557.out] at ho36));replace Vi:=Ya (Ys (kR Vi) hb);replace Ub:=Ya (Kd.N_elder' (kN Ub) (Kd.R_base ho36) hb);replace Uw:=Ya (Kd.N_elder' (kN Uw) (Kd.R_base ho36) hb);replace Jk:=Ya (Ys (kR Jk) hb);replace HO548:=Ya (Kd.N_elder' (kN HO548) (Kd.R_base ho36) hb);replace HO555:=Ya (Kd.N_elder' (kN HO555) (Kd.R_base ho36) hb);have HO559:=Ya (Kd.R_lower (Kd.R_new' (Kd.R_new' ho36 (Kd.R_lt (kR Vv))) (Kd.R_lt (kR HO541))) (Yi bl));replace Vv:=Ya (Kd.R_elder' (kR Vv) (Kd.R_base ho36) hb);replace HO541:=Ya (Kd.R_elder' (kR HO541) (Kd.R_base ho36) hb);replace HB:=Ya (Yk bl hb);clear hb ho36;obtain⟨Ao37,co37,eo37⟩:=Kd.R_slice HO541.out;subst eo37;obtain⟨Ao38,co38,eo38⟩:=Kd.R_slice HO559.out;subst eo38)|(go_at_call 22;(with_reducible refine(ebbtideref03_SameInts.calls k _ _ t539 _ _ y557 t560 _ ?side1 ?side2 ?side3 ?side4 A11.out).mono ?_);(case side1=>exact kC (Kd.R_reads' HO541.out).2.2);(case side2=>exact(Kd.R_reads' HO541.out).2.1);(case side3=>exact kC (Kd.R_reads' HO559.out).2.2);(case side4=>exact(Kd.R_reads' HO559.out).2.1);rintro e w' ⟨rfl,⟨nd,rfl⟩⟩));go_ret;exact⟨by first|rfl|(simp[errW_none,errW_some]<;>rfl)|(simp[*,errW_none,errW_some]<;>rfl),bl⟩
end P
namespace P
attribute [local go_sem] max2_int min2_int max_two min_two max_three min_three max_four min_four
def ebbtideref13_along.l0:Nat→List Int→List (S79)→Int→Option ((List (S79)))
 |0,_,_,_=>none
 |k+1,x0,x3,x4=>if x4<(x0.length:Int) then(if 0≤x4 then(if (rd x0 x4)>0 then(if x3.length<8796093022208 then(ebbtideref13_along.l0 k x0 (x3 ++ [(⟨x4,false⟩:S79)]) (wrap64 (x4+1))) else(none)) else(ebbtideref13_along.l0 k x0 x3 (wrap64 (x4+1)))) else(none)) else(some x3)
def ebbtideref13_along.f (k:Nat) (l0:List Int):Option ((List (S79))):=ebbtideref13_along.l0 k l0 ([]:List (S79)) 0
set_option maxHeartbeats 8000000 in
set_option maxRecDepth 100000 in
theorem ebbtideref13_along.calls (k:Nat) (A0:Option Addr) (c0:Nat) (l0:List Int) (r:List (S79)) (w:World) (hr0:Kd.C (Kd.int .i64) w A0 l0.length l0) (hc0:l0.length≤c0) (h:ebbtideref13_along.f k l0=some r):
  Calls Try.prog 55 #[.slice A0 l0.length c0] w fun e w'=> ∃ v0_:Value,e= .returned (v0_)∧Kd.R k79 79 w' w.heap.size (fun _=>True) v0_ r∧Below w.heap.size w w':=by
 have hu79:=Try.underlying79;have HR0:=Ya hr0;have HC0:=Ya hc0;clear hr0 hc0;have HB:=Ya (Yo w.heap.size w);have H:=h;unfold ebbtideref13_along.f at H;clear h;have H':=Ya H;clear H;go_enter Try.func55,Try.ntmps55;go_wp2;go_loopg [3,4] k (fun kq v3 v4 w'=> ∃ (x3_1:List (S79)) (Xj:Int),v4= .int .i64 Xj∧Aside0 (ebbtideref13_along.l0 kq l0 x3_1 Xj=some r)∧Aside0 (kq≤k)∧Aside0 (Kd.R k79 79 w' w.heap.size (fun _=>True) v3 x3_1)∧Aside0 (Below w.heap.size w w'))
 case atStart=>exact⟨(([]:List (S79))),(0),(by first|rfl|(simp;done)|(simp[*];done)),H',⟨Nat.le_refl _⟩,⟨by first|exact Kd.R_nil _ _ _ _ _|exact Kd.N_nil _ _ _ _ _|exact Kd.V_nil _ _ _ _ _|exact Kd.Q_nil _ _ _ _ _|exact Kd.S_nil _ _ _ _ _⟩,⟨HB.out⟩⟩
 case round=>
  clear H';obtain⟨x3_1,Xj,rfl,HA,HK1,HO_3,HB⟩:=hrel;cases gk with
  |zero=>exact absurd HA.out (by simp[ebbtideref13_along.l0])
  |succ k1=>
   have H:=HA.out;clear HA;simp only[ebbtideref13_along.l0] at H;by_cases c2:Xj<(l0.length:Int)
   rotate_left
   ·rw[Yy c2] at H
    have c2b0:decide (Xj<(l0.length:Int))=false:=Yw c2;clear c2;obtain rfl:=Option.some.inj H;go_wp2;go_ret;exact⟨_,by first|rfl|(simp[errW_none,errW_some]<;>rfl)|(simp[*,errW_none,errW_some]<;>rfl),by(with_reducible repeat(first|apply Yr|apply Yq|apply Yp));exact HO_3.out,HB.out⟩
   rw[Yx c2] at H;have c2b0:decide (Xj<(l0.length:Int))=true:=Yv c2;clear c2;by_cases c3:0≤Xj
   rotate_left
   ·rw[Yy c3] at H
    exact absurd H (by simp)
   rw[Yx c3] at H;have c3b0:decide (0≤Xj)=true:=Yv c3;clear c3;by_cases c4:(rd l0 Xj)>0
   rotate_left
   ·rw[Yy c4] at H
    have c4b0:decide (0<(rd l0 Xj))=false:=Yw c4;clear c4;have H':=Ya H;clear H;have p575:0≤(Xj:Int):=od;have q575:Xj<(l0.length:Int):=od;obtain⟨ad575,e575,hx575_0⟩:=Kd.at_int HR0.out Xj p575 q575;cases e575;replace hx575_0:=hc HB hx575_0;replace p575:=eq_true p575;replace q575:=eq_true q575;go_wp2;go_roundg k1
    case measure=>have:=HK1.out;omega
    case rel=>exact⟨(x3_1),(wrap64 (Xj+1)),(by first|rfl|(simp;done)|(simp[*];done)),H',⟨by have:=HK1.out;omega⟩,⟨HO_3.out⟩,⟨HB.out⟩⟩
   rw[Yx c4] at H;have c4b0:decide (0<(rd l0 Xj))=true:=Yv c4;clear c4;by_cases c5:x3_1.length<8796093022208
   rotate_left
   ·rw[Yy c5] at H
    exact absurd H (by simp)
   rw[Yx c5] at H;have LMc5:=Ya c5;clear c5;obtain⟨y576,hy576⟩: ∃ y_:List (S79),y_=(x3_1 ++ [(⟨Xj,false⟩:S79)]):=⟨_,rfl⟩;rw[← hy576] at H;have Ny576:=Ya hy576;clear hy576;have H':=Ya H;clear H;have p575:0≤(Xj:Int):=od;have q575:Xj<(l0.length:Int):=od;obtain⟨ad575,e575,hx575_0⟩:=Kd.at_int HR0.out Xj p575 q575;cases e575;replace hx575_0:=hc HB hx575_0;replace p575:=eq_true p575;replace q575:=eq_true q575;go_wp2_with (first|((with_reducible refine gate_builtin (b:= .append) (xs:= #[.tmp 16, .tmp 19]) rfl ?_);at_builtin;refine Kd.R_append k79 (w0:=w) w.heap.size rfl (.tmp 16) (.tmp 19) 67 79 (.agg #[(.int .i64 0),(.bool false)]) 16 rfl Try.underlying67 info79 rfl (by decide) (by omega) u3 x3_1 (⟨Xj,false⟩:S79) [.int .i64 Xj, .bool false] (fun _=>True) (fun _=>False) rfl rfl ?aP (fun _ hk=>hk.elim) ?aF ?aO ?aB ?aS ?aL ?_;(case aP=>exact k79_mkM _ _ _ (⟨Xj,false⟩:S79));(case aB=>exact bl);(case aF=>exact(fun _ _=>trivial));(case aO=>exact(kR HO_3));(case aS=>exact(Yi bl));(case aL=>have:=LMc5.out;omega);intro v577 w6 ho hb hg hat;rw[← Ny576.out] at ho;replace HB:=Ya (hb);have HO578:=Ya (ho);clear HO_3;clear ho hb hg hat));go_roundg k1
   case measure=>have:=HK1.out;omega
   case rel=>exact⟨(y576),(wrap64 (Xj+1)),(by first|rfl|(simp;done)|(simp[*];done)),H',⟨by have:=HK1.out;omega⟩,⟨HO578.out⟩,⟨HB.out⟩⟩
end P
namespace P
attribute [local go_sem] max2_int min2_int max_two min_two max_three min_three max_four min_four
def ebbtideref13_places.l0:Nat→List (S79)→List Int→Int→Option (List Int)
 |0,_,_,_=>none
 |k+1,x0,x3,x4=>if x4<(x0.length:Int) then(if 0≤x4 then(if x3.length<17592186044416 then(ebbtideref13_places.l0 k x0 (x3 ++ [(rd_T79 x0 x4).f0]) (wrap64 (x4+1))) else(none)) else(none)) else(some x3)
def ebbtideref13_places.f (k:Nat) (l0:List (S79)):Option (List Int):=ebbtideref13_places.l0 k l0 ([]:List Int) 0
set_option maxHeartbeats 8000000 in
set_option maxRecDepth 100000 in
theorem ebbtideref13_places.calls (k:Nat) (A0:Option Addr) (c0:Nat) (l0:List (S79)) (r:List Int) (w:World) (hr0:Kd.C k79 w A0 l0.length l0) (hc0:l0.length≤c0) (h:ebbtideref13_places.f k l0=some r):
  Calls Try.prog 56 #[.slice A0 l0.length c0] w fun e w'=> ∃ v0_:Value,e= .returned (v0_)∧Kd.R (Kd.int .i64) 3 w' w.heap.size (fun _=>True) v0_ r∧Below w.heap.size w w':=by
 have HR0:=Ya hr0;have HC0:=Ya hc0;clear hr0 hc0;have HB:=Ya (Yo w.heap.size w);have H:=h;unfold ebbtideref13_places.f at H;clear h;have H':=Ya H;clear H;go_enter Try.func56,Try.ntmps56;go_wp2;go_loopg [3,4] k (fun kq v3 v4 w'=> ∃ (x3_1:List Int) (Xj:Int),v4= .int .i64 Xj∧Aside0 (ebbtideref13_places.l0 kq l0 x3_1 Xj=some r)∧Aside0 (kq≤k)∧Aside0 (Kd.R (Kd.int .i64) 3 w' w.heap.size (fun _=>True) v3 x3_1)∧Aside0 (Below w.heap.size w w'))
 case atStart=>exact⟨(([]:List Int)),(0),(by first|rfl|(simp;done)|(simp[*];done)),H',⟨Nat.le_refl _⟩,⟨by first|exact Kd.R_nil _ _ _ _ _|exact Kd.N_nil _ _ _ _ _|exact Kd.V_nil _ _ _ _ _|exact Kd.Q_nil _ _ _ _ _|exact Kd.S_nil _ _ _ _ _⟩,⟨HB.out⟩⟩
 case round=>
  clear H';obtain⟨x3_1,Xj,rfl,HA,HK1,HO_3,HB⟩:=hrel;cases gk with
  |zero=>exact absurd HA.out (by simp[ebbtideref13_places.l0])
  |succ k1=>
   have H:=HA.out;clear HA;simp only[ebbtideref13_places.l0] at H;by_cases c2:Xj<(l0.length:Int)
   rotate_left
   ·rw[Yy c2] at H
    have c2b0:decide (Xj<(l0.length:Int))=false:=Yw c2;clear c2;obtain rfl:=Option.some.inj H;go_wp2;go_ret;exact⟨_,by first|rfl|(simp[errW_none,errW_some]<;>rfl)|(simp[*,errW_none,errW_some]<;>rfl),by(with_reducible repeat(first|apply Yr|apply Yq|apply Yp));exact HO_3.out,HB.out⟩
   rw[Yx c2] at H;have c2b0:decide (Xj<(l0.length:Int))=true:=Yv c2;clear c2;by_cases c3:0≤Xj
   rotate_left
   ·rw[Yy c3] at H
    exact absurd H (by simp)
   rw[Yx c3] at H;have c3b0:decide (0≤Xj)=true:=Yv c3;clear c3;by_cases c4:x3_1.length<17592186044416
   rotate_left
   ·rw[Yy c4] at H
    exact absurd H (by simp)
   rw[Yx c4] at H;have LMc4:=Ya c4;clear c4;obtain⟨y580,hy580⟩: ∃ y_:List Int,y_=(x3_1 ++ [(rd_T79 l0 Xj).f0]):=⟨_,rfl⟩;rw[← hy580] at H;have Ny580:=Ya hy580;clear hy580;have H':=Ya H;clear H;have p579:0≤(Xj:Int):=od;have q579:Xj<(l0.length:Int):=od;obtain⟨ad579,e579,hx579_0,hx579_1⟩:=at_T79 HR0.out Xj p579 q579;cases e579;replace hx579_0:=hc HB hx579_0;replace hx579_1:=hc HB hx579_1;replace p579:=eq_true p579;replace q579:=eq_true q579;go_wp2_with (first|((with_reducible refine gate_builtin (b:= .append) (xs:= #[.tmp 11, .tmp 17]) rfl ?_);at_builtin;refine Kd.R_append (Kd.int .i64) (w0:=w) w.heap.size rfl (.tmp 11) (.tmp 17) 31 3 (.int .i64 0) 8 rfl Try.underlying31 info3 rfl (by decide) (by omega) u3 x3_1 ((rd_T79 l0 Xj).f0) [.int .i64 ((rd_T79 l0 Xj).f0)] (fun _=>True) (fun _=>False) rfl rfl ?aP (fun _ hk=>hk.elim) ?aF ?aO ?aB ?aS ?aL ?_;(case aP=>exact rfl);(case aB=>exact bl);(case aF=>exact(fun _ _=>trivial));(case aO=>exact(kR HO_3));(case aS=>exact(Yi bl));(case aL=>have:=LMc4.out;omega);intro v581 w5 ho hb hg hat;rw[← Ny580.out] at ho;replace HB:=Ya (hb);have HO582:=Ya (ho);clear HO_3;clear ho hb hg hat));go_roundg k1
   case measure=>have:=HK1.out;omega
   case rel=>exact⟨(y580),(wrap64 (Xj+1)),(by first|rfl|(simp;done)|(simp[*];done)),H',⟨by have:=HK1.out;omega⟩,⟨HO582.out⟩,⟨HB.out⟩⟩
end P
namespace P
attribute [local go_sem] max2_int min2_int max_two min_two max_three min_three max_four min_four
def ebbtideref13_cycle.l0:Nat→List Int→Int→Int→Bool→List (S50)→Option (List Int × Bool)
 |0,_,_,_,_,_=>none
 |k+1,x1,x6,x584000,x584001,x584002=>if x6<(x1.length:Int) then(if 0≤x6 then(if (rd x1 x6)=0 then(ebbtideref13_cycle.l0 k x1 (wrap64 (x6+1)) x584000 x584001 x584002) else(if ([]:List Int).length<17592186044416 then((some (([]:List Int) ++ [x6]:List Int)).bind fun y585=>(if x6<(x584002.length:Int) then(if ((rd_T50 x584002 x6).f0)=((rd_T50 x584002 x6).f1) then(some (y585,true)) else((ebbtideref13_along.f k x1).bind fun t592=>((ebbtideref08_Way.f x584000 x584001 x584002 ((rd_T50 x584002 x6).f1) ((rd_T50 x584002 x6).f0) t592).bind fun bt595=>(if bt595.2=true then((ebbtideref13_places.f k bt595.1).bind fun t599=>(if y585.length+t599.length<17592186044416 then(some ((y585 ++ t599),true)) else(none))) else(ebbtideref13_cycle.l0 k x1 (wrap64 (x6+1)) x584000 x584001 x584002))))) else(none))) else(none))) else(none)) else(some (([]:List Int),false))
def ebbtideref13_cycle.f (k:Nat) (Zc:Int) (Zb:Bool) (Za:List (S50)) (l1:List Int):Option (List Int × Bool):=ebbtideref13_cycle.l0 k l1 0 Zc Zb Za
def ebbtideref13_cycle.T7:Bool × List (List Nat × List Nat):=(true,[([],[]),([0],[0]),([],[]),([1,2],[1,2]),([3],[3]),([4],[4]),([],[]),([6],[6]),([],[]),([7,8],[7,8]),([9],[9]),([10],[10]),([5,11],[5,11])])
def ebbtideref13_cycle.B7:List Nat:=[0,1,0,7,15,31,0,64,0,448,960,1984,4095]
theorem ebbtideref13_cycle.tab7:rtab .any (opsOf Try.f52 7)=ebbtideref13_cycle.T7:=by kernel_rfl
theorem ebbtideref13_cycle.bits7:waitsOk ebbtideref13_cycle.T7.2 ebbtideref13_cycle.B7=true:=by kernel_rfl
def ebbtideref13_cycle.T9:Bool × List (List Nat × List Nat):=(true,[([],[]),([],[]),([1],[1]),([],[]),([2,3],[2,3]),([4],[4]),([5],[5]),([],[]),([7],[7]),([],[]),([8,9],[8,9]),([10],[10]),([11],[11]),([],[]),([13],[13]),([0,6,12,14,14],[0,6,12,14]),([15],[15]),([16],[16]),([16],[16]),([17,15,0,1,2,3,4,5,6,7,8,9,10,11,12,13,14,15,16,17],[17]),([18,19,0,1,2,3,4,5,6,7,8,9,10,11,12,13,14,15,16,17,18,19],[18])])
def ebbtideref13_cycle.B9:List Nat:=[0,0,2,0,14,30,62,0,128,0,896,1920,3968,0,8192,32767,65535,131071,131071,262143,1048575]
theorem ebbtideref13_cycle.tab9:rtab .any (opsOf Try.f52 9)=ebbtideref13_cycle.T9:=by kernel_rfl
theorem ebbtideref13_cycle.bits9:waitsOk ebbtideref13_cycle.T9.2 ebbtideref13_cycle.B9=true:=by kernel_rfl
set_option maxHeartbeats 8000000 in
set_option maxRecDepth 100000 in
theorem ebbtideref13_cycle.calls (k:Nat) (Zc:Int) (Zb:Bool) (Ze:Option Addr) (Zd:Nat) (Za:List (S50)) (A1:Option Addr) (c1:Nat) (l1:List Int) (r1:List Int) (r2:Bool) (w:World) (Zq:Kd.C k50 w Ze Za.length Za) (Zr:Za.length≤Zd) (hr1:Kd.C (Kd.int .i64) w A1 l1.length l1) (hc1:l1.length≤c1) (h:ebbtideref13_cycle.f k Zc Zb Za l1=some (r1,r2)):
  Calls Try.prog 52 #[.agg #[.int .i64 Zc, .bool Zb, .slice Ze Za.length Zd], .slice A1 l1.length c1] w fun e w'=> ∃ v0_:Value,e= .returned (.tuple #[v0_, .bool r2])∧Kd.R (Kd.int .i64) 3 w' w.heap.size (fun _=>True) v0_ r1∧Below w.heap.size w w':=by
 have hu24:=Try.underlying24;have Zk:=Ya Zq;have Zx:=Ya Zr;clear Zq Zr;have HR1:=Ya hr1;have HC1:=Ya hc1;clear hr1 hc1;have HB:=Ya (Yo w.heap.size w);have H:=h;unfold ebbtideref13_cycle.f at H;clear h;have H':=Ya H;clear H;go_enter Try.func52,Try.ntmps52;go_wp2_with (first|(refine bx 2 24 #[.int .i64 Zc, .bool Zb, .slice Ze Za.length Zd] ?_;intro gb583 hg w3 Zf hb;have Xd:=Ya (Zf);have GW583:=Ya (by rw[hg];exact(Yi HB.out):w.heap.size≤gb583);have GE583:=Ya (by rw[hg];exact(Yi HB.out):w.heap.size≤gb583);replace HB:=Ya (Yk HB.out hb);clear hb Zf hg));go_loopg [6] k (fun kq v6 w'=> ∃ (Zi:Int),v6= .int .i64 Zi∧Aside0 (ebbtideref13_cycle.l0 kq l1 Zi Zc Zb Za=some (r1,r2))∧Aside0 (kq≤k)∧Aside0 (w'.heap[gb583]? =some (.cells #[.int .i64 Zc, .bool Zb,(.slice Ze Za.length Zd)] 24 (0,0)))∧Aside0 (Below w.heap.size w w'))
 case atStart=>exact⟨(0),(by first|rfl|(simp;done)|(simp[*];done)),H',⟨Nat.le_refl _⟩,⟨Xd.out⟩,⟨HB.out⟩⟩
 case round=>
  clear H';try clear c1
  obtain⟨Zi,rfl,HA,HK1,Xd,HB⟩:=hrel;cases gk with
  |zero=>exact absurd HA.out (by simp[ebbtideref13_cycle.l0])
  |succ k1=>
   have H:=HA.out;clear HA;simp only[ebbtideref13_cycle.l0] at H;by_cases c4:Zi<(l1.length:Int)
   rotate_left
   ·rw[Yy c4] at H
    have c4b0:decide (Zi<(l1.length:Int))=false:=Yw c4;clear c4;simp only[Option.some.injEq,Prod.mk.injEq] at H;obtain⟨rfl,rfl⟩:=H;go_wp2;go_ret2;exact⟨_,by first|rfl|(simp[errW_none,errW_some]<;>rfl)|(simp[*,errW_none,errW_some]<;>rfl),by first|exact Kd.R_nil _ _ _ _ _|exact Kd.N_nil _ _ _ _ _|exact Kd.V_nil _ _ _ _ _|exact Kd.Q_nil _ _ _ _ _|exact Kd.S_nil _ _ _ _ _,HB.out⟩
   rw[Yx c4] at H;have c4b0:decide (Zi<(l1.length:Int))=true:=Yv c4;clear c4;by_cases c5:0≤Zi
   rotate_left
   ·rw[Yy c5] at H
    exact absurd H (by simp)
   rw[Yx c5] at H;have c5b0:decide (0≤Zi)=true:=Yv c5;clear c5;by_cases c6:(rd l1 Zi)=0
   ·rw[Yx c6] at H
    have c6b0:((rd l1 Zi) == 0)=true:=beq_iff_eq.mpr c6;have c6b1:((rd l1 Zi) != 0)=false:=bne_eq_false_iff_eq.mpr c6;clear c6;have H':=Ya H;clear H;have p584:0≤(Zi:Int):=od;have q584:Zi<(l1.length:Int):=od;obtain⟨ad584,e584,hx584_0⟩:=Kd.at_int HR1.out Zi p584 q584;cases e584;replace hx584_0:=hc HB hx584_0;replace p584:=eq_true p584;replace q584:=eq_true q584;go_wp2;go_roundg k1
    case measure=>have:=HK1.out;omega
    case rel=>exact⟨(wrap64 (Zi+1)),(by first|rfl|(simp;done)|(simp[*];done)),H',⟨by have:=HK1.out;omega⟩,⟨Xd.out⟩,⟨HB.out⟩⟩
   rw[Yy c6] at H;have c6b0:((rd l1 Zi) == 0)=false:=beq_eq_false_iff_ne.mpr c6;have c6b1:((rd l1 Zi) != 0)=true:=bne_iff_ne.mpr c6;by_cases c7:([]:List Int).length<17592186044416
   rotate_left
   ·rw[Yy c7] at H
    exact absurd H (by simp)
   rw[Yx c7] at H;have LMc7:=Ya c7;clear c7;obtain⟨y585,hy585⟩: ∃ y_:List Int,y_=(([]:List Int) ++ [Zi]):=⟨_,rfl⟩;rw[Option.bind_some, ← hy585] at H;have Ny585:=Ya hy585;clear hy585;by_cases c8:Zi<(Za.length:Int)
   rotate_left
   ·rw[Yy c8] at H
    exact absurd H (by simp)
   rw[Yx c8] at H;have c8b0:decide (Zi<(Za.length:Int))=true:=Yv c8;clear c8;by_cases c9:((rd_T50 Za Zi).f0)=((rd_T50 Za Zi).f1)
   ·rw[Yx c9] at H
    have c9b0:(((rd_T50 Za Zi).f0) == ((rd_T50 Za Zi).f1))=true:=beq_iff_eq.mpr c9;have c9b1:(((rd_T50 Za Zi).f0) != ((rd_T50 Za Zi).f1))=false:=bne_eq_false_iff_eq.mpr c9;clear c9;simp only[Option.some.injEq,Prod.mk.injEq] at H;obtain⟨rfl,rfl⟩:=H;have p584:0≤(Zi:Int):=od;have q584:Zi<(l1.length:Int):=od;obtain⟨ad584,e584,hx584_0⟩:=Kd.at_int HR1.out Zi p584 q584;cases e584;replace hx584_0:=hc HB hx584_0;replace p584:=eq_true p584;replace q584:=eq_true q584;try go_wp2_with (first|((with_reducible refine gate_builtin (b:= .append) (xs:= #[.tmp 21, .tmp 23]) rfl ?_);at_builtin;refine Kd.R_append (Kd.int .i64) (w0:=w) w.heap.size rfl (.tmp 21) (.tmp 23) 31 3 (.int .i64 0) 8 rfl Try.underlying31 info3 rfl (by decide) (by omega) (.slice none 0 0) ([]:List Int) Zi [.int .i64 Zi] (fun _=>True) (fun _=>False) rfl rfl ?aP (fun _ hk=>hk.elim) ?aF ?aO ?aB ?aS ?aL ?_;(case aP=>exact rfl);(case aB=>exact HB.out);(case aF=>exact(fun _ _=>trivial));(case aO=>exact((Kd.R_nil _ _ _ _ (fun _=>True))));(case aS=>exact(Yi HB.out));(case aL=>have:=LMc7.out;omega);intro v586 w10 ho hb hg hat;rw[← Ny585.out] at ho;replace Xd:=Ya (blk_grown Xd.out hg (by simp[Value.ownBlock]));replace HB:=Ya (hb);have Ws:=Ya (ho);clear ho hb hg hat))
    replace Ws:=Ya (Yp Ws.out);replace Xd:=Ya (Ym Xd.out);replace HB:=Ya (Yg HB.out);have p588:0≤(Zi:Int):=od;have q588:Zi<(Za.length:Int):=od;obtain⟨Zw,e588,Uk,Ul,Um,Un⟩:=at_T50 Zk.out Zi p588 q588;have hw588_3:=Un;have hw588_2:=Um;have hw588_1:=Ul;have hw588_0:=Uk;cases e588;replace Uk:=hc HB Uk;replace Ul:=hc HB Ul;replace Um:=hc HB Um;replace Un:=hc HB Un;replace p588:=eq_true p588;replace q588:=eq_true q588;have p589:0≤(Zi:Int):=od;have q589:Zi<(Za.length:Int):=od;obtain⟨ad589,e589,Uo,Up,Uq,Ur⟩:=at_T50 Zk.out Zi p589 q589;have hw589_3:=Ur;have hw589_2:=Uq;have hw589_1:=Up;have hw589_0:=Uo;obtain rfl:Zw=ad589:=(by injection e589);replace Uo:=hc HB Uo;replace Up:=hc HB Up;replace Uq:=hc HB Uq;replace Ur:=hc HB Ur;replace p589:=eq_true p589;replace q589:=eq_true q589;refine start_ (n:=13) (S:=fun w'=>w'.cell? ⟨gb583,0,none⟩=some (.int .i64 Zc)∧w'.cell? ⟨gb583,1,none⟩=some (.bool Zb)∧w'.cell? ⟨gb583,2,none⟩=some (.slice (some Zw) Za.length Zd)∧w'.cell? (Zw.add ((Zi).toNat * 4))=some (.int .i64 ((rd_T50 Za Zi).f0))∧w'.cell? ⟨(Zw.add ((Zi).toNat * 4)).block,(Zw.add ((Zi).toNat * 4)).off+1,none⟩=some (.int .i64 ((rd_T50 Za Zi).f1))∧w'.cell? ⟨(Zw.add ((Zi).toNat * 4)).block,(Zw.add ((Zi).toNat * 4)).off+2,none⟩=some (.int .i64 ((rd_T50 Za Zi).f2))∧w'.cell? ⟨(Zw.add ((Zi).toNat * 4)).block,(Zw.add ((Zi).toNat * 4)).off+3,none⟩=some (.int .i64 ((rd_T50 Za Zi).f3))∧w'.cell? (Zw.add ((Zi).toNat * 4))=some (.int .i64 ((rd_T50 Za Zi).f0))∧w'.cell? ⟨(Zw.add ((Zi).toNat * 4)).block,(Zw.add ((Zi).toNat * 4)).off+1,none⟩=some (.int .i64 ((rd_T50 Za Zi).f1))∧w'.cell? ⟨(Zw.add ((Zi).toNat * 4)).block,(Zw.add ((Zi).toNat * 4)).off+2,none⟩=some (.int .i64 ((rd_T50 Za Zi).f2))∧w'.cell? ⟨(Zw.add ((Zi).toNat * 4)).block,(Zw.add ((Zi).toNat * 4)).off+3,none⟩=some (.int .i64 ((rd_T50 Za Zi).f3))) (ds:=[]) #[false,false,false,false,false,false,false,false,false,false,false,false,false] (by kernel_rfl) rfl rfl ⟨(Yc Xd.out 0).trans rfl,(Yc Xd.out 1).trans rfl,(Yc Xd.out 2).trans rfl,((HB.out.cell (Yb w _ hw588_0)).trans hw588_0),((HB.out.cell (Yb w _ hw588_1)).trans hw588_1),((HB.out.cell (Yb w _ hw588_2)).trans hw588_2),((HB.out.cell (Yb w _ hw588_3)).trans hw588_3),((HB.out.cell (Yb w _ hw589_0)).trans hw589_0),((HB.out.cell (Yb w _ hw589_1)).trans hw589_1),((HB.out.cell (Yb w _ hw589_2)).trans hw589_2),((HB.out.cell (Yb w _ hw589_3)).trans hw589_3)⟩ (fun hHeld=> ?_);refine with_tabW ebbtideref13_cycle.tab7 ebbtideref13_cycle.bits7 (fun HT_ HW_=> ?_);generalize w10.drew=w11 at Ws Xd HB Uk Ul Um Un Uo Up Uq Ur hHeld ⊢;refine pu 0 25 (bm 13 1) ?_;refine pu 2 27 (bm 13 5) ?_;refine pu 6 31 (bm 13 69) ?_;refine pu 8 33 (bm 13 325) ?_;refine ta 1 26 (bm 13 327) hHeld ?_;refine pu 3 28 (bm 13 335) ?_;refine pu 4 29 (bm 13 351) ?_;refine ta 5 30 (bm 13 383) hHeld ?_;refine ta 7 32 (bm 13 511) hHeld ?_;refine pu 9 34 (bm 13 1023) ?_;refine pu 10 35 (bm 13 2047) ?_;refine ta 11 36 (bm 13 4095) hHeld ?_;refine pu 12 37 (bm 13 8191) ?_;refine done_ (done_of HT_.out (by kernel_rfl)) ?_;try go_wp2
    go_ret2;exact⟨_,by first|rfl|(simp[errW_none,errW_some]<;>rfl)|(simp[*,errW_none,errW_some]<;>rfl),by(with_reducible repeat(first|apply Yr|apply Yq|apply Yp));exact Ws.out,HB.out⟩
   rw[Yy c9] at H;have c9b0:(((rd_T50 Za Zi).f0) == ((rd_T50 Za Zi).f1))=false:=beq_eq_false_iff_ne.mpr c9;have c9b1:(((rd_T50 Za Zi).f0) != ((rd_T50 Za Zi).f1))=true:=bne_iff_ne.mpr c9;replace H:=Option.bind_eq_some_iff.mp H;obtain⟨t592,A120,H⟩:=H;try dsimp only at H
   have A12:=Ya A120;clear A120;replace H:=Option.bind_eq_some_iff.mp H;obtain⟨⟨t595,t598⟩,A130,H⟩:=H;try dsimp only at H
   have A13:=Ya A130;clear A130;by_cases c14:t598=true
   rotate_left
   ·replace c14:=Bool.eq_false_iff.mpr c14
    subst c14;rw[Yy (show ¬ (false=true) by decide)] at H;have H':=Ya H;clear H;have p584:0≤(Zi:Int):=od;have q584:Zi<(l1.length:Int):=od;obtain⟨ad584,e584,hx584_0⟩:=Kd.at_int HR1.out Zi p584 q584;cases e584;replace hx584_0:=hc HB hx584_0;replace p584:=eq_true p584;replace q584:=eq_true q584;try go_wp2_with (first|((with_reducible refine gate_builtin (b:= .append) (xs:= #[.tmp 21, .tmp 23]) rfl ?_);at_builtin;refine Kd.R_append (Kd.int .i64) (w0:=w) w.heap.size rfl (.tmp 21) (.tmp 23) 31 3 (.int .i64 0) 8 rfl Try.underlying31 info3 rfl (by decide) (by omega) (.slice none 0 0) ([]:List Int) Zi [.int .i64 Zi] (fun _=>True) (fun _=>False) rfl rfl ?aP (fun _ hk=>hk.elim) ?aF ?aO ?aB ?aS ?aL ?_;(case aP=>exact rfl);(case aB=>exact HB.out);(case aF=>exact(fun _ _=>trivial));(case aO=>exact((Kd.R_nil _ _ _ _ (fun _=>True))));(case aS=>exact(Yi HB.out));(case aL=>have:=LMc7.out;omega);intro v586 w27 ho hb hg hat;rw[← Ny585.out] at ho;replace Xd:=Ya (blk_grown Xd.out hg (by simp[Value.ownBlock]));replace HB:=Ya (hb);have Ws:=Ya (ho);clear ho hb hg hat))
    replace Ws:=Ya (Yp Ws.out);replace Xd:=Ya (Ym Xd.out);replace HB:=Ya (Yg HB.out);have p588:0≤(Zi:Int):=od;have q588:Zi<(Za.length:Int):=od;obtain⟨Zw,e588,Uk,Ul,Um,Un⟩:=at_T50 Zk.out Zi p588 q588;have hw588_3:=Un;have hw588_2:=Um;have hw588_1:=Ul;have hw588_0:=Uk;cases e588;replace Uk:=hc HB Uk;replace Ul:=hc HB Ul;replace Um:=hc HB Um;replace Un:=hc HB Un;replace p588:=eq_true p588;replace q588:=eq_true q588;have p589:0≤(Zi:Int):=od;have q589:Zi<(Za.length:Int):=od;obtain⟨ad589,e589,Uo,Up,Uq,Ur⟩:=at_T50 Zk.out Zi p589 q589;have hw589_3:=Ur;have hw589_2:=Uq;have hw589_1:=Up;have hw589_0:=Uo;obtain rfl:Zw=ad589:=(by injection e589);replace Uo:=hc HB Uo;replace Up:=hc HB Up;replace Uq:=hc HB Uq;replace Ur:=hc HB Ur;replace p589:=eq_true p589;replace q589:=eq_true q589;refine start_ (n:=13) (S:=fun w'=>w'.cell? ⟨gb583,0,none⟩=some (.int .i64 Zc)∧w'.cell? ⟨gb583,1,none⟩=some (.bool Zb)∧w'.cell? ⟨gb583,2,none⟩=some (.slice (some Zw) Za.length Zd)∧w'.cell? (Zw.add ((Zi).toNat * 4))=some (.int .i64 ((rd_T50 Za Zi).f0))∧w'.cell? ⟨(Zw.add ((Zi).toNat * 4)).block,(Zw.add ((Zi).toNat * 4)).off+1,none⟩=some (.int .i64 ((rd_T50 Za Zi).f1))∧w'.cell? ⟨(Zw.add ((Zi).toNat * 4)).block,(Zw.add ((Zi).toNat * 4)).off+2,none⟩=some (.int .i64 ((rd_T50 Za Zi).f2))∧w'.cell? ⟨(Zw.add ((Zi).toNat * 4)).block,(Zw.add ((Zi).toNat * 4)).off+3,none⟩=some (.int .i64 ((rd_T50 Za Zi).f3))∧w'.cell? (Zw.add ((Zi).toNat * 4))=some (.int .i64 ((rd_T50 Za Zi).f0))∧w'.cell? ⟨(Zw.add ((Zi).toNat * 4)).block,(Zw.add ((Zi).toNat * 4)).off+1,none⟩=some (.int .i64 ((rd_T50 Za Zi).f1))∧w'.cell? ⟨(Zw.add ((Zi).toNat * 4)).block,(Zw.add ((Zi).toNat * 4)).off+2,none⟩=some (.int .i64 ((rd_T50 Za Zi).f2))∧w'.cell? ⟨(Zw.add ((Zi).toNat * 4)).block,(Zw.add ((Zi).toNat * 4)).off+3,none⟩=some (.int .i64 ((rd_T50 Za Zi).f3))) (ds:=[]) #[false,false,false,false,false,false,false,false,false,false,false,false,false] (by kernel_rfl) rfl rfl ⟨(Yc Xd.out 0).trans rfl,(Yc Xd.out 1).trans rfl,(Yc Xd.out 2).trans rfl,((HB.out.cell (Yb w _ hw588_0)).trans hw588_0),((HB.out.cell (Yb w _ hw588_1)).trans hw588_1),((HB.out.cell (Yb w _ hw588_2)).trans hw588_2),((HB.out.cell (Yb w _ hw588_3)).trans hw588_3),((HB.out.cell (Yb w _ hw589_0)).trans hw589_0),((HB.out.cell (Yb w _ hw589_1)).trans hw589_1),((HB.out.cell (Yb w _ hw589_2)).trans hw589_2),((HB.out.cell (Yb w _ hw589_3)).trans hw589_3)⟩ (fun hHeld=> ?_);refine with_tabW ebbtideref13_cycle.tab7 ebbtideref13_cycle.bits7 (fun HT_ HW_=> ?_);generalize w27.drew=w28 at Ws Xd HB Uk Ul Um Un Uo Up Uq Ur hHeld ⊢;refine pu 0 25 (bm 13 1) ?_;refine pu 2 27 (bm 13 5) ?_;refine pu 6 31 (bm 13 69) ?_;refine pu 8 33 (bm 13 325) ?_;refine ta 1 26 (bm 13 327) hHeld ?_;refine pu 3 28 (bm 13 335) ?_;refine pu 4 29 (bm 13 351) ?_;refine ta 5 30 (bm 13 383) hHeld ?_;refine ta 7 32 (bm 13 511) hHeld ?_;refine pu 9 34 (bm 13 1023) ?_;refine pu 10 35 (bm 13 2047) ?_;refine ta 11 36 (bm 13 4095) hHeld ?_;refine pu 12 37 (bm 13 8191) ?_;refine done_ (done_of HT_.out (by kernel_rfl)) ?_;try go_wp2
    replace Ws:=Ya (Yp Ws.out);replace Xd:=Ya (Ym Xd.out);replace HB:=Ya (Yg HB.out);have p590:0≤(Zi:Int):=od;have q590:Zi<(Za.length:Int):=od;obtain⟨ad590,e590,hx590_0,hx590_1,hx590_2,hx590_3⟩:=at_T50 Zk.out Zi p590 q590;have hw590_3:=hx590_3;have hw590_2:=hx590_2;have hw590_1:=hx590_1;have hw590_0:=hx590_0;obtain rfl:Zw=ad590:=(by injection e590);replace hx590_0:=hc HB hx590_0;replace hx590_1:=hc HB hx590_1;replace hx590_2:=hc HB hx590_2;replace hx590_3:=hc HB hx590_3;replace p590:=eq_true p590;replace q590:=eq_true q590;have p591:0≤(Zi:Int):=od;have q591:Zi<(Za.length:Int):=od;obtain⟨ad591,e591,hx591_0,hx591_1,hx591_2,hx591_3⟩:=at_T50 Zk.out Zi p591 q591;have hw591_3:=hx591_3;have hw591_2:=hx591_2;have hw591_1:=hx591_1;have hw591_0:=hx591_0;obtain rfl:Zw=ad591:=(by injection e591);replace hx591_0:=hc HB hx591_0;replace hx591_1:=hc HB hx591_1;replace hx591_2:=hc HB hx591_2;replace hx591_3:=hc HB hx591_3;replace p591:=eq_true p591;replace q591:=eq_true q591;refine start_ (n:=21) (S:=fun w'=>w'.cell? ⟨gb583,0,none⟩=some (.int .i64 Zc)∧w'.cell? ⟨gb583,1,none⟩=some (.bool Zb)∧w'.cell? ⟨gb583,2,none⟩=some (.slice (some Zw) Za.length Zd)∧w'.cell? (Zw.add ((Zi).toNat * 4))=some (.int .i64 ((rd_T50 Za Zi).f0))∧w'.cell? ⟨(Zw.add ((Zi).toNat * 4)).block,(Zw.add ((Zi).toNat * 4)).off+1,none⟩=some (.int .i64 ((rd_T50 Za Zi).f1))∧w'.cell? ⟨(Zw.add ((Zi).toNat * 4)).block,(Zw.add ((Zi).toNat * 4)).off+2,none⟩=some (.int .i64 ((rd_T50 Za Zi).f2))∧w'.cell? ⟨(Zw.add ((Zi).toNat * 4)).block,(Zw.add ((Zi).toNat * 4)).off+3,none⟩=some (.int .i64 ((rd_T50 Za Zi).f3))∧w'.cell? (Zw.add ((Zi).toNat * 4))=some (.int .i64 ((rd_T50 Za Zi).f0))∧w'.cell? ⟨(Zw.add ((Zi).toNat * 4)).block,(Zw.add ((Zi).toNat * 4)).off+1,none⟩=some (.int .i64 ((rd_T50 Za Zi).f1))∧w'.cell? ⟨(Zw.add ((Zi).toNat * 4)).block,(Zw.add ((Zi).toNat * 4)).off+2,none⟩=some (.int .i64 ((rd_T50 Za Zi).f2))∧w'.cell? ⟨(Zw.add ((Zi).toNat * 4)).block,(Zw.add ((Zi).toNat * 4)).off+3,none⟩=some (.int .i64 ((rd_T50 Za Zi).f3))) (ds:=[]) #[false,false,false,false,false,false,false,false,false,false,false,false,false,false,false,false,false,false,false,false,false] (by kernel_rfl) rfl rfl ⟨(Yc Xd.out 0).trans rfl,(Yc Xd.out 1).trans rfl,(Yc Xd.out 2).trans rfl,((HB.out.cell (Yb w _ hw590_0)).trans hw590_0),((HB.out.cell (Yb w _ hw590_1)).trans hw590_1),((HB.out.cell (Yb w _ hw590_2)).trans hw590_2),((HB.out.cell (Yb w _ hw590_3)).trans hw590_3),((HB.out.cell (Yb w _ hw591_0)).trans hw591_0),((HB.out.cell (Yb w _ hw591_1)).trans hw591_1),((HB.out.cell (Yb w _ hw591_2)).trans hw591_2),((HB.out.cell (Yb w _ hw591_3)).trans hw591_3)⟩ (fun hHeld=> ?_);refine with_tabW ebbtideref13_cycle.tab9 ebbtideref13_cycle.bits9 (fun HT_ HW_=> ?_);generalize w28.drew=w29 at Ws Xd HB hx590_0 hx590_1 hx590_2 hx590_3 hx591_0 hx591_1 hx591_2 hx591_3 hHeld ⊢;refine pu 1 41 (bm 21 2) ?_;refine pu 3 43 (bm 21 10) ?_;refine pu 7 47 (bm 21 138) ?_;refine pu 9 49 (bm 21 650) ?_;refine pu 13 53 (bm 21 8842) ?_;refine ta 0 40 (bm 21 8843) hHeld ?_;refine ta 2 42 (bm 21 8847) hHeld ?_;refine pu 4 44 (bm 21 8863) ?_;refine pu 5 45 (bm 21 8895) ?_;refine ta 6 46 (bm 21 8959) hHeld ?_;refine ta 8 48 (bm 21 9215) hHeld ?_;refine pu 10 50 (bm 21 10239) ?_;refine pu 11 51 (bm 21 12287) ?_;refine ta 12 52 (bm 21 16383) hHeld ?_;refine on 14 (some 54) (bm 21 32767) fun K hK=> ?_
    refine gs Try.func55 #[.slice (some ad584) l1.length c1] ?_
    with_reducible refine(ebbtideref13_along.calls k1 _ _ l1 t592 _ ?side1 ?side2 A12.out).mono ?_
    (case side1=>exact(Yt HR1.out HB.out))
    (case side2=>exact HC1.out)
    rintro e w30 ⟨v593,rfl,ho0,hb⟩;refine⟨_,rfl,?_⟩;replace Ws:=Ya (Ys Ws.out hb);have HO594:=Ya (Kd.R_lower ho0 (Yi HB.out));replace Xd:=Ya (Yn Xd.out hb);replace HB:=Ya (Yk HB.out hb)
    (try clear hb)
    (try clear hb2)
    (try clear hk)
    (try clear hi)
    (try clear ho0)
    obtain⟨Ao31,co31,eo31⟩:=Kd.R_slice HO594.out
    (first|subst eo31|(injection eo31 with f1_ f2_ f3_;have f4_:=f1_.symm;have f5_:=f3_.symm;clear f1_ f2_ f3_;subst f4_;subst f5_))
    refine hK.out _ _ ⟨bc Xd 0,bc Xd 1,bc Xd 2,(hc HB hw590_0),(hc HB hw590_1),(hc HB hw590_2),(hc HB hw590_3),(hc HB hw591_0),(hc HB hw591_1),(hc HB hw591_2),(hc HB hw591_3)⟩ (fun hHeld=> ?_);clear hK K;refine nm ?_;refine on 15 (some 55) (bm 21 65535) fun K hK=> ?_
    refine gs Try.func54 #[.agg #[.int .i64 Zc, .bool Zb, .slice (some Zw) Za.length Zd], .int .i64 ((rd_T50 Za Zi).f1), .int .i64 ((rd_T50 Za Zi).f0), .slice Ao31 t592.length co31] ?_
    with_reducible refine(ebbtideref08_Way.calls Zc Zb _ _ Za ((rd_T50 Za Zi).f1) ((rd_T50 Za Zi).f0) _ _ t592 t595 false _ ?side1 ?side2 ?side3 ?side4 A13.out).mono ?_
    (case side1=>exact(Yt Zk.out HB.out))
    (case side2=>exact Zx.out)
    (case side3=>exact(Kd.R_reads' HO594.out).2.2)
    (case side4=>exact(Kd.R_reads' HO594.out).2.1)
    rintro e w32 ⟨v596,rfl,ho0,hb⟩;refine⟨_,rfl,?_⟩;replace Ws:=Ya (Ys Ws.out hb);have HO597:=Ya (Kd.R_lower (Kd.R_new' ho0 (Kd.R_lt HO594.out)) (Yi HB.out));replace HO594:=Ya (Kd.R_elder' HO594.out (Kd.R_base ho0) hb);replace Xd:=Ya (Yn Xd.out hb);replace HB:=Ya (Yk HB.out hb)
    (try clear hb)
    (try clear hb2)
    (try clear hk)
    (try clear hi)
    (try clear ho0)
    refine hK.out _ _ ⟨bc Xd 0,bc Xd 1,bc Xd 2,(hc HB hw590_0),(hc HB hw590_1),(hc HB hw590_2),(hc HB hw590_3),(hc HB hw591_0),(hc HB hw591_1),(hc HB hw591_2),(hc HB hw591_3)⟩ (fun hHeld=> ?_);clear hK K;refine nm ?_;refine pu 16 39 (bm 21 131071) ?_;refine pu 17 56 (bm 21 262143) ?_;refine pu 18 57 (bm 21 524287) ?_;refine pu 19 8 (bm 21 1048575) ?_;refine pure_ (i:=20) (N:=some 9) (v:= ?_) (a':= ?_) #[true,true,true,true,true,true,true,true,true,true,true,true,true,true,true,true,true,true,true,true,true] rfl rfl (any_of HT_.out (by kernel_rfl)) (fun _ _ _ h=>h) (Or.inl ⟨by rfl,?_⟩) ?_ ?_
    rotate_left
    ·intro w'
     go_simp
     with_reducible rfl
    rotate_left
    ·simp only[Act.put,List.setIfInBounds_toArray,List.set_cons_zero,List.set_cons_succ,i64_w,i32_w]
     rfl
    refine done_ (done_of HT_.out (by kernel_rfl)) ?_;try go_wp2
    go_roundg k1
    case measure=>have:=HK1.out;omega
    case rel=>exact⟨(wrap64 (Zi+1)),(by first|rfl|(simp;done)|(simp[*];done)),H',⟨by have:=HK1.out;omega⟩,⟨Xd.out⟩,⟨HB.out⟩⟩
   subst c14;first|rw[Yx rfl] at H|rw[Yx trivial] at H
   replace H:=Option.bind_eq_some_iff.mp H;obtain⟨t599,A150,H⟩:=H;try dsimp only at H
   have A15:=Ya A150;clear A150;by_cases c16:y585.length+t599.length<17592186044416
   rotate_left
   ·rw[Yy c16] at H
    exact absurd H (by simp)
   rw[Yx c16] at H;have LMc16:=Ya c16;clear c16;obtain⟨y602,hy602⟩: ∃ y_:List Int,y_=(y585 ++ t599):=⟨_,rfl⟩;rw[← hy602] at H;have Ny602:=Ya hy602;clear hy602;simp only[Option.some.injEq,Prod.mk.injEq] at H;obtain⟨rfl,rfl⟩:=H;have p584:0≤(Zi:Int):=od;have q584:Zi<(l1.length:Int):=od;obtain⟨ad584,e584,hx584_0⟩:=Kd.at_int HR1.out Zi p584 q584;cases e584;replace hx584_0:=hc HB hx584_0;replace p584:=eq_true p584;replace q584:=eq_true q584;try go_wp2_with (first|((with_reducible refine gate_builtin (b:= .append) (xs:= #[.tmp 21, .tmp 23]) rfl ?_);at_builtin;refine Kd.R_append (Kd.int .i64) (w0:=w) w.heap.size rfl (.tmp 21) (.tmp 23) 31 3 (.int .i64 0) 8 rfl Try.underlying31 info3 rfl (by decide) (by omega) (.slice none 0 0) ([]:List Int) Zi [.int .i64 Zi] (fun _=>True) (fun _=>False) rfl rfl ?aP (fun _ hk=>hk.elim) ?aF ?aO ?aB ?aS ?aL ?_;(case aP=>exact rfl);(case aB=>exact HB.out);(case aF=>exact(fun _ _=>trivial));(case aO=>exact((Kd.R_nil _ _ _ _ (fun _=>True))));(case aS=>exact(Yi HB.out));(case aL=>have:=LMc7.out;omega);intro v586 w17 ho hb hg hat;rw[← Ny585.out] at ho;replace Xd:=Ya (blk_grown Xd.out hg (by simp[Value.ownBlock]));replace HB:=Ya (hb);have Ws:=Ya (ho);clear ho hb hg hat))
   replace Ws:=Ya (Yp Ws.out);replace Xd:=Ya (Ym Xd.out);replace HB:=Ya (Yg HB.out);have p588:0≤(Zi:Int):=od;have q588:Zi<(Za.length:Int):=od;obtain⟨Zw,e588,Uk,Ul,Um,Un⟩:=at_T50 Zk.out Zi p588 q588;have hw588_3:=Un;have hw588_2:=Um;have hw588_1:=Ul;have hw588_0:=Uk;cases e588;replace Uk:=hc HB Uk;replace Ul:=hc HB Ul;replace Um:=hc HB Um;replace Un:=hc HB Un;replace p588:=eq_true p588;replace q588:=eq_true q588;have p589:0≤(Zi:Int):=od;have q589:Zi<(Za.length:Int):=od;obtain⟨ad589,e589,Uo,Up,Uq,Ur⟩:=at_T50 Zk.out Zi p589 q589;have hw589_3:=Ur;have hw589_2:=Uq;have hw589_1:=Up;have hw589_0:=Uo;obtain rfl:Zw=ad589:=(by injection e589);replace Uo:=hc HB Uo;replace Up:=hc HB Up;replace Uq:=hc HB Uq;replace Ur:=hc HB Ur;replace p589:=eq_true p589;replace q589:=eq_true q589;refine start_ (n:=13) (S:=fun w'=>w'.cell? ⟨gb583,0,none⟩=some (.int .i64 Zc)∧w'.cell? ⟨gb583,1,none⟩=some (.bool Zb)∧w'.cell? ⟨gb583,2,none⟩=some (.slice (some Zw) Za.length Zd)∧w'.cell? (Zw.add ((Zi).toNat * 4))=some (.int .i64 ((rd_T50 Za Zi).f0))∧w'.cell? ⟨(Zw.add ((Zi).toNat * 4)).block,(Zw.add ((Zi).toNat * 4)).off+1,none⟩=some (.int .i64 ((rd_T50 Za Zi).f1))∧w'.cell? ⟨(Zw.add ((Zi).toNat * 4)).block,(Zw.add ((Zi).toNat * 4)).off+2,none⟩=some (.int .i64 ((rd_T50 Za Zi).f2))∧w'.cell? ⟨(Zw.add ((Zi).toNat * 4)).block,(Zw.add ((Zi).toNat * 4)).off+3,none⟩=some (.int .i64 ((rd_T50 Za Zi).f3))∧w'.cell? (Zw.add ((Zi).toNat * 4))=some (.int .i64 ((rd_T50 Za Zi).f0))∧w'.cell? ⟨(Zw.add ((Zi).toNat * 4)).block,(Zw.add ((Zi).toNat * 4)).off+1,none⟩=some (.int .i64 ((rd_T50 Za Zi).f1))∧w'.cell? ⟨(Zw.add ((Zi).toNat * 4)).block,(Zw.add ((Zi).toNat * 4)).off+2,none⟩=some (.int .i64 ((rd_T50 Za Zi).f2))∧w'.cell? ⟨(Zw.add ((Zi).toNat * 4)).block,(Zw.add ((Zi).toNat * 4)).off+3,none⟩=some (.int .i64 ((rd_T50 Za Zi).f3))) (ds:=[]) #[false,false,false,false,false,false,false,false,false,false,false,false,false] (by kernel_rfl) rfl rfl ⟨(Yc Xd.out 0).trans rfl,(Yc Xd.out 1).trans rfl,(Yc Xd.out 2).trans rfl,((HB.out.cell (Yb w _ hw588_0)).trans hw588_0),((HB.out.cell (Yb w _ hw588_1)).trans hw588_1),((HB.out.cell (Yb w _ hw588_2)).trans hw588_2),((HB.out.cell (Yb w _ hw588_3)).trans hw588_3),((HB.out.cell (Yb w _ hw589_0)).trans hw589_0),((HB.out.cell (Yb w _ hw589_1)).trans hw589_1),((HB.out.cell (Yb w _ hw589_2)).trans hw589_2),((HB.out.cell (Yb w _ hw589_3)).trans hw589_3)⟩ (fun hHeld=> ?_);refine with_tabW ebbtideref13_cycle.tab7 ebbtideref13_cycle.bits7 (fun HT_ HW_=> ?_);generalize w17.drew=w18 at Ws Xd HB Uk Ul Um Un Uo Up Uq Ur hHeld ⊢;refine pu 0 25 (bm 13 1) ?_;refine pu 2 27 (bm 13 5) ?_;refine pu 6 31 (bm 13 69) ?_;refine pu 8 33 (bm 13 325) ?_;refine ta 1 26 (bm 13 327) hHeld ?_;refine pu 3 28 (bm 13 335) ?_;refine pu 4 29 (bm 13 351) ?_;refine ta 5 30 (bm 13 383) hHeld ?_;refine ta 7 32 (bm 13 511) hHeld ?_;refine pu 9 34 (bm 13 1023) ?_;refine pu 10 35 (bm 13 2047) ?_;refine ta 11 36 (bm 13 4095) hHeld ?_;refine pu 12 37 (bm 13 8191) ?_;refine done_ (done_of HT_.out (by kernel_rfl)) ?_;try go_wp2
   replace Ws:=Ya (Yp Ws.out);replace Xd:=Ya (Ym Xd.out);replace HB:=Ya (Yg HB.out);have p590:0≤(Zi:Int):=od;have q590:Zi<(Za.length:Int):=od;obtain⟨ad590,e590,hx590_0,hx590_1,hx590_2,hx590_3⟩:=at_T50 Zk.out Zi p590 q590;have hw590_3:=hx590_3;have hw590_2:=hx590_2;have hw590_1:=hx590_1;have hw590_0:=hx590_0;obtain rfl:Zw=ad590:=(by injection e590);replace hx590_0:=hc HB hx590_0;replace hx590_1:=hc HB hx590_1;replace hx590_2:=hc HB hx590_2;replace hx590_3:=hc HB hx590_3;replace p590:=eq_true p590;replace q590:=eq_true q590;have p591:0≤(Zi:Int):=od;have q591:Zi<(Za.length:Int):=od;obtain⟨ad591,e591,hx591_0,hx591_1,hx591_2,hx591_3⟩:=at_T50 Zk.out Zi p591 q591;have hw591_3:=hx591_3;have hw591_2:=hx591_2;have hw591_1:=hx591_1;have hw591_0:=hx591_0;obtain rfl:Zw=ad591:=(by injection e591);replace hx591_0:=hc HB hx591_0;replace hx591_1:=hc HB hx591_1;replace hx591_2:=hc HB hx591_2;replace hx591_3:=hc HB hx591_3;replace p591:=eq_true p591;replace q591:=eq_true q591;refine start_ (n:=21) (S:=fun w'=>w'.cell? ⟨gb583,0,none⟩=some (.int .i64 Zc)∧w'.cell? ⟨gb583,1,none⟩=some (.bool Zb)∧w'.cell? ⟨gb583,2,none⟩=some (.slice (some Zw) Za.length Zd)∧w'.cell? (Zw.add ((Zi).toNat * 4))=some (.int .i64 ((rd_T50 Za Zi).f0))∧w'.cell? ⟨(Zw.add ((Zi).toNat * 4)).block,(Zw.add ((Zi).toNat * 4)).off+1,none⟩=some (.int .i64 ((rd_T50 Za Zi).f1))∧w'.cell? ⟨(Zw.add ((Zi).toNat * 4)).block,(Zw.add ((Zi).toNat * 4)).off+2,none⟩=some (.int .i64 ((rd_T50 Za Zi).f2))∧w'.cell? ⟨(Zw.add ((Zi).toNat * 4)).block,(Zw.add ((Zi).toNat * 4)).off+3,none⟩=some (.int .i64 ((rd_T50 Za Zi).f3))∧w'.cell? (Zw.add ((Zi).toNat * 4))=some (.int .i64 ((rd_T50 Za Zi).f0))∧w'.cell? ⟨(Zw.add ((Zi).toNat * 4)).block,(Zw.add ((Zi).toNat * 4)).off+1,none⟩=some (.int .i64 ((rd_T50 Za Zi).f1))∧w'.cell? ⟨(Zw.add ((Zi).toNat * 4)).block,(Zw.add ((Zi).toNat * 4)).off+2,none⟩=some (.int .i64 ((rd_T50 Za Zi).f2))∧w'.cell? ⟨(Zw.add ((Zi).toNat * 4)).block,(Zw.add ((Zi).toNat * 4)).off+3,none⟩=some (.int .i64 ((rd_T50 Za Zi).f3))) (ds:=[]) #[false,false,false,false,false,false,false,false,false,false,false,false,false,false,false,false,false,false,false,false,false] (by kernel_rfl) rfl rfl ⟨(Yc Xd.out 0).trans rfl,(Yc Xd.out 1).trans rfl,(Yc Xd.out 2).trans rfl,((HB.out.cell (Yb w _ hw590_0)).trans hw590_0),((HB.out.cell (Yb w _ hw590_1)).trans hw590_1),((HB.out.cell (Yb w _ hw590_2)).trans hw590_2),((HB.out.cell (Yb w _ hw590_3)).trans hw590_3),((HB.out.cell (Yb w _ hw591_0)).trans hw591_0),((HB.out.cell (Yb w _ hw591_1)).trans hw591_1),((HB.out.cell (Yb w _ hw591_2)).trans hw591_2),((HB.out.cell (Yb w _ hw591_3)).trans hw591_3)⟩ (fun hHeld=> ?_);refine with_tabW ebbtideref13_cycle.tab9 ebbtideref13_cycle.bits9 (fun HT_ HW_=> ?_);generalize w18.drew=w19 at Ws Xd HB hx590_0 hx590_1 hx590_2 hx590_3 hx591_0 hx591_1 hx591_2 hx591_3 hHeld ⊢;refine pu 1 41 (bm 21 2) ?_;refine pu 3 43 (bm 21 10) ?_;refine pu 7 47 (bm 21 138) ?_;refine pu 9 49 (bm 21 650) ?_;refine pu 13 53 (bm 21 8842) ?_;refine ta 0 40 (bm 21 8843) hHeld ?_;refine ta 2 42 (bm 21 8847) hHeld ?_;refine pu 4 44 (bm 21 8863) ?_;refine pu 5 45 (bm 21 8895) ?_;refine ta 6 46 (bm 21 8959) hHeld ?_;refine ta 8 48 (bm 21 9215) hHeld ?_;refine pu 10 50 (bm 21 10239) ?_;refine pu 11 51 (bm 21 12287) ?_;refine ta 12 52 (bm 21 16383) hHeld ?_;refine on 14 (some 54) (bm 21 32767) fun K hK=> ?_
   refine gs Try.func55 #[.slice (some ad584) l1.length c1] ?_
   with_reducible refine(ebbtideref13_along.calls k1 _ _ l1 t592 _ ?side1 ?side2 A12.out).mono ?_
   (case side1=>exact(Yt HR1.out HB.out))
   (case side2=>exact HC1.out)
   rintro e w20 ⟨v593,rfl,ho0,hb⟩;refine⟨_,rfl,?_⟩;replace Ws:=Ya (Ys Ws.out hb);have HO594:=Ya (Kd.R_lower ho0 (Yi HB.out));replace Xd:=Ya (Yn Xd.out hb);replace HB:=Ya (Yk HB.out hb)
   (try clear hb)
   (try clear hb2)
   (try clear hk)
   (try clear hi)
   (try clear ho0)
   obtain⟨Ao21,co21,eo21⟩:=Kd.R_slice HO594.out
   (first|subst eo21|(injection eo21 with f1_ f2_ f3_;have f4_:=f1_.symm;have f5_:=f3_.symm;clear f1_ f2_ f3_;subst f4_;subst f5_))
   refine hK.out _ _ ⟨bc Xd 0,bc Xd 1,bc Xd 2,(hc HB hw590_0),(hc HB hw590_1),(hc HB hw590_2),(hc HB hw590_3),(hc HB hw591_0),(hc HB hw591_1),(hc HB hw591_2),(hc HB hw591_3)⟩ (fun hHeld=> ?_);clear hK K;refine nm ?_;refine on 15 (some 55) (bm 21 65535) fun K hK=> ?_
   refine gs Try.func54 #[.agg #[.int .i64 Zc, .bool Zb, .slice (some Zw) Za.length Zd], .int .i64 ((rd_T50 Za Zi).f1), .int .i64 ((rd_T50 Za Zi).f0), .slice Ao21 t592.length co21] ?_
   with_reducible refine(ebbtideref08_Way.calls Zc Zb _ _ Za ((rd_T50 Za Zi).f1) ((rd_T50 Za Zi).f0) _ _ t592 t595 true _ ?side1 ?side2 ?side3 ?side4 A13.out).mono ?_
   (case side1=>exact(Yt Zk.out HB.out))
   (case side2=>exact Zx.out)
   (case side3=>exact(Kd.R_reads' HO594.out).2.2)
   (case side4=>exact(Kd.R_reads' HO594.out).2.1)
   rintro e w22 ⟨v596,rfl,ho0,hb⟩;refine⟨_,rfl,?_⟩;replace Ws:=Ya (Ys Ws.out hb);have HO597:=Ya (Kd.R_lower (Kd.R_new' ho0 (Kd.R_lt HO594.out)) (Yi HB.out));replace HO594:=Ya (Kd.R_elder' HO594.out (Kd.R_base ho0) hb);replace Xd:=Ya (Yn Xd.out hb);replace HB:=Ya (Yk HB.out hb)
   (try clear hb)
   (try clear hb2)
   (try clear hk)
   (try clear hi)
   (try clear ho0)
   refine hK.out _ _ ⟨bc Xd 0,bc Xd 1,bc Xd 2,(hc HB hw590_0),(hc HB hw590_1),(hc HB hw590_2),(hc HB hw590_3),(hc HB hw591_0),(hc HB hw591_1),(hc HB hw591_2),(hc HB hw591_3)⟩ (fun hHeld=> ?_);clear hK K;refine nm ?_;refine pu 16 39 (bm 21 131071) ?_;refine pu 17 56 (bm 21 262143) ?_;refine pu 18 57 (bm 21 524287) ?_;refine pu 19 8 (bm 21 1048575) ?_;refine pu 20 9 (bm 21 2097151) ?_;refine done_ (done_of HT_.out (by kernel_rfl)) ?_;obtain⟨Ao23,co23,eo23⟩:=Kd.R_slice HO597.out;subst eo23;try go_wp2_with (first|((with_reducible refine gate_callee (f:=56) rfl ?_);refine gl (some 61) Try.func56 #[.slice Ao23 t595.length co23] ?_;(with_reducible refine(ebbtideref13_places.calls k1 _ _ t595 t599 _ ?side1 ?side2 A15.out).mono ?_);(case side1=>exact kC (Kd.R_reads' HO597.out).2.2);(case side2=>exact(Kd.R_reads' HO597.out).2.1);rintro e w24 ⟨v600,rfl,ho0,hb⟩;refine⟨_,rfl,?_⟩;replace HO594:=Ya (Ys HO594.out hb);replace HO597:=Ya (Ys HO597.out hb);have HO601:=Ya (Kd.R_lower (Kd.R_new' ho0 (Kd.R_lt Ws.out)) (Yi HB.out));replace Ws:=Ya (Kd.R_elder' Ws.out (Kd.R_base ho0) hb);replace Xd:=Ya (Yn Xd.out hb);replace HB:=Ya (Yk HB.out hb);(try clear hb);(try clear ho0);obtain⟨Ao26,co26,eo26⟩:=Kd.R_slice HO601.out;subst eo26)|((with_reducible refine gate_builtin (b:= .append) (xs:= #[.tmp 59, .tmp 61]) rfl ?_);at_builtin;refine Kd.R_append_rows (Kd.int .i64) (w0:=w) w.heap.size rfl (.tmp 59) (.tmp 61) 31 3 (.int .i64 0) 8 rfl Try.underlying31 info3 rfl (by decide) (by omega) v586 y585 t599 _ _ _ (fun k_=>some k_≠(.slice Ao26 t599.length co26:Value).ownBlock) (fun _=>False) rfl rfl ?aO ?aR (fun _ _ h=>h) (fun _ h=>h.elim) ?aF ?aB ?aS ?aL ?_;(case aR=>repeat(first|exact(Kd.R_reads' HO601.out).2.2|(with_reducible refine Kd.C_alloc ?_ _)|(with_reducible refine Kd.C_drewN ?_ _)|(with_reducible refine Kd.C_drew ?_)));(case aB=>exact HB.out);(case aF=>exact(fun k_ hk=>Kd.fresh' (Kd.R_lt HO601.out) k_ hk));(case aO=>exact(by(with_reducible repeat(first|apply Yr|apply Yq|apply Yp));exact Kd.R_mono Ws.out (fun _ hk=>hk.2)));(case aS=>exact(Yi HB.out));(case aL=>have:=LMc16.out;omega);intro v603 w25 ho hb hg hat;rw[← Ny602.out] at ho;replace Xd:=Ya (blk_grown Xd.out hg (Kd.R_ne Ws.out Xd.out (by decide)));replace HO594:=Ya (Kd.R_over' HO594.out (Kd.R_typed Ws.out) (by decide) hg);replace HO597:=Ya (Kd.R_over' HO597.out (Kd.R_typed Ws.out) (by decide) hg);replace HO601:=Ya (Kd.R_after (ok:=(fun _=>True)) HO601.out hg hat);replace HB:=Ya (hb);have HO604:=Ya (ho);clear Ws;clear ho hb hg hat))
   go_ret2;exact⟨_,by first|rfl|(simp[errW_none,errW_some]<;>rfl)|(simp[*,errW_none,errW_some]<;>rfl),by(with_reducible repeat(first|apply Yr|apply Yq|apply Yp));exact Kd.R_mono HO604.out (fun _ hk=>trivial),HB.out⟩
end P
namespace P
attribute [local go_sem] max2_int min2_int max_two min_two max_three min_three max_four min_four
mutual
def ebbtideref13_taken.l0:Nat→List Int→List Int→Int→Int→Option (List Int × Int × List Int)
 |0,_,_,_,_=>none
 |k+1,x0,x1,x6,x7=>if x7<(x1.length:Int) then(if 0≤x7 then(if 0≤(rd x1 x7) then(if (rd x1 x7)<(x0.length:Int) then(ebbtideref13_taken.l0 k x0 x1 (mn x6 (rd x0 (rd x1 x7))) (wrap64 (x7+1))) else(none)) else(none)) else(none)) else(if ([]:List Int).length+x0.length<17592186044416 then(ebbtideref13_taken.l1 k x1 x6 (([]:List Int) ++ x0) 0) else(none))
def ebbtideref13_taken.l1:Nat→List Int→Int→List Int→Int→Option (List Int × Int × List Int)
 |0,_,_,_,_=>none
 |k+1,x1,x6,x8,x9=>if x9<(x1.length:Int) then(if 0≤x9 then(if 0≤(rd x1 x9) then(if (rd x1 x9)<(x8.length:Int) then(ebbtideref13_taken.l1 k x1 x6 (x8.set ((rd x1 x9):Int).toNat (wrap64 ((rd x8 (rd x1 x9)) - x6))) (wrap64 (x9+1))) else(none)) else(none)) else(none)) else(some (x1,x6,x8))
end
def ebbtideref13_taken.f (k:Nat) (l0:List Int) (l1:List Int):Option (List Int × Int × List Int):=if 0<(l1.length:Int) then(if 0≤(rd l1 0) then(if (rd l1 0)<(l0.length:Int) then(ebbtideref13_taken.l0 k l0 l1 (rd l0 (rd l1 0)) 1) else(none)) else(none)) else(none)
def ebbtideref13_taken.T11:Bool × List (List Nat × List Nat):=(true,[([],[]),([],[]),([],[]),([1,2],[1,2]),([3],[3]),([],[]),([],[]),([],[]),([6,7],[6,7]),([8],[8]),([5,9],[5,9]),([10],[10]),([],[]),([11,12],[11,12]),([0,4,0,1,2,3,4,5,6,7,8,9,10,11,12,13],[0,4]),([14,13,0,1,2,3,4,5,6,7,8,9,10,11,12,13],[13,14])])
def ebbtideref13_taken.B11:List Nat:=[0,0,0,6,14,0,0,0,192,448,992,2016,0,8160,16383,32767]
theorem ebbtideref13_taken.tab11:rtab .any (opsOf Try.f53 11)=ebbtideref13_taken.T11:=by kernel_rfl
theorem ebbtideref13_taken.bits11:waitsOk ebbtideref13_taken.T11.2 ebbtideref13_taken.B11=true:=by kernel_rfl
set_option maxHeartbeats 8000000 in
set_option maxRecDepth 100000 in
theorem ebbtideref13_taken.calls (k:Nat) (A0:Option Addr) (c0:Nat) (l0:List Int) (P1_:Nat→Prop) (u9000_:Value) (l1:List Int) (r1:List Int) (r2:Int) (r3:List Int) (w0 w:World) (hB:Below w0.heap.size w0 w) (hr0: ∀ W_,Kept w W_ (fun k_=>P1_ k_)→Kd.C (Kd.int .i64) W_ A0 l0.length l0) (hc0:l0.length≤c0) (ho1:Kd.R (Kd.int .i64) 3 w w0.heap.size P1_ u9000_ l1) (h:ebbtideref13_taken.f k l0 l1=some (r1,r2,r3)):
  Calls Try.prog 53 #[.slice A0 l0.length c0,u9000_] w fun e w'=> ∃ v0_ v2_:Value,e= .returned (.tuple #[.agg #[v0_, .int .i64 r2],v2_])∧Kd.R (Kd.int .i64) 3 w' w0.heap.size (fun k_=>(P1_ k_∨w.heap.size≤k_)∧some k_≠(v2_:Value).ownBlock) v0_ r1∧Kd.R (Kd.int .i64) 3 w' w0.heap.size (fun k_=>(P1_ k_∨w.heap.size≤k_)∧some k_≠(v0_:Value).ownBlock) v2_ r3∧Below w0.heap.size w0 w'∧Kept w w' (fun k_=>P1_ k_):=by
 have hu47:=Try.underlying47;have HR0:=Ya hr0;have HC0:=Ya hc0;clear hr0 hc0;have HO1:=Ya (show Kd.R (Kd.int .i64) 3 w w0.heap.size (fun k_=>(P1_ k_∨w.heap.size≤k_)) u9000_ l1 from Kd.R_mono ho1 (fun k_ hk=>(.inl hk)));have HK:=Ya (Kept.refl w (fun k_=>P1_ k_));have HW0:=Ya hB.size;have HB:=Ya hB;clear hB;have H:=h;unfold ebbtideref13_taken.f at H;clear h;by_cases c3:0<(l1.length:Int)
 rotate_left
 ·rw[Yy c3] at H
  exact absurd H (by simp)
 rw[Yx c3] at H;have c3b0:decide (0<(l1.length:Int))=true:=Yv c3;have c3b1:decide (0<l1.length)=true:=Yv (by omega);clear c3;by_cases c4:0≤(rd l1 0)
 rotate_left
 ·rw[Yy c4] at H
  exact absurd H (by simp)
 rw[Yx c4] at H;have c4b0:decide (0≤(rd l1 0))=true:=Yv c4;clear c4;by_cases c5:(rd l1 0)<(l0.length:Int)
 rotate_left
 ·rw[Yy c5] at H
  exact absurd H (by simp)
 rw[Yx c5] at H;have c5b0:decide ((rd l1 0)<(l0.length:Int))=true:=Yv c5;clear c5;have H':=Ya H;clear H;go_enter Try.func53,Try.ntmps53;go_wp2_with (first|(refine bx 4 47 #[.slice none 0 0, .int .i64 0] ?_;intro gb605 hg w6 Zf hb;replace HO1:=Ya (Ys HO1.out hb);have BK605:=Ya (Zf);have GW605:=Ya ((by rw[hg];exact(by first|exact HK.out.1|exact(show Kept w _ (fun k_=>P1_ k_) from by repeat(first|(with_reducible first|exact HK.out|apply Kept.alloc|apply Kept.drewN|apply Kept.drew)|exact HK.out)).1):w.heap.size≤gb605));replace HK:=Ya (Kept.below (S:=(fun k_=>P1_ k_)) (by repeat(first|(with_reducible first|exact HK.out|apply Kept.alloc|apply Kept.drewN|apply Kept.drew)|exact HK.out)) hb);have GE605:=Ya (by rw[hg];exact(Yi HB.out):w0.heap.size≤gb605);replace HB:=Ya (Yk HB.out hb);clear hb Zf hg;obtain⟨Ao7,co7,eo7⟩:=Kd.R_slice HO1.out;subst eo7;have p606:0≤(0:Int):=(by omega);have q606:0<(l1.length:Int):=od;obtain⟨ad606,e606,hx606_0⟩:=Kd.at_int (Kd.R_reads' HO1.out).2.2 0 p606 q606;cases e606;have qi606:(0<l1.length)=True:=eq_true (by omega);(try rw[show ((0:Int)).toNat=0 from rfl] at hx606_0);(try rw[Addr.add_zero'] at hx606_0);replace p606:=eq_true p606;replace q606:=eq_true q606;have p607:0≤((rd l1 0):Int):=od;have q607:(rd l1 0)<(l0.length:Int):=od;obtain⟨ad607,e607,hx607_0⟩:=Kd.at_int (Kd.C_kept_now HR0.out HK.out) (rd l1 0) p607 q607;cases e607;replace p607:=eq_true p607;replace q607:=eq_true q607));go_loopg [6,7] k (fun kq v6 v7 w'=> ∃ (Zi:Int) (Xz:Int),v6= .int .i64 Zi∧v7= .int .i64 Xz∧Aside0 (ebbtideref13_taken.l0 kq l0 l1 Zi Xz=some (r1,r2,r3))∧Aside0 (kq≤k)∧Aside0 (Kd.R (Kd.int .i64) 3 w' w0.heap.size (fun k_=>(P1_ k_∨w.heap.size≤k_)) (.slice (some ad606) l1.length co7) l1)∧Aside0 (w'.heap[gb605]? =some (.cells #[(.slice none 0 0), .int .i64 0] 47 (0,0)))∧Aside0 (Kept w w' (fun k_=>P1_ k_))∧Aside0 (Below w0.heap.size w0 w'))
 case atStart=>exact⟨(rd l0 (rd l1 0)),(1),(by first|rfl|(simp;done)|(simp[*];done)),(by first|rfl|(simp;done)|(simp[*];done)),H',⟨Nat.le_refl _⟩,⟨HO1.out⟩,⟨BK605.out⟩,⟨by repeat(first|(with_reducible first|exact HK.out|apply Kept.alloc|apply Kept.drewN|apply Kept.drew|refine Kept.setCell ?_ (.inr GW605.out) _)|exact HK.out)⟩,⟨HB.out⟩⟩
 case round=>
  clear H';try clear c3
  try clear c3b0
  try clear c3b1
  try clear c4
  try clear c4b0
  try clear c5
  try clear c5b0
  try clear hx606_0
  try clear hx607_0
  try clear p606
  try clear p607
  try clear q606
  try clear q607
  obtain⟨Zi,Xz,rfl,rfl,HA,HK1,HO_1,BK605,HK,HB⟩:=hrel;cases gk with
  |zero=>exact absurd HA.out (by simp[ebbtideref13_taken.l0])
  |succ k1=>
   have H:=HA.out;clear HA;simp only[ebbtideref13_taken.l0] at H;by_cases c8:Xz<(l1.length:Int)
   ·rw[Yx c8] at H
    have c8b0:decide (Xz<(l1.length:Int))=true:=Yv c8;clear c8;by_cases c9:0≤Xz
    rotate_left
    ·rw[Yy c9] at H
     exact absurd H (by simp)
    rw[Yx c9] at H;have c9b0:decide (0≤Xz)=true:=Yv c9;clear c9;by_cases c10:0≤(rd l1 Xz)
    rotate_left
    ·rw[Yy c10] at H
     exact absurd H (by simp)
    rw[Yx c10] at H;have c10b0:decide (0≤(rd l1 Xz))=true:=Yv c10;clear c10;by_cases c11:(rd l1 Xz)<(l0.length:Int)
    rotate_left
    ·rw[Yy c11] at H
     exact absurd H (by simp)
    rw[Yx c11] at H;have c11b0:decide ((rd l1 Xz)<(l0.length:Int))=true:=Yv c11;clear c11;obtain⟨ji12,hji12⟩: ∃ j_:Int,(mn Zi (rd l0 (rd l1 Xz)))=j_:=⟨_,rfl⟩;replace H:(ebbtideref13_taken.l0 k1 l0 l1 ji12 (wrap64 (Xz+1)))=some (r1,r2,r3):=by first|(rw[hji12] at H;exact H)|(simp only[hji12] at H ⊢;exact H)
    have hji12_:(if (rd l0 (rd l1 Xz))<Zi then(rd l0 (rd l1 Xz)) else Zi)=ji12:=hji12;have H':=Ya H;clear H;have p608:0≤(Xz:Int):=od;have q608:Xz<(l1.length:Int):=od;obtain⟨ad608,e608,hx608_0⟩:=Kd.at_int (Kd.R_reads' HO_1.out).2.2 Xz p608 q608;obtain rfl:ad606=ad608:=(by injection e608);replace p608:=eq_true p608;replace q608:=eq_true q608;have p609:0≤((rd l1 Xz):Int):=od;have q609:(rd l1 Xz)<(l0.length:Int):=od;obtain⟨ad609,e609,hx609_0⟩:=Kd.at_int (Kd.C_kept_now HR0.out HK.out) (rd l1 Xz) p609 q609;obtain rfl:ad607=ad609:=(by injection e609);replace p609:=eq_true p609;replace q609:=eq_true q609;go_wp2;go_roundg k1
    case measure=>have:=HK1.out;omega
    case rel=>exact⟨(ji12),(wrap64 (Xz+1)),(by first|rfl|(simp;done)|(simp only[← hji12]<;>(first|rfl|simp))|(simp[*];done)),(by first|rfl|(simp;done)|(simp[*];done)),H',⟨by have:=HK1.out;omega⟩,⟨HO_1.out⟩,⟨BK605.out⟩,⟨by repeat(first|(with_reducible first|exact HK.out|apply Kept.alloc|apply Kept.drewN|apply Kept.drew|refine Kept.setCell ?_ (.inr GW605.out) _)|exact HK.out)⟩,⟨HB.out⟩⟩
   rw[Yy c8] at H;have c8b0:decide (Xz<(l1.length:Int))=false:=Yw c8;clear c8;by_cases c13:([]:List Int).length+l0.length<17592186044416
   rotate_left
   ·rw[Yy c13] at H
    exact absurd H (by simp)
   rw[Yx c13] at H;have LMc13:=Ya c13;clear c13;obtain⟨y610,hy610⟩: ∃ y_:List Int,y_=(([]:List Int) ++ l0):=⟨_,rfl⟩;rw[← hy610] at H;have Ny610:=Ya hy610;clear hy610;have H':=Ya H;clear H;go_wp2_with (first|((with_reducible refine gate_builtin (b:= .append) (xs:= #[.tmp 31, .tmp 32]) rfl ?_);at_builtin;refine Kd.R_append_rows (Kd.int .i64) (w0:=w0) w0.heap.size rfl (.tmp 31) (.tmp 32) 31 3 (.int .i64 0) 8 rfl Try.underlying31 info3 rfl (by decide) (by omega) (.slice none 0 0) ([]:List Int) l0 _ _ _ (fun k_=>(P1_ k_∨w.heap.size≤k_)∧some k_≠(.slice (some ad606) l1.length co7:Value).ownBlock) (fun _=>False) rfl rfl ?aO ?aR (fun _ _ h=>h) (fun _ h=>h.elim) ?aF ?aB ?aS ?aL ?_;(case aR=>exact Kd.C_kept_now HR0.out (by repeat(first|(with_reducible first|exact HK.out|apply Kept.alloc|apply Kept.drewN|apply Kept.drew|refine Kept.setCell ?_ (.inr GW605.out) _)|exact HK.out)));(case aB=>exact HB.out);(case aF=>exact(fun k_ hk=>⟨(.inr (Nat.le_trans (by first|exact HK.out.1|exact(show Kept w _ (fun k_=>P1_ k_) from by repeat(first|(with_reducible first|exact HK.out|apply Kept.alloc|apply Kept.drewN|apply Kept.drew|refine Kept.setCell ?_ (.inr GW605.out) _)|exact HK.out)).1) hk)),Kd.fresh' (Kd.R_lt HO_1.out) k_ hk⟩));(case aO=>exact((Kd.R_nil _ _ _ _ (fun k_=>(P1_ k_∨w.heap.size≤k_)∧some k_≠(.slice (some ad606) l1.length co7:Value).ownBlock))));(case aS=>exact(Yi HB.out));(case aL=>have:=LMc13.out;omega);intro v611 w14 ho hb hg hat;rw[← Ny610.out] at ho;replace HO_1:=Ya (Kd.R_after (Kd.R_apart_nil HO_1.out) hg hat);replace BK605:=Ya (blk_grown BK605.out hg (by simp[Value.ownBlock]));replace HB:=Ya (hb);replace HK:=Ya (Kept.of_grown (S:=(fun k_=>P1_ k_)) hg (by repeat(first|(with_reducible first|exact HK.out|apply Kept.alloc|apply Kept.drewN|apply Kept.drew|refine Kept.setCell ?_ (.inr GW605.out) _)|exact HK.out)) (fun k_ e_=>by simp[Value.ownBlock] at e_));have HO612:=Ya (ho);clear ho hb hg hat));go_loopg [9] k1 (fun kq v9 w'=> ∃ (x8_2:List Int) (Zt:Int),v9= .int .i64 Zt∧Aside0 (ebbtideref13_taken.l1 kq l1 Zi x8_2 Zt=some (r1,r2,r3))∧Aside0 (kq≤k1)∧Aside0 (Kd.R (Kd.int .i64) 3 w' w0.heap.size (fun k_=>(P1_ k_∨w.heap.size≤k_)∧some k_≠(v611:Value).ownBlock) (.slice (some ad606) l1.length co7) l1)∧Aside0 (Kd.R (Kd.int .i64) 3 w' w0.heap.size (fun k_=>(P1_ k_∨w.heap.size≤k_)∧some k_≠((.slice (some ad606) l1.length co7):Value).ownBlock) v611 x8_2)∧Aside0 (w'.heap[gb605]? =some (.cells #[(.slice none 0 0), .int .i64 0] 47 (0,0)))∧Aside0 (Kept w w' (fun k_=>P1_ k_))∧Aside0 (Below w0.heap.size w0 w'))
   case atStart=>exact⟨(y610),(0),(by first|rfl|(simp;done)|(simp[*];done)),H',⟨Nat.le_refl _⟩,⟨HO_1.out⟩,⟨HO612.out⟩,⟨BK605.out⟩,⟨by repeat(first|(with_reducible first|exact HK.out|apply Kept.alloc|apply Kept.drewN|apply Kept.drew|refine Kept.setCell ?_ (.inr GW605.out) _)|exact HK.out)⟩,⟨HB.out⟩⟩
   case round=>
    clear H';try clear c3
    try clear c3b0
    try clear c3b1
    try clear c4
    try clear c4b0
    try clear c5
    try clear c5b0
    try clear c8
    try clear c8b0
    try clear c9
    try clear c9b0
    try clear c10
    try clear c10b0
    try clear c11
    try clear c11b0
    try clear c13
    try clear hx606_0
    try clear hx607_0
    try clear hx608_0
    try clear hx609_0
    try clear p606
    try clear p607
    try clear p608
    try clear p609
    try clear q606
    try clear q607
    try clear q608
    try clear q609
    obtain⟨x8_2,Zt,rfl,HA,HK2,HO_1,HO_8,BK605,HK,HB⟩:=hrel;cases gk with
    |zero=>exact absurd HA.out (by simp[ebbtideref13_taken.l1])
    |succ k2=>
     have H:=HA.out;clear HA;simp only[ebbtideref13_taken.l1] at H;by_cases c15:Zt<(l1.length:Int)
     rotate_left
     ·rw[Yy c15] at H
      have c15b0:decide (Zt<(l1.length:Int))=false:=Yw c15;clear c15;simp only[Option.some.injEq,Prod.mk.injEq] at H;obtain⟨rfl,rfl,rfl⟩:=H;have hcz23_0:wr.cell? ⟨gb605,0,none⟩=some (.slice none 0 0):=bc BK605 0;have hcz23_1:wr.cell? ⟨gb605,1,none⟩=some (.int .i64 0):=bc BK605 1;have hfz23_0:=Yf BK605.out 0;have hfz23_1:=Yf BK605.out 1;go_wp2;refine bodyPost_ret (results_ct rfl _ _ gb605 47 #[.slice (some ad606) l1.length co7, .int .i64 Zi] (0,0) _ rfl (by(with_reducible repeat(first|refine Yl ?_ _|refine Ym ?_|refine Yj ?_ _));refine YA (cs:= #[.slice (some ad606) l1.length co7, .int .i64 0]) ?_ 1 _ rfl;(with_reducible repeat(first|refine Yl ?_ _|refine Ym ?_|refine Yj ?_ _));refine YA (cs:= #[.slice none 0 0, .int .i64 0]) ?_ 0 _ rfl;(with_reducible repeat(first|refine Yl ?_ _|refine Ym ?_|refine Yj ?_ _));exact BK605.out) Try.underlying47 rfl (by kernel_rfl)) rfl ?_;exact⟨_,_,by first|rfl|(simp[errW_none,errW_some]<;>rfl)|(simp[*,errW_none,errW_some]<;>rfl),by(with_reducible repeat(first|apply Yr|apply Yq|apply Yp));exact Kd.R_mono (Kd.R_far (p:=⟨gb605,1,none⟩) (Kd.R_far (p:=⟨gb605,0,none⟩) (Kd.R_types HO_1.out BK605.out (by decide)) (fun _ hk=>hk.2) (.slice (some ad606) l1.length co7)) (fun _ hk=>hk.2) (.int .i64 Zi)) (fun _ hk=>⟨hk.1.1,hk.1.2⟩),by(with_reducible repeat(first|apply Yr|apply Yq|apply Yp));exact Kd.R_mono (Kd.R_far (p:=⟨gb605,1,none⟩) (Kd.R_far (p:=⟨gb605,0,none⟩) (Kd.R_types HO_8.out BK605.out (by decide)) (fun _ hk=>hk.2) (.slice (some ad606) l1.length co7)) (fun _ hk=>hk.2) (.int .i64 Zi)) (fun _ hk=>⟨hk.1.1,hk.1.2⟩),by repeat(first|(with_reducible first|exact HB.out|apply Ye|apply Yd|apply Yg|refine Yh ?_ GE605.out)|exact HB.out),by repeat(first|(with_reducible first|exact HK.out|apply Kept.alloc|apply Kept.drewN|apply Kept.drew|refine Kept.setCell ?_ (.inr GW605.out) _)|exact HK.out)⟩
     rw[Yx c15] at H;have c15b0:decide (Zt<(l1.length:Int))=true:=Yv c15;clear c15;by_cases c16:0≤Zt
     rotate_left
     ·rw[Yy c16] at H
      exact absurd H (by simp)
     rw[Yx c16] at H;have c16b0:decide (0≤Zt)=true:=Yv c16;clear c16;by_cases c17:0≤(rd l1 Zt)
     rotate_left
     ·rw[Yy c17] at H
      exact absurd H (by simp)
     rw[Yx c17] at H;have c17b0:decide (0≤(rd l1 Zt))=true:=Yv c17;clear c17;by_cases c18:(rd l1 Zt)<(x8_2.length:Int)
     rotate_left
     ·rw[Yy c18] at H
      exact absurd H (by simp)
     rw[Yx c18] at H;have c18b0:decide ((rd l1 Zt)<(x8_2.length:Int))=true:=Yv c18;clear c18;obtain⟨y616,hy616⟩: ∃ y_:List Int,y_=(x8_2.set ((rd l1 Zt):Int).toNat (wrap64 ((rd x8_2 (rd l1 Zt)) - Zi))):=⟨_,rfl⟩;rw[← hy616] at H;have Ny616:=Ya hy616;clear hy616;have H':=Ya H;clear H;try go_wp2
     replace HO_1:=Ya (Yp HO_1.out);replace HO_8:=Ya (Yp HO_8.out);replace BK605:=Ya (Ym BK605.out);replace HK:=Ya (Kept.drew HK.out);replace HB:=Ya (Yg HB.out);have p613:0≤(Zt:Int):=od;have q613:Zt<(l1.length:Int):=od;obtain⟨ad613,e613,hx613_0⟩:=Kd.at_int (Kd.R_reads' HO_1.out).2.2 Zt p613 q613;obtain rfl:ad606=ad613:=(by injection e613);replace p613:=eq_true p613;replace q613:=eq_true q613;have p614:0≤(Zt:Int):=od;have q614:Zt<(l1.length:Int):=od;obtain⟨ad614,e614,hx614_0⟩:=Kd.at_int (Kd.R_reads' HO_1.out).2.2 Zt p614 q614;obtain rfl:ad606=ad614:=(by injection e614);replace p614:=eq_true p614;replace q614:=eq_true q614;obtain⟨Ao21,co21,eo21⟩:=Kd.R_slice HO_8.out
     (first|subst eo21|(injection eo21 with f1_ f2_ f3_;have f4_:=f1_.symm;have f5_:=f3_.symm;clear f1_ f2_ f3_;subst f4_;subst f5_))
     have p615:0≤((rd l1 Zt):Int):=od;have q615:(rd l1 Zt)<(x8_2.length:Int):=od;obtain⟨ad615,e615,hx615_0⟩:=Kd.at_int (Kd.R_reads' HO_8.out).2.2 (rd l1 Zt) p615 q615;cases e615;replace p615:=eq_true p615;replace q615:=eq_true q615;have p19:0≤((rd l1 Zt):Int):=od;have q19:((rd l1 Zt):Int)<((x8_2.length:Int):Int):=od;obtain⟨go19,co19,eo19,gb19,gl19,cl19,HG19⟩:=Kd.R_form HO_8.out (by omega)
     (first|cases eo19|(injection eo19 with ea_ en_ ec_;(first|subst ea_|(injection ea_ with ea_;subst ea_));subst ec_;clear en_))
     have GB19:=Ya gb19;have GG19:=Ya HG19;clear gb19 gl19 HG19;have HMgo19:=Ya (show (P1_ go19∨w.heap.size≤go19) from(HO_8.out.1 _ rfl).1)
     (first|simp only[add_plain] at hx615_0|skip)
     obtain⟨hx19_0,hf19_0⟩:=Kd.R_celln 0 HO_8.out ((rd l1 Zt):Int) p19 q19;replace p19:=eq_true p19;replace q19:=eq_true q19;have HP22:=Kd.R_putn HO_8.out ((rd l1 Zt):Int) (wrap64 ((rd x8_2 (rd l1 Zt)) - Zi));rw[← Ny616.out] at HP22;have HQ22:=Ya HP22;clear HP22;refine start_ (n:=16) (S:=fun w'=>w'.cell? (ad606.add (Zt).toNat)=some (.int .i64 (rd l1 Zt))∧w'.cell? (ad606.add (Zt).toNat)=some (.int .i64 (rd l1 Zt))∧w'.cell? ⟨go19,((rd l1 Zt)).toNat,none⟩=some (.int .i64 (rd x8_2 (rd l1 Zt)))) (ds:=[15]) #[false,false,false,false,false,false,false,false,false,false,false,false,false,false,false,false] (by kernel_rfl) rfl rfl ⟨hx613_0,hx614_0,hx615_0⟩ (fun hHeld=> ?_);refine with_tabW ebbtideref13_taken.tab11 ebbtideref13_taken.bits11 (fun HT_ HW_=> ?_);generalize wr.drew=w20 at HO_1 HO_8 BK605 HK HB GG19 HQ22 hf19_0 hx19_0 hx613_0 hx614_0 hx615_0 hHeld ⊢;refine pu 0 40 (bm 16 1) ?_;refine pu 1 41 (bm 16 3) ?_;refine pu 2 42 (bm 16 7) ?_;refine pu 3 43 (bm 16 15) ?_;refine pu 5 45 (bm 16 47) ?_;refine pu 6 46 (bm 16 111) ?_;refine pu 7 47 (bm 16 239) ?_;refine pu 8 48 (bm 16 495) ?_;refine pu 12 52 (bm 16 4591) ?_;refine ta 4 44 (bm 16 4607) hHeld ?_;refine ta 9 49 (bm 16 5119) hHeld ?_;refine pu 10 50 (bm 16 6143) ?_;refine ta 11 51 (bm 16 8191) hHeld ?_;refine pu 13 53 (bm 16 16383) ?_;refine pu 14 54 (bm 16 32767) ?_;refine last_ (i:=15) (N:=none) #[true,true,true,true,true,true,true,true,true,true,true,true,true,true,true,true] rfl rfl (one_of HT_.out (by kernel_rfl)) (by decide) (fun K hK=> ?_);refine skip_ (w1:= ?_) (by rfl) rfl ?_ ?_
     rotate_left
     ·go_simp
      rfl
     refine hK.out _ _ ?_;clear hK K;refine done_ (done_of HT_.out (by kernel_rfl)) ?_;try go_wp2
     go_roundg k2
     case measure=>have:=HK1.out;have:=HK2.out;omega
     case rel=>exact⟨(y616),(wrap64 (Zt+1)),(by first|rfl|(simp;done)|(simp[*];done)),H',⟨by have:=HK1.out;have:=HK2.out;omega⟩,⟨by(with_reducible repeat(first|apply Yr|apply Yq|apply Yp));exact Kd.R_mono (Kd.R_far (p:=⟨go19,((rd l1 Zt):Int).toNat,none⟩) (Kd.R_mono HO_1.out (fun k_ hk=>(⟨hk,fun e_=>hk.2 (by rw[e_];rfl)⟩:_∧k_≠go19))) (fun _ hk=>hk.2) (.int .i64 (wrap64 ((rd x8_2 (rd l1 Zt)) - Zi)))) (fun _ hk=>⟨hk.1.1,hk.1.2⟩)⟩,⟨kR HQ22⟩,⟨by(with_reducible repeat(first|refine Yl ?_ _|refine Ym ?_|refine Yj ?_ _));refine blk_far ?_ (by have h_:=Kd.R_ne HO_8.out BK605.out (by decide);intro e_;exact h_ (by rw[e_];rfl)) _;(with_reducible repeat(first|refine Yl ?_ _|refine Ym ?_|refine Yj ?_ _));exact BK605.out⟩,⟨by repeat(first|(with_reducible first|exact HK.out|apply Kept.alloc|apply Kept.drewN|apply Kept.drew|refine Kept.setCell ?_ HMgo19.out _|refine Kept.setCell ?_ (.inr GW605.out) _)|exact HK.out)⟩,⟨bl⟩⟩
end P
namespace P
attribute [local go_sem] max2_int min2_int max_two min_two max_three min_three max_four min_four
mutual
def ebbtideref13_Split.l0:Nat→Int→Int→List Int→Int→Bool→List (S50)→List (S47)→Option ((List (S47)) × (List (S47)) × Int)
 |0,_,_,_,_,_,_,_=>none
 |k+1,x1,x2,x3,x618000,x618001,x618002,x620001=>(ebbtideref13_cycle.f k x618000 x618001 x618002 x3).bind fun bt622=>(if bt622.2=true then((ebbtideref13_taken.f k x3 bt622.1).bind fun bt626=>(if x620001.length<4398046511104 then(ebbtideref13_Split.l0 k x1 x2 bt626.2.2 x618000 x618001 x618002 (x620001 ++ [(⟨bt626.1,bt626.2.1⟩:S47)])) else(none))) else(ebbtideref13_Split.l1 k x1 x2 x3 x618000 x618001 x618002 ([]:List (S47)) x620001))
def ebbtideref13_Split.l1:Nat→Int→Int→List Int→Int→Bool→List (S50)→List (S47)→List (S47)→Option ((List (S47)) × (List (S47)) × Int)
 |0,_,_,_,_,_,_,_,_=>none
 |k+1,x1,x2,x3,x618000,x618001,x618002,x620000,x620001=>(ebbtideref13_along.f k x3).bind fun t637=>((ebbtideref08_Way.f x618000 x618001 x618002 x1 x2 t637).bind fun bt640=>(if bt640.2=true then((ebbtideref13_places.f k bt640.1).bind fun t644=>((ebbtideref13_taken.f k x3 t644).bind fun bt647=>(if x620000.length<4398046511104 then(ebbtideref13_Split.l1 k x1 x2 bt647.2.2 x618000 x618001 x618002 (x620000 ++ [(⟨bt647.1,bt647.2.1⟩:S47)]) x620001) else(none)))) else(some (x620000,x620001,0))))
end
def ebbtideref13_Split.f (k:Nat) (Zc:Int) (Zb:Bool) (Za:List (S50)) (a1:Int) (a2:Int) (l3:List Int):Option ((List (S47)) × (List (S47)) × Int):=(ebbtideref07_Check.f k Zc Zb Za a1 a2 l3).bind fun bt620=>(if bt620.2=0 then(if bt620.1<0 then(some (([]:List (S47)),([]:List (S47)),71)) else(ebbtideref13_Split.l0 k a1 a2 l3 Zc Zb Za ([]:List (S47)))) else(some (([]:List (S47)),([]:List (S47)),bt620.2)))
def ebbtideref13_Split.T12:Bool × List (List Nat × List Nat):=(true,[([],[]),([],[]),([],[]),([],[]),([3],[3]),([0,1,2,4,4],[0,1,2,4]),([5],[5]),([6],[6]),([6],[6]),([7,5,0,1,2,3,4,5,6,7],[7]),([8,9,0,1,2,3,4,5,6,7,8,9],[8])])
def ebbtideref13_Split.B12:List Nat:=[0,0,0,0,8,31,63,127,127,255,1023]
theorem ebbtideref13_Split.tab12:rtab .any (opsOf Try.f23 12)=ebbtideref13_Split.T12:=by kernel_rfl
theorem ebbtideref13_Split.bits12:waitsOk ebbtideref13_Split.T12.2 ebbtideref13_Split.B12=true:=by kernel_rfl
set_option maxHeartbeats 8000000 in
set_option maxRecDepth 100000 in
theorem ebbtideref13_Split.calls (k:Nat) (Zc:Int) (Zb:Bool) (Ze:Option Addr) (Zd:Nat) (Za:List (S50)) (a1:Int) (a2:Int) (P3_:Nat→Prop) (A3:Option Addr) (c3:Nat) (l3:List Int) (r1:List (S47)) (r2:List (S47)) (r3:Int) (w:World) (Zq:Kd.C k50 w Ze Za.length Za) (Zr:Za.length≤Zd) (hs3:Kd.V (Kd.int .i64) 3 w w.heap.size (fun k_=>P3_ k_) (.slice A3 l3.length c3) l3) (h:ebbtideref13_Split.f k Zc Zb Za a1 a2 l3=some (r1,r2,r3)):
  Calls Try.prog 23 #[.agg #[.int .i64 Zc, .bool Zb, .slice Ze Za.length Zd], .int .i64 a1, .int .i64 a2, .slice A3 l3.length c3] w fun e w'=> ∃ v0_ v1_:Value,e= .returned (.tuple #[.agg #[v0_,v1_], .int .i64 r3])∧Kd.S k47 47 w' w.heap.size (fun k_=>(w.heap.size≤k_)∧some k_≠(v1_:Value).ownBlock) v0_ r1∧Kd.S k47 47 w' w.heap.size (fun k_=>(w.heap.size≤k_)∧some k_≠(v0_:Value).ownBlock) v1_ r2∧Below w.heap.size w w':=by
 have hu24:=Try.underlying24;have hu54:=Try.underlying54;have hu47:=Try.underlying47;have Zk:=Ya Zq;have Zx:=Ya Zr;clear Zq Zr;have HO3:=Ya (show Kd.V (Kd.int .i64) 3 w w.heap.size (fun k_=>(P3_ k_∨w.heap.size≤k_)) (.slice A3 l3.length c3) l3 from Kd.V_mono hs3 (fun k_ hk=> .inl hk));have HB:=Ya (Yo w.heap.size w);have H:=h;unfold ebbtideref13_Split.f at H;clear h;replace H:=Option.bind_eq_some_iff.mp H;obtain⟨⟨t620,t621⟩,A50,H⟩:=H;try dsimp only at H
 have A5:=Ya A50;clear A50;by_cases c6:t621=0
 rotate_left
 ·rw[Yy c6] at H
  have c6b0:(t621 == 0)=false:=beq_eq_false_iff_ne.mpr c6;have c6b1:(t621 != 0)=true:=bne_iff_ne.mpr c6;simp only[Option.some.injEq,Prod.mk.injEq] at H;obtain⟨rfl,rfl,rfl⟩:=H;go_enter Try.func23,Try.ntmps23;go_wp2_with (first|(refine bx 4 24 #[.int .i64 Zc, .bool Zb, .slice Ze Za.length Zd] ?_;intro Xk hg w95 Zf hb;replace HO3:=Ya (Kd.V_below (Kd.V_elderB HO3.out Xk (Nat.le_of_eq hg.symm)) hb);have Zj:=Ya (Zf);have GW617:=Ya (by rw[hg];exact(Yi HB.out):w.heap.size≤Xk);have GE617:=Ya (by rw[hg];exact(Yi HB.out):w.heap.size≤Xk);replace HB:=Ya (Yk HB.out hb);clear hb Zf hg)|(refine bx 8 54 #[.slice none 0 0, .slice none 0 0] ?_;intro Xs hg w96 Zf hb;replace HO3:=Ya (Kd.V_below (Kd.V_elderB HO3.out Xs (Nat.le_of_eq hg.symm)) hb);have Zu:=Ya (Zf);have GW618:=Ya (by rw[hg];exact(Yi HB.out):w.heap.size≤Xs);have GE618:=Ya (by rw[hg];exact(Yi HB.out):w.heap.size≤Xs);replace HB:=Ya (Yk HB.out hb);have Js:=Ya (by rw[hg];exact Nat.ne_of_lt (blk_lt Zj.out):Xk≠Xs);have Jt:=Ya (by rw[hg];exact Nat.ne_of_gt (blk_lt Zj.out):Xs≠Xk);replace Zj:=Ya (Yn Zj.out hb);clear hb Zf hg)|(refine bx 10 54 #[.slice none 0 0, .slice none 0 0] ?_;intro Xl hg w97 Zf hb;replace HO3:=Ya (Kd.V_below (Kd.V_elderB HO3.out Xl (Nat.le_of_eq hg.symm)) hb);have Zs:=Ya (Zf);have GW619:=Ya (by rw[hg];exact(Yi HB.out):w.heap.size≤Xl);have GE619:=Ya (by rw[hg];exact(Yi HB.out):w.heap.size≤Xl);replace HB:=Ya (Yk HB.out hb);have Vw:=Ya (by rw[hg];exact Nat.ne_of_lt (blk_lt Zj.out):Xk≠Xl);have Ja:=Ya (by rw[hg];exact Nat.ne_of_gt (blk_lt Zj.out):Xl≠Xk);replace Zj:=Ya (Yn Zj.out hb);have Jb:=Ya (by rw[hg];exact Nat.ne_of_lt (blk_lt Zu.out):Xs≠Xl);have NB619_618:=Ya (by rw[hg];exact Nat.ne_of_gt (blk_lt Zu.out):Xl≠Xs);replace Zu:=Ya (Yn Zu.out hb);clear hb Zf hg;have hnb98:=Js.out;have hnc98:=Jt.out;have hnb99:=Vw.out;have hnc99:=Ja.out;have hcz100_0:w97.cell? ⟨Xk,0,none⟩=some (.int .i64 Zc):=bc Zj 0;have hcz100_1:w97.cell? ⟨Xk,1,none⟩=some (.bool Zb):=bc Zj 1;have hcz100_2:w97.cell? ⟨Xk,2,none⟩=some (.slice Ze Za.length Zd):=bc Zj 2;have hfz100_0:=Yf Zj.out 0;have hfz100_1:=Yf Zj.out 1;have hfz100_2:=Yf Zj.out 2)|((with_reducible refine gate_callee (f:=20) rfl ?_);refine gl (some 26) Try.func20 #[.agg #[.int .i64 Zc, .bool Zb, .slice Ze Za.length Zd], .int .i64 a1, .int .i64 a2, .slice A3 l3.length c3] ?_;(with_reducible refine(ebbtideref07_Check.calls k Zc Zb _ _ Za a1 a2 _ _ l3 t620 t621 _ ?side1 ?side2 ?side3 ?side4 A5.out).mono ?_);(case side1=>exact kC (Yt Zk.out HB.out));(case side2=>exact Zx.out);(case side3=>exact kC (Kd.V_reads' HO3.out).2.2);(case side4=>exact(Kd.V_reads' HO3.out).2.1);rintro e w101 ⟨rfl,hb⟩;refine⟨_,rfl,?_⟩;replace HO3:=Ya (Kd.V_below HO3.out hb);replace Zj:=Ya (Yn Zj.out hb);replace Zu:=Ya (Yn Zu.out hb);replace Zs:=Ya (Yn Zs.out hb);replace HB:=Ya (Yk HB.out hb);(try clear hb);have hnb102:=NB619_618.out;have hnc102:=Jb.out;have hcz103_0:w101.cell? ⟨Xl,0,none⟩=some (.slice none 0 0):=bc Zs 0;have hcz103_1:w101.cell? ⟨Xl,1,none⟩=some (.slice none 0 0):=bc Zs 1;have hfz103_0:=Yf Zs.out 0;have hfz103_1:=Yf Zs.out 1;have hcz104_0:w101.cell? ⟨Xs,0,none⟩=some (.slice none 0 0):=bc Zu 0;have hcz104_1:w101.cell? ⟨Xs,1,none⟩=some (.slice none 0 0):=bc Zu 1;have hfz104_0:=Yf Zu.out 0;have hfz104_1:=Yf Zu.out 1));refine bodyPost_ret (results_ct rfl _ _ Xs 54 #[.slice none 0 0, .slice none 0 0] (0,0) _ rfl (by(with_reducible repeat(first|refine Yl ?_ _|refine Ym ?_|refine Yj ?_ _));refine YA (cs:= #[.slice none 0 0, .slice none 0 0]) ?_ 1 _ rfl;(with_reducible repeat(first|refine Yl ?_ _|refine Ym ?_|refine Yj ?_ _));refine YA (cs:= #[.slice none 0 0, .slice none 0 0]) ?_ 0 _ rfl;(with_reducible repeat(first|refine Yl ?_ _|refine Ym ?_|refine Yj ?_ _));exact Zu.out) Try.underlying54 rfl (by kernel_rfl)) rfl ?_;exact⟨_,_,by first|rfl|(simp[errW_none,errW_some]<;>rfl)|(simp[*,errW_none,errW_some]<;>rfl),by first|exact Kd.S_nil _ _ _ _ _|exact Kd.N_nil _ _ _ _ _|exact Kd.V_nil _ _ _ _ _|exact Kd.Q_nil _ _ _ _ _|exact Kd.R_nil _ _ _ _ _,by first|exact Kd.S_nil _ _ _ _ _|exact Kd.N_nil _ _ _ _ _|exact Kd.V_nil _ _ _ _ _|exact Kd.Q_nil _ _ _ _ _|exact Kd.R_nil _ _ _ _ _,bl⟩
 rw[Yx c6] at H;have c6b0:(t621 == 0)=true:=beq_iff_eq.mpr c6;have c6b1:(t621 != 0)=false:=bne_eq_false_iff_eq.mpr c6;clear c6;by_cases c7:t620<0
 ·rw[Yx c7] at H
  have c7b0:decide (t620<0)=true:=Yv c7;clear c7;simp only[Option.some.injEq,Prod.mk.injEq] at H;obtain⟨rfl,rfl,rfl⟩:=H;go_enter Try.func23,Try.ntmps23;go_wp2_with (first|(refine bx 4 24 #[.int .i64 Zc, .bool Zb, .slice Ze Za.length Zd] ?_;intro Xk hg w8 Zf hb;replace HO3:=Ya (Kd.V_below (Kd.V_elderB HO3.out Xk (Nat.le_of_eq hg.symm)) hb);have Zj:=Ya (Zf);have GW617:=Ya (by rw[hg];exact(Yi HB.out):w.heap.size≤Xk);have GE617:=Ya (by rw[hg];exact(Yi HB.out):w.heap.size≤Xk);replace HB:=Ya (Yk HB.out hb);clear hb Zf hg)|(refine bx 8 54 #[.slice none 0 0, .slice none 0 0] ?_;intro Xs hg w9 Zf hb;replace HO3:=Ya (Kd.V_below (Kd.V_elderB HO3.out Xs (Nat.le_of_eq hg.symm)) hb);have Zu:=Ya (Zf);have GW618:=Ya (by rw[hg];exact(Yi HB.out):w.heap.size≤Xs);have GE618:=Ya (by rw[hg];exact(Yi HB.out):w.heap.size≤Xs);replace HB:=Ya (Yk HB.out hb);have Js:=Ya (by rw[hg];exact Nat.ne_of_lt (blk_lt Zj.out):Xk≠Xs);have Jt:=Ya (by rw[hg];exact Nat.ne_of_gt (blk_lt Zj.out):Xs≠Xk);replace Zj:=Ya (Yn Zj.out hb);clear hb Zf hg)|(refine bx 10 54 #[.slice none 0 0, .slice none 0 0] ?_;intro Xl hg w10 Zf hb;replace HO3:=Ya (Kd.V_below (Kd.V_elderB HO3.out Xl (Nat.le_of_eq hg.symm)) hb);have Zs:=Ya (Zf);have GW619:=Ya (by rw[hg];exact(Yi HB.out):w.heap.size≤Xl);have GE619:=Ya (by rw[hg];exact(Yi HB.out):w.heap.size≤Xl);replace HB:=Ya (Yk HB.out hb);have Vw:=Ya (by rw[hg];exact Nat.ne_of_lt (blk_lt Zj.out):Xk≠Xl);have Ja:=Ya (by rw[hg];exact Nat.ne_of_gt (blk_lt Zj.out):Xl≠Xk);replace Zj:=Ya (Yn Zj.out hb);have Jb:=Ya (by rw[hg];exact Nat.ne_of_lt (blk_lt Zu.out):Xs≠Xl);have NB619_618:=Ya (by rw[hg];exact Nat.ne_of_gt (blk_lt Zu.out):Xl≠Xs);replace Zu:=Ya (Yn Zu.out hb);clear hb Zf hg;have hnb11:=Js.out;have hnc11:=Jt.out;have hnb12:=Vw.out;have hnc12:=Ja.out;have hcz13_0:w10.cell? ⟨Xk,0,none⟩=some (.int .i64 Zc):=bc Zj 0;have hcz13_1:w10.cell? ⟨Xk,1,none⟩=some (.bool Zb):=bc Zj 1;have hcz13_2:w10.cell? ⟨Xk,2,none⟩=some (.slice Ze Za.length Zd):=bc Zj 2;have hfz13_0:=Yf Zj.out 0;have hfz13_1:=Yf Zj.out 1;have hfz13_2:=Yf Zj.out 2)|((with_reducible refine gate_callee (f:=20) rfl ?_);refine gl (some 26) Try.func20 #[.agg #[.int .i64 Zc, .bool Zb, .slice Ze Za.length Zd], .int .i64 a1, .int .i64 a2, .slice A3 l3.length c3] ?_;(with_reducible refine(ebbtideref07_Check.calls k Zc Zb _ _ Za a1 a2 _ _ l3 t620 t621 _ ?side1 ?side2 ?side3 ?side4 A5.out).mono ?_);(case side1=>exact kC (Yt Zk.out HB.out));(case side2=>exact Zx.out);(case side3=>exact kC (Kd.V_reads' HO3.out).2.2);(case side4=>exact(Kd.V_reads' HO3.out).2.1);rintro e w14 ⟨rfl,hb⟩;refine⟨_,rfl,?_⟩;replace HO3:=Ya (Kd.V_below HO3.out hb);replace Zj:=Ya (Yn Zj.out hb);replace Zu:=Ya (Yn Zu.out hb);replace Zs:=Ya (Yn Zs.out hb);replace HB:=Ya (Yk HB.out hb);(try clear hb);have hnb15:=NB619_618.out;have hnc15:=Jb.out;have Jl:w14.cell? ⟨Xl,0,none⟩=some (.slice none 0 0):=bc Zs 0;have Jm:w14.cell? ⟨Xl,1,none⟩=some (.slice none 0 0):=bc Zs 1;have Jn:=Yf Zs.out 0;have Jo:=Yf Zs.out 1;have Vm:w14.cell? ⟨Xs,0,none⟩=some (.slice none 0 0):=bc Zu 0;have Vn:w14.cell? ⟨Xs,1,none⟩=some (.slice none 0 0):=bc Zu 1;have Vo:=Yf Zu.out 0;have Vp:=Yf Zu.out 1));refine bodyPost_ret (results_ct rfl _ _ Xs 54 #[.slice none 0 0, .slice none 0 0] (0,0) _ rfl (by(with_reducible repeat(first|refine Yl ?_ _|refine Ym ?_|refine Yj ?_ _));refine YA (cs:= #[.slice none 0 0, .slice none 0 0]) ?_ 1 _ rfl;(with_reducible repeat(first|refine Yl ?_ _|refine Ym ?_|refine Yj ?_ _));refine YA (cs:= #[.slice none 0 0, .slice none 0 0]) ?_ 0 _ rfl;(with_reducible repeat(first|refine Yl ?_ _|refine Ym ?_|refine Yj ?_ _));exact Zu.out) Try.underlying54 rfl (by kernel_rfl)) rfl ?_;exact⟨_,_,by first|rfl|(simp[errW_none,errW_some]<;>rfl)|(simp[*,errW_none,errW_some]<;>rfl),by first|exact Kd.S_nil _ _ _ _ _|exact Kd.N_nil _ _ _ _ _|exact Kd.V_nil _ _ _ _ _|exact Kd.Q_nil _ _ _ _ _|exact Kd.R_nil _ _ _ _ _,by first|exact Kd.S_nil _ _ _ _ _|exact Kd.N_nil _ _ _ _ _|exact Kd.V_nil _ _ _ _ _|exact Kd.Q_nil _ _ _ _ _|exact Kd.R_nil _ _ _ _ _,bl⟩
 rw[Yy c7] at H;have c7b0:decide (t620<0)=false:=Yw c7;clear c7;have H':=Ya H;clear H;go_enter Try.func23,Try.ntmps23;go_wp2_with (first|(refine bx 4 24 #[.int .i64 Zc, .bool Zb, .slice Ze Za.length Zd] ?_;intro Xk hg w18 Zf hb;replace HO3:=Ya (Kd.V_below (Kd.V_elderB HO3.out Xk (Nat.le_of_eq hg.symm)) hb);have Zj:=Ya (Zf);have GW617:=Ya (by rw[hg];exact(Yi HB.out):w.heap.size≤Xk);have GE617:=Ya (by rw[hg];exact(Yi HB.out):w.heap.size≤Xk);replace HB:=Ya (Yk HB.out hb);clear hb Zf hg)|(refine bx 8 54 #[.slice none 0 0, .slice none 0 0] ?_;intro Xs hg w19 Zf hb;replace HO3:=Ya (Kd.V_below (Kd.V_elderB HO3.out Xs (Nat.le_of_eq hg.symm)) hb);have Zu:=Ya (Zf);have GW618:=Ya (by rw[hg];exact(Yi HB.out):w.heap.size≤Xs);have GE618:=Ya (by rw[hg];exact(Yi HB.out):w.heap.size≤Xs);replace HB:=Ya (Yk HB.out hb);have Js:=Ya (by rw[hg];exact Nat.ne_of_lt (blk_lt Zj.out):Xk≠Xs);have Jt:=Ya (by rw[hg];exact Nat.ne_of_gt (blk_lt Zj.out):Xs≠Xk);replace Zj:=Ya (Yn Zj.out hb);clear hb Zf hg)|(refine bx 10 54 #[.slice none 0 0, .slice none 0 0] ?_;intro Xl hg w20 Zf hb;replace HO3:=Ya (Kd.V_below (Kd.V_elderB HO3.out Xl (Nat.le_of_eq hg.symm)) hb);have Zs:=Ya (Zf);have GW619:=Ya (by rw[hg];exact(Yi HB.out):w.heap.size≤Xl);have GE619:=Ya (by rw[hg];exact(Yi HB.out):w.heap.size≤Xl);replace HB:=Ya (Yk HB.out hb);have Vw:=Ya (by rw[hg];exact Nat.ne_of_lt (blk_lt Zj.out):Xk≠Xl);have Ja:=Ya (by rw[hg];exact Nat.ne_of_gt (blk_lt Zj.out):Xl≠Xk);replace Zj:=Ya (Yn Zj.out hb);have Jb:=Ya (by rw[hg];exact Nat.ne_of_lt (blk_lt Zu.out):Xs≠Xl);have NB619_618:=Ya (by rw[hg];exact Nat.ne_of_gt (blk_lt Zu.out):Xl≠Xs);replace Zu:=Ya (Yn Zu.out hb);clear hb Zf hg;have hnb21:=Js.out;have hnc21:=Jt.out;have hnb22:=Vw.out;have hnc22:=Ja.out;have hcz23_0:w20.cell? ⟨Xk,0,none⟩=some (.int .i64 Zc):=bc Zj 0;have hcz23_1:w20.cell? ⟨Xk,1,none⟩=some (.bool Zb):=bc Zj 1;have hcz23_2:w20.cell? ⟨Xk,2,none⟩=some (.slice Ze Za.length Zd):=bc Zj 2;have hfz23_0:=Yf Zj.out 0;have hfz23_1:=Yf Zj.out 1;have hfz23_2:=Yf Zj.out 2)|((with_reducible refine gate_callee (f:=20) rfl ?_);refine gl (some 26) Try.func20 #[.agg #[.int .i64 Zc, .bool Zb, .slice Ze Za.length Zd], .int .i64 a1, .int .i64 a2, .slice A3 l3.length c3] ?_;(with_reducible refine(ebbtideref07_Check.calls k Zc Zb _ _ Za a1 a2 _ _ l3 t620 t621 _ ?side1 ?side2 ?side3 ?side4 A5.out).mono ?_);(case side1=>exact kC (Yt Zk.out HB.out));(case side2=>exact Zx.out);(case side3=>exact kC (Kd.V_reads' HO3.out).2.2);(case side4=>exact(Kd.V_reads' HO3.out).2.1);rintro e w24 ⟨rfl,hb⟩;refine⟨_,rfl,?_⟩;replace HO3:=Ya (Kd.V_below HO3.out hb);replace Zj:=Ya (Yn Zj.out hb);replace Zu:=Ya (Yn Zu.out hb);replace Zs:=Ya (Yn Zs.out hb);replace HB:=Ya (Yk HB.out hb);(try clear hb)));go_loopg [3] k (fun kq v3 w'=> ∃ (x3_1:List Int) (Vc:List (S47)) (u620001:Value),Aside0 (ebbtideref13_Split.l0 kq a1 a2 x3_1 Zc Zb Za Vc=some (r1,r2,r3))∧Aside0 (kq≤k)∧Aside0 (Kd.V (Kd.int .i64) 3 w' w.heap.size (fun k_=>(P3_ k_∨w.heap.size≤k_)∧some k_≠(u620001:Value).ownBlock∧k_≠Xk∧k_≠Xs∧k_≠Xl) v3 x3_1)∧Aside0 (Kd.S k47 47 w' w.heap.size (fun k_=>(w.heap.size≤k_)) u620001 Vc)∧Aside0 (w'.heap[Xk]? =some (.cells #[.int .i64 Zc, .bool Zb,(.slice Ze Za.length Zd)] 24 (0,0)))∧Aside0 (w'.heap[Xs]? =some (.cells #[(.slice none 0 0),(.slice none 0 0)] 54 (0,0)))∧Aside0 (w'.heap[Xl]? =some (.cells #[(.slice none 0 0),u620001] 54 (0,0)))∧Aside0 (Below w.heap.size w w'))
 case atStart=>exact⟨(l3),(([]:List (S47))),(.slice none 0 0),H',⟨Nat.le_refl _⟩,⟨by(with_reducible repeat(first|apply Kd.V_alloc|apply Kd.V_drewN|apply Kd.V_drew));exact Kd.V_mono HO3.out (fun _ hk=>⟨hk.1.1.1,⟨(by simp[Value.ownBlock]),⟨hk.1.1.2,⟨hk.1.2,hk.2⟩⟩⟩⟩)⟩,⟨by first|exact Kd.S_nil _ _ _ _ _|exact Kd.N_nil _ _ _ _ _|exact Kd.V_nil _ _ _ _ _|exact Kd.Q_nil _ _ _ _ _|exact Kd.R_nil _ _ _ _ _⟩,⟨Zj.out⟩,⟨Zu.out⟩,⟨Zs.out⟩,⟨HB.out⟩⟩
 case round=>
  clear H';try clear c3
  try clear c6
  try clear c6b0
  try clear c6b1
  try clear c7
  try clear c7b0
  try clear hcz13_0
  try clear hcz13_1
  try clear hcz13_2
  try clear Jl
  try clear Jm
  try clear Vm
  try clear Vn
  try clear hcz23_0
  try clear hcz23_1
  try clear hcz23_2
  try clear hfz13_0
  try clear hfz13_1
  try clear hfz13_2
  try clear Jn
  try clear Jo
  try clear Vo
  try clear Vp
  try clear hfz23_0
  try clear hfz23_1
  try clear hfz23_2
  obtain⟨x3_1,Vc,u620001,HA,HK1,HO_3,HO_620001,Zj,Zu,Zs,HB⟩:=hrel;cases gk with
  |zero=>exact absurd HA.out (by simp[ebbtideref13_Split.l0])
  |succ k1=>
   have H:=HA.out;clear HA;simp only[ebbtideref13_Split.l0] at H;replace H:=Option.bind_eq_some_iff.mp H;obtain⟨⟨t622,t625⟩,A250,H⟩:=H;try dsimp only at H
   have A25:=Ya A250;clear A250;by_cases c26:t625=true
   ·subst c26
    first|rw[Yx rfl] at H|rw[Yx trivial] at H
    replace H:=Option.bind_eq_some_iff.mp H;obtain⟨⟨t626,t629,t630⟩,A270,H⟩:=H;try dsimp only at H
    have A27:=Ya A270;clear A270;by_cases c28:Vc.length<4398046511104
    rotate_left
    ·rw[Yy c28] at H
     exact absurd H (by simp)
    rw[Yx c28] at H;have LMc28:=Ya c28;clear c28;obtain⟨y634,hy634⟩: ∃ y_:List (S47),y_=(Vc ++ [(⟨t626,t629⟩:S47)]):=⟨_,rfl⟩;rw[← hy634] at H;have Ny634:=Ya hy634;clear hy634;have H':=Ya H;clear H;have hnb29:=Js.out;have hnc29:=Jt.out;have hnb30:=Vw.out;have hnc30:=Ja.out;have hcz31_0:wr.cell? ⟨Xk,0,none⟩=some (.int .i64 Zc):=bc Zj 0;have hcz31_1:wr.cell? ⟨Xk,1,none⟩=some (.bool Zb):=bc Zj 1;have hcz31_2:wr.cell? ⟨Xk,2,none⟩=some (.slice Ze Za.length Zd):=bc Zj 2;have hfz31_0:=Yf Zj.out 0;have hfz31_1:=Yf Zj.out 1;have hfz31_2:=Yf Zj.out 2;obtain⟨Ao32,co32,eo32⟩:=Kd.V_slice HO_3.out;subst eo32;go_wp2_with (first|((with_reducible refine gate_callee (f:=52) rfl ?_);refine gl (some 39) Try.func52 #[.agg #[.int .i64 Zc, .bool Zb, .slice Ze Za.length Zd], .slice Ao32 x3_1.length co32] ?_;(with_reducible refine(ebbtideref13_cycle.calls k1 Zc Zb _ _ Za _ _ x3_1 t622 true _ ?side1 ?side2 ?side3 ?side4 A25.out).mono ?_);(case side1=>exact kC (Yt Zk.out HB.out));(case side2=>exact Zx.out);(case side3=>exact kC (Kd.V_reads' HO_3.out).2.2);(case side4=>exact(Kd.V_reads' HO_3.out).2.1);rintro e w33 ⟨v623,rfl,ho0,hb⟩;refine⟨_,rfl,?_⟩;replace HO_3:=Ya (Kd.V_elder' (kV HO_3) (Kd.R_base ho0) hb);replace HO_620001:=Ya (Kd.S_elder' (kS HO_620001) (Kd.R_base ho0) hb);have HO624:=Ya (Kd.R_lower (Kd.R_newM (M:=fun k_=>(w.heap.size≤k_)) ho0 (Yi bl) (fun k_ h_=>h_)) (Yi bl));replace Zj:=Ya (Yn (bk Zj) hb);replace Zu:=Ya (Yn (bk Zu) hb);replace Zs:=Ya (Yn (bk Zs) hb);replace HB:=Ya (Yk bl hb);(try clear hb);(try clear ho0);obtain⟨Ao34,co34,eo34⟩:=Kd.R_slice HO624.out;subst eo34)|((with_reducible refine gate_callee (f:=53) rfl ?_);refine gl (some 47) Try.func53 #[.slice Ao32 x3_1.length co32, .slice Ao34 t622.length co34] ?_;(with_reducible refine(ebbtideref13_taken.calls k1 _ _ x3_1 (fun k_=>some k_=(.slice Ao34 t622.length co34:Value).ownBlock) (.slice Ao34 t622.length co34) t622 t626 t629 t630 w _ ?side1 ?side2 ?side3 ?side4 A27.out).mono ?_);(case side1=>repeat(first|(with_reducible first|exact HB.out|apply Ye|apply Yd|apply Yg|refine Yh ?_ GE617.out|refine Yh ?_ GE618.out|refine Yh ?_ GE619.out)|exact HB.out));(case side2=>exact Kd.C_kept_ownV (HO_3.out) (fun k_ hk_ hs_=>(hk_.2) hs_));(case side3=>exact(Kd.V_reads' HO_3.out).2.1);(case side4=>exact Kd.R_tight rfl HO624.out);rintro e w35 ⟨v627,v631,rfl,ho0,ho1,hb,hkp⟩;refine⟨_,rfl,?_⟩;replace HO_3:=Ya (Kd.V_mono (ok':=fun k_=>(P3_ k_∨w.heap.size≤k_)∧some k_≠(u620001:Value).ownBlock∧k_≠Xk∧k_≠Xs∧k_≠Xl∧some k_≠(v627:Value).ownBlock∧some k_≠(v631:Value).ownBlock) (Kd.V_keptB (HO_3.out) hkp (fun k_ hk_ hs_=>(hk_.2) hs_)) (fun k_ hk_=>⟨hk_.1.1.1,hk_.1.1.2.1,hk_.1.1.2.2.1,hk_.1.1.2.2.2.1,hk_.1.1.2.2.2.2,fun e_=>Or.elim (ho0.1 k_ e_.symm).1 (fun hs_=>hk_.2.1 hs_) (fun hn_=>Nat.not_le.2 hk_.2.2 hn_),fun e_=>Or.elim (ho1.1 k_ e_.symm).1 (fun hs_=>hk_.2.1 hs_) (fun hn_=>Nat.not_le.2 hk_.2.2 hn_)⟩));replace HO_620001:=Ya (Kd.S_mono (ok':=fun k_=>(w.heap.size≤k_)∧some k_≠(v627:Value).ownBlock∧some k_≠(v631:Value).ownBlock) (Kd.S_keptB (HO_620001.out) hkp (fun k_ hk_ hs_=>(hk_.2) hs_)) (fun k_ hk_=>⟨hk_.1.1,fun e_=>Or.elim (ho0.1 k_ e_.symm).1 (fun hs_=>hk_.2.1 hs_) (fun hn_=>Nat.not_le.2 hk_.2.2 hn_),fun e_=>Or.elim (ho1.1 k_ e_.symm).1 (fun hs_=>hk_.2.1 hs_) (fun hn_=>Nat.not_le.2 hk_.2.2 hn_)⟩));replace Zj:=Ya (blk_kept (bk Zj) hkp (fun hs_=>(fun e_=>(Kd.R_ne HO624.out Zj.out (by decide)) e_) hs_));replace Zu:=Ya (blk_kept (bk Zu) hkp (fun hs_=>(fun e_=>(Kd.R_ne HO624.out Zu.out (by decide)) e_) hs_));replace Zs:=Ya (blk_kept (bk Zs) hkp (fun hs_=>(fun e_=>(Kd.R_ne HO624.out Zs.out (by decide)) e_) hs_));have HO628:=Ya (Kd.R_mono (ok':=fun k_=>(w.heap.size≤k_)∧some k_≠(v631:Value).ownBlock) ho0 (fun k_ hk_=>⟨Or.elim hk_.1 (fun hs_=>(HO624.out.1 k_ (hs_).symm).1) (fun hn_=>(Nat.le_trans (Yi bl) hn_)),hk_.2⟩));have HO632:=Ya (Kd.R_mono (ok':=fun k_=>(w.heap.size≤k_)∧some k_≠(v627:Value).ownBlock) ho1 (fun k_ hk_=>⟨Or.elim hk_.1 (fun hs_=>(HO624.out.1 k_ (hs_).symm).1) (fun hn_=>(Nat.le_trans (Yi bl) hn_)),hk_.2⟩));replace HB:=Ya (hb);clear HO624;(try clear hb);(try clear hkp);(try clear ho0);(try clear ho1))|(refine bx 15 47 #[.slice none 0 0, .int .i64 0] ?_;intro Va hg w36 Zf hb;replace HO_3:=Ya (Kd.V_below (Kd.V_elderB (kV HO_3) Va (Nat.le_of_eq hg.symm)) hb);replace HO_620001:=Ya (Kd.S_below (Kd.S_elderB (kS HO_620001) Va (Nat.le_of_eq hg.symm)) hb);replace HO628:=Ya (Ys (kR HO628) hb);replace HO632:=Ya (Ys (kR HO632) hb);have BK633:=Ya (Zf);have GW633:=Ya ((sz hg));have GE633:=Ya ((sz hg));replace HB:=Ya (Yk bl hb);have NB617_633:=Ya (by rw[hg];exact Nat.ne_of_lt (blk_lt (bk Zj)):Xk≠Va);have NB633_617:=Ya (by rw[hg];exact Nat.ne_of_gt (blk_lt (bk Zj)):Va≠Xk);replace Zj:=Ya (Yn (bk Zj) hb);have NB618_633:=Ya (by rw[hg];exact Nat.ne_of_lt (blk_lt (bk Zu)):Xs≠Va);have NB633_618:=Ya (by rw[hg];exact Nat.ne_of_gt (blk_lt (bk Zu)):Va≠Xs);replace Zu:=Ya (Yn (bk Zu) hb);have NB619_633:=Ya (by rw[hg];exact Nat.ne_of_lt (blk_lt (bk Zs)):Xl≠Va);have NB633_619:=Ya (by rw[hg];exact Nat.ne_of_gt (blk_lt (bk Zs)):Va≠Xl);replace Zs:=Ya (Yn (bk Zs) hb);clear hb Zf hg;obtain⟨Ao37,co37,eo37⟩:=Kd.R_slice HO628.out;subst eo37;have hnb38:=NB633_617.out;have hnc38:=NB617_633.out;have hnb39:=NB633_618.out;have hnc39:=NB618_633.out;have hnb40:=NB633_619.out;have hnc40:=NB619_633.out;have hcz41_0:w36.cell? ⟨Va,0,none⟩=some (.slice none 0 0):=bc BK633 0;have hcz41_1:w36.cell? ⟨Va,1,none⟩=some (.int .i64 0):=bc BK633 1;have hfz41_0:=Yf BK633.out 0;have hfz41_1:=Yf BK633.out 1)|((with_reducible refine gate_store (t:=47) (p:=15) rfl ?_);refine store_event (t:=47) (p:=15) (v:= ?vo_w42) (w1:=((w36.setCell ⟨Va,0,none⟩ (.slice Ao37 t626.length co37)).setCell ⟨Va,1,none⟩ (.int .i64 t629))) ?hg ?ho ?hn ?hr ?_;(case ho=>rfl);(case hg=>rfl);(case hn=>rfl);(case hr=>first|(go_simp;done)|(go_simp;rfl));intro w42 hw;replace HO_3:Aside0 (Kd.V (Kd.int .i64) 3 w42 w.heap.size (fun k_=>(P3_ k_∨w.heap.size≤k_)∧some k_≠(u620001:Value).ownBlock∧some k_≠(.slice Ao37 t626.length co37:Value).ownBlock∧some k_≠(v631:Value).ownBlock∧k_≠Xk∧k_≠Xs∧k_≠Xl∧k_≠Va) (.slice Ao32 x3_1.length co32) x3_1):=⟨(by rw[hw];exact(by(with_reducible repeat(first|apply Kd.V_alloc|apply Kd.V_drewN|apply Kd.V_drew));exact Kd.V_mono (Kd.V_far (p:=⟨Va,1,none⟩) (Kd.V_far (p:=⟨Va,0,none⟩) (Kd.V_mono HO_3.out (fun k_ hk=>(⟨hk,hk.2⟩:_∧k_≠Va))) (fun _ hk=>hk.2) (.slice Ao37 t626.length co37)) (fun _ hk=>hk.2) (.int .i64 t629)) (fun _ hk=>⟨hk.1.1.1,⟨hk.1.1.2.1,⟨hk.1.1.2.2.2.2.2.1,⟨hk.1.1.2.2.2.2.2.2,⟨hk.1.1.2.2.1,⟨hk.1.1.2.2.2.1,⟨hk.1.1.2.2.2.2.1,hk.1.2⟩⟩⟩⟩⟩⟩⟩)))⟩;replace HO_620001:Aside0 (Kd.S k47 47 w42 w.heap.size (fun k_=>(w.heap.size≤k_)∧some k_≠(.slice Ao37 t626.length co37:Value).ownBlock∧some k_≠(v631:Value).ownBlock∧k_≠Va) u620001 Vc):=⟨(by rw[hw];exact(by(with_reducible repeat(first|apply Kd.S_alloc|apply Kd.S_drewN|apply Kd.S_drew));exact Kd.S_mono (Kd.S_far (p:=⟨Va,1,none⟩) (Kd.S_far (p:=⟨Va,0,none⟩) (Kd.S_mono HO_620001.out (fun k_ hk=>(⟨hk,hk.2⟩:_∧k_≠Va))) (fun _ hk=>hk.2) (.slice Ao37 t626.length co37)) (fun _ hk=>hk.2) (.int .i64 t629)) (fun _ hk=>⟨hk.1.1.1,⟨hk.1.1.2.1,⟨hk.1.1.2.2,hk.1.2⟩⟩⟩)))⟩;replace HO628:Aside0 (Kd.R (Kd.int .i64) 3 w42 w.heap.size (fun k_=>(w.heap.size≤k_)∧some k_≠(v631:Value).ownBlock) (.slice Ao37 t626.length co37) t626):=⟨(by rw[hw];exact(by(with_reducible repeat(first|apply Yr|apply Yq|apply Yp));exact Kd.R_mono (Kd.R_far (p:=⟨Va,1,none⟩) (Kd.R_far (p:=⟨Va,0,none⟩) (Kd.R_types HO628.out BK633.out (by decide)) (fun _ hk=>hk.2) (.slice Ao37 t626.length co37)) (fun _ hk=>hk.2) (.int .i64 t629)) (fun _ hk=>⟨hk.1.1,hk.1.2⟩)))⟩;replace HO632:Aside0 (Kd.R (Kd.int .i64) 3 w42 w.heap.size (fun k_=>(w.heap.size≤k_)∧some k_≠(.slice Ao37 t626.length co37:Value).ownBlock) v631 t630):=⟨(by rw[hw];exact(by(with_reducible repeat(first|apply Yr|apply Yq|apply Yp));exact Kd.R_mono (Kd.R_far (p:=⟨Va,1,none⟩) (Kd.R_far (p:=⟨Va,0,none⟩) (Kd.R_types HO632.out BK633.out (by decide)) (fun _ hk=>hk.2) (.slice Ao37 t626.length co37)) (fun _ hk=>hk.2) (.int .i64 t629)) (fun _ hk=>⟨hk.1.1,hk.1.2⟩)))⟩;replace Zj:Aside0 (w42.heap[Xk]? =some (.cells #[.int .i64 Zc, .bool Zb, .slice Ze Za.length Zd] 24 (0,0))):=⟨(by rw[hw];exact(by(with_reducible repeat(first|refine Yl ?_ _|refine Ym ?_|refine Yj ?_ _));refine blk_far ?_ NB617_633.out _;(with_reducible repeat(first|refine Yl ?_ _|refine Ym ?_|refine Yj ?_ _));refine blk_far ?_ NB617_633.out _;(with_reducible repeat(first|refine Yl ?_ _|refine Ym ?_|refine Yj ?_ _));exact Zj.out))⟩;replace Zu:Aside0 (w42.heap[Xs]? =some (.cells #[.slice none 0 0, .slice none 0 0] 54 (0,0))):=⟨(by rw[hw];exact(by(with_reducible repeat(first|refine Yl ?_ _|refine Ym ?_|refine Yj ?_ _));refine blk_far ?_ NB618_633.out _;(with_reducible repeat(first|refine Yl ?_ _|refine Ym ?_|refine Yj ?_ _));refine blk_far ?_ NB618_633.out _;(with_reducible repeat(first|refine Yl ?_ _|refine Ym ?_|refine Yj ?_ _));exact Zu.out))⟩;replace Zs:Aside0 (w42.heap[Xl]? =some (.cells #[.slice none 0 0,u620001] 54 (0,0))):=⟨(by rw[hw];exact(by(with_reducible repeat(first|refine Yl ?_ _|refine Ym ?_|refine Yj ?_ _));refine blk_far ?_ NB619_633.out _;(with_reducible repeat(first|refine Yl ?_ _|refine Ym ?_|refine Yj ?_ _));refine blk_far ?_ NB619_633.out _;(with_reducible repeat(first|refine Yl ?_ _|refine Ym ?_|refine Yj ?_ _));exact Zs.out))⟩;replace BK633:Aside0 (w42.heap[Va]? =some (.cells #[.slice Ao37 t626.length co37, .int .i64 t629] 47 (0,0))):=⟨(by rw[hw];exact(by(with_reducible repeat(first|refine Yl ?_ _|refine Ym ?_|refine Yj ?_ _));refine YA (cs:= #[.slice Ao37 t626.length co37, .int .i64 0]) ?_ 1 _ rfl;(with_reducible repeat(first|refine Yl ?_ _|refine Ym ?_|refine Yj ?_ _));refine YA (cs:= #[.slice none 0 0, .int .i64 0]) ?_ 0 _ rfl;(with_reducible repeat(first|refine Yl ?_ _|refine Ym ?_|refine Yj ?_ _));exact BK633.out))⟩;replace HB:Aside0 (Below w.heap.size w w42):=⟨(by rw[hw];exact bl)⟩;clear hw;have hnb43:=NB619_618.out;have hnc43:=Jb.out;have hcz44_0:w42.cell? ⟨Xl,0,none⟩=some (.slice none 0 0):=bc Zs 0;have hcz44_1:w42.cell? ⟨Xl,1,none⟩=some (u620001):=bc Zs 1;have hfz44_0:=Yf Zs.out 0;have hfz44_1:=Yf Zs.out 1;have hcz45_0:w42.cell? ⟨Va,0,none⟩=some (.slice Ao37 t626.length co37):=bc BK633 0;have hcz45_1:w42.cell? ⟨Va,1,none⟩=some (.int .i64 t629):=bc BK633 1;have hfz45_0:=Yf BK633.out 0;have hfz45_1:=Yf BK633.out 1)|((with_reducible refine gate_builtin (b:= .append) (xs:= #[.tmp 51, .tmp 53]) rfl ?_);at_builtin;refine Kd.S_append k47 (w0:=w) w.heap.size rfl (.tmp 51) (.tmp 53) 42 47 (.agg #[(.slice none 0 0),(.int .i64 0)]) 32 rfl Try.underlying42 info47 rfl (by decide) (by omega) u620001 Vc (⟨t626,t629⟩:S47) [.slice Ao37 t626.length co37, .int .i64 t629] (fun k_=>(w.heap.size≤k_)∧some k_≠(v631:Value).ownBlock∧k_≠Va) (fun k_=>some k_=(.slice Ao37 t626.length co37:Value).ownBlock) rfl rfl ?aP (fun k_ hk_=>((Kd.R_mono (ok':=fun k_=>((fun k_=>(w.heap.size≤k_)∧some k_≠(v631:Value).ownBlock∧k_≠Va)) k_∧some k_≠(u620001:Value).ownBlock) (Kd.R_types (Kd.R_apart' (HO628.out) (Kd.S_typed HO_620001.out) (by decide)) BK633.out (by decide)) (fun k_ hk=>⟨⟨hk.1.1.1,⟨hk.1.1.2,hk.2⟩⟩,hk.1.2⟩))).1 k_ hk_.symm) ?aF ?aO ?aB ?aS ?aL ?_;(case aP=>exact k47_mkM _ _ _ (⟨t626,t629⟩:S47) (Kd.R_mono (Kd.R_tight rfl (Kd.R_mono (ok':=fun k_=>((fun k_=>(w.heap.size≤k_)∧some k_≠(v631:Value).ownBlock∧k_≠Va)) k_∧some k_≠(u620001:Value).ownBlock) (Kd.R_types (Kd.R_apart' (HO628.out) (Kd.S_typed HO_620001.out) (by decide)) BK633.out (by decide)) (fun k_ hk=>⟨⟨hk.1.1.1,⟨hk.1.1.2,hk.2⟩⟩,hk.1.2⟩))) (fun _ h_=>h_)));(case aB=>exact bl);(case aF=>exact(fun k_ hk=>⟨(Nat.le_trans (Yi bl) hk),Kd.fresh' (Kd.R_lt (kR HO632)) k_ hk,Kd.freshB (g:=Va) (o:= .cells #[.slice Ao37 t626.length co37, .int .i64 t629] 47 (0,0)) (bk BK633) k_ hk⟩));(case aO=>exact(by(with_reducible repeat(first|apply Kd.S_alloc|apply Kd.S_drewN|apply Kd.S_drew));exact Kd.S_mono HO_620001.out (fun k_ hk=>⟨⟨hk.1,⟨hk.2.2.1,hk.2.2.2⟩⟩,fun e_=>hk.2.1 e_⟩)));(case aS=>exact(Yi bl));(case aL=>have:=LMc28.out;omega);intro v635 w46 ho hb hg hat;rw[← Ny634.out] at ho;replace HO_3:=Ya (Kd.V_afterv (ok:=(fun k_=>(P3_ k_∨w.heap.size≤k_)∧some k_≠(.slice Ao37 t626.length co37:Value).ownBlock∧some k_≠(v631:Value).ownBlock∧k_≠Xk∧k_≠Xs∧k_≠Xl∧k_≠Va)) (by(with_reducible repeat(first|apply Kd.V_alloc|apply Kd.V_drewN|apply Kd.V_drew));exact Kd.V_mono HO_3.out (fun _ hk=>⟨⟨hk.1,⟨hk.2.2.1,⟨hk.2.2.2.1,⟨hk.2.2.2.2.1,⟨hk.2.2.2.2.2.1,⟨hk.2.2.2.2.2.2.1,hk.2.2.2.2.2.2.2⟩⟩⟩⟩⟩⟩,hk.2.1⟩)) hg hat);replace Zj:=Ya (blk_grown (bk Zj) hg (Kd.S_ne HO_620001.out Zj.out (by decide)));replace Zu:=Ya (blk_grown (bk Zu) hg (Kd.S_ne HO_620001.out Zu.out (by decide)));replace Zs:=Ya (blk_grown (bk Zs) hg (Kd.S_ne HO_620001.out Zs.out (by decide)));replace HO632:=Ya (Kd.R_over' (kR HO632) (Kd.S_typed (kS HO_620001)) (by decide) hg);replace BK633:=Ya (blk_grown (bk BK633) hg (Kd.S_away HO_620001.out (fun _ hk=>hk.2.2.2)));replace HB:=Ya (hb);have HO636:=Ya (ho);clear HO_620001 HO628;clear ho hb hg hat;obtain⟨Ao47,co47,eo47⟩:=Kd.S_slice HO636.out;subst eo47;have hcz48_0:w46.cell? ⟨Xl,0,none⟩=some (.slice none 0 0):=bc Zs 0;have hcz48_1:w46.cell? ⟨Xl,1,none⟩=some (u620001):=bc Zs 1;have hfz48_0:=Yf Zs.out 0;have hfz48_1:=Yf Zs.out 1));go_roundg k1
    case measure=>have:=HK1.out;omega
    case rel=>exact⟨(t630),(y634),(.slice Ao47 y634.length co47),H',⟨by have:=HK1.out;omega⟩,⟨Kd.V_mono (Kd.R_V (Kd.R_far (p:=⟨Xl,1,none⟩) (Kd.R_types (Kd.R_types (Kd.R_types (Kd.R_types (Kd.R_apart' HO632.out (Kd.S_typed HO636.out) (by decide)) Zj.out (by decide)) Zu.out (by decide)) Zs.out (by decide)) Zs.out (by decide)) (fun _ hk=>hk.2) (.slice Ao47 y634.length co47))) (fun _ hk=>⟨(.inr hk.1.1.1.1.1.1),⟨hk.1.1.1.1.2,⟨hk.1.1.1.2,⟨hk.1.1.2,hk.1.2⟩⟩⟩⟩)⟩,⟨by(with_reducible repeat(first|apply Kd.S_alloc|apply Kd.S_drewN|apply Kd.S_drew));exact Kd.S_mono (Kd.S_far (p:=⟨Xl,1,none⟩) (Kd.S_types HO636.out Zs.out (by decide)) (fun _ hk=>hk.2) (.slice Ao47 y634.length co47)) (fun _ hk=>hk.1.1)⟩,⟨by(with_reducible repeat(first|refine Yl ?_ _|refine Ym ?_|refine Yj ?_ _));refine blk_far ?_ Vw.out _;(with_reducible repeat(first|refine Yl ?_ _|refine Ym ?_|refine Yj ?_ _));exact Zj.out⟩,⟨by(with_reducible repeat(first|refine Yl ?_ _|refine Ym ?_|refine Yj ?_ _));refine blk_far ?_ Jb.out _;(with_reducible repeat(first|refine Yl ?_ _|refine Ym ?_|refine Yj ?_ _));exact Zu.out⟩,⟨by(with_reducible repeat(first|refine Yl ?_ _|refine Ym ?_|refine Yj ?_ _));refine YA (cs:= #[.slice none 0 0,u620001]) ?_ 1 _ rfl;(with_reducible repeat(first|refine Yl ?_ _|refine Ym ?_|refine Yj ?_ _));exact Zs.out⟩,⟨bl⟩⟩
   replace c26:=Bool.eq_false_iff.mpr c26;subst c26;rw[Yy (show ¬ (false=true) by decide)] at H;have H':=Ya H;clear H;have hnb49:=Js.out;have hnc49:=Jt.out;have hnb50:=Vw.out;have hnc50:=Ja.out;have hcz51_0:wr.cell? ⟨Xk,0,none⟩=some (.int .i64 Zc):=bc Zj 0;have hcz51_1:wr.cell? ⟨Xk,1,none⟩=some (.bool Zb):=bc Zj 1;have hcz51_2:wr.cell? ⟨Xk,2,none⟩=some (.slice Ze Za.length Zd):=bc Zj 2;have hfz51_0:=Yf Zj.out 0;have hfz51_1:=Yf Zj.out 1;have hfz51_2:=Yf Zj.out 2;obtain⟨Ao52,co52,eo52⟩:=Kd.V_slice HO_3.out;subst eo52;go_wp2_with (first|((with_reducible refine gate_callee (f:=52) rfl ?_);refine gl (some 39) Try.func52 #[.agg #[.int .i64 Zc, .bool Zb, .slice Ze Za.length Zd], .slice Ao52 x3_1.length co52] ?_;(with_reducible refine(ebbtideref13_cycle.calls k1 Zc Zb _ _ Za _ _ x3_1 t622 false _ ?side1 ?side2 ?side3 ?side4 A25.out).mono ?_);(case side1=>exact kC (Yt Zk.out HB.out));(case side2=>exact Zx.out);(case side3=>exact kC (Kd.V_reads' HO_3.out).2.2);(case side4=>exact(Kd.V_reads' HO_3.out).2.1);rintro e w53 ⟨v623,rfl,ho0,hb⟩;refine⟨_,rfl,?_⟩;replace HO_3:=Ya (Kd.V_elder' HO_3.out (Kd.R_base ho0) hb);replace HO_620001:=Ya (Kd.S_elder' HO_620001.out (Kd.R_base ho0) hb);have HO624:=Ya (Kd.R_lower (Kd.R_newM (M:=fun k_=>(w.heap.size≤k_)) ho0 (Yi HB.out) (fun k_ h_=>h_)) (Yi HB.out));replace Zj:=Ya (Yn Zj.out hb);replace Zu:=Ya (Yn Zu.out hb);replace Zs:=Ya (Yn Zs.out hb);replace HB:=Ya (Yk HB.out hb);(try clear hb);(try clear ho0)));go_loopg [3] k1 (fun kq v3 w'=> ∃ (x3_2:List Int) (Vx:List (S47)) (u620000:Value),Aside0 (ebbtideref13_Split.l1 kq a1 a2 x3_2 Zc Zb Za Vx Vc=some (r1,r2,r3))∧Aside0 (kq≤k1)∧Aside0 (Kd.V (Kd.int .i64) 3 w' w.heap.size (fun k_=>(P3_ k_∨w.heap.size≤k_)∧some k_≠(u620000:Value).ownBlock∧some k_≠(u620001:Value).ownBlock∧k_≠Xk∧k_≠Xs∧k_≠Xl) v3 x3_2)∧Aside0 (Kd.S k47 47 w' w.heap.size (fun k_=>(w.heap.size≤k_)∧some k_≠(u620001:Value).ownBlock) u620000 Vx)∧Aside0 (Kd.S k47 47 w' w.heap.size (fun k_=>(w.heap.size≤k_)∧some k_≠(u620000:Value).ownBlock) u620001 Vc)∧Aside0 (w'.heap[Xk]? =some (.cells #[.int .i64 Zc, .bool Zb,(.slice Ze Za.length Zd)] 24 (0,0)))∧Aside0 (w'.heap[Xs]? =some (.cells #[(.slice none 0 0),(.slice none 0 0)] 54 (0,0)))∧Aside0 (w'.heap[Xl]? =some (.cells #[u620000,u620001] 54 (0,0)))∧Aside0 (Below w.heap.size w w'))
   case atStart=>exact⟨(x3_1),(([]:List (S47))),(.slice none 0 0),H',⟨Nat.le_refl _⟩,⟨by(with_reducible repeat(first|apply Kd.V_alloc|apply Kd.V_drewN|apply Kd.V_drew));exact Kd.V_mono HO_3.out (fun _ hk=>⟨hk.1.1,⟨(by simp[Value.ownBlock]),⟨hk.1.2.1,⟨hk.1.2.2.1,⟨hk.1.2.2.2.1,hk.1.2.2.2.2⟩⟩⟩⟩⟩)⟩,⟨by first|exact Kd.S_nil _ _ _ _ _|exact Kd.N_nil _ _ _ _ _|exact Kd.V_nil _ _ _ _ _|exact Kd.Q_nil _ _ _ _ _|exact Kd.R_nil _ _ _ _ _⟩,⟨by(with_reducible repeat(first|apply Kd.S_alloc|apply Kd.S_drewN|apply Kd.S_drew));exact Kd.S_mono HO_620001.out (fun _ hk=>⟨hk.1,(by simp[Value.ownBlock])⟩)⟩,⟨Zj.out⟩,⟨Zu.out⟩,⟨Zs.out⟩,⟨HB.out⟩⟩
   case round=>
    clear H';try clear c3
    try clear c6
    try clear c6b0
    try clear c6b1
    try clear c7
    try clear c7b0
    try clear c26
    try clear c28
    try clear hcz13_0
    try clear hcz13_1
    try clear hcz13_2
    try clear Jl
    try clear Jm
    try clear Vm
    try clear Vn
    try clear hcz23_0
    try clear hcz23_1
    try clear hcz23_2
    try clear hcz31_0
    try clear hcz31_1
    try clear hcz31_2
    try clear hcz41_0
    try clear hcz41_1
    try clear hcz44_0
    try clear hcz44_1
    try clear hcz45_0
    try clear hcz45_1
    try clear hcz48_0
    try clear hcz48_1
    try clear hcz51_0
    try clear hcz51_1
    try clear hcz51_2
    try clear hfz13_0
    try clear hfz13_1
    try clear hfz13_2
    try clear Jn
    try clear Jo
    try clear Vo
    try clear Vp
    try clear hfz23_0
    try clear hfz23_1
    try clear hfz23_2
    try clear hfz31_0
    try clear hfz31_1
    try clear hfz31_2
    try clear hfz41_0
    try clear hfz41_1
    try clear hfz44_0
    try clear hfz44_1
    try clear hfz45_0
    try clear hfz45_1
    try clear hfz48_0
    try clear hfz48_1
    try clear hfz51_0
    try clear hfz51_1
    try clear hfz51_2
    obtain⟨x3_2,Vx,u620000,HA,HK2,HO_3,HO_620000,HO_620001,Zj,Zu,Zs,HB⟩:=hrel;cases gk with
    |zero=>exact absurd HA.out (by simp[ebbtideref13_Split.l1])
    |succ k2=>
     have H:=HA.out;clear HA;simp only[ebbtideref13_Split.l1] at H;replace H:=Option.bind_eq_some_iff.mp H;obtain⟨t637,A540,H⟩:=H;try dsimp only at H
     have A54:=Ya A540;clear A540;replace H:=Option.bind_eq_some_iff.mp H;obtain⟨⟨t640,t643⟩,A550,H⟩:=H;try dsimp only at H
     have A55:=Ya A550;clear A550;by_cases c56:t643=true
     rotate_left
     ·replace c56:=Bool.eq_false_iff.mpr c56
      subst c56;rw[Yy (show ¬ (false=true) by decide)] at H;simp only[Option.some.injEq,Prod.mk.injEq] at H;obtain⟨rfl,rfl,rfl⟩:=H;try go_wp2
      replace HO_3:=Ya (Kd.V_drew HO_3.out);replace HO_620000:=Ya (Kd.S_drew HO_620000.out);replace HO_620001:=Ya (Kd.S_drew HO_620001.out);replace Zj:=Ya (Ym Zj.out);replace Zu:=Ya (Ym Zu.out);replace Zs:=Ya (Ym Zs.out);replace HB:=Ya (Yg HB.out);obtain⟨Ao84,co84,eo84⟩:=Kd.V_slice HO_3.out
      (first|subst eo84|(injection eo84 with f1_ f2_ f3_;have f4_:=f1_.symm;have f5_:=f3_.symm;clear f1_ f2_ f3_;subst f4_;subst f5_))
      refine start_ (n:=11) (S:=fun w'=>w'.cell? ⟨Xk,0,none⟩=some (.int .i64 Zc)∧w'.cell? ⟨Xk,1,none⟩=some (.bool Zb)∧w'.cell? ⟨Xk,2,none⟩=some (.slice Ze Za.length Zd)) (ds:=[]) #[false,false,false,false,false,false,false,false,false,false,false] (by kernel_rfl) rfl rfl ⟨(Yc Zj.out 0).trans rfl,(Yc Zj.out 1).trans rfl,(Yc Zj.out 2).trans rfl⟩ (fun hHeld=> ?_);refine with_tabW ebbtideref13_Split.tab12 ebbtideref13_Split.bits12 (fun HT_ HW_=> ?_);generalize wr.drew=w83 at HO_3 HO_620000 HO_620001 Zj Zu Zs HB hHeld ⊢;refine pu 1 59 (bm 11 2) ?_;refine pu 2 60 (bm 11 6) ?_;refine pu 3 61 (bm 11 14) ?_;refine ta 0 58 (bm 11 15) hHeld ?_;refine on 4 (some 62) (bm 11 31) fun K hK=> ?_
      refine gs Try.func55 #[.slice Ao84 x3_2.length co84] ?_
      with_reducible refine(ebbtideref13_along.calls k2 _ _ x3_2 t637 _ ?side1 ?side2 A54.out).mono ?_
      (case side1=>exact(Kd.V_reads' HO_3.out).2.2)
      (case side2=>exact(Kd.V_reads' HO_3.out).2.1)
      rintro e w85 ⟨v638,rfl,ho0,hb⟩;refine⟨_,rfl,?_⟩;replace HO_3:=Ya (Kd.V_elder' HO_3.out (Kd.R_base ho0) hb);replace HO_620000:=Ya (Kd.S_below HO_620000.out hb);replace HO_620001:=Ya (Kd.S_below HO_620001.out hb);have Ux:=Ya (Kd.R_lower (Kd.R_newM (M:=fun k_=>(w.heap.size≤k_)) ho0 (Yi HB.out) (fun k_ h_=>h_)) (Yi HB.out));replace Zj:=Ya (Yn Zj.out hb);replace Zu:=Ya (Yn Zu.out hb);replace Zs:=Ya (Yn Zs.out hb);replace HB:=Ya (Yk HB.out hb)
      (try clear hb)
      (try clear hb2)
      (try clear hk)
      (try clear hi)
      (try clear ho0)
      obtain⟨Ao86,co86,eo86⟩:=Kd.R_slice Ux.out
      (first|subst eo86|(injection eo86 with f1_ f2_ f3_;have f4_:=f1_.symm;have f5_:=f3_.symm;clear f1_ f2_ f3_;subst f4_;subst f5_))
      refine hK.out _ _ ⟨bc Zj 0,bc Zj 1,bc Zj 2⟩ (fun hHeld=> ?_);clear hK K;refine nm ?_;refine on 5 (some 63) (bm 11 63) fun K hK=> ?_
      refine gs Try.func54 #[.agg #[.int .i64 Zc, .bool Zb, .slice Ze Za.length Zd], .int .i64 a1, .int .i64 a2, .slice Ao86 t637.length co86] ?_
      with_reducible refine(ebbtideref08_Way.calls Zc Zb _ _ Za a1 a2 _ _ t637 t640 false _ ?side1 ?side2 ?side3 ?side4 A55.out).mono ?_
      (case side1=>exact(Yt Zk.out HB.out))
      (case side2=>exact Zx.out)
      (case side3=>exact(Kd.R_reads' Ux.out).2.2)
      (case side4=>exact(Kd.R_reads' Ux.out).2.1)
      rintro e w87 ⟨v641,rfl,ho0,hb⟩;refine⟨_,rfl,?_⟩;replace HO_3:=Ya (Kd.V_elder' HO_3.out (Kd.R_base ho0) hb);replace HO_620000:=Ya (Kd.S_below HO_620000.out hb);replace HO_620001:=Ya (Kd.S_below HO_620001.out hb);have HO642:=Ya (Kd.R_lower (Kd.R_new' (Kd.R_newM (M:=fun k_=>(w.heap.size≤k_)) ho0 (Yi HB.out) (fun k_ h_=>h_)) (Kd.R_lt Ux.out)) (Yi HB.out));replace Ux:=Ya (Kd.R_elder' Ux.out (Kd.R_base ho0) hb);replace Zj:=Ya (Yn Zj.out hb);replace Zu:=Ya (Yn Zu.out hb);replace Zs:=Ya (Yn Zs.out hb);replace HB:=Ya (Yk HB.out hb)
      (try clear hb)
      (try clear hb2)
      (try clear hk)
      (try clear hi)
      (try clear ho0)
      refine hK.out _ _ ⟨bc Zj 0,bc Zj 1,bc Zj 2⟩ (fun hHeld=> ?_);clear hK K;refine nm ?_;refine pu 6 57 (bm 11 127) ?_;refine pu 7 64 (bm 11 255) ?_;refine pu 8 65 (bm 11 511) ?_;refine pu 9 17 (bm 11 1023) ?_;refine pu 10 18 (bm 11 2047) ?_;refine done_ (done_of HT_.out (by kernel_rfl)) ?_;have hnb88:=Ja.out;have hnc88:=Vw.out;have hnb89:=NB619_618.out;have hnc89:=Jb.out;have hcz90_0:w87.cell? ⟨Xl,0,none⟩=some (u620000):=bc Zs 0;have hcz90_1:w87.cell? ⟨Xl,1,none⟩=some (u620001):=bc Zs 1;have hfz90_0:=Yf Zs.out 0;have hfz90_1:=Yf Zs.out 1;obtain⟨Ao91,co91,eo91⟩:=Kd.S_slice HO_620000.out;subst eo91;have hnb92:=Jt.out;have hnc92:=Js.out;have hcz93_0:w87.cell? ⟨Xs,0,none⟩=some (.slice none 0 0):=bc Zu 0;have hcz93_1:w87.cell? ⟨Xs,1,none⟩=some (.slice none 0 0):=bc Zu 1;have hfz93_0:=Yf Zu.out 0;have hfz93_1:=Yf Zu.out 1;obtain⟨Ao94,co94,eo94⟩:=Kd.S_slice HO_620001.out;subst eo94;try go_wp2
      refine bodyPost_ret (results_ct rfl _ _ Xs 54 #[.slice Ao91 Vx.length co91, .slice Ao94 Vc.length co94] (0,0) _ rfl (by(with_reducible repeat(first|refine Yl ?_ _|refine Ym ?_|refine Yj ?_ _));refine YA (cs:= #[.slice Ao91 Vx.length co91, .slice none 0 0]) ?_ 1 _ rfl;(with_reducible repeat(first|refine Yl ?_ _|refine Ym ?_|refine Yj ?_ _));refine YA (cs:= #[.slice none 0 0, .slice none 0 0]) ?_ 0 _ rfl;(with_reducible repeat(first|refine Yl ?_ _|refine Ym ?_|refine Yj ?_ _));exact Zu.out) Try.underlying54 rfl (by kernel_rfl)) rfl ?_;exact⟨_,_,by first|rfl|(simp[errW_none,errW_some]<;>rfl)|(simp[*,errW_none,errW_some]<;>rfl),by(with_reducible repeat(first|apply Kd.S_alloc|apply Kd.S_drewN|apply Kd.S_drew));exact Kd.S_mono (Kd.S_far (p:=⟨Xs,1,none⟩) (Kd.S_far (p:=⟨Xs,0,none⟩) (Kd.S_types HO_620000.out Zu.out (by decide)) (fun _ hk=>hk.2) (.slice Ao91 Vx.length co91)) (fun _ hk=>hk.2) (.slice Ao94 Vc.length co94)) (fun _ hk=>⟨hk.1.1,hk.1.2⟩),by(with_reducible repeat(first|apply Kd.S_alloc|apply Kd.S_drewN|apply Kd.S_drew));exact Kd.S_mono (Kd.S_far (p:=⟨Xs,1,none⟩) (Kd.S_far (p:=⟨Xs,0,none⟩) (Kd.S_types HO_620001.out Zu.out (by decide)) (fun _ hk=>hk.2) (.slice Ao91 Vx.length co91)) (fun _ hk=>hk.2) (.slice Ao94 Vc.length co94)) (fun _ hk=>⟨hk.1.1,hk.1.2⟩),bl⟩
     subst c56;first|rw[Yx rfl] at H|rw[Yx trivial] at H
     replace H:=Option.bind_eq_some_iff.mp H;obtain⟨t644,A570,H⟩:=H;try dsimp only at H
     have A57:=Ya A570;clear A570;replace H:=Option.bind_eq_some_iff.mp H;obtain⟨⟨t647,t650,t651⟩,A580,H⟩:=H;try dsimp only at H
     have A58:=Ya A580;clear A580;by_cases c59:Vx.length<4398046511104
     rotate_left
     ·rw[Yy c59] at H
      exact absurd H (by simp)
     rw[Yx c59] at H;have LMc59:=Ya c59;clear c59;obtain⟨y655,hy655⟩: ∃ y_:List (S47),y_=(Vx ++ [(⟨t647,t650⟩:S47)]):=⟨_,rfl⟩;rw[← hy655] at H;have Ny655:=Ya hy655;clear hy655;have H':=Ya H;clear H;try go_wp2
     replace HO_3:=Ya (Kd.V_drew HO_3.out);replace HO_620000:=Ya (Kd.S_drew HO_620000.out);replace HO_620001:=Ya (Kd.S_drew HO_620001.out);replace Zj:=Ya (Ym Zj.out);replace Zu:=Ya (Ym Zu.out);replace Zs:=Ya (Ym Zs.out);replace HB:=Ya (Yg HB.out);obtain⟨Ao61,co61,eo61⟩:=Kd.V_slice HO_3.out
     (first|subst eo61|(injection eo61 with f1_ f2_ f3_;have f4_:=f1_.symm;have f5_:=f3_.symm;clear f1_ f2_ f3_;subst f4_;subst f5_))
     refine start_ (n:=11) (S:=fun w'=>w'.cell? ⟨Xk,0,none⟩=some (.int .i64 Zc)∧w'.cell? ⟨Xk,1,none⟩=some (.bool Zb)∧w'.cell? ⟨Xk,2,none⟩=some (.slice Ze Za.length Zd)) (ds:=[]) #[false,false,false,false,false,false,false,false,false,false,false] (by kernel_rfl) rfl rfl ⟨(Yc Zj.out 0).trans rfl,(Yc Zj.out 1).trans rfl,(Yc Zj.out 2).trans rfl⟩ (fun hHeld=> ?_);refine with_tabW ebbtideref13_Split.tab12 ebbtideref13_Split.bits12 (fun HT_ HW_=> ?_);generalize wr.drew=w60 at HO_3 HO_620000 HO_620001 Zj Zu Zs HB hHeld ⊢;refine pu 1 59 (bm 11 2) ?_;refine pu 2 60 (bm 11 6) ?_;refine pu 3 61 (bm 11 14) ?_;refine ta 0 58 (bm 11 15) hHeld ?_;refine on 4 (some 62) (bm 11 31) fun K hK=> ?_
     refine gs Try.func55 #[.slice Ao61 x3_2.length co61] ?_
     with_reducible refine(ebbtideref13_along.calls k2 _ _ x3_2 t637 _ ?side1 ?side2 A54.out).mono ?_
     (case side1=>exact(Kd.V_reads' HO_3.out).2.2)
     (case side2=>exact(Kd.V_reads' HO_3.out).2.1)
     rintro e w62 ⟨v638,rfl,ho0,hb⟩;refine⟨_,rfl,?_⟩;replace HO_3:=Ya (Kd.V_elder' HO_3.out (Kd.R_base ho0) hb);replace HO_620000:=Ya (Kd.S_below HO_620000.out hb);replace HO_620001:=Ya (Kd.S_below HO_620001.out hb);have Ux:=Ya (Kd.R_lower (Kd.R_newM (M:=fun k_=>(w.heap.size≤k_)) ho0 (Yi HB.out) (fun k_ h_=>h_)) (Yi HB.out));replace Zj:=Ya (Yn Zj.out hb);replace Zu:=Ya (Yn Zu.out hb);replace Zs:=Ya (Yn Zs.out hb);replace HB:=Ya (Yk HB.out hb)
     (try clear hb)
     (try clear hb2)
     (try clear hk)
     (try clear hi)
     (try clear ho0)
     obtain⟨Ao63,co63,eo63⟩:=Kd.R_slice Ux.out
     (first|subst eo63|(injection eo63 with f1_ f2_ f3_;have f4_:=f1_.symm;have f5_:=f3_.symm;clear f1_ f2_ f3_;subst f4_;subst f5_))
     refine hK.out _ _ ⟨bc Zj 0,bc Zj 1,bc Zj 2⟩ (fun hHeld=> ?_);clear hK K;refine nm ?_;refine on 5 (some 63) (bm 11 63) fun K hK=> ?_
     refine gs Try.func54 #[.agg #[.int .i64 Zc, .bool Zb, .slice Ze Za.length Zd], .int .i64 a1, .int .i64 a2, .slice Ao63 t637.length co63] ?_
     with_reducible refine(ebbtideref08_Way.calls Zc Zb _ _ Za a1 a2 _ _ t637 t640 true _ ?side1 ?side2 ?side3 ?side4 A55.out).mono ?_
     (case side1=>exact(Yt Zk.out HB.out))
     (case side2=>exact Zx.out)
     (case side3=>exact(Kd.R_reads' Ux.out).2.2)
     (case side4=>exact(Kd.R_reads' Ux.out).2.1)
     rintro e w64 ⟨v641,rfl,ho0,hb⟩;refine⟨_,rfl,?_⟩;replace HO_3:=Ya (Kd.V_elder' HO_3.out (Kd.R_base ho0) hb);replace HO_620000:=Ya (Kd.S_below HO_620000.out hb);replace HO_620001:=Ya (Kd.S_below HO_620001.out hb);have HO642:=Ya (Kd.R_lower (Kd.R_new' (Kd.R_newM (M:=fun k_=>(w.heap.size≤k_)) ho0 (Yi HB.out) (fun k_ h_=>h_)) (Kd.R_lt Ux.out)) (Yi HB.out));replace Ux:=Ya (Kd.R_elder' Ux.out (Kd.R_base ho0) hb);replace Zj:=Ya (Yn Zj.out hb);replace Zu:=Ya (Yn Zu.out hb);replace Zs:=Ya (Yn Zs.out hb);replace HB:=Ya (Yk HB.out hb)
     (try clear hb)
     (try clear hb2)
     (try clear hk)
     (try clear hi)
     (try clear ho0)
     refine hK.out _ _ ⟨bc Zj 0,bc Zj 1,bc Zj 2⟩ (fun hHeld=> ?_);clear hK K;refine nm ?_;refine pu 6 57 (bm 11 127) ?_;refine pu 7 64 (bm 11 255) ?_;refine pu 8 65 (bm 11 511) ?_;refine pu 9 17 (bm 11 1023) ?_;refine pu 10 18 (bm 11 2047) ?_;refine done_ (done_of HT_.out (by kernel_rfl)) ?_;obtain⟨Ao65,co65,eo65⟩:=Kd.R_slice HO642.out;subst eo65;try go_wp2_with (first|((with_reducible refine gate_callee (f:=56) rfl ?_);refine gl (some 72) Try.func56 #[.slice Ao65 t640.length co65] ?_;(with_reducible refine(ebbtideref13_places.calls k2 _ _ t640 t644 _ ?side1 ?side2 A57.out).mono ?_);(case side1=>exact kC (Kd.R_reads' HO642.out).2.2);(case side2=>exact(Kd.R_reads' HO642.out).2.1);rintro e w66 ⟨v645,rfl,ho0,hb⟩;refine⟨_,rfl,?_⟩;replace HO_3:=Ya (Kd.V_elder' (kV HO_3) (Kd.R_base ho0) hb);replace HO_620000:=Ya (Kd.S_elder' (kS HO_620000) (Kd.R_base ho0) hb);replace HO_620001:=Ya (Kd.S_elder' (kS HO_620001) (Kd.R_base ho0) hb);replace Ux:=Ya (Ys (kR Ux) hb);replace HO642:=Ya (Ys (kR HO642) hb);have HO646:=Ya (Kd.R_lower (Kd.R_newM (M:=fun k_=>(w.heap.size≤k_)) ho0 (Yi bl) (fun k_ h_=>h_)) (Yi bl));replace Zj:=Ya (Yn (bk Zj) hb);replace Zu:=Ya (Yn (bk Zu) hb);replace Zs:=Ya (Yn (bk Zs) hb);replace HB:=Ya (Yk bl hb);(try clear hb);(try clear ho0);obtain⟨Ao67,co67,eo67⟩:=Kd.R_slice HO646.out;subst eo67)|((with_reducible refine gate_callee (f:=53) rfl ?_);refine gl (some 73) Try.func53 #[.slice Ao61 x3_2.length co61, .slice Ao67 t644.length co67] ?_;(with_reducible refine(ebbtideref13_taken.calls k2 _ _ x3_2 (fun k_=>some k_=(.slice Ao67 t644.length co67:Value).ownBlock) (.slice Ao67 t644.length co67) t644 t647 t650 t651 w _ ?side1 ?side2 ?side3 ?side4 A58.out).mono ?_);(case side1=>repeat(first|(with_reducible first|exact HB.out|apply Ye|apply Yd|apply Yg|refine Yh ?_ GE617.out|refine Yh ?_ GE618.out|refine Yh ?_ GE619.out)|exact HB.out));(case side2=>exact Kd.C_kept_ownV (HO_3.out) (fun k_ hk_ hs_=>(hk_.2) hs_));(case side3=>exact(Kd.V_reads' HO_3.out).2.1);(case side4=>exact Kd.R_tight rfl HO646.out);rintro e w68 ⟨v648,v652,rfl,ho0,ho1,hb,hkp⟩;refine⟨_,rfl,?_⟩;replace HO_3:=Ya (Kd.V_mono (ok':=fun k_=>(P3_ k_∨w.heap.size≤k_)∧some k_≠(u620000:Value).ownBlock∧some k_≠(u620001:Value).ownBlock∧some k_≠(.slice Ao63 t637.length co63:Value).ownBlock∧some k_≠(.slice Ao65 t640.length co65:Value).ownBlock∧k_≠Xk∧k_≠Xs∧k_≠Xl∧some k_≠(v648:Value).ownBlock∧some k_≠(v652:Value).ownBlock) (Kd.V_keptB (HO_3.out) hkp (fun k_ hk_ hs_=>(hk_.2) hs_)) (fun k_ hk_=>⟨hk_.1.1.1.1.1,hk_.1.1.1.1.2.1,hk_.1.1.1.1.2.2.1,hk_.1.1.1.2,hk_.1.1.2,hk_.1.1.1.1.2.2.2.1,hk_.1.1.1.1.2.2.2.2.1,hk_.1.1.1.1.2.2.2.2.2,fun e_=>Or.elim (ho0.1 k_ e_.symm).1 (fun hs_=>hk_.2.1 hs_) (fun hn_=>Nat.not_le.2 hk_.2.2 hn_),fun e_=>Or.elim (ho1.1 k_ e_.symm).1 (fun hs_=>hk_.2.1 hs_) (fun hn_=>Nat.not_le.2 hk_.2.2 hn_)⟩));replace HO_620000:=Ya (Kd.S_mono (ok':=fun k_=>(w.heap.size≤k_)∧some k_≠(u620001:Value).ownBlock∧some k_≠(v648:Value).ownBlock∧some k_≠(v652:Value).ownBlock) (Kd.S_keptB (HO_620000.out) hkp (fun k_ hk_ hs_=>(hk_.2) hs_)) (fun k_ hk_=>⟨hk_.1.1.1,hk_.1.1.2,fun e_=>Or.elim (ho0.1 k_ e_.symm).1 (fun hs_=>hk_.2.1 hs_) (fun hn_=>Nat.not_le.2 hk_.2.2 hn_),fun e_=>Or.elim (ho1.1 k_ e_.symm).1 (fun hs_=>hk_.2.1 hs_) (fun hn_=>Nat.not_le.2 hk_.2.2 hn_)⟩));replace HO_620001:=Ya (Kd.S_mono (ok':=fun k_=>(w.heap.size≤k_)∧some k_≠(u620000:Value).ownBlock∧some k_≠(v648:Value).ownBlock∧some k_≠(v652:Value).ownBlock) (Kd.S_keptB (HO_620001.out) hkp (fun k_ hk_ hs_=>(hk_.2) hs_)) (fun k_ hk_=>⟨hk_.1.1.1,hk_.1.1.2,fun e_=>Or.elim (ho0.1 k_ e_.symm).1 (fun hs_=>hk_.2.1 hs_) (fun hn_=>Nat.not_le.2 hk_.2.2 hn_),fun e_=>Or.elim (ho1.1 k_ e_.symm).1 (fun hs_=>hk_.2.1 hs_) (fun hn_=>Nat.not_le.2 hk_.2.2 hn_)⟩));replace Zj:=Ya (blk_kept (bk Zj) hkp (fun hs_=>(fun e_=>(Kd.R_ne HO646.out Zj.out (by decide)) e_) hs_));replace Zu:=Ya (blk_kept (bk Zu) hkp (fun hs_=>(fun e_=>(Kd.R_ne HO646.out Zu.out (by decide)) e_) hs_));replace Zs:=Ya (blk_kept (bk Zs) hkp (fun hs_=>(fun e_=>(Kd.R_ne HO646.out Zs.out (by decide)) e_) hs_));replace Ux:=Ya (Kd.R_mono (ok':=fun k_=>(w.heap.size≤k_)∧some k_≠(.slice Ao65 t640.length co65:Value).ownBlock) (Kd.R_keptB ((Kd.R_apart' Ux.out (Kd.R_typed HO646.out) (by decide))) hkp (fun k_ hk_ hs_=>(hk_.2) hs_)) (fun k_ hk_=>⟨hk_.1.1.1.1,hk_.1.1.2⟩));replace HO642:=Ya (Kd.R_mono (ok':=fun k_=>(w.heap.size≤k_)∧some k_≠(.slice Ao63 t637.length co63:Value).ownBlock) (Kd.R_keptB ((Kd.R_apart' HO642.out (Kd.R_typed HO646.out) (by decide))) hkp (fun k_ hk_ hs_=>(hk_.2) hs_)) (fun k_ hk_=>⟨hk_.1.1.1.1,hk_.1.1.2⟩));have HO649:=Ya (Kd.R_mono (ok':=fun k_=>(w.heap.size≤k_)∧some k_≠(v652:Value).ownBlock) ho0 (fun k_ hk_=>⟨Or.elim hk_.1 (fun hs_=>(HO646.out.1 k_ (hs_).symm).1) (fun hn_=>(Nat.le_trans (Yi bl) hn_)),hk_.2⟩));have HO653:=Ya (Kd.R_mono (ok':=fun k_=>(w.heap.size≤k_)∧some k_≠(v648:Value).ownBlock) ho1 (fun k_ hk_=>⟨Or.elim hk_.1 (fun hs_=>(HO646.out.1 k_ (hs_).symm).1) (fun hn_=>(Nat.le_trans (Yi bl) hn_)),hk_.2⟩));replace HB:=Ya (hb);clear HO646;(try clear hb);(try clear hkp);(try clear ho0);(try clear ho1))|(refine bx 19 47 #[.slice none 0 0, .int .i64 0] ?_;intro Wf hg w69 Zf hb;replace HO_3:=Ya (Kd.V_below (Kd.V_elderB (kV HO_3) Wf (Nat.le_of_eq hg.symm)) hb);replace HO_620000:=Ya (Kd.S_below (Kd.S_elderB (kS HO_620000) Wf (Nat.le_of_eq hg.symm)) hb);replace HO_620001:=Ya (Kd.S_below (Kd.S_elderB (kS HO_620001) Wf (Nat.le_of_eq hg.symm)) hb);replace Ux:=Ya (Ys (kR Ux) hb);replace HO642:=Ya (Ys (kR HO642) hb);replace HO649:=Ya (Ys (kR HO649) hb);replace HO653:=Ya (Ys (kR HO653) hb);have BK654:=Ya (Zf);have GW654:=Ya ((sz hg));have GE654:=Ya ((sz hg));replace HB:=Ya (Yk bl hb);have NB617_654:=Ya (by rw[hg];exact Nat.ne_of_lt (blk_lt (bk Zj)):Xk≠Wf);have NB654_617:=Ya (by rw[hg];exact Nat.ne_of_gt (blk_lt (bk Zj)):Wf≠Xk);replace Zj:=Ya (Yn (bk Zj) hb);have NB618_654:=Ya (by rw[hg];exact Nat.ne_of_lt (blk_lt (bk Zu)):Xs≠Wf);have NB654_618:=Ya (by rw[hg];exact Nat.ne_of_gt (blk_lt (bk Zu)):Wf≠Xs);replace Zu:=Ya (Yn (bk Zu) hb);have NB619_654:=Ya (by rw[hg];exact Nat.ne_of_lt (blk_lt (bk Zs)):Xl≠Wf);have NB654_619:=Ya (by rw[hg];exact Nat.ne_of_gt (blk_lt (bk Zs)):Wf≠Xl);replace Zs:=Ya (Yn (bk Zs) hb);clear hb Zf hg;obtain⟨Ao70,co70,eo70⟩:=Kd.R_slice HO649.out;subst eo70;have hnb71:=NB654_617.out;have hnc71:=NB617_654.out;have hnb72:=NB654_618.out;have hnc72:=NB618_654.out;have hnb73:=NB654_619.out;have hnc73:=NB619_654.out;have hcz74_0:w69.cell? ⟨Wf,0,none⟩=some (.slice none 0 0):=bc BK654 0;have hcz74_1:w69.cell? ⟨Wf,1,none⟩=some (.int .i64 0):=bc BK654 1;have hfz74_0:=Yf BK654.out 0;have hfz74_1:=Yf BK654.out 1)|((with_reducible refine gate_store (t:=47) (p:=19) rfl ?_);refine store_event (t:=47) (p:=19) (v:= ?vo_w75) (w1:=((w69.setCell ⟨Wf,0,none⟩ (.slice Ao70 t647.length co70)).setCell ⟨Wf,1,none⟩ (.int .i64 t650))) ?hg ?ho ?hn ?hr ?_;(case ho=>rfl);(case hg=>rfl);(case hn=>rfl);(case hr=>first|(go_simp;done)|(go_simp;rfl));intro w75 hw;replace HO_3:Aside0 (Kd.V (Kd.int .i64) 3 w75 w.heap.size (fun k_=>(P3_ k_∨w.heap.size≤k_)∧some k_≠(u620000:Value).ownBlock∧some k_≠(u620001:Value).ownBlock∧some k_≠(.slice Ao63 t637.length co63:Value).ownBlock∧some k_≠(.slice Ao65 t640.length co65:Value).ownBlock∧some k_≠(.slice Ao70 t647.length co70:Value).ownBlock∧some k_≠(v652:Value).ownBlock∧k_≠Xk∧k_≠Xs∧k_≠Xl∧k_≠Wf) (.slice Ao61 x3_2.length co61) x3_2):=⟨(by rw[hw];exact(by(with_reducible repeat(first|apply Kd.V_alloc|apply Kd.V_drewN|apply Kd.V_drew));exact Kd.V_mono (Kd.V_far (p:=⟨Wf,1,none⟩) (Kd.V_far (p:=⟨Wf,0,none⟩) (Kd.V_mono HO_3.out (fun k_ hk=>(⟨hk,hk.2⟩:_∧k_≠Wf))) (fun _ hk=>hk.2) (.slice Ao70 t647.length co70)) (fun _ hk=>hk.2) (.int .i64 t650)) (fun _ hk=>⟨hk.1.1.1,⟨hk.1.1.2.1,⟨hk.1.1.2.2.1,⟨hk.1.1.2.2.2.1,⟨hk.1.1.2.2.2.2.1,⟨hk.1.1.2.2.2.2.2.2.2.2.1,⟨hk.1.1.2.2.2.2.2.2.2.2.2,⟨hk.1.1.2.2.2.2.2.1,⟨hk.1.1.2.2.2.2.2.2.1,⟨hk.1.1.2.2.2.2.2.2.2.1,hk.1.2⟩⟩⟩⟩⟩⟩⟩⟩⟩⟩)))⟩;replace HO_620000:Aside0 (Kd.S k47 47 w75 w.heap.size (fun k_=>(w.heap.size≤k_)∧some k_≠(u620001:Value).ownBlock∧some k_≠(.slice Ao70 t647.length co70:Value).ownBlock∧some k_≠(v652:Value).ownBlock∧k_≠Wf) u620000 Vx):=⟨(by rw[hw];exact(by(with_reducible repeat(first|apply Kd.S_alloc|apply Kd.S_drewN|apply Kd.S_drew));exact Kd.S_mono (Kd.S_far (p:=⟨Wf,1,none⟩) (Kd.S_far (p:=⟨Wf,0,none⟩) (Kd.S_mono HO_620000.out (fun k_ hk=>(⟨hk,hk.2⟩:_∧k_≠Wf))) (fun _ hk=>hk.2) (.slice Ao70 t647.length co70)) (fun _ hk=>hk.2) (.int .i64 t650)) (fun _ hk=>⟨hk.1.1.1,⟨hk.1.1.2.1,⟨hk.1.1.2.2.1,⟨hk.1.1.2.2.2,hk.1.2⟩⟩⟩⟩)))⟩;replace HO_620001:Aside0 (Kd.S k47 47 w75 w.heap.size (fun k_=>(w.heap.size≤k_)∧some k_≠(u620000:Value).ownBlock∧some k_≠(.slice Ao70 t647.length co70:Value).ownBlock∧some k_≠(v652:Value).ownBlock∧k_≠Wf) u620001 Vc):=⟨(by rw[hw];exact(by(with_reducible repeat(first|apply Kd.S_alloc|apply Kd.S_drewN|apply Kd.S_drew));exact Kd.S_mono (Kd.S_far (p:=⟨Wf,1,none⟩) (Kd.S_far (p:=⟨Wf,0,none⟩) (Kd.S_mono HO_620001.out (fun k_ hk=>(⟨hk,hk.2⟩:_∧k_≠Wf))) (fun _ hk=>hk.2) (.slice Ao70 t647.length co70)) (fun _ hk=>hk.2) (.int .i64 t650)) (fun _ hk=>⟨hk.1.1.1,⟨hk.1.1.2.1,⟨hk.1.1.2.2.1,⟨hk.1.1.2.2.2,hk.1.2⟩⟩⟩⟩)))⟩;replace Ux:Aside0 (Kd.R k79 79 w75 w.heap.size (fun k_=>(w.heap.size≤k_)∧some k_≠(.slice Ao65 t640.length co65:Value).ownBlock) (.slice Ao63 t637.length co63) t637):=⟨(by rw[hw];exact(by(with_reducible repeat(first|apply Yr|apply Yq|apply Yp));exact Kd.R_mono (Kd.R_far (p:=⟨Wf,1,none⟩) (Kd.R_far (p:=⟨Wf,0,none⟩) (Kd.R_types Ux.out BK654.out (by decide)) (fun _ hk=>hk.2) (.slice Ao70 t647.length co70)) (fun _ hk=>hk.2) (.int .i64 t650)) (fun _ hk=>⟨hk.1.1,hk.1.2⟩)))⟩;replace HO642:Aside0 (Kd.R k79 79 w75 w.heap.size (fun k_=>(w.heap.size≤k_)∧some k_≠(.slice Ao63 t637.length co63:Value).ownBlock) (.slice Ao65 t640.length co65) t640):=⟨(by rw[hw];exact(by(with_reducible repeat(first|apply Yr|apply Yq|apply Yp));exact Kd.R_mono (Kd.R_far (p:=⟨Wf,1,none⟩) (Kd.R_far (p:=⟨Wf,0,none⟩) (Kd.R_types HO642.out BK654.out (by decide)) (fun _ hk=>hk.2) (.slice Ao70 t647.length co70)) (fun _ hk=>hk.2) (.int .i64 t650)) (fun _ hk=>⟨hk.1.1,hk.1.2⟩)))⟩;replace HO649:Aside0 (Kd.R (Kd.int .i64) 3 w75 w.heap.size (fun k_=>(w.heap.size≤k_)∧some k_≠(v652:Value).ownBlock) (.slice Ao70 t647.length co70) t647):=⟨(by rw[hw];exact(by(with_reducible repeat(first|apply Yr|apply Yq|apply Yp));exact Kd.R_mono (Kd.R_far (p:=⟨Wf,1,none⟩) (Kd.R_far (p:=⟨Wf,0,none⟩) (Kd.R_types HO649.out BK654.out (by decide)) (fun _ hk=>hk.2) (.slice Ao70 t647.length co70)) (fun _ hk=>hk.2) (.int .i64 t650)) (fun _ hk=>⟨hk.1.1,hk.1.2⟩)))⟩;replace HO653:Aside0 (Kd.R (Kd.int .i64) 3 w75 w.heap.size (fun k_=>(w.heap.size≤k_)∧some k_≠(.slice Ao70 t647.length co70:Value).ownBlock) v652 t651):=⟨(by rw[hw];exact(by(with_reducible repeat(first|apply Yr|apply Yq|apply Yp));exact Kd.R_mono (Kd.R_far (p:=⟨Wf,1,none⟩) (Kd.R_far (p:=⟨Wf,0,none⟩) (Kd.R_types HO653.out BK654.out (by decide)) (fun _ hk=>hk.2) (.slice Ao70 t647.length co70)) (fun _ hk=>hk.2) (.int .i64 t650)) (fun _ hk=>⟨hk.1.1,hk.1.2⟩)))⟩;replace Zj:Aside0 (w75.heap[Xk]? =some (.cells #[.int .i64 Zc, .bool Zb, .slice Ze Za.length Zd] 24 (0,0))):=⟨(by rw[hw];exact(by(with_reducible repeat(first|refine Yl ?_ _|refine Ym ?_|refine Yj ?_ _));refine blk_far ?_ NB617_654.out _;(with_reducible repeat(first|refine Yl ?_ _|refine Ym ?_|refine Yj ?_ _));refine blk_far ?_ NB617_654.out _;(with_reducible repeat(first|refine Yl ?_ _|refine Ym ?_|refine Yj ?_ _));exact Zj.out))⟩;replace Zu:Aside0 (w75.heap[Xs]? =some (.cells #[.slice none 0 0, .slice none 0 0] 54 (0,0))):=⟨(by rw[hw];exact(by(with_reducible repeat(first|refine Yl ?_ _|refine Ym ?_|refine Yj ?_ _));refine blk_far ?_ NB618_654.out _;(with_reducible repeat(first|refine Yl ?_ _|refine Ym ?_|refine Yj ?_ _));refine blk_far ?_ NB618_654.out _;(with_reducible repeat(first|refine Yl ?_ _|refine Ym ?_|refine Yj ?_ _));exact Zu.out))⟩;replace Zs:Aside0 (w75.heap[Xl]? =some (.cells #[u620000,u620001] 54 (0,0))):=⟨(by rw[hw];exact(by(with_reducible repeat(first|refine Yl ?_ _|refine Ym ?_|refine Yj ?_ _));refine blk_far ?_ NB619_654.out _;(with_reducible repeat(first|refine Yl ?_ _|refine Ym ?_|refine Yj ?_ _));refine blk_far ?_ NB619_654.out _;(with_reducible repeat(first|refine Yl ?_ _|refine Ym ?_|refine Yj ?_ _));exact Zs.out))⟩;replace BK654:Aside0 (w75.heap[Wf]? =some (.cells #[.slice Ao70 t647.length co70, .int .i64 t650] 47 (0,0))):=⟨(by rw[hw];exact(by(with_reducible repeat(first|refine Yl ?_ _|refine Ym ?_|refine Yj ?_ _));refine YA (cs:= #[.slice Ao70 t647.length co70, .int .i64 0]) ?_ 1 _ rfl;(with_reducible repeat(first|refine Yl ?_ _|refine Ym ?_|refine Yj ?_ _));refine YA (cs:= #[.slice none 0 0, .int .i64 0]) ?_ 0 _ rfl;(with_reducible repeat(first|refine Yl ?_ _|refine Ym ?_|refine Yj ?_ _));exact BK654.out))⟩;replace HB:Aside0 (Below w.heap.size w w75):=⟨(by rw[hw];exact bl)⟩;clear hw;have hnb76:=Ja.out;have hnc76:=Vw.out;have hnb77:=NB619_618.out;have hnc77:=Jb.out;have hcz78_0:w75.cell? ⟨Xl,0,none⟩=some (u620000):=bc Zs 0;have hcz78_1:w75.cell? ⟨Xl,1,none⟩=some (u620001):=bc Zs 1;have hfz78_0:=Yf Zs.out 0;have hfz78_1:=Yf Zs.out 1;have hcz79_0:w75.cell? ⟨Wf,0,none⟩=some (.slice Ao70 t647.length co70):=bc BK654 0;have hcz79_1:w75.cell? ⟨Wf,1,none⟩=some (.int .i64 t650):=bc BK654 1;have hfz79_0:=Yf BK654.out 0;have hfz79_1:=Yf BK654.out 1)|((with_reducible refine gate_builtin (b:= .append) (xs:= #[.tmp 77, .tmp 79]) rfl ?_);at_builtin;refine Kd.S_append k47 (w0:=w) w.heap.size rfl (.tmp 77) (.tmp 79) 42 47 (.agg #[(.slice none 0 0),(.int .i64 0)]) 32 rfl Try.underlying42 info47 rfl (by decide) (by omega) u620000 Vx (⟨t647,t650⟩:S47) [.slice Ao70 t647.length co70, .int .i64 t650] (fun k_=>(w.heap.size≤k_)∧some k_≠(u620001:Value).ownBlock∧some k_≠(v652:Value).ownBlock∧k_≠Wf) (fun k_=>some k_=(.slice Ao70 t647.length co70:Value).ownBlock) rfl rfl ?aP (fun k_ hk_=>((Kd.R_mono (ok':=fun k_=>((fun k_=>(w.heap.size≤k_)∧some k_≠(u620001:Value).ownBlock∧some k_≠(v652:Value).ownBlock∧k_≠Wf)) k_∧some k_≠(u620000:Value).ownBlock) (Kd.R_types (Kd.R_apart' (Kd.R_apart' (HO649.out) (Kd.S_typed HO_620001.out) (by decide)) (Kd.S_typed HO_620000.out) (by decide)) BK654.out (by decide)) (fun k_ hk=>⟨⟨hk.1.1.1.1,⟨hk.1.1.2,⟨hk.1.1.1.2,hk.2⟩⟩⟩,hk.1.2⟩))).1 k_ hk_.symm) ?aF ?aO ?aB ?aS ?aL ?_;(case aP=>exact k47_mkM _ _ _ (⟨t647,t650⟩:S47) (Kd.R_mono (Kd.R_tight rfl (Kd.R_mono (ok':=fun k_=>((fun k_=>(w.heap.size≤k_)∧some k_≠(u620001:Value).ownBlock∧some k_≠(v652:Value).ownBlock∧k_≠Wf)) k_∧some k_≠(u620000:Value).ownBlock) (Kd.R_types (Kd.R_apart' (Kd.R_apart' (HO649.out) (Kd.S_typed HO_620001.out) (by decide)) (Kd.S_typed HO_620000.out) (by decide)) BK654.out (by decide)) (fun k_ hk=>⟨⟨hk.1.1.1.1,⟨hk.1.1.2,⟨hk.1.1.1.2,hk.2⟩⟩⟩,hk.1.2⟩))) (fun _ h_=>h_)));(case aB=>exact bl);(case aF=>exact(fun k_ hk=>⟨(Nat.le_trans (Yi bl) hk),Kd.fresh' (Kd.S_lt (kS HO_620001)) k_ hk,Kd.fresh' (Kd.R_lt (kR HO653)) k_ hk,Kd.freshB (g:=Wf) (o:= .cells #[.slice Ao70 t647.length co70, .int .i64 t650] 47 (0,0)) (bk BK654) k_ hk⟩));(case aO=>exact(by(with_reducible repeat(first|apply Kd.S_alloc|apply Kd.S_drewN|apply Kd.S_drew));exact Kd.S_mono HO_620000.out (fun k_ hk=>⟨⟨hk.1,⟨hk.2.1,⟨hk.2.2.2.1,hk.2.2.2.2⟩⟩⟩,fun e_=>hk.2.2.1 e_⟩)));(case aS=>exact(Yi bl));(case aL=>have:=LMc59.out;omega);intro v656 w80 ho hb hg hat;rw[← Ny655.out] at ho;replace HO_3:=Ya (Kd.V_afterv (ok:=(fun k_=>(P3_ k_∨w.heap.size≤k_)∧some k_≠(u620001:Value).ownBlock∧some k_≠(.slice Ao63 t637.length co63:Value).ownBlock∧some k_≠(.slice Ao65 t640.length co65:Value).ownBlock∧some k_≠(.slice Ao70 t647.length co70:Value).ownBlock∧some k_≠(v652:Value).ownBlock∧k_≠Xk∧k_≠Xs∧k_≠Xl∧k_≠Wf)) (by(with_reducible repeat(first|apply Kd.V_alloc|apply Kd.V_drewN|apply Kd.V_drew));exact Kd.V_mono HO_3.out (fun _ hk=>⟨⟨hk.1,⟨hk.2.2.1,⟨hk.2.2.2.1,⟨hk.2.2.2.2.1,⟨hk.2.2.2.2.2.1,⟨hk.2.2.2.2.2.2.1,⟨hk.2.2.2.2.2.2.2.1,⟨hk.2.2.2.2.2.2.2.2.1,⟨hk.2.2.2.2.2.2.2.2.2.1,hk.2.2.2.2.2.2.2.2.2.2⟩⟩⟩⟩⟩⟩⟩⟩⟩,hk.2.1⟩)) hg hat);replace HO_620001:=Ya (Kd.S_after (ok:=(fun k_=>(w.heap.size≤k_)∧some k_≠(.slice Ao70 t647.length co70:Value).ownBlock∧some k_≠(v652:Value).ownBlock∧k_≠Wf)) (by(with_reducible repeat(first|apply Kd.S_alloc|apply Kd.S_drewN|apply Kd.S_drew));exact Kd.S_mono HO_620001.out (fun _ hk=>⟨⟨hk.1,⟨hk.2.2.1,⟨hk.2.2.2.1,hk.2.2.2.2⟩⟩⟩,hk.2.1⟩)) hg hat);replace Zj:=Ya (blk_grown (bk Zj) hg (Kd.S_ne HO_620000.out Zj.out (by decide)));replace Zu:=Ya (blk_grown (bk Zu) hg (Kd.S_ne HO_620000.out Zu.out (by decide)));replace Zs:=Ya (blk_grown (bk Zs) hg (Kd.S_ne HO_620000.out Zs.out (by decide)));replace Ux:=Ya (Kd.R_over' (kR Ux) (Kd.S_typed (kS HO_620000)) (by decide) hg);replace HO642:=Ya (Kd.R_over' (kR HO642) (Kd.S_typed (kS HO_620000)) (by decide) hg);replace HO653:=Ya (Kd.R_over' (kR HO653) (Kd.S_typed (kS HO_620000)) (by decide) hg);replace BK654:=Ya (blk_grown (bk BK654) hg (Kd.S_away HO_620000.out (fun _ hk=>hk.2.2.2.2)));replace HB:=Ya (hb);have HO657:=Ya (ho);clear HO_620000 HO649;clear ho hb hg hat;obtain⟨Ao81,co81,eo81⟩:=Kd.S_slice HO657.out;subst eo81;have hcz82_0:w80.cell? ⟨Xl,0,none⟩=some (u620000):=bc Zs 0;have hcz82_1:w80.cell? ⟨Xl,1,none⟩=some (u620001):=bc Zs 1;have hfz82_0:=Yf Zs.out 0;have hfz82_1:=Yf Zs.out 1))
     go_roundg k2
     case measure=>have:=HK1.out;have:=HK2.out;omega
     case rel=>exact⟨(t651),(y655),(.slice Ao81 y655.length co81),H',⟨by have:=HK1.out;have:=HK2.out;omega⟩,⟨Kd.V_mono (Kd.R_V (Kd.R_far (p:=⟨Xl,0,none⟩) (Kd.R_types (Kd.R_types (Kd.R_types (Kd.R_types (Kd.R_apart' (Kd.R_apart' HO653.out (Kd.S_typed HO657.out) (by decide)) (Kd.S_typed HO_620001.out) (by decide)) Zj.out (by decide)) Zu.out (by decide)) Zs.out (by decide)) Zs.out (by decide)) (fun _ hk=>hk.2) (.slice Ao81 y655.length co81))) (fun _ hk=>⟨(.inr hk.1.1.1.1.1.1.1),⟨hk.1.1.1.1.1.2,⟨hk.1.1.1.1.2,⟨hk.1.1.1.2,⟨hk.1.1.2,hk.1.2⟩⟩⟩⟩⟩)⟩,⟨by(with_reducible repeat(first|apply Kd.S_alloc|apply Kd.S_drewN|apply Kd.S_drew));exact Kd.S_mono (Kd.S_far (p:=⟨Xl,0,none⟩) (Kd.S_types HO657.out Zs.out (by decide)) (fun _ hk=>hk.2) (.slice Ao81 y655.length co81)) (fun _ hk=>⟨hk.1.1,hk.1.2.1⟩)⟩,⟨by(with_reducible repeat(first|apply Kd.S_alloc|apply Kd.S_drewN|apply Kd.S_drew));exact Kd.S_mono (Kd.S_far (p:=⟨Xl,0,none⟩) (Kd.S_types HO_620001.out Zs.out (by decide)) (fun _ hk=>hk.2) (.slice Ao81 y655.length co81)) (fun _ hk=>⟨hk.1.1.1,hk.1.2⟩)⟩,⟨by(with_reducible repeat(first|refine Yl ?_ _|refine Ym ?_|refine Yj ?_ _));refine blk_far ?_ Vw.out _;(with_reducible repeat(first|refine Yl ?_ _|refine Ym ?_|refine Yj ?_ _));exact Zj.out⟩,⟨by(with_reducible repeat(first|refine Yl ?_ _|refine Ym ?_|refine Yj ?_ _));refine blk_far ?_ Jb.out _;(with_reducible repeat(first|refine Yl ?_ _|refine Ym ?_|refine Yj ?_ _));exact Zu.out⟩,⟨by(with_reducible repeat(first|refine Yl ?_ _|refine Ym ?_|refine Yj ?_ _));refine YA (cs:= #[u620000,u620001]) ?_ 0 _ rfl;(with_reducible repeat(first|refine Yl ?_ _|refine Ym ?_|refine Yj ?_ _));exact Zs.out⟩,⟨bl⟩⟩
end P
namespace P
attribute [local go_sem] max2_int min2_int max_two min_two max_three min_three max_four min_four
mutual
def ebbtideref13_Clean.l0:Nat→List Int→Int→List (S47)→List (S47)→Option (List Int × Int)
 |0,_,_,_,_=>none
 |k+1,x12,x13,Jq,x674001=>if x13<(Jq.length:Int) then(ebbtideref13_Clean.l1 k x12 x13 0 Jq x674001) else(some (x12,0))
def ebbtideref13_Clean.l1:Nat→List Int→Int→Int→List (S47)→List (S47)→Option (List Int × Int)
 |0,_,_,_,_,_=>none
 |k+1,x12,x13,x14,Jq,x674001=>if 0≤x13 then(if x13<(Jq.length:Int) then(if x14<(((rd_T47 Jq x13).f0).length:Int) then(if 0≤x14 then(if 0≤(rd ((rd_T47 Jq x13).f0) x14) then(if (rd ((rd_T47 Jq x13).f0) x14)<(x12.length:Int) then(ebbtideref13_Clean.l1 k (x12.set ((rd ((rd_T47 Jq x13).f0) x14):Int).toNat (wrap64 ((rd x12 (rd ((rd_T47 Jq x13).f0) x14))+((rd_T47 Jq x13).f1)))) x13 (wrap64 (x14+1)) Jq x674001) else(none)) else(none)) else(none)) else(ebbtideref13_Clean.l0 k x12 (wrap64 (x13+1)) Jq x674001)) else(none)) else(none)
end
def ebbtideref13_Clean.f (k:Nat) (Zc:Int) (Zb:Bool) (Za:List (S50)) (a1:Int) (a2:Int) (l3:List Int):Option (List Int × Int):=(ebbtideref13_Split.f k Zc Zb Za a1 a2 l3).bind fun bt666=>(if bt666.2.2=0 then(if 0≤(l3.length:Int) then(if ((l3.length:Int):Int).toNat≤35184372088832 then(ebbtideref13_Clean.l0 k (List.replicate ((l3.length:Int):Int).toNat 0) 0 bt666.1 bt666.2.1) else(none)) else(none)) else(some (([]:List Int),bt666.2.2)))
def ebbtideref13_Clean.T12:Bool × List (List Nat × List Nat):=(true,[([],[]),([],[]),([],[]),([],[]),([2,3],[2,3]),([4],[4]),([],[]),([6],[6]),([],[]),([7,8],[7,8]),([9],[9]),([10],[10]),([5,11],[5,11]),([0,1,0,1,2,3,4,5,6,7,8,9,10,11,12],[0,1]),([13,12,0,1,2,3,4,5,6,7,8,9,10,11,12],[12,13])])
def ebbtideref13_Clean.B12:List Nat:=[0,0,0,0,12,28,0,64,0,448,960,1984,4092,8191,16383]
theorem ebbtideref13_Clean.tab12:rtab .any (opsOf Try.f25 12)=ebbtideref13_Clean.T12:=by kernel_rfl
theorem ebbtideref13_Clean.bits12:waitsOk ebbtideref13_Clean.T12.2 ebbtideref13_Clean.B12=true:=by kernel_rfl
set_option maxHeartbeats 8000000 in
set_option maxRecDepth 100000 in
theorem ebbtideref13_Clean.calls (k:Nat) (Zc:Int) (Zb:Bool) (Ze:Option Addr) (Zd:Nat) (Za:List (S50)) (a1:Int) (a2:Int) (A3:Option Addr) (c3:Nat) (l3:List Int) (r1:List Int) (r2:Int) (w:World) (Zq:Kd.C k50 w Ze Za.length Za) (Zr:Za.length≤Zd) (hr3:Kd.C (Kd.int .i64) w A3 l3.length l3) (hc3:l3.length≤c3) (h:ebbtideref13_Clean.f k Zc Zb Za a1 a2 l3=some (r1,r2)):
  Calls Try.prog 25 #[.agg #[.int .i64 Zc, .bool Zb, .slice Ze Za.length Zd], .int .i64 a1, .int .i64 a2, .slice A3 l3.length c3] w fun e w'=> ∃ v0_:Value,e= .returned (.tuple #[v0_, .int .i64 r2])∧Kd.R (Kd.int .i64) 3 w' w.heap.size (fun _=>True) v0_ r1∧Below w.heap.size w w':=by
 have hu24:=Try.underlying24;have hu54:=Try.underlying54;have Zk:=Ya Zq;have Zx:=Ya Zr;clear Zq Zr;have HR3:=Ya hr3;have HC3:=Ya hc3;clear hr3 hc3;have HB:=Ya (Yo w.heap.size w);have H:=h;unfold ebbtideref13_Clean.f at H;clear h;replace H:=Option.bind_eq_some_iff.mp H;obtain⟨⟨t666,t669,t672⟩,A50,H⟩:=H;try dsimp only at H
 have A5:=Ya A50;clear A50;by_cases c6:t672=0
 rotate_left
 ·rw[Yy c6] at H
  have c6b0:(t672 == 0)=false:=beq_eq_false_iff_ne.mpr c6;have c6b1:(t672 != 0)=true:=bne_iff_ne.mpr c6;simp only[Option.some.injEq,Prod.mk.injEq] at H;obtain⟨rfl,rfl⟩:=H;go_enter Try.func25,Try.ntmps25;go_wp2_with (first|(refine bx 4 24 #[.int .i64 Zc, .bool Zb, .slice Ze Za.length Zd] ?_;intro gb665 hg w38 Zf hb;have Wr:=Ya (Zf);have GW665:=Ya (by rw[hg];exact(Yi HB.out):w.heap.size≤gb665);have GE665:=Ya (by rw[hg];exact(Yi HB.out):w.heap.size≤gb665);replace HB:=Ya (Yk HB.out hb);clear hb Zf hg;have hcz39_0:w38.cell? ⟨gb665,0,none⟩=some (.int .i64 Zc):=bc Wr 0;have hcz39_1:w38.cell? ⟨gb665,1,none⟩=some (.bool Zb):=bc Wr 1;have hcz39_2:w38.cell? ⟨gb665,2,none⟩=some (.slice Ze Za.length Zd):=bc Wr 2;have hfz39_0:=Yf Wr.out 0;have hfz39_1:=Yf Wr.out 1;have hfz39_2:=Yf Wr.out 2)|((with_reducible refine gate_callee (f:=23) rfl ?_);refine gl (some 21) Try.func23 #[.agg #[.int .i64 Zc, .bool Zb, .slice Ze Za.length Zd], .int .i64 a1, .int .i64 a2, .slice A3 l3.length c3] ?_;(with_reducible refine(ebbtideref13_Split.calls k Zc Zb _ _ Za a1 a2 (fun k_=>k_<w.heap.size) _ _ l3 t666 t669 t672 _ ?side1 ?side2 ?side3 A5.out).mono ?_);(case side1=>exact kC (Yt Zk.out HB.out));(case side2=>exact Zx.out);(case side3=>exact Kd.V_mk HC3.out (Kd.F_below (Kd.C_F (Kd.heap_int .i64) HR3.out) HB.out));rintro e w40 ⟨v667,v670,rfl,ho0,ho1,hb⟩;refine⟨_,rfl,?_⟩;have HO668:=Ya (Kd.S_lower (Kd.S_mono (ok':=fun k_=>some k_≠(v670:Value).ownBlock) ho0 (fun _ hk_=>hk_.2)) (Yi HB.out));have HO671:=Ya (Kd.S_lower (Kd.S_mono (ok':=fun k_=>some k_≠(v667:Value).ownBlock) ho1 (fun _ hk_=>hk_.2)) (Yi HB.out));replace Wr:=Ya (Yn Wr.out hb);replace HB:=Ya (Yk HB.out hb);(try clear hb);(try clear ho0);(try clear ho1))|(refine bx 10 54 #[.slice none 0 0, .slice none 0 0] ?_;intro Vl hg w41 Zf hb;replace HO668:=Ya (Kd.S_below HO668.out hb);replace HO671:=Ya (Kd.S_below HO671.out hb);have Wi:=Ya (Zf);have GW673:=Ya (by rw[hg];exact(Yi HB.out):w.heap.size≤Vl);have GE673:=Ya (by rw[hg];exact(Yi HB.out):w.heap.size≤Vl);replace HB:=Ya (Yk HB.out hb);have Jc:=Ya (by rw[hg];exact Nat.ne_of_lt (blk_lt Wr.out):gb665≠Vl);have NB673_665:=Ya (by rw[hg];exact Nat.ne_of_gt (blk_lt Wr.out):Vl≠gb665);replace Wr:=Ya (Yn Wr.out hb);clear hb Zf hg;obtain⟨Ao42,co42,eo42⟩:=Kd.S_slice HO668.out;subst eo42;have hnb43:=NB673_665.out;have hnc43:=Jc.out;have hcz44_0:w41.cell? ⟨Vl,0,none⟩=some (.slice none 0 0):=bc Wi 0;have hcz44_1:w41.cell? ⟨Vl,1,none⟩=some (.slice none 0 0):=bc Wi 1;have hfz44_0:=Yf Wi.out 0;have hfz44_1:=Yf Wi.out 1;obtain⟨Ao45,co45,eo45⟩:=Kd.S_slice HO671.out;subst eo45));go_ret2;exact⟨_,by first|rfl|(simp[errW_none,errW_some]<;>rfl)|(simp[*,errW_none,errW_some]<;>rfl),by first|exact Kd.R_nil _ _ _ _ _|exact Kd.N_nil _ _ _ _ _|exact Kd.V_nil _ _ _ _ _|exact Kd.Q_nil _ _ _ _ _|exact Kd.S_nil _ _ _ _ _,bl⟩
 rw[Yx c6] at H;have c6b0:(t672 == 0)=true:=beq_iff_eq.mpr c6;have c6b1:(t672 != 0)=false:=bne_eq_false_iff_eq.mpr c6;clear c6;by_cases c7:0≤(l3.length:Int)
 rotate_left
 ·rw[Yy c7] at H
  exact absurd H (by simp)
 rw[Yx c7] at H;have c7b0:=eq_true c7;have c7b1:decide (0≤(l3.length:Int))=true:=Yv c7;clear c7;by_cases c8:((l3.length:Int):Int).toNat≤35184372088832
 rotate_left
 ·rw[Yy c8] at H
  exact absurd H (by simp)
 rw[Yx c8] at H;have c8b0:=eq_true c8;have c8b1:decide (((l3.length:Int):Int).toNat≤35184372088832)=true:=Yv c8;clear c8;obtain⟨y674,hy674⟩: ∃ y_:List Int,y_=(List.replicate ((l3.length:Int):Int).toNat 0):=⟨_,rfl⟩;rw[← hy674] at H;have Ny674:=Ya hy674;clear hy674;have H':=Ya H;clear H;go_enter Try.func25,Try.ntmps25;go_wp2_with (first|(refine bx 4 24 #[.int .i64 Zc, .bool Zb, .slice Ze Za.length Zd] ?_;intro gb665 hg w9 Zf hb;have Wr:=Ya (Zf);have GW665:=Ya ((sz hg));have GE665:=Ya ((sz hg));replace HB:=Ya (Yk bl hb);clear hb Zf hg;have Wu:w9.cell? ⟨gb665,0,none⟩=some (.int .i64 Zc):=bc Wr 0;have Wv:w9.cell? ⟨gb665,1,none⟩=some (.bool Zb):=bc Wr 1;have Ww:w9.cell? ⟨gb665,2,none⟩=some (.slice Ze Za.length Zd):=bc Wr 2;have Wx:=Yf Wr.out 0;have Wy:=Yf Wr.out 1;have Wz:=Yf Wr.out 2)|((with_reducible refine gate_callee (f:=23) rfl ?_);refine gl (some 21) Try.func23 #[.agg #[.int .i64 Zc, .bool Zb, .slice Ze Za.length Zd], .int .i64 a1, .int .i64 a2, .slice A3 l3.length c3] ?_;(with_reducible refine(ebbtideref13_Split.calls k Zc Zb _ _ Za a1 a2 (fun k_=>k_<w.heap.size) _ _ l3 t666 t669 t672 _ ?side1 ?side2 ?side3 A5.out).mono ?_);(case side1=>exact kC (Yt Zk.out HB.out));(case side2=>exact Zx.out);(case side3=>exact Kd.V_mk HC3.out (Kd.F_below (Kd.C_F (Kd.heap_int .i64) HR3.out) bl));rintro e w11 ⟨v667,v670,rfl,ho0,ho1,hb⟩;refine⟨_,rfl,?_⟩;have HO668:=Ya (Kd.S_lower (Kd.S_mono (ok':=fun k_=>some k_≠(v670:Value).ownBlock) ho0 (fun _ hk_=>hk_.2)) (Yi bl));have HO671:=Ya (Kd.S_lower (Kd.S_mono (ok':=fun k_=>some k_≠(v667:Value).ownBlock) ho1 (fun _ hk_=>hk_.2)) (Yi bl));replace Wr:=Ya (Yn (bk Wr) hb);replace HB:=Ya (Yk bl hb);(try clear hb);(try clear ho0);(try clear ho1))|(refine bx 10 54 #[.slice none 0 0, .slice none 0 0] ?_;intro Vl hg w12 Zf hb;replace HO668:=Ya (Kd.S_below (kS HO668) hb);replace HO671:=Ya (Kd.S_below (kS HO671) hb);have Wi:=Ya (Zf);have GW673:=Ya ((sz hg));have GE673:=Ya ((sz hg));replace HB:=Ya (Yk bl hb);have Jc:=Ya (by rw[hg];exact Nat.ne_of_lt (blk_lt (bk Wr)):gb665≠Vl);have NB673_665:=Ya (by rw[hg];exact Nat.ne_of_gt (blk_lt (bk Wr)):Vl≠gb665);replace Wr:=Ya (Yn (bk Wr) hb);clear hb Zf hg;obtain⟨Ao13,co13,eo13⟩:=Kd.S_slice HO668.out;subst eo13;have hnb14:=NB673_665.out;have hnc14:=Jc.out;have hcz15_0:w12.cell? ⟨Vl,0,none⟩=some (.slice none 0 0):=bc Wi 0;have hcz15_1:w12.cell? ⟨Vl,1,none⟩=some (.slice none 0 0):=bc Wi 1;have hfz15_0:=Yf Wi.out 0;have hfz15_1:=Yf Wi.out 1;obtain⟨Ji,Jj,eo16⟩:=Kd.S_slice HO671.out;subst eo16)|((with_reducible refine gate_dst (N:=29) rfl ?_);refine Kd.R_make (Kd.int .i64) _ 3 rfl (N:=29) rfl 31 _ _ rfl (l3.length:Int) rfl rfl Try.underlying31 (.int .i64 0) 8 info3 rfl (by decide) (by omega) 0 (ok:=fun _=>True) (okp:=fun _=>True) rfl (fun _ hk=>hk) trivial (Yu (by first|(with_reducible assumption)|assumption)) (Nat.le_trans (Nat.mul_le_mul_right _ (Yu (by first|(with_reducible assumption)|assumption):(l3.length:Int).toNat≤35184372088832)) (by omega)) (Yo _ _) (Nat.le_refl _) ?_;intro v675 w17 ho18 hb hg_ hnew_;clear hg_ hnew_;(first|rw[← Ny674.out] at ho18|(simp only[Int.reduceToNat] at ho18;rw[← Ny674.out] at ho18));replace HO668:=Ya (Kd.S_elder' (by(with_reducible repeat(first|apply Kd.S_alloc|apply Kd.S_drewN|apply Kd.S_drew));exact(Kd.S_mono (Kd.S_far (p:=⟨Vl,1,none⟩) (Kd.S_far (p:=⟨Vl,0,none⟩) (Kd.S_types HO668.out Wi.out (by decide)) (fun _ hk=>hk.2) (.slice Ao13 t666.length co13)) (fun _ hk=>hk.2) (.slice Ji t669.length Jj)) (fun _ h_=>h_.1))) (Kd.R_base ho18) hb);replace HO671:=Ya (Kd.S_elder' (by(with_reducible repeat(first|apply Kd.S_alloc|apply Kd.S_drewN|apply Kd.S_drew));exact(Kd.S_mono (Kd.S_far (p:=⟨Vl,1,none⟩) (Kd.S_far (p:=⟨Vl,0,none⟩) (Kd.S_types HO671.out Wi.out (by decide)) (fun _ hk=>hk.2) (.slice Ao13 t666.length co13)) (fun _ hk=>hk.2) (.slice Ji t669.length Jj)) (fun _ h_=>h_.1))) (Kd.R_base ho18) hb);have HO676:=Ya (Kd.R_lower ho18 (Yi bl));replace Wr:=Ya (Yn (g:=gb665) (o:= .cells #[.int .i64 Zc, .bool Zb, .slice Ze Za.length Zd] 24 (0,0)) (by(with_reducible repeat(first|refine Yl ?_ _|refine Ym ?_|refine Yj ?_ _));refine blk_far ?_ Jc.out _;(with_reducible repeat(first|refine Yl ?_ _|refine Ym ?_|refine Yj ?_ _));refine blk_far ?_ Jc.out _;(with_reducible repeat(first|refine Yl ?_ _|refine Ym ?_|refine Yj ?_ _));exact Wr.out) hb);replace Wi:=Ya (Yn (g:=Vl) (o:= .cells #[.slice Ao13 t666.length co13, .slice Ji t669.length Jj] 54 (0,0)) (by(with_reducible repeat(first|refine Yl ?_ _|refine Ym ?_|refine Yj ?_ _));refine YA (cs:= #[.slice Ao13 t666.length co13, .slice none 0 0]) ?_ 1 _ rfl;(with_reducible repeat(first|refine Yl ?_ _|refine Ym ?_|refine Yj ?_ _));refine YA (cs:= #[.slice none 0 0, .slice none 0 0]) ?_ 0 _ rfl;(with_reducible repeat(first|refine Yl ?_ _|refine Ym ?_|refine Yj ?_ _));exact Wi.out) hb);replace HB:=Ya (Yk bl hb);clear hb ho18));go_loopg [13] k (fun kq v13 w'=> ∃ (x12_1:List Int) (Zp:Int),v13= .int .i64 Zp∧Aside0 (ebbtideref13_Clean.l0 kq x12_1 Zp t666 t669=some (r1,r2))∧Aside0 (kq≤k)∧Aside0 (Kd.R (Kd.int .i64) 3 w' w.heap.size (fun _=>True) v675 x12_1)∧Aside0 (Kd.S k47 47 w' w.heap.size (fun k_=>some k_≠(v675:Value).ownBlock∧some k_≠((.slice Ji t669.length Jj):Value).ownBlock) (.slice Ao13 t666.length co13) t666)∧Aside0 (Kd.S k47 47 w' w.heap.size (fun k_=>some k_≠(v675:Value).ownBlock∧some k_≠((.slice Ao13 t666.length co13):Value).ownBlock) (.slice Ji t669.length Jj) t669)∧Aside0 (w'.heap[gb665]? =some (.cells #[.int .i64 Zc, .bool Zb,(.slice Ze Za.length Zd)] 24 (0,0)))∧Aside0 (w'.heap[Vl]? =some (.cells #[(.slice Ao13 t666.length co13),(.slice Ji t669.length Jj)] 54 (0,0)))∧Aside0 (Below w.heap.size w w'))
 case atStart=>exact⟨(y674),(0),(by first|rfl|(simp;done)|(simp[*];done)),H',⟨Nat.le_refl _⟩,⟨HO676.out⟩,⟨by(with_reducible repeat(first|apply Kd.S_alloc|apply Kd.S_drewN|apply Kd.S_drew));exact Kd.S_mono HO668.out (fun _ hk=>⟨hk.2,hk.1⟩)⟩,⟨by(with_reducible repeat(first|apply Kd.S_alloc|apply Kd.S_drewN|apply Kd.S_drew));exact Kd.S_mono HO671.out (fun _ hk=>⟨hk.2,hk.1⟩)⟩,⟨Wr.out⟩,⟨Wi.out⟩,⟨HB.out⟩⟩
 case round=>
  clear H';try clear c3
  try clear c6
  try clear c6b0
  try clear c6b1
  try clear c7
  try clear c7b0
  try clear c7b1
  try clear c8
  try clear c8b0
  try clear c8b1
  try clear Wu
  try clear Wv
  try clear Ww
  try clear hcz15_0
  try clear hcz15_1
  try clear Wx
  try clear Wy
  try clear Wz
  try clear hfz15_0
  try clear hfz15_1
  obtain⟨x12_1,Zp,rfl,HA,HK1,HO_12,HO_674000,HO_674001,Wr,Wi,HB⟩:=hrel;cases gk with
  |zero=>exact absurd HA.out (by simp[ebbtideref13_Clean.l0])
  |succ k1=>
   have H:=HA.out;clear HA;simp only[ebbtideref13_Clean.l0] at H;by_cases c19:Zp<(t666.length:Int)
   rotate_left
   ·rw[Yy c19] at H
    have c19b0:decide (Zp<(t666.length:Int))=false:=Yw c19;clear c19;simp only[Option.some.injEq,Prod.mk.injEq] at H;obtain⟨rfl,rfl⟩:=H;have hnb36:=NB673_665.out;have hnc36:=Jc.out;have hcz37_0:wr.cell? ⟨Vl,0,none⟩=some (.slice Ao13 t666.length co13):=bc Wi 0;have hcz37_1:wr.cell? ⟨Vl,1,none⟩=some (.slice Ji t669.length Jj):=bc Wi 1;have hfz37_0:=Yf Wi.out 0;have hfz37_1:=Yf Wi.out 1;go_wp2;go_ret2;exact⟨_,by first|rfl|(simp[errW_none,errW_some]<;>rfl)|(simp[*,errW_none,errW_some]<;>rfl),by(with_reducible repeat(first|apply Yr|apply Yq|apply Yp));exact HO_12.out,HB.out⟩
   rw[Yx c19] at H;have c19b0:decide (Zp<(t666.length:Int))=true:=Yv c19;clear c19;have H':=Ya H;clear H;have hnb20:=NB673_665.out;have hnc20:=Jc.out;have hcz21_0:wr.cell? ⟨Vl,0,none⟩=some (.slice Ao13 t666.length co13):=bc Wi 0;have hcz21_1:wr.cell? ⟨Vl,1,none⟩=some (.slice Ji t669.length Jj):=bc Wi 1;have hfz21_0:=Yf Wi.out 0;have hfz21_1:=Yf Wi.out 1;go_wp2;go_loopg [14] k1 (fun kq v14 w'=> ∃ (x12_2:List Int) (Vb:Int),v14= .int .i64 Vb∧Aside0 (ebbtideref13_Clean.l1 kq x12_2 Zp Vb t666 t669=some (r1,r2))∧Aside0 (kq≤k1)∧Aside0 (Kd.R (Kd.int .i64) 3 w' w.heap.size (fun _=>True) v675 x12_2)∧Aside0 (Kd.S k47 47 w' w.heap.size (fun k_=>some k_≠(v675:Value).ownBlock∧some k_≠((.slice Ji t669.length Jj):Value).ownBlock) (.slice Ao13 t666.length co13) t666)∧Aside0 (Kd.S k47 47 w' w.heap.size (fun k_=>some k_≠(v675:Value).ownBlock∧some k_≠((.slice Ao13 t666.length co13):Value).ownBlock) (.slice Ji t669.length Jj) t669)∧Aside0 (w'.heap[gb665]? =some (.cells #[.int .i64 Zc, .bool Zb,(.slice Ze Za.length Zd)] 24 (0,0)))∧Aside0 (w'.heap[Vl]? =some (.cells #[(.slice Ao13 t666.length co13),(.slice Ji t669.length Jj)] 54 (0,0)))∧Aside0 (Below w.heap.size w w'))
   case atStart=>exact⟨(x12_1),(0),(by first|rfl|(simp;done)|(simp[*];done)),H',⟨Nat.le_refl _⟩,⟨HO_12.out⟩,⟨HO_674000.out⟩,⟨HO_674001.out⟩,⟨Wr.out⟩,⟨Wi.out⟩,⟨HB.out⟩⟩
   case round=>
    clear H';try clear c3
    try clear c6
    try clear c6b0
    try clear c6b1
    try clear c7
    try clear c7b0
    try clear c7b1
    try clear c8
    try clear c8b0
    try clear c8b1
    try clear c19
    try clear c19b0
    try clear Wu
    try clear Wv
    try clear Ww
    try clear hcz15_0
    try clear hcz15_1
    try clear hcz21_0
    try clear hcz21_1
    try clear Wx
    try clear Wy
    try clear Wz
    try clear hfz15_0
    try clear hfz15_1
    try clear hfz21_0
    try clear hfz21_1
    obtain⟨x12_2,Vb,rfl,HA,HK2,HO_12,HO_674000,HO_674001,Wr,Wi,HB⟩:=hrel;cases gk with
    |zero=>exact absurd HA.out (by simp[ebbtideref13_Clean.l1])
    |succ k2=>
     have H:=HA.out;clear HA;simp only[ebbtideref13_Clean.l1] at H;by_cases c22:0≤Zp
     rotate_left
     ·rw[Yy c22] at H
      exact absurd H (by simp)
     rw[Yx c22] at H;have c22b0:decide (0≤Zp)=true:=Yv c22;clear c22;by_cases c23:Zp<(t666.length:Int)
     rotate_left
     ·rw[Yy c23] at H
      exact absurd H (by simp)
     rw[Yx c23] at H;have c23b0:decide (Zp<(t666.length:Int))=true:=Yv c23;clear c23;by_cases c24:Vb<(((rd_T47 t666 Zp).f0).length:Int)
     rotate_left
     ·rw[Yy c24] at H
      have c24b0:decide (Vb<(((rd_T47 t666 Zp).f0).length:Int))=false:=Yw c24;clear c24;have H':=Ya H;clear H;have hnb34:=NB673_665.out;have hnc34:=Jc.out;have hcz35_0:wr.cell? ⟨Vl,0,none⟩=some (.slice Ao13 t666.length co13):=bc Wi 0;have hcz35_1:wr.cell? ⟨Vl,1,none⟩=some (.slice Ji t669.length Jj):=bc Wi 1;have hfz35_0:=Yf Wi.out 0;have hfz35_1:=Yf Wi.out 1;have p677:0≤(Zp:Int):=od;have q677:Zp<(t666.length:Int):=od;obtain⟨ad677,A677_0,c677_0,e677,hx677_0,hx677_1,hl677_0,hi677_0⟩:=at_T47 (Kd.S_reads' HO_674000.out).2.2 Zp p677 q677;cases e677;obtain⟨ce677,hce677,hMe677,hcc677⟩:=Kd.S_get HO_674000.out z47 Zp p677 (by first|exact q677|exact Yu (by first|(with_reducible assumption)|assumption)|(have e_:=(Kd.S_reads' HO_674000.out).1;omega));obtain⟨ve677_0,rfl,ge677_0⟩:=k47_openM hMe677;have hv677_0:=hcc677 0 _ rfl;rw[Nat.add_zero] at hv677_0;replace hv677_0:=Option.some.inj (hv677_0.symm.trans hx677_0);rw[hv677_0] at ge677_0;have HL677_0:=Ya (show Kd.R (Kd.int .i64) 3 _ _ _ _ ((rd_T47 t666 Zp).f0) from ge677_0);clear hv677_0 ge677_0;clear hcc677 hce677;have HR677_0:=Ya hi677_0;have HC677_0:=Ya hl677_0;clear hi677_0 hl677_0;replace p677:=eq_true p677;replace q677:=eq_true q677;go_wp2;go_roundg k2
      case measure=>have:=HK1.out;have:=HK2.out;omega
      case rel=>exact⟨(x12_2),(wrap64 (Zp+1)),(by first|rfl|(simp;done)|(simp[*];done)),H',⟨by have:=HK1.out;have:=HK2.out;omega⟩,⟨HO_12.out⟩,⟨HO_674000.out⟩,⟨HO_674001.out⟩,⟨Wr.out⟩,⟨Wi.out⟩,⟨HB.out⟩⟩
     rw[Yx c24] at H;have c24b0:decide (Vb<(((rd_T47 t666 Zp).f0).length:Int))=true:=Yv c24;clear c24;by_cases c25:0≤Vb
     rotate_left
     ·rw[Yy c25] at H
      exact absurd H (by simp)
     rw[Yx c25] at H;have c25b0:decide (0≤Vb)=true:=Yv c25;clear c25;by_cases c26:0≤(rd ((rd_T47 t666 Zp).f0) Vb)
     rotate_left
     ·rw[Yy c26] at H
      exact absurd H (by simp)
     rw[Yx c26] at H;have c26b0:decide (0≤(rd ((rd_T47 t666 Zp).f0) Vb))=true:=Yv c26;clear c26;by_cases c27:(rd ((rd_T47 t666 Zp).f0) Vb)<(x12_2.length:Int)
     rotate_left
     ·rw[Yy c27] at H
      exact absurd H (by simp)
     rw[Yx c27] at H;have c27b0:decide ((rd ((rd_T47 t666 Zp).f0) Vb)<(x12_2.length:Int))=true:=Yv c27;clear c27;obtain⟨y682,hy682⟩: ∃ y_:List Int,y_=(x12_2.set ((rd ((rd_T47 t666 Zp).f0) Vb):Int).toNat (wrap64 ((rd x12_2 (rd ((rd_T47 t666 Zp).f0) Vb))+((rd_T47 t666 Zp).f1)))):=⟨_,rfl⟩;rw[← hy682] at H;have Ny682:=Ya hy682;clear hy682;have H':=Ya H;clear H;have hnb29:=NB673_665.out;have hnc29:=Jc.out;have hcz30_0:wr.cell? ⟨Vl,0,none⟩=some (.slice Ao13 t666.length co13):=bc Wi 0;have hcz30_1:wr.cell? ⟨Vl,1,none⟩=some (.slice Ji t669.length Jj):=bc Wi 1;have hfz30_0:=Yf Wi.out 0;have hfz30_1:=Yf Wi.out 1;have p677:0≤(Zp:Int):=od;have q677:Zp<(t666.length:Int):=od;obtain⟨ad677,A677_0,c677_0,e677,hx677_0,hx677_1,hl677_0,hi677_0⟩:=at_T47 (Kd.S_reads' HO_674000.out).2.2 Zp p677 q677;cases e677;obtain⟨ce677,hce677,hMe677,hcc677⟩:=Kd.S_get HO_674000.out z47 Zp p677 (by first|exact q677|exact Yu (by first|(with_reducible assumption)|assumption)|(have e_:=(Kd.S_reads' HO_674000.out).1;omega));obtain⟨ve677_0,rfl,ge677_0⟩:=k47_openM hMe677;have hv677_0:=hcc677 0 _ rfl;rw[Nat.add_zero] at hv677_0;replace hv677_0:=Option.some.inj (hv677_0.symm.trans hx677_0);rw[hv677_0] at ge677_0;have HL677_0:=Ya (show Kd.R (Kd.int .i64) 3 _ _ _ _ ((rd_T47 t666 Zp).f0) from ge677_0);clear hv677_0 ge677_0;clear hcc677 hce677;have HR677_0:=Ya hi677_0;have HC677_0:=Ya hl677_0;clear hi677_0 hl677_0;replace p677:=eq_true p677;replace q677:=eq_true q677;have p678:0≤(Zp:Int):=od;have q678:Zp<(t666.length:Int):=od;obtain⟨ad678,A678_0,c678_0,e678,hx678_0,hx678_1,hl678_0,hi678_0⟩:=at_T47 (Kd.S_reads' HO_674000.out).2.2 Zp p678 q678;obtain rfl:ad677=ad678:=(by injection e678);obtain⟨ce678,hce678,hMe678,hcc678⟩:=Kd.S_get HO_674000.out z47 Zp p678 (by first|exact q678|exact Yu (by first|(with_reducible assumption)|assumption)|(have e_:=(Kd.S_reads' HO_674000.out).1;omega));obtain⟨ve678_0,rfl,ge678_0⟩:=k47_openM hMe678;have hv678_0:=hcc678 0 _ rfl;rw[Nat.add_zero] at hv678_0;replace hv678_0:=Option.some.inj (hv678_0.symm.trans hx678_0);rw[hv678_0] at ge678_0;have HL678_0:=Ya (show Kd.R (Kd.int .i64) 3 _ _ _ _ ((rd_T47 t666 Zp).f0) from ge678_0);clear hv678_0 ge678_0;clear hcc678 hce678;have HR678_0:=Ya hi678_0;have HC678_0:=Ya hl678_0;clear hi678_0 hl678_0;replace p678:=eq_true p678;replace q678:=eq_true q678;have ea_:=Option.some.inj (hx677_0.symm.trans hx678_0);injection ea_ with ea_ en_ ec_
     subst ea_;subst ec_;clear en_;have p679:0≤(Vb:Int):=od;have q679:Vb<(((rd_T47 t666 Zp).f0).length:Int):=od;obtain⟨ad679,e679,hx679_0⟩:=Kd.at_int (by repeat(first|(with_reducible exact HR678_0.out)|(with_reducible refine Kd.C_alloc ?_ _)|(with_reducible refine Kd.C_drewN ?_ _)|(with_reducible refine Kd.C_drew ?_)|exact HR678_0.out)) Vb p679 q679;cases e679;replace p679:=eq_true p679;replace q679:=eq_true q679;try go_wp2
     replace HO_12:=Ya (Yp HO_12.out);replace HO_674000:=Ya (Kd.S_drew HO_674000.out);replace HO_674001:=Ya (Kd.S_drew HO_674001.out);replace HL677_0:=Ya (Yp HL677_0.out);replace HL678_0:=Ya (Yp HL678_0.out);replace Wr:=Ya (Ym Wr.out);replace Wi:=Ya (Ym Wi.out);replace HR677_0:=Ya (Kd.C_drew HR677_0.out);replace HR678_0:=Ya (Kd.C_drew HR678_0.out);replace HB:=Ya (Yg HB.out);obtain⟨Ao32,co32,eo32⟩:=Kd.R_slice HO_12.out
     (first|subst eo32|(injection eo32 with f1_ f2_ f3_;have f4_:=f1_.symm;have f5_:=f3_.symm;clear f1_ f2_ f3_;subst f4_;subst f5_))
     have p680:0≤((rd ((rd_T47 t666 Zp).f0) Vb):Int):=od;have q680:(rd ((rd_T47 t666 Zp).f0) Vb)<(x12_2.length:Int):=od;obtain⟨ad680,e680,hx680_0⟩:=Kd.at_int (Kd.R_reads' HO_12.out).2.2 (rd ((rd_T47 t666 Zp).f0) Vb) p680 q680;cases e680;replace p680:=eq_true p680;replace q680:=eq_true q680;have p681:0≤(Zp:Int):=od;have q681:Zp<(t666.length:Int):=od;obtain⟨ad681,A681_0,c681_0,e681,hx681_0,hx681_1,hl681_0,hi681_0⟩:=at_T47 (Kd.S_reads' HO_674000.out).2.2 Zp p681 q681;obtain rfl:ad677=ad681:=(by injection e681);obtain⟨ce681,hce681,hMe681,hcc681⟩:=Kd.S_get HO_674000.out z47 Zp p681 (by first|exact q681|exact Yu (by first|(with_reducible assumption)|assumption)|(have e_:=(Kd.S_reads' HO_674000.out).1;omega));obtain⟨ve681_0,rfl,ge681_0⟩:=k47_openM hMe681;have hv681_0:=hcc681 0 _ rfl;rw[Nat.add_zero] at hv681_0;replace hv681_0:=Option.some.inj (hv681_0.symm.trans hx681_0);rw[hv681_0] at ge681_0;have HL681_0:=Ya (show Kd.R (Kd.int .i64) 3 _ _ _ _ ((rd_T47 t666 Zp).f0) from ge681_0);clear hv681_0 ge681_0;clear hcc681 hce681;have HR681_0:=Ya hi681_0;have HC681_0:=Ya hl681_0;clear hi681_0 hl681_0;replace p681:=eq_true p681;replace q681:=eq_true q681;have p28:0≤((rd ((rd_T47 t666 Zp).f0) Vb):Int):=od;have q28:((rd ((rd_T47 t666 Zp).f0) Vb):Int)<((x12_2.length:Int):Int):=od;obtain⟨go28,co28,eo28,gb28,gl28,cl28,HG28⟩:=Kd.R_form HO_12.out (by omega)
     (first|cases eo28|(injection eo28 with ea_ en_ ec_;(first|subst ea_|(injection ea_ with ea_;subst ea_));subst ec_;clear en_))
     have GB28:=Ya gb28;have GG28:=Ya HG28;clear gb28 gl28 HG28
     (first|simp only[add_plain] at hx680_0|skip)
     obtain⟨hx28_0,hf28_0⟩:=Kd.R_celln 0 HO_12.out ((rd ((rd_T47 t666 Zp).f0) Vb):Int) p28 q28;replace p28:=eq_true p28;replace q28:=eq_true q28;have HP33:=Kd.R_putn HO_12.out ((rd ((rd_T47 t666 Zp).f0) Vb):Int) (wrap64 ((rd x12_2 (rd ((rd_T47 t666 Zp).f0) Vb))+((rd_T47 t666 Zp).f1)));rw[← Ny682.out] at HP33;have HQ33:=Ya HP33;clear HP33;refine start_ (n:=15) (S:=fun w'=>w'.cell? ⟨Vl,0,none⟩=some (.slice (some ad677) t666.length co13)∧w'.cell? ⟨Vl,1,none⟩=some (.slice Ji t669.length Jj)∧w'.cell? ⟨go28,((rd ((rd_T47 t666 Zp).f0) Vb)).toNat,none⟩=some (.int .i64 (rd x12_2 (rd ((rd_T47 t666 Zp).f0) Vb)))∧w'.cell? (ad677.add ((Zp).toNat * 2))=some (.slice A681_0 ((rd_T47 t666 Zp).f0).length c681_0)∧w'.cell? ⟨(ad677.add ((Zp).toNat * 2)).block,(ad677.add ((Zp).toNat * 2)).off+1,none⟩=some (.int .i64 ((rd_T47 t666 Zp).f1))) (ds:=[14]) #[false,false,false,false,false,false,false,false,false,false,false,false,false,false,false] (by kernel_rfl) rfl rfl ⟨(Yc Wi.out 0).trans rfl,(Yc Wi.out 1).trans rfl,hx680_0,hx681_0,hx681_1⟩ (fun hHeld=> ?_);refine with_tabW ebbtideref13_Clean.tab12 ebbtideref13_Clean.bits12 (fun HT_ HW_=> ?_);generalize wr.drew=w31 at HO_12 HO_674000 HO_674001 HL677_0 HL678_0 Wr Wi HR677_0 HR678_0 HB GG28 HL681_0 HQ33 HR681_0 hf28_0 hx28_0 hx680_0 hx681_0 hx681_1 hHeld ⊢;refine pu 0 57 (bm 15 1) ?_;refine pu 1 58 (bm 15 3) ?_;refine pu 2 59 (bm 15 7) ?_;refine pu 3 60 (bm 15 15) ?_;refine pu 4 61 (bm 15 31) ?_;refine pu 6 63 (bm 15 95) ?_;refine pu 8 65 (bm 15 351) ?_;refine ta 5 62 (bm 15 383) hHeld ?_;refine ta 7 64 (bm 15 511) hHeld ?_;refine pu 9 66 (bm 15 1023) ?_;refine pu 10 67 (bm 15 2047) ?_;refine ta 11 68 (bm 15 4095) hHeld ?_;refine pu 12 69 (bm 15 8191) ?_;refine pu 13 70 (bm 15 16383) ?_;refine last_ (i:=14) (N:=none) #[true,true,true,true,true,true,true,true,true,true,true,true,true,true,true] rfl rfl (one_of HT_.out (by kernel_rfl)) (by decide) (fun K hK=> ?_);refine skip_ (w1:= ?_) (by rfl) rfl ?_ ?_
     rotate_left
     ·go_simp
      rfl
     refine hK.out _ _ ?_;clear hK K;refine done_ (done_of HT_.out (by kernel_rfl)) ?_;try go_wp2
     go_roundg k2
     case measure=>have:=HK1.out;have:=HK2.out;omega
     case rel=>exact⟨(y682),(wrap64 (Vb+1)),(by first|rfl|(simp;done)|(simp[*];done)),H',⟨by have:=HK1.out;have:=HK2.out;omega⟩,⟨kR HQ33⟩,⟨by(with_reducible repeat(first|apply Kd.S_alloc|apply Kd.S_drewN|apply Kd.S_drew));exact Kd.S_mono (Kd.S_far (p:=⟨go28,((rd ((rd_T47 t666 Zp).f0) Vb):Int).toNat,none⟩) (Kd.S_mono HO_674000.out (fun k_ hk=>(⟨hk,fun e_=>hk.1 (by rw[e_];rfl)⟩:_∧k_≠go28))) (fun _ hk=>hk.2) (.int .i64 (wrap64 ((rd x12_2 (rd ((rd_T47 t666 Zp).f0) Vb))+((rd_T47 t666 Zp).f1))))) (fun _ hk=>⟨hk.1.1,hk.1.2⟩)⟩,⟨by(with_reducible repeat(first|apply Kd.S_alloc|apply Kd.S_drewN|apply Kd.S_drew));exact Kd.S_mono (Kd.S_far (p:=⟨go28,((rd ((rd_T47 t666 Zp).f0) Vb):Int).toNat,none⟩) (Kd.S_mono HO_674001.out (fun k_ hk=>(⟨hk,fun e_=>hk.1 (by rw[e_];rfl)⟩:_∧k_≠go28))) (fun _ hk=>hk.2) (.int .i64 (wrap64 ((rd x12_2 (rd ((rd_T47 t666 Zp).f0) Vb))+((rd_T47 t666 Zp).f1))))) (fun _ hk=>⟨hk.1.1,hk.1.2⟩)⟩,⟨by(with_reducible repeat(first|refine Yl ?_ _|refine Ym ?_|refine Yj ?_ _));refine blk_far ?_ (by have h_:=Kd.R_ne HO_12.out Wr.out (by decide);intro e_;exact h_ (by rw[e_];rfl)) _;(with_reducible repeat(first|refine Yl ?_ _|refine Ym ?_|refine Yj ?_ _));exact Wr.out⟩,⟨by(with_reducible repeat(first|refine Yl ?_ _|refine Ym ?_|refine Yj ?_ _));refine blk_far ?_ (by have h_:=Kd.R_ne HO_12.out Wi.out (by decide);intro e_;exact h_ (by rw[e_];rfl)) _;(with_reducible repeat(first|refine Yl ?_ _|refine Ym ?_|refine Yj ?_ _));exact Wi.out⟩,⟨bl⟩⟩
end P
namespace H
open P
def fewN (n nd:Int):Int:=if nd<n∧n≤50 then nd else n
def fewL (l:List S50) (ar:Nat):List S50:=if ar<l.length∧l.length≤200 then l.take ar else l
theorem fewL_C {w:World} {A:Option Addr} {l:List S50} (h:Kd.C k50 w A l.length l) (ar:Nat):Kd.C k50 w A (fewL l ar).length (fewL l ar):=by
 unfold fewL;split
 ·exact Kd.C_take h (by omega)
 ·exact h
theorem fewL_le (l:List S50) (ar:Nat):(fewL l ar).length≤l.length:=by
 unfold fewL;split
 ·rw[List.length_take];omega
 ·exact Nat.le_refl _
set_option maxHeartbeats 4000000 in
set_option maxRecDepth 100000 in
theorem few_calls (n:Int) (b:Bool) (A:Option Addr) (c:Nat) (l:List S50) (nd:Int) (ar:Nat) (w:World) (har:ar≤200) (hc:l.length≤c) (hC:Kd.C k50 w A l.length l):
  Calls Try.prog 9 #[.agg #[.int .i64 n, .bool b, .slice A l.length c], .int .i64 nd, .int .i64 (ar:Int)] w fun e w'=>e= .returned (.agg #[.int .i64 (fewN n nd), .bool b, .slice A (fewL l ar).length c])∧Below w.heap.size w w':=by
 have hu24:=Try.underlying24;have hu22:=Try.underlying22;have hA:0<l.length→ ∃ ad,A=some ad:=fun h=>by obtain⟨ad,e,_⟩:=hC.2.2 h;exact⟨ad,e⟩
 have HAD:=Ya hA;clear hA hC;go_enter Try.func9,Try.ntmps9;go_upto_region 1 with (first|((with_reducible refine gate_dst (N:=3) rfl ?_);refine Yz ?hg (N:=3) ?hd (cs:= #[.int .i64 n, .bool b, .slice A l.length c]) (t:=24) ?hr ?_;(case hd=>rfl);(case hg=>rfl);(case hr=>first|(go_simp;done)|(go_simp;rfl));intro g3 hg3 w5 Zf hb;have B3:=Ya Zf;have HB:=Ya hb;have HG3:=Ya hg3;clear hg3 Zf hb)|fail)
 have B6:Aside0 ((w5.alloc (.cells #[.int .i64 0, .bool false, .slice none 0 0] 24)).heap[w5.heap.size]? =some (.cells #[.int .i64 0, .bool false, .slice none 0 0] 24 (0,0))):=⟨heap_alloc_new w5 _⟩;have m0_:=Ya (Yn B3.out (Ye (Yo _ _) (.cells #[.int .i64 0, .bool false, .slice none 0 0] 24)));have m1_:=Ya (Ye HB.out (.cells #[.int .i64 0, .bool false, .slice none 0 0] 24));have hg36:g3<w5.heap.size:=blk_lt B3.out;have hgw:w.heap.size≤g3:=by have:=HG3.out;omega
 clear B3 HB HG3;have B3:=m0_;have HB:=m1_;clear m0_ m1_;generalize w5.alloc (.cells #[.int .i64 0, .bool false, .slice none 0 0] 24)=w6 at *;generalize w5.heap.size=g6 at *;have h0:w6.cell? ⟨g3,0,none⟩=some (.int .i64 n):=(Yc B3.out 0).trans rfl;have h1:w6.cell? ⟨g3,1,none⟩=some (.bool b):=(Yc B3.out 1).trans rfl;have h2:w6.cell? ⟨g3,2,none⟩=some (.slice A l.length c):=(Yc B3.out 2).trans rfl;have f0:=Yf B3.out 0;have hg63:g6≠g3:=by omega
 have hgw6:w.heap.size≤g6:=by omega
 by_cases hn:nd<n
 ·have e1:decide (nd<n)=true:=Yv hn
  by_cases h50:n≤50
  ·have e2:decide (n≤50)=true:=Yv h50
   have e3:fewN n nd=nd:=by unfold fewN;rw[Yx ⟨hn,h50⟩]
   have E3:=Ya e3;clear e3;go_upto_region 3 with fail
   have C3:Aside0 ((w6.setCell ⟨g3,0,none⟩ (.int .i64 nd)).heap[g3]? =some (.cells #[.int .i64 nd, .bool b, .slice A l.length c] 24 (0,0))):=⟨(blk_set B3.out 0 (.int .i64 nd)).trans rfl⟩;have C6:Aside0 ((w6.setCell ⟨g3,0,none⟩ (.int .i64 nd)).heap[g6]? =some (.cells #[.int .i64 0, .bool false, .slice none 0 0] 24 (0,0))):=⟨blk_far B6.out (p:=⟨g3,0,none⟩) hg63 _⟩;have HC:Aside0 (Below w.heap.size w (w6.setCell ⟨g3,0,none⟩ (.int .i64 nd))):=⟨Yh HB.out hgw⟩;clear B3 B6 HB h0 h1 h2 f0;generalize w6.setCell ⟨g3,0,none⟩ (.int .i64 nd)=w7 at *;have f2:=Yf C3.out 2;have x2:w7.cell? ⟨g3,2,none⟩=some (.slice A l.length c):=(Yc C3.out 2).trans rfl;by_cases hl:ar<l.length
   ·have d1:decide ((ar:Int)<(l.length:Int))=true:=Yv (by omega)
    by_cases hl2:l.length≤200
    ·have d2:decide ((l.length:Int)≤200)=true:=Yv (by omega)
     obtain⟨ad,rfl⟩:=HAD.out (by omega);have r1:(0:Int)≤(ar:Int):=by omega
     have r2:(ar:Int)≤(c:Int):=by omega
     have e4:(fewL l ar).length=ar:=by unfold fewL;rw[Yx ⟨hl,hl2⟩,List.length_take];omega
     have E4:=Ya e4;clear e4;go_upto_region 5 with fail
     have D3:Aside0 ((w7.setCell ⟨g3,2,none⟩ (.slice (some ad) ar c)).heap[g3]? =some (.cells #[.int .i64 nd, .bool b, .slice (some ad) ar c] 24 (0,0))):=⟨(blk_set C3.out 2 _).trans rfl⟩;have D6:Aside0 ((w7.setCell ⟨g3,2,none⟩ (.slice (some ad) ar c)).heap[g6]? =some (.cells #[.int .i64 0, .bool false, .slice none 0 0] 24 (0,0))):=⟨blk_far C6.out (p:=⟨g3,2,none⟩) hg63 _⟩;have HD:Aside0 (Below w.heap.size w (w7.setCell ⟨g3,2,none⟩ (.slice (some ad) ar c))):=⟨Yh HC.out hgw⟩;clear C3 C6 HC f2 x2;generalize w7.setCell ⟨g3,2,none⟩ (.slice (some ad) ar c)=w8 at *;have C3:=D3;have C6:=D6;have HC:=HD;clear D3 D6 HD;have k0:w8.cell? ⟨g3,0,none⟩=some (.int .i64 nd):=(Yc C3.out 0).trans rfl;have k1:w8.cell? ⟨g3,1,none⟩=some (.bool b):=(Yc C3.out 1).trans rfl;have k2:w8.cell? ⟨g3,2,none⟩=some (.slice (some ad) ar c):=(Yc C3.out 2).trans rfl;have j0:w8.cell? ⟨g6,0,none⟩=some (.int .i64 0):=(Yc C6.out 0).trans rfl;have j1:w8.cell? ⟨g6,1,none⟩=some (.bool false):=(Yc C6.out 1).trans rfl;have j2:w8.cell? ⟨g6,2,none⟩=some (.slice none 0 0):=(Yc C6.out 2).trans rfl;have q0:=Yf C6.out 0;have q1:=Yf C6.out 1;have q2:=Yf C6.out 2;go_wp2_with fail;refine bodyPost_ret (results_cell_row rfl _ _ g6 24 #[.int .i64 nd, .bool b, .slice (some ad) ar c] (0,0) _ rfl (YA (cs:= #[.int .i64 nd, .bool b, .slice none 0 0]) (YA (cs:= #[.int .i64 nd, .bool false, .slice none 0 0]) (YA (cs:= #[.int .i64 0, .bool false, .slice none 0 0]) C6.out 0 _ rfl) 1 _ rfl) 2 _ rfl) Try.underlying24 rfl (by kernel_rfl)) rfl ?_;exact⟨by rw[E3.out,E4.out],Yh (Yh (Yh HC.out hgw6) hgw6) hgw6⟩
    ·have d2:decide ((l.length:Int)≤200)=false:=Yw (by omega)
     have e4:fewL l ar=l:=by unfold fewL;rw[Yy (fun h=>by omega)]
     have E4:=Ya e4;clear e4;go_upto_region 5 with fail
     clear f2 x2;have k0:w7.cell? ⟨g3,0,none⟩=some (.int .i64 nd):=(Yc C3.out 0).trans rfl;have k1:w7.cell? ⟨g3,1,none⟩=some (.bool b):=(Yc C3.out 1).trans rfl;have k2:w7.cell? ⟨g3,2,none⟩=some (.slice A l.length c):=(Yc C3.out 2).trans rfl;have j0:w7.cell? ⟨g6,0,none⟩=some (.int .i64 0):=(Yc C6.out 0).trans rfl;have j1:w7.cell? ⟨g6,1,none⟩=some (.bool false):=(Yc C6.out 1).trans rfl;have j2:w7.cell? ⟨g6,2,none⟩=some (.slice none 0 0):=(Yc C6.out 2).trans rfl;have q0:=Yf C6.out 0;have q1:=Yf C6.out 1;have q2:=Yf C6.out 2;go_wp2_with fail;refine bodyPost_ret (results_cell_row rfl _ _ g6 24 #[.int .i64 nd, .bool b, .slice A l.length c] (0,0) _ rfl (YA (cs:= #[.int .i64 nd, .bool b, .slice none 0 0]) (YA (cs:= #[.int .i64 nd, .bool false, .slice none 0 0]) (YA (cs:= #[.int .i64 0, .bool false, .slice none 0 0]) C6.out 0 _ rfl) 1 _ rfl) 2 _ rfl) Try.underlying24 rfl (by kernel_rfl)) rfl ?_;exact⟨by rw[E3.out,E4.out],Yh (Yh (Yh HC.out hgw6) hgw6) hgw6⟩
   ·have d1:decide ((ar:Int)<(l.length:Int))=false:=Yw (by omega)
    have e4:fewL l ar=l:=by unfold fewL;rw[Yy (fun h=>by omega)]
    have E4:=Ya e4;clear e4;go_upto_region 5 with fail
    clear f2 x2;have k0:w7.cell? ⟨g3,0,none⟩=some (.int .i64 nd):=(Yc C3.out 0).trans rfl;have k1:w7.cell? ⟨g3,1,none⟩=some (.bool b):=(Yc C3.out 1).trans rfl;have k2:w7.cell? ⟨g3,2,none⟩=some (.slice A l.length c):=(Yc C3.out 2).trans rfl;have j0:w7.cell? ⟨g6,0,none⟩=some (.int .i64 0):=(Yc C6.out 0).trans rfl;have j1:w7.cell? ⟨g6,1,none⟩=some (.bool false):=(Yc C6.out 1).trans rfl;have j2:w7.cell? ⟨g6,2,none⟩=some (.slice none 0 0):=(Yc C6.out 2).trans rfl;have q0:=Yf C6.out 0;have q1:=Yf C6.out 1;have q2:=Yf C6.out 2;go_wp2_with fail;refine bodyPost_ret (results_cell_row rfl _ _ g6 24 #[.int .i64 nd, .bool b, .slice A l.length c] (0,0) _ rfl (YA (cs:= #[.int .i64 nd, .bool b, .slice none 0 0]) (YA (cs:= #[.int .i64 nd, .bool false, .slice none 0 0]) (YA (cs:= #[.int .i64 0, .bool false, .slice none 0 0]) C6.out 0 _ rfl) 1 _ rfl) 2 _ rfl) Try.underlying24 rfl (by kernel_rfl)) rfl ?_;exact⟨by rw[E3.out,E4.out],Yh (Yh (Yh HC.out hgw6) hgw6) hgw6⟩
  ·have e2:decide (n≤50)=false:=Yw h50
   have e3:fewN n nd=n:=by unfold fewN;rw[Yy (fun h=>by omega)]
   have E3:=Ya e3;clear e3 h0 h1 h2 f0;have C3:=B3;have C6:=B6;have HC:=HB;clear B3 B6 HB;have h0:w6.cell? ⟨g3,0,none⟩=some (.int .i64 n):=(Yc C3.out 0).trans rfl;go_upto_region 3 with fail
   clear h0;have f2:=Yf C3.out 2;have x2:w6.cell? ⟨g3,2,none⟩=some (.slice A l.length c):=(Yc C3.out 2).trans rfl;by_cases hl:ar<l.length
   ·have d1:decide ((ar:Int)<(l.length:Int))=true:=Yv (by omega)
    by_cases hl2:l.length≤200
    ·have d2:decide ((l.length:Int)≤200)=true:=Yv (by omega)
     obtain⟨ad,rfl⟩:=HAD.out (by omega);have r1:(0:Int)≤(ar:Int):=by omega
     have r2:(ar:Int)≤(c:Int):=by omega
     have e4:(fewL l ar).length=ar:=by unfold fewL;rw[Yx ⟨hl,hl2⟩,List.length_take];omega
     have E4:=Ya e4;clear e4;go_upto_region 5 with fail
     have D3:Aside0 ((w6.setCell ⟨g3,2,none⟩ (.slice (some ad) ar c)).heap[g3]? =some (.cells #[.int .i64 n, .bool b, .slice (some ad) ar c] 24 (0,0))):=⟨(blk_set C3.out 2 _).trans rfl⟩;have D6:Aside0 ((w6.setCell ⟨g3,2,none⟩ (.slice (some ad) ar c)).heap[g6]? =some (.cells #[.int .i64 0, .bool false, .slice none 0 0] 24 (0,0))):=⟨blk_far C6.out (p:=⟨g3,2,none⟩) hg63 _⟩;have HD:Aside0 (Below w.heap.size w (w6.setCell ⟨g3,2,none⟩ (.slice (some ad) ar c))):=⟨Yh HC.out hgw⟩;clear C3 C6 HC f2 x2;generalize w6.setCell ⟨g3,2,none⟩ (.slice (some ad) ar c)=w8 at *;have C3:=D3;have C6:=D6;have HC:=HD;clear D3 D6 HD;have k0:w8.cell? ⟨g3,0,none⟩=some (.int .i64 n):=(Yc C3.out 0).trans rfl;have k1:w8.cell? ⟨g3,1,none⟩=some (.bool b):=(Yc C3.out 1).trans rfl;have k2:w8.cell? ⟨g3,2,none⟩=some (.slice (some ad) ar c):=(Yc C3.out 2).trans rfl;have j0:w8.cell? ⟨g6,0,none⟩=some (.int .i64 0):=(Yc C6.out 0).trans rfl;have j1:w8.cell? ⟨g6,1,none⟩=some (.bool false):=(Yc C6.out 1).trans rfl;have j2:w8.cell? ⟨g6,2,none⟩=some (.slice none 0 0):=(Yc C6.out 2).trans rfl;have q0:=Yf C6.out 0;have q1:=Yf C6.out 1;have q2:=Yf C6.out 2;go_wp2_with fail;refine bodyPost_ret (results_cell_row rfl _ _ g6 24 #[.int .i64 n, .bool b, .slice (some ad) ar c] (0,0) _ rfl (YA (cs:= #[.int .i64 n, .bool b, .slice none 0 0]) (YA (cs:= #[.int .i64 n, .bool false, .slice none 0 0]) (YA (cs:= #[.int .i64 0, .bool false, .slice none 0 0]) C6.out 0 _ rfl) 1 _ rfl) 2 _ rfl) Try.underlying24 rfl (by kernel_rfl)) rfl ?_;exact⟨by rw[E3.out,E4.out],Yh (Yh (Yh HC.out hgw6) hgw6) hgw6⟩
    ·have d2:decide ((l.length:Int)≤200)=false:=Yw (by omega)
     have e4:fewL l ar=l:=by unfold fewL;rw[Yy (fun h=>by omega)]
     have E4:=Ya e4;clear e4;go_upto_region 5 with fail
     clear f2 x2;have k0:w6.cell? ⟨g3,0,none⟩=some (.int .i64 n):=(Yc C3.out 0).trans rfl;have k1:w6.cell? ⟨g3,1,none⟩=some (.bool b):=(Yc C3.out 1).trans rfl;have k2:w6.cell? ⟨g3,2,none⟩=some (.slice A l.length c):=(Yc C3.out 2).trans rfl;have j0:w6.cell? ⟨g6,0,none⟩=some (.int .i64 0):=(Yc C6.out 0).trans rfl;have j1:w6.cell? ⟨g6,1,none⟩=some (.bool false):=(Yc C6.out 1).trans rfl;have j2:w6.cell? ⟨g6,2,none⟩=some (.slice none 0 0):=(Yc C6.out 2).trans rfl;have q0:=Yf C6.out 0;have q1:=Yf C6.out 1;have q2:=Yf C6.out 2;go_wp2_with fail;refine bodyPost_ret (results_cell_row rfl _ _ g6 24 #[.int .i64 n, .bool b, .slice A l.length c] (0,0) _ rfl (YA (cs:= #[.int .i64 n, .bool b, .slice none 0 0]) (YA (cs:= #[.int .i64 n, .bool false, .slice none 0 0]) (YA (cs:= #[.int .i64 0, .bool false, .slice none 0 0]) C6.out 0 _ rfl) 1 _ rfl) 2 _ rfl) Try.underlying24 rfl (by kernel_rfl)) rfl ?_;exact⟨by rw[E3.out,E4.out],Yh (Yh (Yh HC.out hgw6) hgw6) hgw6⟩
   ·have d1:decide ((ar:Int)<(l.length:Int))=false:=Yw (by omega)
    have e4:fewL l ar=l:=by unfold fewL;rw[Yy (fun h=>by omega)]
    have E4:=Ya e4;clear e4;go_upto_region 5 with fail
    clear f2 x2;have k0:w6.cell? ⟨g3,0,none⟩=some (.int .i64 n):=(Yc C3.out 0).trans rfl;have k1:w6.cell? ⟨g3,1,none⟩=some (.bool b):=(Yc C3.out 1).trans rfl;have k2:w6.cell? ⟨g3,2,none⟩=some (.slice A l.length c):=(Yc C3.out 2).trans rfl;have j0:w6.cell? ⟨g6,0,none⟩=some (.int .i64 0):=(Yc C6.out 0).trans rfl;have j1:w6.cell? ⟨g6,1,none⟩=some (.bool false):=(Yc C6.out 1).trans rfl;have j2:w6.cell? ⟨g6,2,none⟩=some (.slice none 0 0):=(Yc C6.out 2).trans rfl;have q0:=Yf C6.out 0;have q1:=Yf C6.out 1;have q2:=Yf C6.out 2;go_wp2_with fail;refine bodyPost_ret (results_cell_row rfl _ _ g6 24 #[.int .i64 n, .bool b, .slice A l.length c] (0,0) _ rfl (YA (cs:= #[.int .i64 n, .bool b, .slice none 0 0]) (YA (cs:= #[.int .i64 n, .bool false, .slice none 0 0]) (YA (cs:= #[.int .i64 0, .bool false, .slice none 0 0]) C6.out 0 _ rfl) 1 _ rfl) 2 _ rfl) Try.underlying24 rfl (by kernel_rfl)) rfl ?_;exact⟨by rw[E3.out,E4.out],Yh (Yh (Yh HC.out hgw6) hgw6) hgw6⟩
 ·have e1:decide (nd<n)=false:=Yw hn
  have e3:fewN n nd=n:=by unfold fewN;rw[Yy (fun h=>by omega)]
  have E3:=Ya e3;clear e3 h0 h1 h2 f0;have C3:=B3;have C6:=B6;have HC:=HB;clear B3 B6 HB;have h0:w6.cell? ⟨g3,0,none⟩=some (.int .i64 n):=(Yc C3.out 0).trans rfl;go_upto_region 3 with fail
  clear h0;have f2:=Yf C3.out 2;have x2:w6.cell? ⟨g3,2,none⟩=some (.slice A l.length c):=(Yc C3.out 2).trans rfl;by_cases hl:ar<l.length
  ·have d1:decide ((ar:Int)<(l.length:Int))=true:=Yv (by omega)
   by_cases hl2:l.length≤200
   ·have d2:decide ((l.length:Int)≤200)=true:=Yv (by omega)
    obtain⟨ad,rfl⟩:=HAD.out (by omega);have r1:(0:Int)≤(ar:Int):=by omega
    have r2:(ar:Int)≤(c:Int):=by omega
    have e4:(fewL l ar).length=ar:=by unfold fewL;rw[Yx ⟨hl,hl2⟩,List.length_take];omega
    have E4:=Ya e4;clear e4;go_upto_region 5 with fail
    have D3:Aside0 ((w6.setCell ⟨g3,2,none⟩ (.slice (some ad) ar c)).heap[g3]? =some (.cells #[.int .i64 n, .bool b, .slice (some ad) ar c] 24 (0,0))):=⟨(blk_set C3.out 2 _).trans rfl⟩;have D6:Aside0 ((w6.setCell ⟨g3,2,none⟩ (.slice (some ad) ar c)).heap[g6]? =some (.cells #[.int .i64 0, .bool false, .slice none 0 0] 24 (0,0))):=⟨blk_far C6.out (p:=⟨g3,2,none⟩) hg63 _⟩;have HD:Aside0 (Below w.heap.size w (w6.setCell ⟨g3,2,none⟩ (.slice (some ad) ar c))):=⟨Yh HC.out hgw⟩;clear C3 C6 HC f2 x2;generalize w6.setCell ⟨g3,2,none⟩ (.slice (some ad) ar c)=w8 at *;have C3:=D3;have C6:=D6;have HC:=HD;clear D3 D6 HD;have k0:w8.cell? ⟨g3,0,none⟩=some (.int .i64 n):=(Yc C3.out 0).trans rfl;have k1:w8.cell? ⟨g3,1,none⟩=some (.bool b):=(Yc C3.out 1).trans rfl;have k2:w8.cell? ⟨g3,2,none⟩=some (.slice (some ad) ar c):=(Yc C3.out 2).trans rfl;have j0:w8.cell? ⟨g6,0,none⟩=some (.int .i64 0):=(Yc C6.out 0).trans rfl;have j1:w8.cell? ⟨g6,1,none⟩=some (.bool false):=(Yc C6.out 1).trans rfl;have j2:w8.cell? ⟨g6,2,none⟩=some (.slice none 0 0):=(Yc C6.out 2).trans rfl;have q0:=Yf C6.out 0;have q1:=Yf C6.out 1;have q2:=Yf C6.out 2;go_wp2_with fail;refine bodyPost_ret (results_cell_row rfl _ _ g6 24 #[.int .i64 n, .bool b, .slice (some ad) ar c] (0,0) _ rfl (YA (cs:= #[.int .i64 n, .bool b, .slice none 0 0]) (YA (cs:= #[.int .i64 n, .bool false, .slice none 0 0]) (YA (cs:= #[.int .i64 0, .bool false, .slice none 0 0]) C6.out 0 _ rfl) 1 _ rfl) 2 _ rfl) Try.underlying24 rfl (by kernel_rfl)) rfl ?_;exact⟨by rw[E3.out,E4.out],Yh (Yh (Yh HC.out hgw6) hgw6) hgw6⟩
   ·have d2:decide ((l.length:Int)≤200)=false:=Yw (by omega)
    have e4:fewL l ar=l:=by unfold fewL;rw[Yy (fun h=>by omega)]
    have E4:=Ya e4;clear e4;go_upto_region 5 with fail
    clear f2 x2;have k0:w6.cell? ⟨g3,0,none⟩=some (.int .i64 n):=(Yc C3.out 0).trans rfl;have k1:w6.cell? ⟨g3,1,none⟩=some (.bool b):=(Yc C3.out 1).trans rfl;have k2:w6.cell? ⟨g3,2,none⟩=some (.slice A l.length c):=(Yc C3.out 2).trans rfl;have j0:w6.cell? ⟨g6,0,none⟩=some (.int .i64 0):=(Yc C6.out 0).trans rfl;have j1:w6.cell? ⟨g6,1,none⟩=some (.bool false):=(Yc C6.out 1).trans rfl;have j2:w6.cell? ⟨g6,2,none⟩=some (.slice none 0 0):=(Yc C6.out 2).trans rfl;have q0:=Yf C6.out 0;have q1:=Yf C6.out 1;have q2:=Yf C6.out 2;go_wp2_with fail;refine bodyPost_ret (results_cell_row rfl _ _ g6 24 #[.int .i64 n, .bool b, .slice A l.length c] (0,0) _ rfl (YA (cs:= #[.int .i64 n, .bool b, .slice none 0 0]) (YA (cs:= #[.int .i64 n, .bool false, .slice none 0 0]) (YA (cs:= #[.int .i64 0, .bool false, .slice none 0 0]) C6.out 0 _ rfl) 1 _ rfl) 2 _ rfl) Try.underlying24 rfl (by kernel_rfl)) rfl ?_;exact⟨by rw[E3.out,E4.out],Yh (Yh (Yh HC.out hgw6) hgw6) hgw6⟩
  ·have d1:decide ((ar:Int)<(l.length:Int))=false:=Yw (by omega)
   have e4:fewL l ar=l:=by unfold fewL;rw[Yy (fun h=>by omega)]
   have E4:=Ya e4;clear e4;go_upto_region 5 with fail
   clear f2 x2;have k0:w6.cell? ⟨g3,0,none⟩=some (.int .i64 n):=(Yc C3.out 0).trans rfl;have k1:w6.cell? ⟨g3,1,none⟩=some (.bool b):=(Yc C3.out 1).trans rfl;have k2:w6.cell? ⟨g3,2,none⟩=some (.slice A l.length c):=(Yc C3.out 2).trans rfl;have j0:w6.cell? ⟨g6,0,none⟩=some (.int .i64 0):=(Yc C6.out 0).trans rfl;have j1:w6.cell? ⟨g6,1,none⟩=some (.bool false):=(Yc C6.out 1).trans rfl;have j2:w6.cell? ⟨g6,2,none⟩=some (.slice none 0 0):=(Yc C6.out 2).trans rfl;have q0:=Yf C6.out 0;have q1:=Yf C6.out 1;have q2:=Yf C6.out 2;go_wp2_with fail;refine bodyPost_ret (results_cell_row rfl _ _ g6 24 #[.int .i64 n, .bool b, .slice A l.length c] (0,0) _ rfl (YA (cs:= #[.int .i64 n, .bool b, .slice none 0 0]) (YA (cs:= #[.int .i64 n, .bool false, .slice none 0 0]) (YA (cs:= #[.int .i64 0, .bool false, .slice none 0 0]) C6.out 0 _ rfl) 1 _ rfl) 2 _ rfl) Try.underlying24 rfl (by kernel_rfl)) rfl ?_;exact⟨by rw[E3.out,E4.out],Yh (Yh (Yh HC.out hgw6) hgw6) hgw6⟩
end H
namespace Q
open P
open H (Right StepsOk StepOf wayRes wayF_eq alongL arcsOf amt lessA Link GoA cycA cycF chF reach wayA way_along splitR cleanR posN Rea Parts SplitOk IsFlow Acyc tot lessA_len lessA_get eFrom eTo)
theorem along_l0 (F:List Int) (hF:F.length≤200) (d:Nat): ∀ i:Nat,i+d=F.length→(alongL F i).length≤i→Ev (fun k=>ebbtideref13_along.l0 k F (alongL F i) (i:Int)) (alongL F F.length):=by
 induction d with
 |zero=>
  intro i hi _;refine Ev.succ ?_;simp only[ebbtideref13_along.l0];refine Ev.neg (by omega) ?_;exact Ev.done (by rw[← show i=F.length by omega])
 |succ d ih=>
  intro i hi hl;have hnext:=ih (i+1) (by omega);refine Ev.succ ?_;simp only[ebbtideref13_along.l0];refine Ev.pos (by omega) ?_;refine Ev.pos (by omega) ?_;rw[rd_nat,wrap_succ (n:=F.length) (by omega) (by omega)];generalize alongL F F.length=Z at hnext ⊢;unfold alongL at hnext;by_cases g:F.getD i 0>0
  ·refine Ev.pos g ?_
   refine Ev.pos (by omega) ?_;rw[Yx g] at hnext;exact hnext (by rw[List.length_append];simp;omega)
  ·refine Ev.neg g ?_
   rw[Yy g,List.append_nil] at hnext;exact hnext (by omega)
theorem along_ev (F:List Int) (hF:F.length≤200):Ev (fun k=>ebbtideref13_along.f k F) (alongL F F.length):=along_l0 F hF F.length 0 (by omega) (Nat.le_refl _)
theorem alongL_len (F:List Int) (k:Nat):(alongL F k).length≤k:=by
 induction k with
 |zero=>exact Nat.le_refl _
 |succ k ih=>unfold alongL;rw[List.length_append];split<;>simp<;>omega
theorem alongL_mem (F:List Int) (k:Nat): ∀ s,s∈alongL F k→ ∃ i:Nat,i<k∧s.f0=i:=by
 induction k with
 |zero=>intro s h;cases h
 |succ k ih=>
  intro s h;unfold alongL at h;rcases List.mem_append.1 h with h|h
  ·obtain⟨i,h1,h2⟩:=ih s h;exact⟨i,by omega,h2⟩
  ·split at h
   ·rw[List.mem_singleton.1 h];exact⟨k,by omega,rfl⟩
   ·cases h
theorem along_ok {l:List S50} {F:List Int} {n:Nat} (hr:Right l F n):StepsOk l n (alongL F F.length):=
 ⟨hr.ends,hr.arcs,fun s hs=>by obtain⟨i,h1,h2⟩:=alongL_mem F _ s hs;exact⟨i,by rw[← hr.len];exact h1,h2⟩,by have:=alongL_len F F.length;have:=hr.len;have:=hr.arcs;omega⟩
theorem way13_eq {l:List S50} {F:List Int} {n:Nat} (hr:Right l F n) {s:Nat} (hs:s<n) (b:Bool) (v:Nat):ebbtideref08_Way.f (n:Int) b l (s:Int) (v:Int) (alongL F F.length)=some (wayA l F n s v,decide (v∈reach l F n s)):=by
 unfold ebbtideref08_Way.f;rw[wayF_eq (along_ok hr) hs hr.fifty,way_along hr]
theorem places_l0 (W:List S79) (hW:W.length≤1000000) (d:Nat): ∀ i:Nat,i+d=W.length→Ev (fun k=>ebbtideref13_places.l0 k W (arcsOf (W.take i)) (i:Int)) (arcsOf W):=by
 induction d with
 |zero=>
  intro i hi;refine Ev.succ ?_;simp only[ebbtideref13_places.l0];refine Ev.neg (by omega) ?_;exact Ev.done (by rw[List.take_of_length_le (by omega)])
 |succ d ih=>
  intro i hi;have hnext:=ih (i+1) (by omega);have hg:rd_T79 W (i:Int)=W[i]'(by omega):=by unfold rd_T79;rw[Int.toNat_natCast,List.getD_eq_getElem?_getD,List.getElem?_eq_getElem (by omega)];rfl
  have htk:arcsOf (W.take (i+1))=arcsOf (W.take i) ++ [(rd_T79 W (i:Int)).f0]:=by
   rw[List.take_add_one,List.getElem?_eq_getElem (by omega),hg];unfold arcsOf;rw[List.map_append];rfl
  rw[htk] at hnext;refine Ev.succ ?_;simp only[ebbtideref13_places.l0];refine Ev.pos (by omega) ?_;refine Ev.pos (by omega) ?_;refine Ev.pos (by unfold arcsOf;rw[List.length_map,List.length_take];omega) ?_;rw[wrap_succ (n:=W.length) (by omega) (by omega)];exact hnext
theorem places_ev (W:List S79) (hW:W.length≤1000000):Ev (fun k=>ebbtideref13_places.f k W) (arcsOf W):=places_l0 W hW W.length 0 (by omega)
theorem taken_l1 (ax:List Int) (m:Int) (h0:0≤m) (h1:m≤1048576) (hl:ax.length≤1000000) (d:Nat): ∀ (i:Nat) (X:List Int),i+d=ax.length→(ax.drop i).Nodup→(∀ j,j∈ax.drop i→0≤j∧j<X.length∧0≤X.getD j.toNat 0∧X.getD j.toNat 0≤1048576)→
  Ev (fun k=>ebbtideref13_taken.l1 k ax m X (i:Int)) (ax,m,lessA X m (ax.drop i)):=by
 induction d with
 |zero=>
  intro i X hi _ _;refine Ev.succ ?_;simp only[ebbtideref13_taken.l1];refine Ev.neg (by omega) ?_;exact Ev.done (by rw[List.drop_of_length_le (by omega)];rfl)
 |succ d ih=>
  intro i X hi hn hb;have hd:=drop_getD ax i 0 (by omega);rw[hd] at hn hb ⊢;rw[List.nodup_cons] at hn;obtain⟨b0,b1,b2,b3⟩:=hb _ List.mem_cons_self;refine Ev.succ ?_;simp only[ebbtideref13_taken.l1];refine Ev.pos (by omega) ?_;refine Ev.pos (by omega) ?_;rw[rd_nat];refine Ev.pos b0 ?_;refine Ev.pos b1 ?_;have hr:rd X (ax.getD i 0)=X.getD (ax.getD i 0).toNat 0:=rfl;rw[hr,wrap_id (by omega) (by omega),wrap_succ (n:=ax.length) (by omega) (by omega)];refine ih (i+1) _ (by omega) hn.2 fun j hj=> ?_
  obtain⟨c0,c1,c2,c3⟩:=hb _ (List.mem_cons_of_mem _ hj);have hne:ax.getD i 0≠j:=fun e=>hn.1 (e▸hj)
  rw[List.length_set,H.getD_set_ne _ _ _ _ _ (by omega)];exact⟨c0,c1,c2,c3⟩
theorem taken_l0 (F ax:List Int) (hF:F.length≤200) (hl:ax.length≤1000000) (hn:ax.Nodup) (hb: ∀ j,j∈ax→0≤j∧j<F.length∧0≤F.getD j.toNat 0∧F.getD j.toNat 0≤1048576) (d:Nat): ∀ (i:Nat) (m:Int),i+d=ax.length→0≤m→m≤1048576→
  Ev (fun k=>ebbtideref13_taken.l0 k F ax m (i:Int)) (ax,(ax.drop i).foldl (fun k i=>min k (F.getD i.toNat 0)) m,lessA F ((ax.drop i).foldl (fun k i=>min k (F.getD i.toNat 0)) m) ax):=by
 induction d with
 |zero=>
  intro i m hi h0 h1;refine Ev.succ ?_;simp only[ebbtideref13_taken.l0];refine Ev.neg (by omega) ?_;refine Ev.pos (by show 0+F.length<_;omega) ?_;rw[List.drop_of_length_le (by omega)];have h:=taken_l1 ax m h0 h1 hl ax.length 0 F (by omega) (by rw[List.drop_zero];exact hn) (by rw[List.drop_zero];exact hb);rw[List.drop_zero] at h;exact h
 |succ d ih=>
  intro i m hi h0 h1;have hd:=drop_getD ax i 0 (by omega);obtain⟨b0,b1,b2,b3⟩:=hb (ax.getD i 0) (getD_mem (by omega));rw[hd,List.foldl_cons];refine Ev.succ ?_;simp only[ebbtideref13_taken.l0];refine Ev.pos (by omega) ?_;refine Ev.pos (by omega) ?_;rw[rd_nat];refine Ev.pos b0 ?_;refine Ev.pos b1 ?_;have hr:mn m (rd F (ax.getD i 0))=min m (F.getD (ax.getD i 0).toNat 0):=by
   show mn m (F.getD (ax.getD i 0).toNat 0)=_;unfold mn;omega
  rw[hr,wrap_succ (n:=ax.length) (by omega) (by omega)];exact ih (i+1) _ (by omega) (by omega) (by omega)
theorem taken_ev {l:List S50} {F:List Int} {n:Nat} (hr:Right l F n) {a b:Int} {ax:List Int} (h:Link l F a b ax) (hl:ax.length≤1000000):Ev (fun k=>ebbtideref13_taken.f k F ax) (ax,amt F ax,lessA F (amt F ax) ax):=by
 have hF:=hr.len;have hA:=hr.arcs;have hb: ∀ j,j∈ax→0≤j∧j<F.length∧0≤F.getD j.toNat 0∧F.getD j.toNat 0≤1048576:=fun j hj=>by
  have h1:=h.go.of j hj;have h2:=hr.nums j.toNat (by omega);omega
 have hne:=h.ne;have hn:=h.nodup;cases ax with
 |nil=>exact absurd rfl hne
 |cons x ax=>
  obtain⟨b0,b1,b2,b3⟩:=hb x List.mem_cons_self;have hx:(x::ax).getD 0 0=x:=rfl;have hz:rd (x::ax) 0=x:=rfl;unfold ebbtideref13_taken.f;refine Ev.pos (by simp) ?_;rw[hz];refine Ev.pos b0 ?_;refine Ev.pos b1 ?_;have h1:=taken_l0 F (x::ax) (by omega) hl hn hb ax.length 1 (F.getD x.toNat 0) (by simp;omega) b2 b3;have e:(List.drop 1 (x::ax)).foldl (fun k i=>min k (F.getD i.toNat 0)) (F.getD x.toNat 0)=amt F (x::ax):=by
   unfold amt;show ax.foldl _ _=List.foldl _ _ (x::ax);rw[List.foldl_cons];show _=ax.foldl _ (min (F.getD x.toNat 0) (F.getD x.toNat 0));rw[Int.min_self]
  rw[e] at h1;exact h1
def firstC (l:List S50) (F:List Int) (n:Nat):Nat→Nat→Option (List Int)
 |0,_=>none
 |d+1,i=>match cycA l F n i with
  |some ax=>some ax
  |none=>firstC l F n d (i+1)
theorem cycle_l0 {l:List S50} {F:List Int} {n:Nat} (hr:Right l F n) (b:Bool) (d:Nat): ∀ i:Nat,i+d=l.length→
  Ev (fun k=>ebbtideref13_cycle.l0 k F (i:Int) n b l) (match firstC l F n d i with
   |some ax=>(ax,true)
   |none=>([],false)):=by
 have hF:=hr.len;have hA:=hr.arcs
 induction d with
 |zero=>
  intro i hi;refine Ev.succ ?_;simp only[ebbtideref13_cycle.l0];refine Ev.neg (by omega) ?_;exact Ev.now _
 |succ d ih=>
  intro i hi;have hil:i<l.length:=by omega
  have hends:=hr.ends i hil;have hnext:=ih (i+1) (by omega);unfold firstC cycA;refine Ev.succ ?_;simp only[ebbtideref13_cycle.l0];refine Ev.pos (by omega) ?_;refine Ev.pos (by omega) ?_;rw[rd_nat,wrap_succ (n:=l.length) (by omega) (by omega)];by_cases g0:F.getD i 0=0
  ·refine Ev.pos g0 ?_
   rw[Yx g0];exact hnext
  refine Ev.neg g0 ?_;rw[Yy g0];refine Ev.pos (by show 0<_;omega) ?_;refine Ev.let_ ?_;refine Ev.pos (by omega) ?_;have e0:(rd_T50 l (i:Int)).f0=eFrom (rd_T50 l (i:Int)):=rfl;have e1:(rd_T50 l (i:Int)).f1=eTo (rd_T50 l (i:Int)):=rfl;rw[e0,e1];by_cases g1:eFrom (rd_T50 l i)=eTo (rd_T50 l i)
  ·refine Ev.pos g1 ?_
   rw[Yx g1];exact Ev.now _
  refine Ev.neg g1 ?_;rw[Yy g1];refine Ev.bind (along_ev F (by omega)) ?_;have hu:eTo (rd_T50 l i)=((eTo (rd_T50 l i)).toNat:Int):=by omega
  have hv:eFrom (rd_T50 l i)=((eFrom (rd_T50 l i)).toNat:Int):=by omega
  have hw:=way13_eq hr (s:=(eTo (rd_T50 l i)).toNat) (by omega) b (eFrom (rd_T50 l i)).toNat
  rw[← hu, ← hv] at hw;refine Ev.call hw ?_;by_cases g2:(eFrom (rd_T50 l i)).toNat∈reach l F n (eTo (rd_T50 l i)).toNat
  ·refine Ev.pos (by simpa using g2) ?_
   rw[Yx g2];have hwl:=H.wayA_len hr (by omega) (by omega) g2;refine Ev.bind (places_ev (wayA l F n (eTo (rd_T50 l i)).toNat (eFrom (rd_T50 l i)).toNat) (by omega)) ?_;refine Ev.pos (by unfold arcsOf;rw[List.length_map];show 1+(wayA l F n (eTo (rd_T50 l i)).toNat (eFrom (rd_T50 l i)).toNat).length<_;omega) ?_;exact Ev.now _
  ·refine Ev.neg (by simpa using g2) ?_
   rw[Yy g2];exact hnext
theorem firstC_none {l:List S50} {F:List Int} {n:Nat} (d:Nat): ∀ i:Nat,(∀ j:Nat,i≤j→j<i+d→cycA l F n j=none)→firstC l F n d i=none:=by
 induction d with
 |zero=>intro i _;rfl
 |succ d ih=>
  intro i h;unfold firstC;rw[h i (Nat.le_refl _) (by omega)];exact ih (i+1) fun j hj hj2=>h j (by omega) (by omega)
theorem firstC_some {l:List S50} {F:List Int} {n i:Nat} {ax:List Int} (hc:cycA l F n i=some ax) (d:Nat): ∀ a:Nat,a≤i→i<a+d→(∀ j:Nat,a≤j→j<i→cycA l F n j=none)→firstC l F n d a=some ax:=by
 induction d with
 |zero=>intro a h1 h2 _;omega
 |succ d ih=>
  intro a h1 h2 h;unfold firstC;by_cases e:a=i
  ·rw[e,hc]
  ·rw[h a (Nat.le_refl _) (by omega)]
   exact ih (a+1) (by omega) (by omega) fun j hj hj2=>h j (by omega) hj2
theorem posN_le200 {l:List S50} {F:List Int} {n:Nat} (hr:Right l F n):posN F≤200:=by
 have h1:=H.posN_len F;have h2:=hr.len;have h3:=hr.arcs;omega
theorem split_l1 {l:List S50} {n s t:Nat} (b:Bool) (hs:s<n) (ht:t<n) (hst:s≠t) (cy:List S47) (K:Nat): ∀ (F:List Int) (acc:List S47),Right l F n→posN F<K→acc.length+posN F≤200→
  Ev (fun k=>ebbtideref13_Split.l1 k (s:Int) (t:Int) F (n:Int) b l acc cy) (acc ++ (chF l n s t K F).1,cy,0):=by
 induction K with
 |zero=>intro F acc _ h;omega
 |succ K ih=>
  intro F acc hr hk ha;unfold chF;refine Ev.succ ?_;simp only[ebbtideref13_Split.l1];refine Ev.bind (along_ev F (by rw[hr.len];exact hr.arcs)) ?_;refine Ev.call (way13_eq hr hs b t) ?_;by_cases g:t∈reach l F n s
  ·have hlk:=H.chain_link hr hs hst g
   have htk:=hlk.taken hr;have hfw:=htk.fewer;refine Ev.pos (by simpa using g) ?_;rw[Yx g];refine Ev.bind (places_ev (wayA l F n s t) (by have:=H.wayA_len hr hs hst g;omega)) ?_;refine Ev.bind (taken_ev (ax:=arcsOf (wayA l F n s t)) hr hlk (by have:=H.go_len hr hlk;omega)) ?_;refine Ev.pos (by omega) ?_;have h1:=ih (lessA F (amt F (arcsOf (wayA l F n s t))) (arcsOf (wayA l F n s t))) (acc ++ [⟨arcsOf (wayA l F n s t),amt F (arcsOf (wayA l F n s t))⟩]) htk.right (by omega) (by rw[List.length_append];simp;omega);rw[List.append_assoc] at h1;exact h1
  ·refine Ev.neg (by simpa using g) ?_
   rw[Yy g];exact Ev.done (by rw[List.append_nil])
theorem split_l0 {l:List S50} {n s t:Nat} (b:Bool) (hs:s<n) (ht:t<n) (hst:s≠t) (K:Nat): ∀ (i:Nat) (F:List Int) (acc:List S47),Right l F n→posN F+(l.length - i)<K→acc.length+posN F≤200→(∀ j:Nat,j<i→j<l.length→0<F.getD j 0→ ¬ Rea l F (eTo (rd_T50 l j)) (eFrom (rd_T50 l j)))→
  Ev (fun k=>ebbtideref13_Split.l0 k (s:Int) (t:Int) F (n:Int) b l acc) ((chF l n s t 1000 (cycF l n K i F).2).1,acc ++ (cycF l n K i F).1,0):=by
 induction K with
 |zero=>intro i F acc _ h;omega
 |succ K ih=>
  intro i F acc hr hk ha hpre;have hnone: ∀ j:Nat,j<i→j<l.length→cycA l F n j=none:=fun j h1 h2=>(H.cycA_none hr h2).2 (hpre j h1 h2)
  by_cases hi:i<l.length
  ·cases hc:cycA l F n i with
   |none=>
    have h1:=ih (i+1) F acc hr (by omega) ha (fun j hj hjl=>by
     by_cases e:j=i
     ·subst e;exact(H.cycA_none hr hi).1 hc
     ·exact hpre j (by omega) hjl)
    unfold cycF;rw[Yx hi,hc];exact h1
   |some ax=>
    obtain⟨hlk,_⟩:=H.cycA_some hr hi hc;have htk:=hlk.taken hr;have hfw:=htk.fewer;have h1:=ih i (lessA F (amt F ax) ax) (acc ++ [⟨ax,amt F ax⟩]) htk.right (by omega) (by rw[List.length_append];simp;omega) (fun j hj hjl hp g=>hpre j hj hjl (Int.lt_of_lt_of_le hp (htk.le j)) (g.mono htk.le));rw[List.append_assoc] at h1;unfold cycF;rw[Yx hi,hc];refine Ev.succ ?_;simp only[ebbtideref13_Split.l0];have hcy:=cycle_l0 hr b l.length 0 (by omega);rw[firstC_some hc l.length 0 (by omega) (by omega) (fun j _ hj=>hnone j hj (by omega))] at hcy;refine Ev.bind hcy ?_;refine Ev.pos rfl ?_;refine Ev.bind (taken_ev (ax:=ax) hr hlk (by have:=H.go_len hr hlk;omega)) ?_;refine Ev.pos (by omega) ?_;exact h1
  ·unfold cycF
   rw[Yy hi];refine Ev.succ ?_;simp only[ebbtideref13_Split.l0];have hcy:=cycle_l0 hr b l.length 0 (by omega);rw[firstC_none l.length 0 (fun j _ hj=>hnone j (by omega) (by omega))] at hcy;refine Ev.bind hcy ?_;refine Ev.neg (by simp) ?_;have:=posN_le200 hr;exact Ev.eq (split_l1 b hs ht hst acc 1000 F [] hr (by omega) (by simp;omega)) (by rw[List.append_nil,List.nil_append])
theorem ref_split_ev (n:Int) (b:Bool) (l:List S50) (s t:Int) (f:List Int):Ev (fun k=>ebbtideref13_Split.f k n b l s t f) (splitR n l s t f):=by
 unfold ebbtideref13_Split.f;refine Ev.bind (ref_value_ev n b l s t f) ?_;unfold splitR;by_cases h0:(valRes n l s t f).2=0
 ·refine Ev.pos h0 ?_
  rw[Yx h0];by_cases h1:(valRes n l s t f).1<0
  ·refine Ev.pos h1 ?_
   rw[Yx h1];exact Ev.now _
  ·refine Ev.neg h1 ?_
   rw[Yy h1];obtain⟨g1,g2,n0,rfl,g3,g4⟩:=flow_val h0;obtain⟨hn,e1,e2,e3,e4,e5⟩:=endsE_ok g1;obtain⟨s0,rfl⟩: ∃ s0:Nat,s=s0:=⟨s.toNat,by omega⟩;obtain⟨t0,rfl⟩: ∃ t0:Nat,t=t0:=⟨t.toNat,by omega⟩;have hp:=posN_le200 g3.right;have hA:=g3.right.arcs;simp only[Int.toNat_natCast];exact Ev.eq (split_l0 b (by omega) (by omega) (by omega) 1000 0 f [] g3.right (by omega) (by simp;omega) (fun j hj=>by omega)) (by rw[List.nil_append])
 ·refine Ev.neg h0 ?_
  rw[Yy h0];exact Ev.now _
end Q
end Go.Proofs.Ytoedkglggapggaa
