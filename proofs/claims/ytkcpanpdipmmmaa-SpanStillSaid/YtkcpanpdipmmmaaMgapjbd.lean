/- What the law's row needs of these texts, taken out of them by wip/tool/mini.py: P92 P93 P95 P104 P114 P119 P120 P121 P174 QOpen. -/
import Derived.Test.YtkcpanpdipmmmaaMbioojn
import Derived.Test.YtkcpanpdipmmmaaMonmahc
import Derived.Test.YtkcpanpdipmmmaaMmjhbac
import Derived.Test.YtkcpanpdipmmmaaVebhacm
import Derived.Deep.Slices
import Derived.Deep.Fields
import Derived.ChangeSame
import Derived.ChangeArms
import Derived.OpenShut
set_option linter.unusedVariables false
set_option linter.unusedSimpArgs false
open Go.RowKit Go.Proofs.YtkcpanpdipmmmaaW.PrintWords Go.Proofs.YtkcpanpdipmmmaaW.PrintLast Go.Proofs.YtkcpanpdipmmmaaW.PrintMore
namespace Go.Proofs.Ytkcpanpdipmmmaa
namespace P
attribute [local go_sem] max2_int min2_int max_two min_two max_three min_three max_four min_four
def static_Balance.l0:Nat→List Int→List Int→List (S74)→Int→Int→Option (List Int × Int)
 |0,_,_,_,_,_=>none
 |k+1,x1,x7,x20,x21,x22=>if x22<x21 then(if 0≤x22 then(if x22<(x20.length:Int) then(if 0≤((rd_T74 x20 x22).f0) then(if ((rd_T74 x20 x22).f0)<(x7.length:Int) then(if x22<(x1.length:Int) then((some (x7.set (((rd_T74 x20 x22).f0):Int).toNat (wrap64 ((rd x7 ((rd_T74 x20 x22).f0))+(rd x1 x22))):List Int)).bind fun y714=>(if 0≤((rd_T74 x20 x22).f1) then(if ((rd_T74 x20 x22).f1)<(x7.length:Int) then(static_Balance.l0 k x1 (y714.set (((rd_T74 x20 x22).f1):Int).toNat (wrap64 ((rd y714 ((rd_T74 x20 x22).f1)) - (rd x1 x22)))) x20 x21 (wrap64 (x22+1))) else(none)) else(none))) else(none)) else(none)) else(none)) else(none)) else(none)) else(some (x7,0))
def static_Balance.f (k:Nat) (Zc:Int) (Zb:Bool) (Za:List (S74)) (l1:List Int):Option (List Int × Int):=(static_Asked.f k Zc Zb Za l1).bind fun t706=>(if t706=0 then(if 0≤Zc then(if (Zc:Int).toNat≤35184372088832 then(static_Balance.l0 k l1 (List.replicate (Zc:Int).toNat 0) Za (Za.length:Int) 0) else(none)) else(none)) else(some (([]:List Int),t706)))
def static_Balance.T8:Bool × List (List Nat × List Nat):=(true,[([],[]),([],[]),([1],[1]),([0,2],[0,2]),([3],[3]),([],[]),([],[]),([5,6],[5,6]),([7],[7]),([4,8],[4,8]),([0,2,0,1,2,3,4,5,6,7,8,9],[0,2]),([10,9,0,1,2,3,4,5,6,7,8,9],[9,10])])
def static_Balance.B8:List Nat:=[0,0,2,7,15,0,0,96,224,511,1023,2047]
theorem static_Balance.tab8:rtab .any (opsOf Try.f150 8)=static_Balance.T8:=by kernel_rfl
theorem static_Balance.bits8:waitsOk static_Balance.T8.2 static_Balance.B8=true:=by kernel_rfl
def static_Balance.T9:Bool × List (List Nat × List Nat):=(true,[([],[]),([],[]),([1],[1]),([0,2],[0,2]),([3],[3]),([],[]),([],[]),([5,6],[5,6]),([7],[7]),([4,8],[4,8]),([0,2,0,1,2,3,4,5,6,7,8,9],[0,2]),([10,9,0,1,2,3,4,5,6,7,8,9],[9,10])])
def static_Balance.B9:List Nat:=[0,0,2,7,15,0,0,96,224,511,1023,2047]
theorem static_Balance.tab9:rtab .any (opsOf Try.f150 9)=static_Balance.T9:=by kernel_rfl
theorem static_Balance.bits9:waitsOk static_Balance.T9.2 static_Balance.B9=true:=by kernel_rfl
set_option maxHeartbeats 8000000 in
set_option maxRecDepth 100000 in
theorem static_Balance.calls (k:Nat) (Zc:Int) (Zb:Bool) (Ze:Option Addr) (Zd:Nat) (Za:List (S74)) (A1:Option Addr) (c1:Nat) (l1:List Int) (r1:List Int) (r2:Int) (w:World) (Zq:Kd.C k74 w Ze Za.length Za) (Zr:Za.length≤Zd) (hr1:Kd.C (Kd.int .i64) w A1 l1.length l1) (hc1:l1.length≤c1) (h:static_Balance.f k Zc Zb Za l1=some (r1,r2)):
  Calls Try.prog 150 #[.agg #[.int .i64 Zc, .bool Zb, .slice Ze Za.length Zd], .slice A1 l1.length c1] w fun e w'=> ∃ v0_:Value,e= .returned (.tuple #[v0_, .int .i64 r2])∧Kd.R (Kd.int .i64) 3 w' w.heap.size (fun _=>True) v0_ r1∧Below w.heap.size w w':=by
 have hu24:=Try.underlying24
 have hu74:=Try.underlying74
 have Zl:=Ya Zq
 have Xd:=Ya Zr
 clear Zq Zr
 have HR1:=Ya hr1
 have HC1:=Ya hc1
 clear hr1 hc1
 have HB:=Ya (Yo w.heap.size w)
 have H:((static_Asked.f k Zc Zb Za l1).bind fun t706=>(if t706=0 then(if 0≤Zc then(if (Zc:Int).toNat≤35184372088832 then(static_Balance.l0 k l1 (List.replicate (Zc:Int).toNat 0) Za (Za.length:Int) 0) else(none)) else(none)) else(some (([]:List Int),t706))))=some (r1,r2):=h
 clear h
 replace H:=Option.bind_eq_some_iff.mp H
 obtain⟨t706,A30,H⟩:=H
 replace H:(if t706=0 then(if 0≤Zc then(if (Zc:Int).toNat≤35184372088832 then(static_Balance.l0 k l1 (List.replicate (Zc:Int).toNat 0) Za (Za.length:Int) 0) else(none)) else(none)) else(some (([]:List Int),t706)))=some (r1,r2):=H
 have A3:=Ya A30
 clear A30
 by_cases c4:t706=0
 rotate_left
 ·rw[Yy c4] at H
  have c4b0:(t706 == 0)=false:=beq_eq_false_iff_ne.mpr c4
  have c4b1:(t706 != 0)=true:=bne_iff_ne.mpr c4
  simp only[Option.some.injEq,Prod.mk.injEq] at H
  obtain⟨rfl,rfl⟩:=H
  go_enter Try.func150,Try.ntmps150
  go_wp2_with (first|((with_reducible refine gate_dst (N:=2) rfl ?_);refine Yz ?hg (N:=2) ?hd (cs:= #[.int .i64 Zc, .bool Zb, .slice Ze Za.length Zd]) (t:=24) ?hr ?_;(case hd=>rfl);(case hg=>rfl);(case hr=>first|(go_simp;done)|(go_simp;rfl));intro Va hg w34 Zf hb;have n0_:=Ya (Yk (by repeat(first|(with_reducible first|exact HB.out|apply Ye|apply Yd|apply Yg)|exact HB.out)) hb);have n1_:=Ya (Zf);have n2_:=Ya ((by rw[hg];exact(Yi (by repeat(first|(with_reducible first|exact HB.out|apply Ye|apply Yd|apply Yg)|exact HB.out))):w.heap.size≤Va));have n3_:=Ya ((by rw[hg];exact(Yi (by repeat(first|(with_reducible first|exact HB.out|apply Ye|apply Yd|apply Yg)|exact HB.out))):w.heap.size≤Va));clear HB;have HB:=n0_;have Xf:=n1_;have GW705:=n2_;have GE705:=n3_;clear n0_ n1_ n2_ n3_;clear hb Zf hg;have hcz35_0:w34.cell? ⟨Va,0,none⟩=some (.int .i64 Zc):=(Yc Xf.out 0).trans rfl;have hcz35_1:w34.cell? ⟨Va,1,none⟩=some (.bool Zb):=(Yc Xf.out 1).trans rfl;have hcz35_2:w34.cell? ⟨Va,2,none⟩=some (.slice Ze Za.length Zd):=(Yc Xf.out 2).trans rfl;have hfz35_0:=Yf Xf.out 0;have hfz35_1:=Yf Xf.out 1;have hfz35_2:=Yf Xf.out 2)|((with_reducible refine gate_callee (f:=96) rfl ?_);refine goesL_ (some 12) rfl rfl Try.func96 (by kernel_rfl) rfl #[.agg #[.int .i64 Zc, .bool Zb, .slice Ze Za.length Zd], .slice A1 l1.length c1] rfl (by(try simp only[List.map_toArray,List.map_cons,List.map_nil]);first|done|rfl|(simp only[List.length_drop,List.length_take];rfl)) ?_;(with_reducible refine(static_Asked.calls k Zc Zb _ _ Za _ _ l1 t706 _ ?side1 ?side2 ?side3 ?side4 A3.out).mono ?_);(case side1=>repeat(first|exact(Yt Zl.out HB.out)|(with_reducible refine Kd.C_alloc ?_ _)|(with_reducible refine Kd.C_drewN ?_ _)|(with_reducible refine Kd.C_drew ?_)));(case side2=>exact Xd.out);(case side3=>repeat(first|exact(Yt HR1.out HB.out)|(with_reducible refine Kd.C_alloc ?_ _)|(with_reducible refine Kd.C_drewN ?_ _)|(with_reducible refine Kd.C_drew ?_)));(case side4=>exact HC1.out);rintro e w36 ⟨rfl,hb⟩;refine⟨_,rfl,?_⟩;have n0_:=Ya (Yn (g:=Va) (o:= .cells #[.int .i64 Zc, .bool Zb, .slice Ze Za.length Zd] 24 (0,0)) (by(with_reducible repeat(first|refine Yl ?_ _|refine Ym ?_|refine Yj ?_ _));exact Xf.out) hb);have n1_:=Ya (Yk (by repeat(first|(with_reducible first|exact HB.out|apply Ye|apply Yd|apply Yg|refine Yh ?_ GE705.out)|exact HB.out)) hb);clear Xf;clear HB;have Xf:=n0_;have HB:=n1_;clear n0_ n1_;(try clear hb);(try clear hb2);(try clear hk);(try clear hi)))
  go_ret2
  exact⟨_,by first|rfl|(simp[errW_none,errW_some]<;>rfl)|(simp[*,errW_none,errW_some]<;>rfl),by first|exact Kd.R_nil _ _ _ _ _|exact Kd.N_nil _ _ _ _ _|exact Kd.V_nil _ _ _ _ _|exact Kd.Q_nil _ _ _ _ _|exact Kd.S_nil _ _ _ _ _,by repeat(first|(with_reducible first|exact HB.out|apply Ye|apply Yd|apply Yg|refine Yh ?_ GE705.out)|exact HB.out)⟩
 rw[Yx c4] at H
 have c4b0:(t706 == 0)=true:=beq_iff_eq.mpr c4
 have c4b1:(t706 != 0)=false:=bne_eq_false_iff_eq.mpr c4
 clear c4
 by_cases c5:0≤Zc
 rotate_left
 ·rw[Yy c5] at H
  exact absurd H (by simp)
 rw[Yx c5] at H
 have c5b0:=eq_true c5
 have c5b1:decide (0≤Zc)=true:=Yv c5
 clear c5
 by_cases c6:(Zc:Int).toNat≤35184372088832
 rotate_left
 ·rw[Yy c6] at H
  exact absurd H (by simp)
 rw[Yx c6] at H
 have c6b0:=eq_true c6
 have c6b1:decide ((Zc:Int).toNat≤35184372088832)=true:=Yv c6
 clear c6
 obtain⟨y707,hy707⟩: ∃ y_:List Int,y_=(List.replicate (Zc:Int).toNat 0):=⟨_,rfl⟩
 replace H:(static_Balance.l0 k l1 y707 Za (Za.length:Int) 0)=some (r1,r2):=by first|(rw[hy707];with_reducible exact H)|(have H2_:=(Option.bind_some _ _).symm.trans H;rw[hy707];with_reducible exact H2_)|(have H2_:=(Option.bind_some _ _).symm.trans H;with_reducible exact H2_)|with_reducible exact H|(rw[hy707];exact H)|exact H
 have Ny707:=Ya hy707
 clear hy707
 have H':=Ya H
 clear H
 go_enter Try.func150,Try.ntmps150
 go_wp2_with (first|((with_reducible refine gate_dst (N:=2) rfl ?_);refine Yz ?hg (N:=2) ?hd (cs:= #[.int .i64 Zc, .bool Zb, .slice Ze Za.length Zd]) (t:=24) ?hr ?_;(case hd=>rfl);(case hg=>rfl);(case hr=>first|(go_simp;done)|(go_simp;rfl));intro Va hg w7 Zf hb;have n0_:=Ya (Yk (by repeat(first|(with_reducible first|exact HB.out|apply Ye|apply Yd|apply Yg)|exact HB.out)) hb);have n1_:=Ya (Zf);have n2_:=Ya ((by rw[hg];exact(Yi (by repeat(first|(with_reducible first|exact HB.out|apply Ye|apply Yd|apply Yg)|exact HB.out))):w.heap.size≤Va));have n3_:=Ya ((by rw[hg];exact(Yi (by repeat(first|(with_reducible first|exact HB.out|apply Ye|apply Yd|apply Yg)|exact HB.out))):w.heap.size≤Va));clear HB;have HB:=n0_;have Xf:=n1_;have GW705:=n2_;have GE705:=n3_;clear n0_ n1_ n2_ n3_;clear hb Zf hg;have hcz8_0:w7.cell? ⟨Va,0,none⟩=some (.int .i64 Zc):=(Yc Xf.out 0).trans rfl;have hcz8_1:w7.cell? ⟨Va,1,none⟩=some (.bool Zb):=(Yc Xf.out 1).trans rfl;have hcz8_2:w7.cell? ⟨Va,2,none⟩=some (.slice Ze Za.length Zd):=(Yc Xf.out 2).trans rfl;have hfz8_0:=Yf Xf.out 0;have hfz8_1:=Yf Xf.out 1;have hfz8_2:=Yf Xf.out 2)|((with_reducible refine gate_callee (f:=96) rfl ?_);refine goesL_ (some 12) rfl rfl Try.func96 (by kernel_rfl) rfl #[.agg #[.int .i64 Zc, .bool Zb, .slice Ze Za.length Zd], .slice A1 l1.length c1] rfl (by(try simp only[List.map_toArray,List.map_cons,List.map_nil]);first|done|rfl|(simp only[List.length_drop,List.length_take];rfl)) ?_;(with_reducible refine(static_Asked.calls k Zc Zb _ _ Za _ _ l1 t706 _ ?side1 ?side2 ?side3 ?side4 A3.out).mono ?_);(case side1=>repeat(first|exact(Yt Zl.out HB.out)|(with_reducible refine Kd.C_alloc ?_ _)|(with_reducible refine Kd.C_drewN ?_ _)|(with_reducible refine Kd.C_drew ?_)));(case side2=>exact Xd.out);(case side3=>repeat(first|exact(Yt HR1.out HB.out)|(with_reducible refine Kd.C_alloc ?_ _)|(with_reducible refine Kd.C_drewN ?_ _)|(with_reducible refine Kd.C_drew ?_)));(case side4=>exact HC1.out);rintro e w9 ⟨rfl,hb⟩;refine⟨_,rfl,?_⟩;have n0_:=Ya (Yn (g:=Va) (o:= .cells #[.int .i64 Zc, .bool Zb, .slice Ze Za.length Zd] 24 (0,0)) (by(with_reducible repeat(first|refine Yl ?_ _|refine Ym ?_|refine Yj ?_ _));exact Xf.out) hb);have n1_:=Ya (Yk (by repeat(first|(with_reducible first|exact HB.out|apply Ye|apply Yd|apply Yg|refine Yh ?_ GE705.out)|exact HB.out)) hb);clear Xf;clear HB;have Xf:=n0_;have HB:=n1_;clear n0_ n1_;(try clear hb);(try clear hb2);(try clear hk);(try clear hi);have Uz:w9.cell? ⟨Va,0,none⟩=some (.int .i64 Zc):=(Yc Xf.out 0).trans rfl;have Ja:w9.cell? ⟨Va,1,none⟩=some (.bool Zb):=(Yc Xf.out 1).trans rfl;have Jb:w9.cell? ⟨Va,2,none⟩=some (.slice Ze Za.length Zd):=(Yc Xf.out 2).trans rfl;have Jc:=Yf Xf.out 0;have Jd:=Yf Xf.out 1;have Je:=Yf Xf.out 2)|((with_reducible refine gate_dst (N:=18) rfl ?_);refine Kd.R_make (Kd.int .i64) _ 3 rfl (N:=18) rfl 25 _ _ rfl Zc rfl rfl Try.underlying25 (.int .i64 0) 8 info3 rfl (by decide) (by omega) 0 (ok:=fun _=>True) (okp:=fun _=>True) rfl (fun _ hk=>hk) trivial (Yu (by first|(with_reducible assumption)|assumption)) (Nat.le_trans (Nat.mul_le_mul_right _ (Yu (by first|(with_reducible assumption)|assumption):Zc.toNat≤35184372088832)) (by omega)) (Yo _ _) (Nat.le_refl _) ?_;intro v708 w11 ho12 hb hg_ hnew_;clear hg_ hnew_;(first|rw[← Ny707.out] at ho12|(simp only[Int.reduceToNat] at ho12;rw[← Ny707.out] at ho12));have n0_:=Ya (Kd.R_lower ho12 (Yi (by repeat(first|(with_reducible first|exact HB.out|apply Ye|apply Yd|apply Yg|refine Yh ?_ GE705.out)|exact HB.out))));have n1_:=Ya (Yn (g:=Va) (o:= .cells #[.int .i64 Zc, .bool Zb, .slice Ze Za.length Zd] 24 (0,0)) (by(with_reducible repeat(first|refine Yl ?_ _|refine Ym ?_|refine Yj ?_ _));exact Xf.out) hb);have n2_:=Ya (Yk (by repeat(first|(with_reducible first|exact HB.out|apply Ye|apply Yd|apply Yg|refine Yh ?_ GE705.out)|exact HB.out)) hb);clear Xf;clear HB;have HO709:=n0_;have Xf:=n1_;have HB:=n2_;clear n0_ n1_ n2_;clear hb ho12;have hcz13_0:w11.cell? ⟨Va,0,none⟩=some (.int .i64 Zc):=(Yc Xf.out 0).trans rfl;have hcz13_1:w11.cell? ⟨Va,1,none⟩=some (.bool Zb):=(Yc Xf.out 1).trans rfl;have hcz13_2:w11.cell? ⟨Va,2,none⟩=some (.slice Ze Za.length Zd):=(Yc Xf.out 2).trans rfl;have hfz13_0:=Yf Xf.out 0;have hfz13_1:=Yf Xf.out 1;have hfz13_2:=Yf Xf.out 2))
 go_loopg [22] k (fun kq v22 w'=> ∃ (Uf:List Int) (Zh:Int),v22= .int .i64 Zh∧Aside0 (static_Balance.l0 kq l1 Uf Za (Za.length:Int) Zh=some (r1,r2))∧Aside0 (kq≤k)∧Aside0 (Kd.R (Kd.int .i64) 3 w' w.heap.size (fun _=>True) v708 Uf)∧Aside0 (w'.heap[Va]? =some (.cells #[.int .i64 Zc, .bool Zb,(.slice Ze Za.length Zd)] 24 (0,0)))∧Aside0 (Below w.heap.size w w'))
 case atStart=>exact⟨(y707),(0),(by first|rfl|(simp;done)|(simp[*];done)),H',⟨Nat.le_refl _⟩,⟨by(with_reducible repeat(first|apply Yr|apply Yq|apply Yp));exact HO709.out⟩,⟨by(with_reducible repeat(first|refine Yl ?_ _|refine Ym ?_|refine Yj ?_ _));exact Xf.out⟩,⟨by repeat(first|(with_reducible first|exact HB.out|apply Ye|apply Yd|apply Yg|refine Yh ?_ GE705.out)|exact HB.out)⟩⟩
 case round=>
  clear H'
  try clear c1
  try clear p2
  try clear c4
  try clear c4b0
  try clear c4b1
  try clear c5
  try clear c5b0
  try clear c5b1
  try clear c6
  try clear c6b0
  try clear c6b1
  try clear c9
  try clear Uz
  try clear Ja
  try clear Jb
  try clear hcz13_0
  try clear hcz13_1
  try clear hcz13_2
  try clear hcz8_0
  try clear hcz8_1
  try clear hcz8_2
  try clear Jc
  try clear Jd
  try clear Je
  try clear hfz13_0
  try clear hfz13_1
  try clear hfz13_2
  try clear hfz8_0
  try clear hfz8_1
  try clear hfz8_2
  obtain⟨Uf,Zh,rfl,HA,HK1,HO_7,Xf,HB⟩:=hrel
  cases gk with
  |zero=>exact absurd HA.out (by simp[static_Balance.l0])
  |succ k1=>
   have H:=HA.out
   clear HA
   simp only[static_Balance.l0] at H
   by_cases c14:Zh<(Za.length:Int)
   rotate_left
   ·rw[Yy c14] at H
    have c14b0:decide (Zh<(Za.length:Int))=false:=Yw c14
    clear c14
    simp only[Option.some.injEq,Prod.mk.injEq] at H
    obtain⟨rfl,rfl⟩:=H
    go_wp2
    go_ret2
    exact⟨_,by first|rfl|(simp[errW_none,errW_some]<;>rfl)|(simp[*,errW_none,errW_some]<;>rfl),by(with_reducible repeat(first|apply Yr|apply Yq|apply Yp));exact HO_7.out,by repeat(first|(with_reducible first|exact HB.out|apply Ye|apply Yd|apply Yg|refine Yh ?_ GE705.out)|exact HB.out)⟩
   rw[Yx c14] at H
   have c14b0:decide (Zh<(Za.length:Int))=true:=Yv c14
   clear c14
   by_cases c15:0≤Zh
   rotate_left
   ·rw[Yy c15] at H
    exact absurd H (by simp)
   rw[Yx c15] at H
   have c15b0:decide (0≤Zh)=true:=Yv c15
   clear c15
   by_cases c16:Zh<(Za.length:Int)
   rotate_left
   ·rw[Yy c16] at H
    exact absurd H (by simp)
   rw[Yx c16] at H
   have c16b0:decide (Zh<(Za.length:Int))=true:=Yv c16
   clear c16
   by_cases c17:0≤((rd_T74 Za Zh).f0)
   rotate_left
   ·rw[Yy c17] at H
    exact absurd H (by simp)
   rw[Yx c17] at H
   have c17b0:decide (0≤((rd_T74 Za Zh).f0))=true:=Yv c17
   clear c17
   by_cases c18:((rd_T74 Za Zh).f0)<(Uf.length:Int)
   rotate_left
   ·rw[Yy c18] at H
    exact absurd H (by simp)
   rw[Yx c18] at H
   have c18b0:decide (((rd_T74 Za Zh).f0)<(Uf.length:Int))=true:=Yv c18
   clear c18
   by_cases c19:Zh<(l1.length:Int)
   rotate_left
   ·rw[Yy c19] at H
    exact absurd H (by simp)
   rw[Yx c19] at H
   have c19b0:decide (Zh<(l1.length:Int))=true:=Yv c19
   clear c19
   obtain⟨y714,hy714⟩: ∃ y_:List Int,y_=(Uf.set (((rd_T74 Za Zh).f0):Int).toNat (wrap64 ((rd Uf ((rd_T74 Za Zh).f0))+(rd l1 Zh)))):=⟨_,rfl⟩
   replace H:(if 0≤((rd_T74 Za Zh).f1) then(if ((rd_T74 Za Zh).f1)<(Uf.length:Int) then(static_Balance.l0 k1 l1 (y714.set (((rd_T74 Za Zh).f1):Int).toNat (wrap64 ((rd y714 ((rd_T74 Za Zh).f1)) - (rd l1 Zh)))) Za (Za.length:Int) (wrap64 (Zh+1))) else(none)) else(none))=some (r1,r2):=by first|(rw[hy714];with_reducible exact H)|(have H2_:=(Option.bind_some _ _).symm.trans H;rw[hy714];with_reducible exact H2_)|(have H2_:=(Option.bind_some _ _).symm.trans H;with_reducible exact H2_)|with_reducible exact H|(rw[hy714];exact H)|exact H
   have Ny714:=Ya hy714
   clear hy714
   by_cases c21:0≤((rd_T74 Za Zh).f1)
   rotate_left
   ·rw[Yy c21] at H
    exact absurd H (by simp)
   rw[Yx c21] at H
   have c21b0:decide (0≤((rd_T74 Za Zh).f1))=true:=Yv c21
   clear c21
   by_cases c22:((rd_T74 Za Zh).f1)<(Uf.length:Int)
   rotate_left
   ·rw[Yy c22] at H
    exact absurd H (by simp)
   rw[Yx c22] at H
   have c22b0:decide (((rd_T74 Za Zh).f1)<(Uf.length:Int))=true:=Yv c22
   clear c22
   obtain⟨y717,hy717⟩: ∃ y_:List Int,y_=(y714.set (((rd_T74 Za Zh).f1):Int).toNat (wrap64 ((rd y714 ((rd_T74 Za Zh).f1)) - (rd l1 Zh)))):=⟨_,rfl⟩
   replace H:(static_Balance.l0 k1 l1 y717 Za (Za.length:Int) (wrap64 (Zh+1)))=some (r1,r2):=by first|(rw[hy717];with_reducible exact H)|(have H2_:=(Option.bind_some _ _).symm.trans H;rw[hy717];with_reducible exact H2_)|(have H2_:=(Option.bind_some _ _).symm.trans H;with_reducible exact H2_)|with_reducible exact H|(rw[hy717];exact H)|exact H
   have Ny717:=Ya hy717
   clear hy717
   have H':=Ya H
   clear H
   have p710:0≤(Zh:Int):=Yu (by first|(with_reducible assumption)|assumption)
   have q710:Zh<(Za.length:Int):=Yu (by first|(with_reducible assumption)|assumption)
   obtain⟨ad710,e710,hx710_0,hx710_1,hx710_2,hx710_3⟩:=at_T74 Zl.out Zh p710 q710
   cases e710
   replace hx710_0:=(HB.out.cell (Yb w _ hx710_0)).trans hx710_0
   replace hx710_1:=(HB.out.cell (Yb w _ hx710_1)).trans hx710_1
   replace hx710_2:=(HB.out.cell (Yb w _ hx710_2)).trans hx710_2
   replace hx710_3:=(HB.out.cell (Yb w _ hx710_3)).trans hx710_3
   replace p710:=eq_true p710
   replace q710:=eq_true q710
   try go_wp2_with (first|((with_reducible refine gate_dst (N:=9) rfl ?_);refine Yz ?hg (N:=9) ?hd (cs:= #[.int .i64 0, .int .i64 0, .int .i64 0, .int .i64 0]) (t:=74) ?hr ?_;(case hd=>rfl);(case hg=>rfl);(case hr=>first|(go_simp;done)|(go_simp;rfl));intro Xz hg w24 Zf hb;have n0_:=Ya (Ys (by(with_reducible repeat(first|apply Yr|apply Yq|apply Yp));exact HO_7.out) hb);have n1_:=Ya (Yn (g:=Va) (o:= .cells #[.int .i64 Zc, .bool Zb, .slice (some ad710) Za.length Zd] 24 (0,0)) (by(with_reducible repeat(first|refine Yl ?_ _|refine Ym ?_|refine Yj ?_ _));exact Xf.out) hb);have n2_:=Ya (Yk (by repeat(first|(with_reducible first|exact HB.out|apply Ye|apply Yd|apply Yg|refine Yh ?_ GE705.out)|exact HB.out)) hb);have n3_:=Ya (Zf);have n4_:=Ya ((by rw[hg];exact(Yi (by repeat(first|(with_reducible first|exact HB.out|apply Ye|apply Yd|apply Yg|refine Yh ?_ GE705.out)|exact HB.out))):w.heap.size≤Xz));have n5_:=Ya ((by rw[hg];exact(Yi (by repeat(first|(with_reducible first|exact HB.out|apply Ye|apply Yd|apply Yg|refine Yh ?_ GE705.out)|exact HB.out))):w.heap.size≤Xz));have n6_:=Ya ((by rw[hg];exact Nat.ne_of_lt (blk_lt (g:=Va) (o:= .cells #[.int .i64 Zc, .bool Zb, .slice (some ad710) Za.length Zd] 24 (0,0)) (by(with_reducible repeat(first|refine Yl ?_ _|refine Ym ?_|refine Yj ?_ _));exact Xf.out)):Va≠Xz));have n7_:=Ya ((by rw[hg];exact Nat.ne_of_gt (blk_lt (g:=Va) (o:= .cells #[.int .i64 Zc, .bool Zb, .slice (some ad710) Za.length Zd] 24 (0,0)) (by(with_reducible repeat(first|refine Yl ?_ _|refine Ym ?_|refine Yj ?_ _));exact Xf.out)):Xz≠Va));clear HO_7;clear Xf;clear HB;have HO_7:=n0_;have Xf:=n1_;have HB:=n2_;have Ws:=n3_;have GW711:=n4_;have GE711:=n5_;have NB705_711:=n6_;have NB711_705:=n7_;clear n0_ n1_ n2_ n3_ n4_ n5_ n6_ n7_;clear hb Zf hg;have hnb25:=NB711_705.out;have hnc25:=NB705_711.out;have hcz26_0:w24.cell? ⟨Xz,0,none⟩=some (.int .i64 0):=(Yc Ws.out 0).trans rfl;have hcz26_1:w24.cell? ⟨Xz,1,none⟩=some (.int .i64 0):=(Yc Ws.out 1).trans rfl;have hcz26_2:w24.cell? ⟨Xz,2,none⟩=some (.int .i64 0):=(Yc Ws.out 2).trans rfl;have hcz26_3:w24.cell? ⟨Xz,3,none⟩=some (.int .i64 0):=(Yc Ws.out 3).trans rfl;have hfz26_0:=Yf Ws.out 0;have hfz26_1:=Yf Ws.out 1;have hfz26_2:=Yf Ws.out 2;have hfz26_3:=Yf Ws.out 3))
   have n0_:Aside0 (Kd.R (Kd.int .i64) 3 ((((w24.setCell ⟨Xz,0,none⟩ (.int .i64 ((rd_T74 Za Zh).f0))).setCell ⟨Xz,1,none⟩ (.int .i64 ((rd_T74 Za Zh).f1))).setCell ⟨Xz,2,none⟩ (.int .i64 ((rd_T74 Za Zh).f2))).setCell ⟨Xz,3,none⟩ (.int .i64 ((rd_T74 Za Zh).f3))) w.heap.size (fun _=>True) v708 Uf):=⟨by(with_reducible repeat(first|apply Yr|apply Yq|apply Yp));exact Kd.R_mono (Kd.R_far (p:=⟨Xz,3,none⟩) (Kd.R_far (p:=⟨Xz,2,none⟩) (Kd.R_far (p:=⟨Xz,1,none⟩) (Kd.R_far (p:=⟨Xz,0,none⟩) (Kd.R_types HO_7.out Ws.out (by decide)) (fun _ hk=>hk.2) (.int .i64 ((rd_T74 Za Zh).f0))) (fun _ hk=>hk.2) (.int .i64 ((rd_T74 Za Zh).f1))) (fun _ hk=>hk.2) (.int .i64 ((rd_T74 Za Zh).f2))) (fun _ hk=>hk.2) (.int .i64 ((rd_T74 Za Zh).f3))) (fun _ hk=>trivial)⟩
   have n1_:Aside0 (((((w24.setCell ⟨Xz,0,none⟩ (.int .i64 ((rd_T74 Za Zh).f0))).setCell ⟨Xz,1,none⟩ (.int .i64 ((rd_T74 Za Zh).f1))).setCell ⟨Xz,2,none⟩ (.int .i64 ((rd_T74 Za Zh).f2))).setCell ⟨Xz,3,none⟩ (.int .i64 ((rd_T74 Za Zh).f3))).heap[Va]? =some (.cells #[.int .i64 Zc, .bool Zb, .slice (some ad710) Za.length Zd] 24 (0,0))):=⟨by(with_reducible repeat(first|refine Yl ?_ _|refine Ym ?_|refine Yj ?_ _));refine blk_far ?_ NB705_711.out _;(with_reducible repeat(first|refine Yl ?_ _|refine Ym ?_|refine Yj ?_ _));refine blk_far ?_ NB705_711.out _;(with_reducible repeat(first|refine Yl ?_ _|refine Ym ?_|refine Yj ?_ _));refine blk_far ?_ NB705_711.out _;(with_reducible repeat(first|refine Yl ?_ _|refine Ym ?_|refine Yj ?_ _));refine blk_far ?_ NB705_711.out _;(with_reducible repeat(first|refine Yl ?_ _|refine Ym ?_|refine Yj ?_ _));exact Xf.out⟩
   have n2_:Aside0 (((((w24.setCell ⟨Xz,0,none⟩ (.int .i64 ((rd_T74 Za Zh).f0))).setCell ⟨Xz,1,none⟩ (.int .i64 ((rd_T74 Za Zh).f1))).setCell ⟨Xz,2,none⟩ (.int .i64 ((rd_T74 Za Zh).f2))).setCell ⟨Xz,3,none⟩ (.int .i64 ((rd_T74 Za Zh).f3))).heap[Xz]? =some (.cells #[.int .i64 ((rd_T74 Za Zh).f0), .int .i64 ((rd_T74 Za Zh).f1), .int .i64 ((rd_T74 Za Zh).f2), .int .i64 ((rd_T74 Za Zh).f3)] 74 (0,0))):=⟨by(with_reducible repeat(first|refine Yl ?_ _|refine Ym ?_|refine Yj ?_ _));refine YA (cs:= #[.int .i64 ((rd_T74 Za Zh).f0), .int .i64 ((rd_T74 Za Zh).f1), .int .i64 ((rd_T74 Za Zh).f2), .int .i64 0]) ?_ 3 _ rfl;(with_reducible repeat(first|refine Yl ?_ _|refine Ym ?_|refine Yj ?_ _));refine YA (cs:= #[.int .i64 ((rd_T74 Za Zh).f0), .int .i64 ((rd_T74 Za Zh).f1), .int .i64 0, .int .i64 0]) ?_ 2 _ rfl;(with_reducible repeat(first|refine Yl ?_ _|refine Ym ?_|refine Yj ?_ _));refine YA (cs:= #[.int .i64 ((rd_T74 Za Zh).f0), .int .i64 0, .int .i64 0, .int .i64 0]) ?_ 1 _ rfl;(with_reducible repeat(first|refine Yl ?_ _|refine Ym ?_|refine Yj ?_ _));refine YA (cs:= #[.int .i64 0, .int .i64 0, .int .i64 0, .int .i64 0]) ?_ 0 _ rfl;(with_reducible repeat(first|refine Yl ?_ _|refine Ym ?_|refine Yj ?_ _));exact Ws.out⟩
   have n3_:Aside0 (Below w.heap.size w ((((w24.setCell ⟨Xz,0,none⟩ (.int .i64 ((rd_T74 Za Zh).f0))).setCell ⟨Xz,1,none⟩ (.int .i64 ((rd_T74 Za Zh).f1))).setCell ⟨Xz,2,none⟩ (.int .i64 ((rd_T74 Za Zh).f2))).setCell ⟨Xz,3,none⟩ (.int .i64 ((rd_T74 Za Zh).f3)))):=⟨by repeat(first|(with_reducible first|exact HB.out|apply Ye|apply Yd|apply Yg|refine Yh ?_ GE705.out|refine Yh ?_ GE711.out)|exact HB.out)⟩
   (try clear HO_7)
   (try clear Xf)
   (try clear Ws)
   (try clear HB)
   generalize ((((w24.setCell ⟨Xz,0,none⟩ (.int .i64 ((rd_T74 Za Zh).f0))).setCell ⟨Xz,1,none⟩ (.int .i64 ((rd_T74 Za Zh).f1))).setCell ⟨Xz,2,none⟩ (.int .i64 ((rd_T74 Za Zh).f2))).setCell ⟨Xz,3,none⟩ (.int .i64 ((rd_T74 Za Zh).f3)))=w27 at n0_ n1_ n2_ n3_ ⊢
   have HO_7:=n0_
   have Xf:=n1_
   have Ws:=n2_
   have HB:=n3_
   clear n0_ n1_ n2_ n3_
   have n0_:=Ya (Yp HO_7.out)
   have n1_:=Ya (Ym Xf.out)
   have n2_:=Ya (Ym Ws.out)
   have n3_:=Ya (Yg HB.out)
   clear HO_7
   clear Xf
   clear Ws
   clear HB
   have HO_7:=n0_
   have Xf:=n1_
   have Ws:=n2_
   have HB:=n3_
   clear n0_ n1_ n2_ n3_
   obtain⟨Ao29,co29,eo29⟩:=Kd.R_slice HO_7.out
   (first|subst eo29|(injection eo29 with f1_ f2_ f3_;have f4_:=f1_.symm;have f5_:=f3_.symm;clear f1_ f2_ f3_;subst f4_;subst f5_))
   have p712:0≤(((rd_T74 Za Zh).f0):Int):=Yu (by first|(with_reducible assumption)|assumption)
   have q712:((rd_T74 Za Zh).f0)<(Uf.length:Int):=Yu (by first|(with_reducible assumption)|assumption)
   obtain⟨ad712,e712,hx712_0⟩:=Kd.at_int (Kd.R_reads' HO_7.out).2.2 ((rd_T74 Za Zh).f0) p712 q712
   cases e712
   replace p712:=eq_true p712
   replace q712:=eq_true q712
   have p713:0≤(Zh:Int):=Yu (by first|(with_reducible assumption)|assumption)
   have q713:Zh<(l1.length:Int):=Yu (by first|(with_reducible assumption)|assumption)
   obtain⟨ad713,e713,hx713_0⟩:=Kd.at_int HR1.out Zh p713 q713
   have hw713_0:=hx713_0
   cases e713
   replace hx713_0:=(HB.out.cell (Yb w _ hx713_0)).trans hx713_0
   replace p713:=eq_true p713
   replace q713:=eq_true q713
   have p20:0≤(((rd_T74 Za Zh).f0):Int):=Yu (by first|(with_reducible assumption)|assumption)
   have q20:(((rd_T74 Za Zh).f0):Int)<((Uf.length:Int):Int):=Yu (by first|(with_reducible assumption)|assumption)
   obtain⟨go20,co20,eo20,gb20,gl20,cl20,HG20⟩:=Kd.R_form HO_7.out (by omega)
   (first|cases eo20|(injection eo20 with ea_ en_ ec_;(first|subst ea_|(injection ea_ with ea_;subst ea_));subst ec_;clear en_))
   have GB20:=Ya gb20
   have GG20:=Ya HG20
   clear gb20 gl20 HG20
   (first|simp only[add_plain] at hx712_0|skip)
   obtain⟨hx20_0,hf20_0⟩:=Kd.R_celln 0 HO_7.out (((rd_T74 Za Zh).f0):Int) p20 q20
   replace p20:=eq_true p20
   replace q20:=eq_true q20
   have HP30:=Kd.R_putn HO_7.out (((rd_T74 Za Zh).f0):Int) (wrap64 ((rd Uf ((rd_T74 Za Zh).f0))+(rd l1 Zh)))
   rw[← Ny714.out] at HP30
   have HQ30:=Ya HP30
   clear HP30
   refine start_ (n:=12) (S:=fun w'=>w'.cell? ⟨Xz,0,none⟩=some (.int .i64 ((rd_T74 Za Zh).f0))∧w'.cell? ⟨Xz,1,none⟩=some (.int .i64 ((rd_T74 Za Zh).f1))∧w'.cell? ⟨Xz,2,none⟩=some (.int .i64 ((rd_T74 Za Zh).f2))∧w'.cell? ⟨Xz,3,none⟩=some (.int .i64 ((rd_T74 Za Zh).f3))∧w'.cell? ⟨go20,(((rd_T74 Za Zh).f0)).toNat,none⟩=some (.int .i64 (rd Uf ((rd_T74 Za Zh).f0)))∧w'.cell? (ad713.add (Zh).toNat)=some (.int .i64 (rd l1 Zh))) (ds:=[11]) #[false,false,false,false,false,false,false,false,false,false,false,false] (by kernel_rfl) rfl rfl ⟨(Yc Ws.out 0).trans rfl,(Yc Ws.out 1).trans rfl,(Yc Ws.out 2).trans rfl,(Yc Ws.out 3).trans rfl,hx712_0,((HB.out.cell (Yb w _ hw713_0)).trans hw713_0)⟩ (fun hHeld=> ?_);refine with_tabW static_Balance.tab8 static_Balance.bits8 (fun HT_ HW_=> ?_)
   generalize w27.drew=w28 at HO_7 Xf Ws HB GG20 HQ30 hf20_0 hx20_0 hx712_0 hx713_0 hHeld ⊢
   refine pure_ (i:=0) (N:=some 27) (v:= ?_) (a':= ?_) #[true,false,false,false,false,false,false,false,false,false,false,false] rfl rfl (any_of HT_.out (by kernel_rfl)) (fun _ _ _ h=>h) (Or.inl ⟨by rfl,?_⟩) ?_ ?_
   rotate_left
   ·intro w'
    go_simp
    with_reducible rfl
   rotate_left
   ·simp only[Act.put,List.setIfInBounds_toArray,List.set_cons_zero,List.set_cons_succ,i64_w,i32_w]
    rfl
   refine pure_ (i:=1) (N:=some 28) (v:= ?_) (a':= ?_) #[true,true,false,false,false,false,false,false,false,false,false,false] rfl rfl (any_of HT_.out (by kernel_rfl)) (fun _ _ _ h=>h) (Or.inl ⟨by rfl,?_⟩) ?_ ?_
   rotate_left
   ·intro w'
    go_simp
    with_reducible rfl
   rotate_left
   ·simp only[Act.put,List.setIfInBounds_toArray,List.set_cons_zero,List.set_cons_succ,i64_w,i32_w]
    rfl
   refine pure_ (i:=5) (N:=some 32) (v:= ?_) (a':= ?_) #[true,true,false,false,false,true,false,false,false,false,false,false] rfl rfl (any_of HT_.out (by kernel_rfl)) (fun _ _ _ h=>h) (Or.inl ⟨by rfl,?_⟩) ?_ ?_
   rotate_left
   ·intro w'
    go_simp
    with_reducible rfl
   rotate_left
   ·simp only[Act.put,List.setIfInBounds_toArray,List.set_cons_zero,List.set_cons_succ,i64_w,i32_w]
    rfl
   refine pure_ (i:=6) (N:=some 33) (v:= ?_) (a':= ?_) #[true,true,false,false,false,true,true,false,false,false,false,false] rfl rfl (any_of HT_.out (by kernel_rfl)) (fun _ _ _ h=>h) (Or.inl ⟨by rfl,?_⟩) ?_ ?_
   rotate_left
   ·intro w'
    go_simp
    with_reducible rfl
   rotate_left
   ·simp only[Act.put,List.setIfInBounds_toArray,List.set_cons_zero,List.set_cons_succ,i64_w,i32_w]
    rfl
   refine pure_ (i:=7) (N:=some 34) (v:= ?_) (a':= ?_) #[true,true,false,false,false,true,true,true,false,false,false,false] rfl rfl (any_of HT_.out (by kernel_rfl)) (fun _ _ _ h=>h) (Or.inl ⟨by rfl,?_⟩) ?_ ?_
   rotate_left
   ·intro w'
    go_simp
    with_reducible rfl
   rotate_left
   ·simp only[Act.put,List.setIfInBounds_toArray,List.set_cons_zero,List.set_cons_succ,i64_w,i32_w]
    rfl
   refine take_ (i:=2) (N:=some 29) (v:= ?_) (a':= ?_) #[true,true,true,false,false,true,true,true,false,false,false,false] rfl rfl (take_ofW HT_.out HW_.out (by kernel_rfl)) (fun _ _ _ h=>h) (Or.inl ⟨by rfl,?_⟩) hHeld ?_ ?_
   rotate_left
   ·rintro w' ⟨s0,s1,s2,s3,s4,s5⟩
    go_simp
    with_reducible rfl
   rotate_left
   ·simp only[Act.put,List.setIfInBounds_toArray,List.set_cons_zero,List.set_cons_succ,i64_w,i32_w]
    rfl
   refine pure_ (i:=3) (N:=some 30) (v:= ?_) (a':= ?_) #[true,true,true,true,false,true,true,true,false,false,false,false] rfl rfl (any_of HT_.out (by kernel_rfl)) (fun _ _ _ h=>h) (Or.inl ⟨by rfl,?_⟩) ?_ ?_
   rotate_left
   ·intro w'
    go_simp
    with_reducible rfl
   rotate_left
   ·simp only[Act.put,List.setIfInBounds_toArray,List.set_cons_zero,List.set_cons_succ,i64_w,i32_w]
    rfl
   refine take_ (i:=4) (N:=some 31) (v:= ?_) (a':= ?_) #[true,true,true,true,true,true,true,true,false,false,false,false] rfl rfl (take_ofW HT_.out HW_.out (by kernel_rfl)) (fun _ _ _ h=>h) (Or.inl ⟨by rfl,?_⟩) hHeld ?_ ?_
   rotate_left
   ·rintro w' ⟨s0,s1,s2,s3,s4,s5⟩
    go_simp
    with_reducible rfl
   rotate_left
   ·simp only[Act.put,List.setIfInBounds_toArray,List.set_cons_zero,List.set_cons_succ,i64_w,i32_w]
    rfl
   refine take_ (i:=8) (N:=some 35) (v:= ?_) (a':= ?_) #[true,true,true,true,true,true,true,true,true,false,false,false] rfl rfl (take_ofW HT_.out HW_.out (by kernel_rfl)) (fun _ _ _ h=>h) (Or.inl ⟨by rfl,?_⟩) hHeld ?_ ?_
   rotate_left
   ·rintro w' ⟨s0,s1,s2,s3,s4,s5⟩
    go_simp
    with_reducible rfl
   rotate_left
   ·simp only[Act.put,List.setIfInBounds_toArray,List.set_cons_zero,List.set_cons_succ,i64_w,i32_w]
    rfl
   refine pure_ (i:=9) (N:=some 36) (v:= ?_) (a':= ?_) #[true,true,true,true,true,true,true,true,true,true,false,false] rfl rfl (any_of HT_.out (by kernel_rfl)) (fun _ _ _ h=>h) (Or.inl ⟨by rfl,?_⟩) ?_ ?_
   rotate_left
   ·intro w'
    go_simp
    with_reducible rfl
   rotate_left
   ·simp only[Act.put,List.setIfInBounds_toArray,List.set_cons_zero,List.set_cons_succ,i64_w,i32_w]
    rfl
   refine pure_ (i:=10) (N:=some 37) (v:= ?_) (a':= ?_) #[true,true,true,true,true,true,true,true,true,true,true,false] rfl rfl (any_of HT_.out (by kernel_rfl)) (fun _ _ _ h=>h) (Or.inl ⟨by rfl,?_⟩) ?_ ?_
   rotate_left
   ·intro w'
    go_simp
    with_reducible rfl
   rotate_left
   ·simp only[Act.put,List.setIfInBounds_toArray,List.set_cons_zero,List.set_cons_succ,i64_w,i32_w]
    rfl
   refine last_ (i:=11) (N:=none) #[true,true,true,true,true,true,true,true,true,true,true,true] rfl rfl (one_of HT_.out (by kernel_rfl)) (by decide) (fun K hK=> ?_)
   refine skip_ (w1:= ?_) (by rfl) rfl ?_ ?_
   rotate_left
   ·go_simp
    rfl
   refine hK.out _ _ ?_
   clear hK K
   refine done_ (done_of HT_.out (by kernel_rfl)) ?_
   try go_wp2
   have n0_:Aside0 (Kd.R (Kd.int .i64) 3 (w28.setCell ⟨go20,(((rd_T74 Za Zh).f0):Int).toNat,none⟩ (.int .i64 (wrap64 ((rd Uf ((rd_T74 Za Zh).f0))+(rd l1 Zh))))) w.heap.size (fun _=>True) (.slice (some ⟨go20,0,none⟩) Uf.length co29) y714):=⟨by(with_reducible repeat(first|apply Yr|apply Yq|apply Yp));exact HQ30.out⟩
   have n1_:Aside0 ((w28.setCell ⟨go20,(((rd_T74 Za Zh).f0):Int).toNat,none⟩ (.int .i64 (wrap64 ((rd Uf ((rd_T74 Za Zh).f0))+(rd l1 Zh))))).heap[Va]? =some (.cells #[.int .i64 Zc, .bool Zb, .slice (some ad710) Za.length Zd] 24 (0,0))):=⟨by(with_reducible repeat(first|refine Yl ?_ _|refine Ym ?_|refine Yj ?_ _));refine blk_far ?_ (by have h_:=Kd.R_ne HO_7.out Xf.out (by decide);intro e_;exact h_ (by rw[e_];rfl)) _;(with_reducible repeat(first|refine Yl ?_ _|refine Ym ?_|refine Yj ?_ _));exact Xf.out⟩
   have n2_:Aside0 ((w28.setCell ⟨go20,(((rd_T74 Za Zh).f0):Int).toNat,none⟩ (.int .i64 (wrap64 ((rd Uf ((rd_T74 Za Zh).f0))+(rd l1 Zh))))).heap[Xz]? =some (.cells #[.int .i64 ((rd_T74 Za Zh).f0), .int .i64 ((rd_T74 Za Zh).f1), .int .i64 ((rd_T74 Za Zh).f2), .int .i64 ((rd_T74 Za Zh).f3)] 74 (0,0))):=⟨by(with_reducible repeat(first|refine Yl ?_ _|refine Ym ?_|refine Yj ?_ _));refine blk_far ?_ (by have h_:=Kd.R_ne HO_7.out Ws.out (by decide);intro e_;exact h_ (by rw[e_];rfl)) _;(with_reducible repeat(first|refine Yl ?_ _|refine Ym ?_|refine Yj ?_ _));exact Ws.out⟩
   have n3_:Aside0 (Below w.heap.size w (w28.setCell ⟨go20,(((rd_T74 Za Zh).f0):Int).toNat,none⟩ (.int .i64 (wrap64 ((rd Uf ((rd_T74 Za Zh).f0))+(rd l1 Zh)))))):=⟨by repeat(first|(with_reducible first|exact HB.out|apply Ye|apply Yd|apply Yg|refine Yh ?_ GB20.out|refine Yh ?_ GE705.out|refine Yh ?_ GE711.out)|exact HB.out)⟩
   (try clear HO_7)
   (try clear Xf)
   (try clear Ws)
   (try clear HB)
   generalize (w28.setCell ⟨go20,(((rd_T74 Za Zh).f0):Int).toNat,none⟩ (.int .i64 (wrap64 ((rd Uf ((rd_T74 Za Zh).f0))+(rd l1 Zh)))))=w31 at n0_ n1_ n2_ n3_ ⊢
   have HO_7:=n0_
   have Xf:=n1_
   have Ws:=n2_
   have HB:=n3_
   clear n0_ n1_ n2_ n3_
   have n0_:=Ya (Yp HO_7.out)
   have n1_:=Ya (Ym Xf.out)
   have n2_:=Ya (Ym Ws.out)
   have n3_:=Ya (Yg HB.out)
   clear HO_7
   clear Xf
   clear Ws
   clear HB
   have HO_7:=n0_
   have Xf:=n1_
   have Ws:=n2_
   have HB:=n3_
   clear n0_ n1_ n2_ n3_
   have p715:0≤(((rd_T74 Za Zh).f1):Int):=Yu (by first|(with_reducible assumption)|assumption)
   have q715:((rd_T74 Za Zh).f1)<(y714.length:Int):=(by have h_:(((rd_T74 Za Zh).f1):Int)<((Uf.length:Int):Int):=Yu (by first|(with_reducible assumption)|assumption);first|(have e_:=(Kd.R_reads' HO_7.out).1;omega)|simpa only[Ny714.out,List.length_set] using h_)
   have ql715:((((rd_T74 Za Zh).f1):Int)<((Uf.length:Int):Int))=True:=eq_true (Yu (by first|(with_reducible assumption)|assumption))
   obtain⟨ad715,e715,hx715_0⟩:=Kd.at_int (Kd.R_reads' HO_7.out).2.2 ((rd_T74 Za Zh).f1) p715 q715
   obtain rfl:(⟨go20,0,none⟩:Addr)=ad715:=(by injection e715)
   (first|simp only[add_plain] at hx715_0|simp only[add_at] at hx715_0|simp only[Addr.add,Nat.zero_add] at hx715_0|skip)
   replace p715:=eq_true p715
   replace q715:=eq_true q715
   have p716:0≤(Zh:Int):=Yu (by first|(with_reducible assumption)|assumption)
   have q716:Zh<(l1.length:Int):=Yu (by first|(with_reducible assumption)|assumption)
   obtain⟨ad716,e716,hx716_0⟩:=Kd.at_int HR1.out Zh p716 q716
   have hw716_0:=hx716_0
   obtain rfl:ad713=ad716:=(by injection e716)
   replace hx716_0:=(HB.out.cell (Yb w _ hx716_0)).trans hx716_0
   replace p716:=eq_true p716
   replace q716:=eq_true q716
   have p23:0≤(((rd_T74 Za Zh).f1):Int):=Yu (by first|(with_reducible assumption)|assumption)
   have q23:(((rd_T74 Za Zh).f1):Int)<((Uf.length:Int):Int):=Yu (by first|(with_reducible assumption)|assumption)
   obtain⟨hx23_0,hf23_0⟩:=Kd.R_celln 0 HO_7.out (((rd_T74 Za Zh).f1):Int) p23 q23
   replace p23:=eq_true p23
   replace q23:=eq_true q23
   have HP33:=Kd.R_putn HO_7.out (((rd_T74 Za Zh).f1):Int) (wrap64 ((rd y714 ((rd_T74 Za Zh).f1)) - (rd l1 Zh)))
   rw[← Ny717.out] at HP33
   have HQ33:=Ya HP33
   clear HP33
   refine start_ (n:=12) (S:=fun w'=>w'.cell? ⟨Xz,0,none⟩=some (.int .i64 ((rd_T74 Za Zh).f0))∧w'.cell? ⟨Xz,1,none⟩=some (.int .i64 ((rd_T74 Za Zh).f1))∧w'.cell? ⟨Xz,2,none⟩=some (.int .i64 ((rd_T74 Za Zh).f2))∧w'.cell? ⟨Xz,3,none⟩=some (.int .i64 ((rd_T74 Za Zh).f3))∧w'.cell? ⟨go20,(((rd_T74 Za Zh).f1)).toNat,none⟩=some (.int .i64 (rd y714 ((rd_T74 Za Zh).f1)))∧w'.cell? (ad713.add (Zh).toNat)=some (.int .i64 (rd l1 Zh))) (ds:=[11]) #[false,false,false,false,false,false,false,false,false,false,false,false] (by kernel_rfl) rfl rfl ⟨(Yc Ws.out 0).trans rfl,(Yc Ws.out 1).trans rfl,(Yc Ws.out 2).trans rfl,(Yc Ws.out 3).trans rfl,hx715_0,((HB.out.cell (Yb w _ hw716_0)).trans hw716_0)⟩ (fun hHeld=> ?_);refine with_tabW static_Balance.tab9 static_Balance.bits9 (fun HT_ HW_=> ?_)
   generalize w31.drew=w32 at HO_7 Xf Ws HB HQ30 HQ33 hf23_0 hx23_0 hx715_0 hx716_0 hHeld ⊢
   refine pure_ (i:=0) (N:=some 38) (v:= ?_) (a':= ?_) #[true,false,false,false,false,false,false,false,false,false,false,false] rfl rfl (any_of HT_.out (by kernel_rfl)) (fun _ _ _ h=>h) (Or.inl ⟨by rfl,?_⟩) ?_ ?_
   rotate_left
   ·intro w'
    go_simp
    with_reducible rfl
   rotate_left
   ·simp only[Act.put,List.setIfInBounds_toArray,List.set_cons_zero,List.set_cons_succ,i64_w,i32_w]
    rfl
   refine pure_ (i:=1) (N:=some 39) (v:= ?_) (a':= ?_) #[true,true,false,false,false,false,false,false,false,false,false,false] rfl rfl (any_of HT_.out (by kernel_rfl)) (fun _ _ _ h=>h) (Or.inl ⟨by rfl,?_⟩) ?_ ?_
   rotate_left
   ·intro w'
    go_simp
    with_reducible rfl
   rotate_left
   ·simp only[Act.put,List.setIfInBounds_toArray,List.set_cons_zero,List.set_cons_succ,i64_w,i32_w]
    rfl
   refine pure_ (i:=5) (N:=some 43) (v:= ?_) (a':= ?_) #[true,true,false,false,false,true,false,false,false,false,false,false] rfl rfl (any_of HT_.out (by kernel_rfl)) (fun _ _ _ h=>h) (Or.inl ⟨by rfl,?_⟩) ?_ ?_
   rotate_left
   ·intro w'
    go_simp
    with_reducible rfl
   rotate_left
   ·simp only[Act.put,List.setIfInBounds_toArray,List.set_cons_zero,List.set_cons_succ,i64_w,i32_w]
    rfl
   refine pure_ (i:=6) (N:=some 44) (v:= ?_) (a':= ?_) #[true,true,false,false,false,true,true,false,false,false,false,false] rfl rfl (any_of HT_.out (by kernel_rfl)) (fun _ _ _ h=>h) (Or.inl ⟨by rfl,?_⟩) ?_ ?_
   rotate_left
   ·intro w'
    go_simp
    with_reducible rfl
   rotate_left
   ·simp only[Act.put,List.setIfInBounds_toArray,List.set_cons_zero,List.set_cons_succ,i64_w,i32_w]
    rfl
   refine pure_ (i:=7) (N:=some 45) (v:= ?_) (a':= ?_) #[true,true,false,false,false,true,true,true,false,false,false,false] rfl rfl (any_of HT_.out (by kernel_rfl)) (fun _ _ _ h=>h) (Or.inl ⟨by rfl,?_⟩) ?_ ?_
   rotate_left
   ·intro w'
    go_simp
    with_reducible rfl
   rotate_left
   ·simp only[Act.put,List.setIfInBounds_toArray,List.set_cons_zero,List.set_cons_succ,i64_w,i32_w]
    rfl
   refine take_ (i:=2) (N:=some 40) (v:= ?_) (a':= ?_) #[true,true,true,false,false,true,true,true,false,false,false,false] rfl rfl (take_ofW HT_.out HW_.out (by kernel_rfl)) (fun _ _ _ h=>h) (Or.inl ⟨by rfl,?_⟩) hHeld ?_ ?_
   rotate_left
   ·rintro w' ⟨s0,s1,s2,s3,s4,s5⟩
    go_simp
    with_reducible rfl
   rotate_left
   ·simp only[Act.put,List.setIfInBounds_toArray,List.set_cons_zero,List.set_cons_succ,i64_w,i32_w]
    rfl
   refine pure_ (i:=3) (N:=some 41) (v:= ?_) (a':= ?_) #[true,true,true,true,false,true,true,true,false,false,false,false] rfl rfl (any_of HT_.out (by kernel_rfl)) (fun _ _ _ h=>h) (Or.inl ⟨by rfl,?_⟩) ?_ ?_
   rotate_left
   ·intro w'
    go_simp
    with_reducible rfl
   rotate_left
   ·simp only[Act.put,List.setIfInBounds_toArray,List.set_cons_zero,List.set_cons_succ,i64_w,i32_w]
    rfl
   refine take_ (i:=4) (N:=some 42) (v:= ?_) (a':= ?_) #[true,true,true,true,true,true,true,true,false,false,false,false] rfl rfl (take_ofW HT_.out HW_.out (by kernel_rfl)) (fun _ _ _ h=>h) (Or.inl ⟨by rfl,?_⟩) hHeld ?_ ?_
   rotate_left
   ·rintro w' ⟨s0,s1,s2,s3,s4,s5⟩
    go_simp
    with_reducible rfl
   rotate_left
   ·simp only[Act.put,List.setIfInBounds_toArray,List.set_cons_zero,List.set_cons_succ,i64_w,i32_w]
    rfl
   refine take_ (i:=8) (N:=some 46) (v:= ?_) (a':= ?_) #[true,true,true,true,true,true,true,true,true,false,false,false] rfl rfl (take_ofW HT_.out HW_.out (by kernel_rfl)) (fun _ _ _ h=>h) (Or.inl ⟨by rfl,?_⟩) hHeld ?_ ?_
   rotate_left
   ·rintro w' ⟨s0,s1,s2,s3,s4,s5⟩
    go_simp
    with_reducible rfl
   rotate_left
   ·simp only[Act.put,List.setIfInBounds_toArray,List.set_cons_zero,List.set_cons_succ,i64_w,i32_w]
    rfl
   refine pure_ (i:=9) (N:=some 47) (v:= ?_) (a':= ?_) #[true,true,true,true,true,true,true,true,true,true,false,false] rfl rfl (any_of HT_.out (by kernel_rfl)) (fun _ _ _ h=>h) (Or.inl ⟨by rfl,?_⟩) ?_ ?_
   rotate_left
   ·intro w'
    go_simp
    with_reducible rfl
   rotate_left
   ·simp only[Act.put,List.setIfInBounds_toArray,List.set_cons_zero,List.set_cons_succ,i64_w,i32_w]
    rfl
   refine pure_ (i:=10) (N:=some 48) (v:= ?_) (a':= ?_) #[true,true,true,true,true,true,true,true,true,true,true,false] rfl rfl (any_of HT_.out (by kernel_rfl)) (fun _ _ _ h=>h) (Or.inl ⟨by rfl,?_⟩) ?_ ?_
   rotate_left
   ·intro w'
    go_simp
    with_reducible rfl
   rotate_left
   ·simp only[Act.put,List.setIfInBounds_toArray,List.set_cons_zero,List.set_cons_succ,i64_w,i32_w]
    rfl
   refine last_ (i:=11) (N:=none) #[true,true,true,true,true,true,true,true,true,true,true,true] rfl rfl (one_of HT_.out (by kernel_rfl)) (by decide) (fun K hK=> ?_)
   refine skip_ (w1:= ?_) (by rfl) rfl ?_ ?_
   rotate_left
   ·go_simp
    rfl
   refine hK.out _ _ ?_
   clear hK K
   refine done_ (done_of HT_.out (by kernel_rfl)) ?_
   try go_wp2
   go_roundg k1
   case measure=>have:=HK1.out;omega
   case rel=>exact⟨(y717),(wrap64 (Zh+1)),(by first|rfl|(simp;done)|(simp[*];done)),H',⟨by have:=HK1.out;omega⟩,⟨by(with_reducible repeat(first|apply Yr|apply Yq|apply Yp));exact HQ33.out⟩,⟨by(with_reducible repeat(first|refine Yl ?_ _|refine Ym ?_|refine Yj ?_ _));refine blk_far ?_ (by have h_:=Kd.R_ne HO_7.out Xf.out (by decide);intro e_;exact h_ (by rw[e_];rfl)) _;(with_reducible repeat(first|refine Yl ?_ _|refine Ym ?_|refine Yj ?_ _));exact Xf.out⟩,⟨by repeat(first|(with_reducible first|exact HB.out|apply Ye|apply Yd|apply Yg|refine Yh ?_ GB20.out|refine Yh ?_ GE705.out|refine Yh ?_ GE711.out)|exact HB.out)⟩⟩
end P
namespace P
attribute [local go_sem] max2_int min2_int max_two min_two max_three min_three max_four min_four
def static_Check.l0:Nat→Int→Int→List Int→List Int→Int→Int→Option (Int × Int)
 |0,_,_,_,_,_,_=>none
 |k+1,x1,x2,x10,x29,x30,x31=>if x31<x30 then(if 0≤x31 then(if x31<(x29.length:Int) then(if (rd x29 x31)=0 then(static_Check.l0 k x1 x2 x10 x29 x30 (wrap64 (x31+1))) else(if x31=x1 then(static_Check.l0 k x1 x2 x10 x29 x30 (wrap64 (x31+1))) else(if x31=x2 then(static_Check.l0 k x1 x2 x10 x29 x30 (wrap64 (x31+1))) else(some (0,71))))) else(none)) else(none)) else(if 0≤x1 then(if x1<(x10.length:Int) then(some (rd x10 x1,0)) else(none)) else(none))
def static_Check.f (k:Nat) (Zc:Int) (Zb:Bool) (Za:List (S74)) (a1:Int) (a2:Int) (l3:List Int):Option (Int × Int):=(static_Ends.f k Zc Zb Za a1 a2).bind fun t719=>(if t719=0 then((static_Balance.f k Zc Zb Za l3).bind fun bt720=>(if bt720.2=0 then(static_Check.l0 k a1 a2 bt720.1 bt720.1 (bt720.1.length:Int) 0) else(some (0,bt720.2)))) else(some (0,t719)))
set_option maxHeartbeats 8000000 in
set_option maxRecDepth 100000 in
theorem static_Check.calls (k:Nat) (Zc:Int) (Zb:Bool) (Ze:Option Addr) (Zd:Nat) (Za:List (S74)) (a1:Int) (a2:Int) (A3:Option Addr) (c3:Nat) (l3:List Int) (r1:Int) (r2:Int) (w:World) (Zq:Kd.C k74 w Ze Za.length Za) (Zr:Za.length≤Zd) (hr3:Kd.C (Kd.int .i64) w A3 l3.length l3) (hc3:l3.length≤c3) (h:static_Check.f k Zc Zb Za a1 a2 l3=some (r1,r2)):
  Calls Try.prog 115 #[.agg #[.int .i64 Zc, .bool Zb, .slice Ze Za.length Zd], .int .i64 a1, .int .i64 a2, .slice A3 l3.length c3] w fun e w'=>e= .returned (.tuple #[.int .i64 r1, .int .i64 r2])∧Below w.heap.size w w':=by
 have hu24:=Try.underlying24
 have Zl:=Ya Zq
 have Xd:=Ya Zr
 clear Zq Zr
 have HR3:=Ya hr3
 have HC3:=Ya hc3
 clear hr3 hc3
 have HB:=Ya (Yo w.heap.size w)
 have H:((static_Ends.f k Zc Zb Za a1 a2).bind fun t719=>(if t719=0 then((static_Balance.f k Zc Zb Za l3).bind fun bt720=>(if bt720.2=0 then(static_Check.l0 k a1 a2 bt720.1 bt720.1 (bt720.1.length:Int) 0) else(some (0,bt720.2)))) else(some (0,t719))))=some (r1,r2):=h
 clear h
 replace H:=Option.bind_eq_some_iff.mp H
 obtain⟨t719,A50,H⟩:=H
 replace H:(if t719=0 then((static_Balance.f k Zc Zb Za l3).bind fun bt720=>(if bt720.2=0 then(static_Check.l0 k a1 a2 bt720.1 bt720.1 (bt720.1.length:Int) 0) else(some (0,bt720.2)))) else(some (0,t719)))=some (r1,r2):=H
 have A5:=Ya A50
 clear A50
 by_cases c6:t719=0
 rotate_left
 ·rw[Yy c6] at H
  have c6b0:(t719 == 0)=false:=beq_eq_false_iff_ne.mpr c6
  have c6b1:(t719 != 0)=true:=bne_iff_ne.mpr c6
  simp only[Option.some.injEq,Prod.mk.injEq] at H
  obtain⟨rfl,rfl⟩:=H
  go_enter Try.func115,Try.ntmps115
  go_wp2_with (first|((with_reducible refine gate_dst (N:=4) rfl ?_);refine Yz ?hg (N:=4) ?hd (cs:= #[.int .i64 Zc, .bool Zb, .slice Ze Za.length Zd]) (t:=24) ?hr ?_;(case hd=>rfl);(case hg=>rfl);(case hr=>first|(go_simp;done)|(go_simp;rfl));intro Wz hg w28 Zf hb;have n0_:=Ya (Yk (by repeat(first|(with_reducible first|exact HB.out|apply Ye|apply Yd|apply Yg)|exact HB.out)) hb);have n1_:=Ya (Zf);have n2_:=Ya ((by rw[hg];exact(Yi (by repeat(first|(with_reducible first|exact HB.out|apply Ye|apply Yd|apply Yg)|exact HB.out))):w.heap.size≤Wz));have n3_:=Ya ((by rw[hg];exact(Yi (by repeat(first|(with_reducible first|exact HB.out|apply Ye|apply Yd|apply Yg)|exact HB.out))):w.heap.size≤Wz));clear HB;have HB:=n0_;have Xm:=n1_;have GW718:=n2_;have Jf:=n3_;clear n0_ n1_ n2_ n3_;clear hb Zf hg;have hcz29_0:w28.cell? ⟨Wz,0,none⟩=some (.int .i64 Zc):=(Yc Xm.out 0).trans rfl;have hcz29_1:w28.cell? ⟨Wz,1,none⟩=some (.bool Zb):=(Yc Xm.out 1).trans rfl;have hcz29_2:w28.cell? ⟨Wz,2,none⟩=some (.slice Ze Za.length Zd):=(Yc Xm.out 2).trans rfl;have hfz29_0:=Yf Xm.out 0;have hfz29_1:=Yf Xm.out 1;have hfz29_2:=Yf Xm.out 2)|((with_reducible refine gate_callee (f:=111) rfl ?_);refine goesL_ (some 16) rfl rfl Try.func111 (by kernel_rfl) rfl #[.agg #[.int .i64 Zc, .bool Zb, .slice Ze Za.length Zd], .int .i64 a1, .int .i64 a2] rfl (by(try simp only[List.map_toArray,List.map_cons,List.map_nil]);first|done|rfl|(simp only[List.length_drop,List.length_take];rfl)) ?_;(with_reducible refine(static_Ends.calls k Zc Zb _ _ Za a1 a2 t719 _ ?side1 ?side2 A5.out).mono ?_);(case side1=>repeat(first|exact(Yt Zl.out HB.out)|(with_reducible refine Kd.C_alloc ?_ _)|(with_reducible refine Kd.C_drewN ?_ _)|(with_reducible refine Kd.C_drew ?_)));(case side2=>exact Xd.out);rintro e w30 ⟨rfl,hb⟩;refine⟨_,rfl,?_⟩;have n0_:=Ya (Yn (g:=Wz) (o:= .cells #[.int .i64 Zc, .bool Zb, .slice Ze Za.length Zd] 24 (0,0)) (by(with_reducible repeat(first|refine Yl ?_ _|refine Ym ?_|refine Yj ?_ _));exact Xm.out) hb);have n1_:=Ya (Yk (by repeat(first|(with_reducible first|exact HB.out|apply Ye|apply Yd|apply Yg|refine Yh ?_ Jf.out)|exact HB.out)) hb);clear Xm;clear HB;have Xm:=n0_;have HB:=n1_;clear n0_ n1_;(try clear hb);(try clear hb2);(try clear hk);(try clear hi)))
  go_ret2
  exact⟨by first|rfl|(simp[errW_none,errW_some]<;>rfl)|(simp[*,errW_none,errW_some]<;>rfl),by repeat(first|(with_reducible first|exact HB.out|apply Ye|apply Yd|apply Yg|refine Yh ?_ Jf.out)|exact HB.out)⟩
 rw[Yx c6] at H
 have c6b0:(t719 == 0)=true:=beq_iff_eq.mpr c6
 have c6b1:(t719 != 0)=false:=bne_eq_false_iff_eq.mpr c6
 clear c6
 replace H:=Option.bind_eq_some_iff.mp H
 obtain⟨⟨t720,t723⟩,A70,H⟩:=H
 replace H:(if t723=0 then(static_Check.l0 k a1 a2 t720 t720 (t720.length:Int) 0) else(some (0,t723)))=some (r1,r2):=H
 have A7:=Ya A70
 clear A70
 by_cases c8:t723=0
 rotate_left
 ·rw[Yy c8] at H
  have c8b0:(t723 == 0)=false:=beq_eq_false_iff_ne.mpr c8
  have c8b1:(t723 != 0)=true:=bne_iff_ne.mpr c8
  simp only[Option.some.injEq,Prod.mk.injEq] at H
  obtain⟨rfl,rfl⟩:=H
  go_enter Try.func115,Try.ntmps115
  go_wp2_with (first|((with_reducible refine gate_dst (N:=4) rfl ?_);refine Yz ?hg (N:=4) ?hd (cs:= #[.int .i64 Zc, .bool Zb, .slice Ze Za.length Zd]) (t:=24) ?hr ?_;(case hd=>rfl);(case hg=>rfl);(case hr=>first|(go_simp;done)|(go_simp;rfl));intro Wz hg w23 Zf hb;have n0_:=Ya (Yk (by repeat(first|(with_reducible first|exact HB.out|apply Ye|apply Yd|apply Yg)|exact HB.out)) hb);have n1_:=Ya (Zf);have n2_:=Ya ((by rw[hg];exact(Yi (by repeat(first|(with_reducible first|exact HB.out|apply Ye|apply Yd|apply Yg)|exact HB.out))):w.heap.size≤Wz));have n3_:=Ya ((by rw[hg];exact(Yi (by repeat(first|(with_reducible first|exact HB.out|apply Ye|apply Yd|apply Yg)|exact HB.out))):w.heap.size≤Wz));clear HB;have HB:=n0_;have Xm:=n1_;have GW718:=n2_;have Jf:=n3_;clear n0_ n1_ n2_ n3_;clear hb Zf hg;have hcz24_0:w23.cell? ⟨Wz,0,none⟩=some (.int .i64 Zc):=(Yc Xm.out 0).trans rfl;have hcz24_1:w23.cell? ⟨Wz,1,none⟩=some (.bool Zb):=(Yc Xm.out 1).trans rfl;have hcz24_2:w23.cell? ⟨Wz,2,none⟩=some (.slice Ze Za.length Zd):=(Yc Xm.out 2).trans rfl;have hfz24_0:=Yf Xm.out 0;have hfz24_1:=Yf Xm.out 1;have hfz24_2:=Yf Xm.out 2)|((with_reducible refine gate_callee (f:=111) rfl ?_);refine goesL_ (some 16) rfl rfl Try.func111 (by kernel_rfl) rfl #[.agg #[.int .i64 Zc, .bool Zb, .slice Ze Za.length Zd], .int .i64 a1, .int .i64 a2] rfl (by(try simp only[List.map_toArray,List.map_cons,List.map_nil]);first|done|rfl|(simp only[List.length_drop,List.length_take];rfl)) ?_;(with_reducible refine(static_Ends.calls k Zc Zb _ _ Za a1 a2 t719 _ ?side1 ?side2 A5.out).mono ?_);(case side1=>repeat(first|exact(Yt Zl.out HB.out)|(with_reducible refine Kd.C_alloc ?_ _)|(with_reducible refine Kd.C_drewN ?_ _)|(with_reducible refine Kd.C_drew ?_)));(case side2=>exact Xd.out);rintro e w25 ⟨rfl,hb⟩;refine⟨_,rfl,?_⟩;have n0_:=Ya (Yn (g:=Wz) (o:= .cells #[.int .i64 Zc, .bool Zb, .slice Ze Za.length Zd] 24 (0,0)) (by(with_reducible repeat(first|refine Yl ?_ _|refine Ym ?_|refine Yj ?_ _));exact Xm.out) hb);have n1_:=Ya (Yk (by repeat(first|(with_reducible first|exact HB.out|apply Ye|apply Yd|apply Yg|refine Yh ?_ Jf.out)|exact HB.out)) hb);clear Xm;clear HB;have Xm:=n0_;have HB:=n1_;clear n0_ n1_;(try clear hb);(try clear hb2);(try clear hk);(try clear hi);have hcz26_0:w25.cell? ⟨Wz,0,none⟩=some (.int .i64 Zc):=(Yc Xm.out 0).trans rfl;have hcz26_1:w25.cell? ⟨Wz,1,none⟩=some (.bool Zb):=(Yc Xm.out 1).trans rfl;have hcz26_2:w25.cell? ⟨Wz,2,none⟩=some (.slice Ze Za.length Zd):=(Yc Xm.out 2).trans rfl;have hfz26_0:=Yf Xm.out 0;have hfz26_1:=Yf Xm.out 1;have hfz26_2:=Yf Xm.out 2)|((with_reducible refine gate_callee (f:=150) rfl ?_);refine goesL_ (some 23) rfl rfl Try.func150 (by kernel_rfl) rfl #[.agg #[.int .i64 Zc, .bool Zb, .slice Ze Za.length Zd], .slice A3 l3.length c3] rfl (by(try simp only[List.map_toArray,List.map_cons,List.map_nil]);first|done|rfl|(simp only[List.length_drop,List.length_take];rfl)) ?_;(with_reducible refine(static_Balance.calls k Zc Zb _ _ Za _ _ l3 t720 t723 _ ?side1 ?side2 ?side3 ?side4 A7.out).mono ?_);(case side1=>repeat(first|exact(Yt Zl.out HB.out)|(with_reducible refine Kd.C_alloc ?_ _)|(with_reducible refine Kd.C_drewN ?_ _)|(with_reducible refine Kd.C_drew ?_)));(case side2=>exact Xd.out);(case side3=>repeat(first|exact(Yt HR3.out HB.out)|(with_reducible refine Kd.C_alloc ?_ _)|(with_reducible refine Kd.C_drewN ?_ _)|(with_reducible refine Kd.C_drew ?_)));(case side4=>exact HC3.out);rintro e w27 ⟨v721,rfl,ho0,hb⟩;refine⟨_,rfl,?_⟩;have n0_:=Ya (Kd.R_lower ho0 (Yi (by repeat(first|(with_reducible first|exact HB.out|apply Ye|apply Yd|apply Yg|refine Yh ?_ Jf.out)|exact HB.out))));have n1_:=Ya (Yn (g:=Wz) (o:= .cells #[.int .i64 Zc, .bool Zb, .slice Ze Za.length Zd] 24 (0,0)) (by(with_reducible repeat(first|refine Yl ?_ _|refine Ym ?_|refine Yj ?_ _));exact Xm.out) hb);have n2_:=Ya (Yk (by repeat(first|(with_reducible first|exact HB.out|apply Ye|apply Yd|apply Yg|refine Yh ?_ Jf.out)|exact HB.out)) hb);clear Xm;clear HB;have HO722:=n0_;have Xm:=n1_;have HB:=n2_;clear n0_ n1_ n2_;(try clear hb);(try clear hb2);(try clear hk);(try clear hi);(try clear ho0)))
  go_ret2
  exact⟨by first|rfl|(simp[errW_none,errW_some]<;>rfl)|(simp[*,errW_none,errW_some]<;>rfl),by repeat(first|(with_reducible first|exact HB.out|apply Ye|apply Yd|apply Yg|refine Yh ?_ Jf.out)|exact HB.out)⟩
 rw[Yx c8] at H
 have c8b0:(t723 == 0)=true:=beq_iff_eq.mpr c8
 have c8b1:(t723 != 0)=false:=bne_eq_false_iff_eq.mpr c8
 clear c8
 have H':=Ya H
 clear H
 go_enter Try.func115,Try.ntmps115
 go_wp2_with (first|((with_reducible refine gate_dst (N:=4) rfl ?_);refine Yz ?hg (N:=4) ?hd (cs:= #[.int .i64 Zc, .bool Zb, .slice Ze Za.length Zd]) (t:=24) ?hr ?_;(case hd=>rfl);(case hg=>rfl);(case hr=>first|(go_simp;done)|(go_simp;rfl));intro Wz hg w9 Zf hb;have n0_:=Ya (Yk (by repeat(first|(with_reducible first|exact HB.out|apply Ye|apply Yd|apply Yg)|exact HB.out)) hb);have n1_:=Ya (Zf);have n2_:=Ya ((by rw[hg];exact(Yi (by repeat(first|(with_reducible first|exact HB.out|apply Ye|apply Yd|apply Yg)|exact HB.out))):w.heap.size≤Wz));have n3_:=Ya ((by rw[hg];exact(Yi (by repeat(first|(with_reducible first|exact HB.out|apply Ye|apply Yd|apply Yg)|exact HB.out))):w.heap.size≤Wz));clear HB;have HB:=n0_;have Xm:=n1_;have GW718:=n2_;have Jf:=n3_;clear n0_ n1_ n2_ n3_;clear hb Zf hg;have Uz:w9.cell? ⟨Wz,0,none⟩=some (.int .i64 Zc):=(Yc Xm.out 0).trans rfl;have Ja:w9.cell? ⟨Wz,1,none⟩=some (.bool Zb):=(Yc Xm.out 1).trans rfl;have Jb:w9.cell? ⟨Wz,2,none⟩=some (.slice Ze Za.length Zd):=(Yc Xm.out 2).trans rfl;have Jc:=Yf Xm.out 0;have Jd:=Yf Xm.out 1;have Je:=Yf Xm.out 2)|((with_reducible refine gate_callee (f:=111) rfl ?_);refine goesL_ (some 16) rfl rfl Try.func111 (by kernel_rfl) rfl #[.agg #[.int .i64 Zc, .bool Zb, .slice Ze Za.length Zd], .int .i64 a1, .int .i64 a2] rfl (by(try simp only[List.map_toArray,List.map_cons,List.map_nil]);first|done|rfl|(simp only[List.length_drop,List.length_take];rfl)) ?_;(with_reducible refine(static_Ends.calls k Zc Zb _ _ Za a1 a2 t719 _ ?side1 ?side2 A5.out).mono ?_);(case side1=>repeat(first|exact(Yt Zl.out HB.out)|(with_reducible refine Kd.C_alloc ?_ _)|(with_reducible refine Kd.C_drewN ?_ _)|(with_reducible refine Kd.C_drew ?_)));(case side2=>exact Xd.out);rintro e w11 ⟨rfl,hb⟩;refine⟨_,rfl,?_⟩;have n0_:=Ya (Yn (g:=Wz) (o:= .cells #[.int .i64 Zc, .bool Zb, .slice Ze Za.length Zd] 24 (0,0)) (by(with_reducible repeat(first|refine Yl ?_ _|refine Ym ?_|refine Yj ?_ _));exact Xm.out) hb);have n1_:=Ya (Yk (by repeat(first|(with_reducible first|exact HB.out|apply Ye|apply Yd|apply Yg|refine Yh ?_ Jf.out)|exact HB.out)) hb);clear Xm;clear HB;have Xm:=n0_;have HB:=n1_;clear n0_ n1_;(try clear hb);(try clear hb2);(try clear hk);(try clear hi);have hcz12_0:w11.cell? ⟨Wz,0,none⟩=some (.int .i64 Zc):=(Yc Xm.out 0).trans rfl;have hcz12_1:w11.cell? ⟨Wz,1,none⟩=some (.bool Zb):=(Yc Xm.out 1).trans rfl;have hcz12_2:w11.cell? ⟨Wz,2,none⟩=some (.slice Ze Za.length Zd):=(Yc Xm.out 2).trans rfl;have hfz12_0:=Yf Xm.out 0;have hfz12_1:=Yf Xm.out 1;have hfz12_2:=Yf Xm.out 2)|((with_reducible refine gate_callee (f:=150) rfl ?_);refine goesL_ (some 23) rfl rfl Try.func150 (by kernel_rfl) rfl #[.agg #[.int .i64 Zc, .bool Zb, .slice Ze Za.length Zd], .slice A3 l3.length c3] rfl (by(try simp only[List.map_toArray,List.map_cons,List.map_nil]);first|done|rfl|(simp only[List.length_drop,List.length_take];rfl)) ?_;(with_reducible refine(static_Balance.calls k Zc Zb _ _ Za _ _ l3 t720 t723 _ ?side1 ?side2 ?side3 ?side4 A7.out).mono ?_);(case side1=>repeat(first|exact(Yt Zl.out HB.out)|(with_reducible refine Kd.C_alloc ?_ _)|(with_reducible refine Kd.C_drewN ?_ _)|(with_reducible refine Kd.C_drew ?_)));(case side2=>exact Xd.out);(case side3=>repeat(first|exact(Yt HR3.out HB.out)|(with_reducible refine Kd.C_alloc ?_ _)|(with_reducible refine Kd.C_drewN ?_ _)|(with_reducible refine Kd.C_drew ?_)));(case side4=>exact HC3.out);rintro e w13 ⟨v721,rfl,ho0,hb⟩;refine⟨_,rfl,?_⟩;have n0_:=Ya (Kd.R_lower ho0 (Yi (by repeat(first|(with_reducible first|exact HB.out|apply Ye|apply Yd|apply Yg|refine Yh ?_ Jf.out)|exact HB.out))));have n1_:=Ya (Yn (g:=Wz) (o:= .cells #[.int .i64 Zc, .bool Zb, .slice Ze Za.length Zd] 24 (0,0)) (by(with_reducible repeat(first|refine Yl ?_ _|refine Ym ?_|refine Yj ?_ _));exact Xm.out) hb);have n2_:=Ya (Yk (by repeat(first|(with_reducible first|exact HB.out|apply Ye|apply Yd|apply Yg|refine Yh ?_ Jf.out)|exact HB.out)) hb);clear Xm;clear HB;have HO722:=n0_;have Xm:=n1_;have HB:=n2_;clear n0_ n1_ n2_;(try clear hb);(try clear hb2);(try clear hk);(try clear hi);(try clear ho0);obtain⟨Ao14,co14,eo14⟩:=Kd.R_slice HO722.out;subst eo14))
 go_loopg [31] k (fun kq v31 w'=> ∃ (We:Int),v31= .int .i64 We∧Aside0 (static_Check.l0 kq a1 a2 t720 t720 (t720.length:Int) We=some (r1,r2))∧Aside0 (kq≤k)∧Aside0 (Kd.R (Kd.int .i64) 3 w' w.heap.size (fun _=>True) (.slice Ao14 t720.length co14) t720)∧Aside0 (Kd.R (Kd.int .i64) 3 w' w.heap.size (fun _=>True) (.slice Ao14 t720.length co14) t720)∧Aside0 (w'.heap[Wz]? =some (.cells #[.int .i64 Zc, .bool Zb,(.slice Ze Za.length Zd)] 24 (0,0)))∧Aside0 (Below w.heap.size w w'))
 case atStart=>exact⟨(0),(by first|rfl|(simp;done)|(simp[*];done)),H',⟨Nat.le_refl _⟩,⟨by(with_reducible repeat(first|apply Yr|apply Yq|apply Yp));exact HO722.out⟩,⟨by(with_reducible repeat(first|apply Yr|apply Yq|apply Yp));exact HO722.out⟩,⟨by(with_reducible repeat(first|refine Yl ?_ _|refine Ym ?_|refine Yj ?_ _));exact Xm.out⟩,⟨by repeat(first|(with_reducible first|exact HB.out|apply Ye|apply Yd|apply Yg|refine Yh ?_ Jf.out)|exact HB.out)⟩⟩
 case round=>
  clear H'
  try clear c1
  try clear p2
  try clear c3
  try clear c6
  try clear c6b0
  try clear c6b1
  try clear c8
  try clear c8b0
  try clear c8b1
  try clear c11
  try clear Uz
  try clear Ja
  try clear Jb
  try clear hcz12_0
  try clear hcz12_1
  try clear hcz12_2
  try clear Jc
  try clear Jd
  try clear Je
  try clear hfz12_0
  try clear hfz12_1
  try clear hfz12_2
  obtain⟨We,rfl,HA,HK1,HO_10,HO_29,Xm,HB⟩:=hrel
  cases gk with
  |zero=>exact absurd HA.out (by simp[static_Check.l0])
  |succ k1=>
   have H:=HA.out
   clear HA
   simp only[static_Check.l0] at H
   by_cases c15:We<(t720.length:Int)
   rotate_left
   ·rw[Yy c15] at H
    have c15b0:decide (We<(t720.length:Int))=false:=Yw c15
    clear c15
    by_cases c21:0≤a1
    rotate_left
    ·rw[Yy c21] at H
     exact absurd H (by simp)
    rw[Yx c21] at H
    have c21b0:decide (0≤a1)=true:=Yv c21
    clear c21
    by_cases c22:a1<(t720.length:Int)
    rotate_left
    ·rw[Yy c22] at H
     exact absurd H (by simp)
    rw[Yx c22] at H
    have c22b0:decide (a1<(t720.length:Int))=true:=Yv c22
    clear c22
    simp only[Option.some.injEq,Prod.mk.injEq] at H
    obtain⟨rfl,rfl⟩:=H
    have p725:0≤(a1:Int):=Yu (by first|(with_reducible assumption)|assumption)
    have q725:a1<(t720.length:Int):=Yu (by first|(with_reducible assumption)|assumption)
    obtain⟨ad725,e725,hx725_0⟩:=Kd.at_int (Kd.R_reads' HO_10.out).2.2 a1 p725 q725
    cases e725
    replace p725:=eq_true p725
    replace q725:=eq_true q725
    go_wp2
    go_ret2
    exact⟨by first|rfl|(simp[errW_none,errW_some]<;>rfl)|(simp[*,errW_none,errW_some]<;>rfl),by repeat(first|(with_reducible first|exact HB.out|apply Ye|apply Yd|apply Yg|refine Yh ?_ Jf.out)|exact HB.out)⟩
   rw[Yx c15] at H
   have c15b0:decide (We<(t720.length:Int))=true:=Yv c15
   clear c15
   by_cases c16:0≤We
   rotate_left
   ·rw[Yy c16] at H
    exact absurd H (by simp)
   rw[Yx c16] at H
   have c16b0:decide (0≤We)=true:=Yv c16
   clear c16
   by_cases c17:We<(t720.length:Int)
   rotate_left
   ·rw[Yy c17] at H
    exact absurd H (by simp)
   rw[Yx c17] at H
   have c17b0:decide (We<(t720.length:Int))=true:=Yv c17
   clear c17
   by_cases c18:(rd t720 We)=0
   ·rw[Yx c18] at H
    have c18b0:((rd t720 We) == 0)=true:=beq_iff_eq.mpr c18
    have c18b1:((rd t720 We) != 0)=false:=bne_eq_false_iff_eq.mpr c18
    clear c18
    have H':=Ya H
    clear H
    have p724:0≤(We:Int):=Yu (by first|(with_reducible assumption)|assumption)
    have q724:We<(t720.length:Int):=Yu (by first|(with_reducible assumption)|assumption)
    obtain⟨ad724,e724,hx724_0⟩:=Kd.at_int (Kd.R_reads' HO_29.out).2.2 We p724 q724
    cases e724
    replace p724:=eq_true p724
    replace q724:=eq_true q724
    go_wp2
    go_roundg k1
    case measure=>have:=HK1.out;omega
    case rel=>exact⟨(wrap64 (We+1)),(by first|rfl|(simp;done)|(simp[*];done)),H',⟨by have:=HK1.out;omega⟩,⟨by(with_reducible repeat(first|apply Yr|apply Yq|apply Yp));exact HO_10.out⟩,⟨by(with_reducible repeat(first|apply Yr|apply Yq|apply Yp));exact HO_29.out⟩,⟨by(with_reducible repeat(first|refine Yl ?_ _|refine Ym ?_|refine Yj ?_ _));exact Xm.out⟩,⟨by repeat(first|(with_reducible first|exact HB.out|apply Ye|apply Yd|apply Yg|refine Yh ?_ Jf.out)|exact HB.out)⟩⟩
   rw[Yy c18] at H
   have c18b0:((rd t720 We) == 0)=false:=beq_eq_false_iff_ne.mpr c18
   have c18b1:((rd t720 We) != 0)=true:=bne_iff_ne.mpr c18
   by_cases c19:We=a1
   ·rw[Yx c19] at H
    have c19b0:(We == a1)=true:=beq_iff_eq.mpr c19
    have c19b1:(We != a1)=false:=bne_eq_false_iff_eq.mpr c19
    clear c19
    have H':=Ya H
    clear H
    have p724:0≤(We:Int):=Yu (by first|(with_reducible assumption)|assumption)
    have q724:We<(t720.length:Int):=Yu (by first|(with_reducible assumption)|assumption)
    obtain⟨ad724,e724,hx724_0⟩:=Kd.at_int (Kd.R_reads' HO_29.out).2.2 We p724 q724
    cases e724
    replace p724:=eq_true p724
    replace q724:=eq_true q724
    go_wp2
    go_roundg k1
    case measure=>have:=HK1.out;omega
    case rel=>exact⟨(wrap64 (We+1)),(by first|rfl|(simp;done)|(simp[*];done)),H',⟨by have:=HK1.out;omega⟩,⟨by(with_reducible repeat(first|apply Yr|apply Yq|apply Yp));exact HO_10.out⟩,⟨by(with_reducible repeat(first|apply Yr|apply Yq|apply Yp));exact HO_29.out⟩,⟨by(with_reducible repeat(first|refine Yl ?_ _|refine Ym ?_|refine Yj ?_ _));exact Xm.out⟩,⟨by repeat(first|(with_reducible first|exact HB.out|apply Ye|apply Yd|apply Yg|refine Yh ?_ Jf.out)|exact HB.out)⟩⟩
   rw[Yy c19] at H
   have c19b0:(We == a1)=false:=beq_eq_false_iff_ne.mpr c19
   have c19b1:(We != a1)=true:=bne_iff_ne.mpr c19
   by_cases c20:We=a2
   rotate_left
   ·rw[Yy c20] at H
    have c20b0:(We == a2)=false:=beq_eq_false_iff_ne.mpr c20
    have c20b1:(We != a2)=true:=bne_iff_ne.mpr c20
    simp only[Option.some.injEq,Prod.mk.injEq] at H
    obtain⟨rfl,rfl⟩:=H
    have p724:0≤(We:Int):=Yu (by first|(with_reducible assumption)|assumption)
    have q724:We<(t720.length:Int):=Yu (by first|(with_reducible assumption)|assumption)
    obtain⟨ad724,e724,hx724_0⟩:=Kd.at_int (Kd.R_reads' HO_29.out).2.2 We p724 q724
    cases e724
    replace p724:=eq_true p724
    replace q724:=eq_true q724
    go_wp2
    go_ret2
    exact⟨by first|rfl|(simp[errW_none,errW_some]<;>rfl)|(simp[*,errW_none,errW_some]<;>rfl),by repeat(first|(with_reducible first|exact HB.out|apply Ye|apply Yd|apply Yg|refine Yh ?_ Jf.out)|exact HB.out)⟩
   rw[Yx c20] at H
   have c20b0:(We == a2)=true:=beq_iff_eq.mpr c20
   have c20b1:(We != a2)=false:=bne_eq_false_iff_eq.mpr c20
   clear c20
   have H':=Ya H
   clear H
   have p724:0≤(We:Int):=Yu (by first|(with_reducible assumption)|assumption)
   have q724:We<(t720.length:Int):=Yu (by first|(with_reducible assumption)|assumption)
   obtain⟨ad724,e724,hx724_0⟩:=Kd.at_int (Kd.R_reads' HO_29.out).2.2 We p724 q724
   cases e724
   replace p724:=eq_true p724
   replace q724:=eq_true q724
   go_wp2
   go_roundg k1
   case measure=>have:=HK1.out;omega
   case rel=>exact⟨(wrap64 (We+1)),(by first|rfl|(simp;done)|(simp[*];done)),H',⟨by have:=HK1.out;omega⟩,⟨by(with_reducible repeat(first|apply Yr|apply Yq|apply Yp));exact HO_10.out⟩,⟨by(with_reducible repeat(first|apply Yr|apply Yq|apply Yp));exact HO_29.out⟩,⟨by(with_reducible repeat(first|refine Yl ?_ _|refine Ym ?_|refine Yj ?_ _));exact Xm.out⟩,⟨by repeat(first|(with_reducible first|exact HB.out|apply Ye|apply Yd|apply Yg|refine Yh ?_ Jf.out)|exact HB.out)⟩⟩
end P
namespace P
attribute [local go_sem] max2_int min2_int max_two min_two max_three min_three max_four min_four
def span_Worth.f (k:Nat) (Zc:Int) (Zb:Bool) (Za:List (S74)) (a1:Int) (a2:Int) (l3:List Int) (a4:Int):Option (Int × Int):=(span_Asked.f k Zc Zb Za a1 a2 a4).bind fun t731=>(if t731=0 then((static_Check.f k Zc Zb Za a1 a2 l3).bind fun bt732=>(if bt732.2=0 then((span_paid.f k Zc Zb Za l3).bind fun t734=>(some (wrap64 ((wrap64 ((wrap64 (a4+1)) * bt732.1)) - t734),0))) else(some (0,bt732.2)))) else(some (0,t731)))
set_option maxHeartbeats 8000000 in
set_option maxRecDepth 100000 in
theorem span_Worth.calls (k:Nat) (Zc:Int) (Zb:Bool) (Ze:Option Addr) (Zd:Nat) (Za:List (S74)) (a1:Int) (a2:Int) (A3:Option Addr) (c3:Nat) (l3:List Int) (a4:Int) (r1:Int) (r2:Int) (w:World) (Zq:Kd.C k74 w Ze Za.length Za) (Zr:Za.length≤Zd) (hr3:Kd.C (Kd.int .i64) w A3 l3.length l3) (hc3:l3.length≤c3) (h:span_Worth.f k Zc Zb Za a1 a2 l3 a4=some (r1,r2)):
  Calls Try.prog 63 #[.agg #[.int .i64 Zc, .bool Zb, .slice Ze Za.length Zd], .int .i64 a1, .int .i64 a2, .slice A3 l3.length c3, .int .i64 a4] w fun e w'=>e= .returned (.tuple #[.int .i64 r1, .int .i64 r2])∧Below w.heap.size w w':=by
 have hu24:=Try.underlying24
 have Zl:=Ya Zq
 have Xd:=Ya Zr
 clear Zq Zr
 have HR3:=Ya hr3
 have HC3:=Ya hc3
 clear hr3 hc3
 have HB:=Ya (Yo w.heap.size w)
 have H:((span_Asked.f k Zc Zb Za a1 a2 a4).bind fun t731=>(if t731=0 then((static_Check.f k Zc Zb Za a1 a2 l3).bind fun bt732=>(if bt732.2=0 then((span_paid.f k Zc Zb Za l3).bind fun t734=>(some (wrap64 ((wrap64 ((wrap64 (a4+1)) * bt732.1)) - t734),0))) else(some (0,bt732.2)))) else(some (0,t731))))=some (r1,r2):=h
 clear h
 replace H:=Option.bind_eq_some_iff.mp H
 obtain⟨t731,A60,H⟩:=H
 replace H:(if t731=0 then((static_Check.f k Zc Zb Za a1 a2 l3).bind fun bt732=>(if bt732.2=0 then((span_paid.f k Zc Zb Za l3).bind fun t734=>(some (wrap64 ((wrap64 ((wrap64 (a4+1)) * bt732.1)) - t734),0))) else(some (0,bt732.2)))) else(some (0,t731)))=some (r1,r2):=H
 have A6:=Ya A60
 clear A60
 by_cases c7:t731=0
 rotate_left
 ·rw[Yy c7] at H
  have c7b0:(t731 == 0)=false:=beq_eq_false_iff_ne.mpr c7
  have c7b1:(t731 != 0)=true:=bne_iff_ne.mpr c7
  simp only[Option.some.injEq,Prod.mk.injEq] at H
  obtain⟨rfl,rfl⟩:=H
  go_enter Try.func63,Try.ntmps63
  go_wp2_with (first|((with_reducible refine gate_dst (N:=5) rfl ?_);refine Yz ?hg (N:=5) ?hd (cs:= #[.int .i64 Zc, .bool Zb, .slice Ze Za.length Zd]) (t:=24) ?hr ?_;(case hd=>rfl);(case hg=>rfl);(case hr=>first|(go_simp;done)|(go_simp;rfl));intro Wt hg w23 Zf hb;have n0_:=Ya (Yk (by repeat(first|(with_reducible first|exact HB.out|apply Ye|apply Yd|apply Yg)|exact HB.out)) hb);have n1_:=Ya (Zf);have n2_:=Ya ((by rw[hg];exact(Yi (by repeat(first|(with_reducible first|exact HB.out|apply Ye|apply Yd|apply Yg)|exact HB.out))):w.heap.size≤Wt));have n3_:=Ya ((by rw[hg];exact(Yi (by repeat(first|(with_reducible first|exact HB.out|apply Ye|apply Yd|apply Yg)|exact HB.out))):w.heap.size≤Wt));clear HB;have HB:=n0_;have Xh:=n1_;have GW730:=n2_;have GE730:=n3_;clear n0_ n1_ n2_ n3_;clear hb Zf hg;have hcz24_0:w23.cell? ⟨Wt,0,none⟩=some (.int .i64 Zc):=(Yc Xh.out 0).trans rfl;have hcz24_1:w23.cell? ⟨Wt,1,none⟩=some (.bool Zb):=(Yc Xh.out 1).trans rfl;have hcz24_2:w23.cell? ⟨Wt,2,none⟩=some (.slice Ze Za.length Zd):=(Yc Xh.out 2).trans rfl;have hfz24_0:=Yf Xh.out 0;have hfz24_1:=Yf Xh.out 1;have hfz24_2:=Yf Xh.out 2)|((with_reducible refine gate_callee (f:=114) rfl ?_);refine goesL_ (some 19) rfl rfl Try.func114 (by kernel_rfl) rfl #[.agg #[.int .i64 Zc, .bool Zb, .slice Ze Za.length Zd], .int .i64 a1, .int .i64 a2, .int .i64 a4] rfl (by(try simp only[List.map_toArray,List.map_cons,List.map_nil]);first|done|rfl|(simp only[List.length_drop,List.length_take];rfl)) ?_;(with_reducible refine(span_Asked.calls k Zc Zb _ _ Za a1 a2 a4 t731 _ ?side1 ?side2 A6.out).mono ?_);(case side1=>repeat(first|exact(Yt Zl.out HB.out)|(with_reducible refine Kd.C_alloc ?_ _)|(with_reducible refine Kd.C_drewN ?_ _)|(with_reducible refine Kd.C_drew ?_)));(case side2=>exact Xd.out);rintro e w25 ⟨rfl,hb⟩;refine⟨_,rfl,?_⟩;have n0_:=Ya (Yn (g:=Wt) (o:= .cells #[.int .i64 Zc, .bool Zb, .slice Ze Za.length Zd] 24 (0,0)) (by(with_reducible repeat(first|refine Yl ?_ _|refine Ym ?_|refine Yj ?_ _));exact Xh.out) hb);have n1_:=Ya (Yk (by repeat(first|(with_reducible first|exact HB.out|apply Ye|apply Yd|apply Yg|refine Yh ?_ GE730.out)|exact HB.out)) hb);clear Xh;clear HB;have Xh:=n0_;have HB:=n1_;clear n0_ n1_;(try clear hb);(try clear hb2);(try clear hk);(try clear hi)))
  go_ret2
  exact⟨by first|rfl|(simp[errW_none,errW_some]<;>rfl)|(simp[*,errW_none,errW_some]<;>rfl),by repeat(first|(with_reducible first|exact HB.out|apply Ye|apply Yd|apply Yg|refine Yh ?_ GE730.out)|exact HB.out)⟩
 rw[Yx c7] at H
 have c7b0:(t731 == 0)=true:=beq_iff_eq.mpr c7
 have c7b1:(t731 != 0)=false:=bne_eq_false_iff_eq.mpr c7
 clear c7
 replace H:=Option.bind_eq_some_iff.mp H
 obtain⟨⟨t732,t733⟩,A80,H⟩:=H
 replace H:(if t733=0 then((span_paid.f k Zc Zb Za l3).bind fun t734=>(some (wrap64 ((wrap64 ((wrap64 (a4+1)) * t732)) - t734),0))) else(some (0,t733)))=some (r1,r2):=H
 have A8:=Ya A80
 clear A80
 by_cases c9:t733=0
 rotate_left
 ·rw[Yy c9] at H
  have c9b0:(t733 == 0)=false:=beq_eq_false_iff_ne.mpr c9
  have c9b1:(t733 != 0)=true:=bne_iff_ne.mpr c9
  simp only[Option.some.injEq,Prod.mk.injEq] at H
  obtain⟨rfl,rfl⟩:=H
  go_enter Try.func63,Try.ntmps63
  go_wp2_with (first|((with_reducible refine gate_dst (N:=5) rfl ?_);refine Yz ?hg (N:=5) ?hd (cs:= #[.int .i64 Zc, .bool Zb, .slice Ze Za.length Zd]) (t:=24) ?hr ?_;(case hd=>rfl);(case hg=>rfl);(case hr=>first|(go_simp;done)|(go_simp;rfl));intro Wt hg w18 Zf hb;have n0_:=Ya (Yk (by repeat(first|(with_reducible first|exact HB.out|apply Ye|apply Yd|apply Yg)|exact HB.out)) hb);have n1_:=Ya (Zf);have n2_:=Ya ((by rw[hg];exact(Yi (by repeat(first|(with_reducible first|exact HB.out|apply Ye|apply Yd|apply Yg)|exact HB.out))):w.heap.size≤Wt));have n3_:=Ya ((by rw[hg];exact(Yi (by repeat(first|(with_reducible first|exact HB.out|apply Ye|apply Yd|apply Yg)|exact HB.out))):w.heap.size≤Wt));clear HB;have HB:=n0_;have Xh:=n1_;have GW730:=n2_;have GE730:=n3_;clear n0_ n1_ n2_ n3_;clear hb Zf hg;have hcz19_0:w18.cell? ⟨Wt,0,none⟩=some (.int .i64 Zc):=(Yc Xh.out 0).trans rfl;have hcz19_1:w18.cell? ⟨Wt,1,none⟩=some (.bool Zb):=(Yc Xh.out 1).trans rfl;have hcz19_2:w18.cell? ⟨Wt,2,none⟩=some (.slice Ze Za.length Zd):=(Yc Xh.out 2).trans rfl;have hfz19_0:=Yf Xh.out 0;have hfz19_1:=Yf Xh.out 1;have hfz19_2:=Yf Xh.out 2)|((with_reducible refine gate_callee (f:=114) rfl ?_);refine goesL_ (some 19) rfl rfl Try.func114 (by kernel_rfl) rfl #[.agg #[.int .i64 Zc, .bool Zb, .slice Ze Za.length Zd], .int .i64 a1, .int .i64 a2, .int .i64 a4] rfl (by(try simp only[List.map_toArray,List.map_cons,List.map_nil]);first|done|rfl|(simp only[List.length_drop,List.length_take];rfl)) ?_;(with_reducible refine(span_Asked.calls k Zc Zb _ _ Za a1 a2 a4 t731 _ ?side1 ?side2 A6.out).mono ?_);(case side1=>repeat(first|exact(Yt Zl.out HB.out)|(with_reducible refine Kd.C_alloc ?_ _)|(with_reducible refine Kd.C_drewN ?_ _)|(with_reducible refine Kd.C_drew ?_)));(case side2=>exact Xd.out);rintro e w20 ⟨rfl,hb⟩;refine⟨_,rfl,?_⟩;have n0_:=Ya (Yn (g:=Wt) (o:= .cells #[.int .i64 Zc, .bool Zb, .slice Ze Za.length Zd] 24 (0,0)) (by(with_reducible repeat(first|refine Yl ?_ _|refine Ym ?_|refine Yj ?_ _));exact Xh.out) hb);have n1_:=Ya (Yk (by repeat(first|(with_reducible first|exact HB.out|apply Ye|apply Yd|apply Yg|refine Yh ?_ GE730.out)|exact HB.out)) hb);clear Xh;clear HB;have Xh:=n0_;have HB:=n1_;clear n0_ n1_;(try clear hb);(try clear hb2);(try clear hk);(try clear hi);have hcz21_0:w20.cell? ⟨Wt,0,none⟩=some (.int .i64 Zc):=(Yc Xh.out 0).trans rfl;have hcz21_1:w20.cell? ⟨Wt,1,none⟩=some (.bool Zb):=(Yc Xh.out 1).trans rfl;have hcz21_2:w20.cell? ⟨Wt,2,none⟩=some (.slice Ze Za.length Zd):=(Yc Xh.out 2).trans rfl;have hfz21_0:=Yf Xh.out 0;have hfz21_1:=Yf Xh.out 1;have hfz21_2:=Yf Xh.out 2)|((with_reducible refine gate_callee (f:=115) rfl ?_);refine goesL_ (some 28) rfl rfl Try.func115 (by kernel_rfl) rfl #[.agg #[.int .i64 Zc, .bool Zb, .slice Ze Za.length Zd], .int .i64 a1, .int .i64 a2, .slice A3 l3.length c3] rfl (by(try simp only[List.map_toArray,List.map_cons,List.map_nil]);first|done|rfl|(simp only[List.length_drop,List.length_take];rfl)) ?_;(with_reducible refine(static_Check.calls k Zc Zb _ _ Za a1 a2 _ _ l3 t732 t733 _ ?side1 ?side2 ?side3 ?side4 A8.out).mono ?_);(case side1=>repeat(first|exact(Yt Zl.out HB.out)|(with_reducible refine Kd.C_alloc ?_ _)|(with_reducible refine Kd.C_drewN ?_ _)|(with_reducible refine Kd.C_drew ?_)));(case side2=>exact Xd.out);(case side3=>repeat(first|exact(Yt HR3.out HB.out)|(with_reducible refine Kd.C_alloc ?_ _)|(with_reducible refine Kd.C_drewN ?_ _)|(with_reducible refine Kd.C_drew ?_)));(case side4=>exact HC3.out);rintro e w22 ⟨rfl,hb⟩;refine⟨_,rfl,?_⟩;have n0_:=Ya (Yn (g:=Wt) (o:= .cells #[.int .i64 Zc, .bool Zb, .slice Ze Za.length Zd] 24 (0,0)) (by(with_reducible repeat(first|refine Yl ?_ _|refine Ym ?_|refine Yj ?_ _));exact Xh.out) hb);have n1_:=Ya (Yk (by repeat(first|(with_reducible first|exact HB.out|apply Ye|apply Yd|apply Yg|refine Yh ?_ GE730.out)|exact HB.out)) hb);clear Xh;clear HB;have Xh:=n0_;have HB:=n1_;clear n0_ n1_;(try clear hb);(try clear hb2);(try clear hk);(try clear hi)))
  go_ret2
  exact⟨by first|rfl|(simp[errW_none,errW_some]<;>rfl)|(simp[*,errW_none,errW_some]<;>rfl),by repeat(first|(with_reducible first|exact HB.out|apply Ye|apply Yd|apply Yg|refine Yh ?_ GE730.out)|exact HB.out)⟩
 rw[Yx c9] at H
 have c9b0:(t733 == 0)=true:=beq_iff_eq.mpr c9
 have c9b1:(t733 != 0)=false:=bne_eq_false_iff_eq.mpr c9
 clear c9
 replace H:=Option.bind_eq_some_iff.mp H
 obtain⟨t734,A100,H⟩:=H
 replace H:(some (wrap64 ((wrap64 ((wrap64 (a4+1)) * t732)) - t734),0))=some (r1,r2):=H
 have A10:=Ya A100
 clear A100
 simp only[Option.some.injEq,Prod.mk.injEq] at H
 obtain⟨rfl,rfl⟩:=H
 go_enter Try.func63,Try.ntmps63
 go_wp2_with (first|((with_reducible refine gate_dst (N:=5) rfl ?_);refine Yz ?hg (N:=5) ?hd (cs:= #[.int .i64 Zc, .bool Zb, .slice Ze Za.length Zd]) (t:=24) ?hr ?_;(case hd=>rfl);(case hg=>rfl);(case hr=>first|(go_simp;done)|(go_simp;rfl));intro Wt hg w11 Zf hb;have n0_:=Ya (Yk (by repeat(first|(with_reducible first|exact HB.out|apply Ye|apply Yd|apply Yg)|exact HB.out)) hb);have n1_:=Ya (Zf);have n2_:=Ya ((by rw[hg];exact(Yi (by repeat(first|(with_reducible first|exact HB.out|apply Ye|apply Yd|apply Yg)|exact HB.out))):w.heap.size≤Wt));have n3_:=Ya ((by rw[hg];exact(Yi (by repeat(first|(with_reducible first|exact HB.out|apply Ye|apply Yd|apply Yg)|exact HB.out))):w.heap.size≤Wt));clear HB;have HB:=n0_;have Xh:=n1_;have GW730:=n2_;have GE730:=n3_;clear n0_ n1_ n2_ n3_;clear hb Zf hg;have hcz12_0:w11.cell? ⟨Wt,0,none⟩=some (.int .i64 Zc):=(Yc Xh.out 0).trans rfl;have hcz12_1:w11.cell? ⟨Wt,1,none⟩=some (.bool Zb):=(Yc Xh.out 1).trans rfl;have hcz12_2:w11.cell? ⟨Wt,2,none⟩=some (.slice Ze Za.length Zd):=(Yc Xh.out 2).trans rfl;have hfz12_0:=Yf Xh.out 0;have hfz12_1:=Yf Xh.out 1;have hfz12_2:=Yf Xh.out 2)|((with_reducible refine gate_callee (f:=114) rfl ?_);refine goesL_ (some 19) rfl rfl Try.func114 (by kernel_rfl) rfl #[.agg #[.int .i64 Zc, .bool Zb, .slice Ze Za.length Zd], .int .i64 a1, .int .i64 a2, .int .i64 a4] rfl (by(try simp only[List.map_toArray,List.map_cons,List.map_nil]);first|done|rfl|(simp only[List.length_drop,List.length_take];rfl)) ?_;(with_reducible refine(span_Asked.calls k Zc Zb _ _ Za a1 a2 a4 t731 _ ?side1 ?side2 A6.out).mono ?_);(case side1=>repeat(first|exact(Yt Zl.out HB.out)|(with_reducible refine Kd.C_alloc ?_ _)|(with_reducible refine Kd.C_drewN ?_ _)|(with_reducible refine Kd.C_drew ?_)));(case side2=>exact Xd.out);rintro e w13 ⟨rfl,hb⟩;refine⟨_,rfl,?_⟩;have n0_:=Ya (Yn (g:=Wt) (o:= .cells #[.int .i64 Zc, .bool Zb, .slice Ze Za.length Zd] 24 (0,0)) (by(with_reducible repeat(first|refine Yl ?_ _|refine Ym ?_|refine Yj ?_ _));exact Xh.out) hb);have n1_:=Ya (Yk (by repeat(first|(with_reducible first|exact HB.out|apply Ye|apply Yd|apply Yg|refine Yh ?_ GE730.out)|exact HB.out)) hb);clear Xh;clear HB;have Xh:=n0_;have HB:=n1_;clear n0_ n1_;(try clear hb);(try clear hb2);(try clear hk);(try clear hi);have hcz14_0:w13.cell? ⟨Wt,0,none⟩=some (.int .i64 Zc):=(Yc Xh.out 0).trans rfl;have hcz14_1:w13.cell? ⟨Wt,1,none⟩=some (.bool Zb):=(Yc Xh.out 1).trans rfl;have hcz14_2:w13.cell? ⟨Wt,2,none⟩=some (.slice Ze Za.length Zd):=(Yc Xh.out 2).trans rfl;have hfz14_0:=Yf Xh.out 0;have hfz14_1:=Yf Xh.out 1;have hfz14_2:=Yf Xh.out 2)|((with_reducible refine gate_callee (f:=115) rfl ?_);refine goesL_ (some 28) rfl rfl Try.func115 (by kernel_rfl) rfl #[.agg #[.int .i64 Zc, .bool Zb, .slice Ze Za.length Zd], .int .i64 a1, .int .i64 a2, .slice A3 l3.length c3] rfl (by(try simp only[List.map_toArray,List.map_cons,List.map_nil]);first|done|rfl|(simp only[List.length_drop,List.length_take];rfl)) ?_;(with_reducible refine(static_Check.calls k Zc Zb _ _ Za a1 a2 _ _ l3 t732 t733 _ ?side1 ?side2 ?side3 ?side4 A8.out).mono ?_);(case side1=>repeat(first|exact(Yt Zl.out HB.out)|(with_reducible refine Kd.C_alloc ?_ _)|(with_reducible refine Kd.C_drewN ?_ _)|(with_reducible refine Kd.C_drew ?_)));(case side2=>exact Xd.out);(case side3=>repeat(first|exact(Yt HR3.out HB.out)|(with_reducible refine Kd.C_alloc ?_ _)|(with_reducible refine Kd.C_drewN ?_ _)|(with_reducible refine Kd.C_drew ?_)));(case side4=>exact HC3.out);rintro e w15 ⟨rfl,hb⟩;refine⟨_,rfl,?_⟩;have n0_:=Ya (Yn (g:=Wt) (o:= .cells #[.int .i64 Zc, .bool Zb, .slice Ze Za.length Zd] 24 (0,0)) (by(with_reducible repeat(first|refine Yl ?_ _|refine Ym ?_|refine Yj ?_ _));exact Xh.out) hb);have n1_:=Ya (Yk (by repeat(first|(with_reducible first|exact HB.out|apply Ye|apply Yd|apply Yg|refine Yh ?_ GE730.out)|exact HB.out)) hb);clear Xh;clear HB;have Xh:=n0_;have HB:=n1_;clear n0_ n1_;(try clear hb);(try clear hb2);(try clear hk);(try clear hi);have hcz16_0:w15.cell? ⟨Wt,0,none⟩=some (.int .i64 Zc):=(Yc Xh.out 0).trans rfl;have hcz16_1:w15.cell? ⟨Wt,1,none⟩=some (.bool Zb):=(Yc Xh.out 1).trans rfl;have hcz16_2:w15.cell? ⟨Wt,2,none⟩=some (.slice Ze Za.length Zd):=(Yc Xh.out 2).trans rfl;have hfz16_0:=Yf Xh.out 0;have hfz16_1:=Yf Xh.out 1;have hfz16_2:=Yf Xh.out 2)|((with_reducible refine gate_callee (f:=116) rfl ?_);refine goesL_ (some 40) rfl rfl Try.func116 (by kernel_rfl) rfl #[.agg #[.int .i64 Zc, .bool Zb, .slice Ze Za.length Zd], .slice A3 l3.length c3] rfl (by(try simp only[List.map_toArray,List.map_cons,List.map_nil]);first|done|rfl|(simp only[List.length_drop,List.length_take];rfl)) ?_;(with_reducible refine(span_paid.calls k Zc Zb _ _ Za _ _ l3 t734 _ ?side1 ?side2 ?side3 ?side4 A10.out).mono ?_);(case side1=>repeat(first|exact(Yt Zl.out HB.out)|(with_reducible refine Kd.C_alloc ?_ _)|(with_reducible refine Kd.C_drewN ?_ _)|(with_reducible refine Kd.C_drew ?_)));(case side2=>exact Xd.out);(case side3=>repeat(first|exact(Yt HR3.out HB.out)|(with_reducible refine Kd.C_alloc ?_ _)|(with_reducible refine Kd.C_drewN ?_ _)|(with_reducible refine Kd.C_drew ?_)));(case side4=>exact HC3.out);rintro e w17 ⟨rfl,hb⟩;refine⟨_,rfl,?_⟩;have n0_:=Ya (Yn (g:=Wt) (o:= .cells #[.int .i64 Zc, .bool Zb, .slice Ze Za.length Zd] 24 (0,0)) (by(with_reducible repeat(first|refine Yl ?_ _|refine Ym ?_|refine Yj ?_ _));exact Xh.out) hb);have n1_:=Ya (Yk (by repeat(first|(with_reducible first|exact HB.out|apply Ye|apply Yd|apply Yg|refine Yh ?_ GE730.out)|exact HB.out)) hb);clear Xh;clear HB;have Xh:=n0_;have HB:=n1_;clear n0_ n1_;(try clear hb);(try clear hb2);(try clear hk);(try clear hi)))
 go_ret2
 exact⟨by first|rfl|(simp[errW_none,errW_some]<;>rfl)|(simp[*,errW_none,errW_some]<;>rfl),by repeat(first|(with_reducible first|exact HB.out|apply Ye|apply Yd|apply Yg|refine Yh ?_ GE730.out)|exact HB.out)⟩
end P
namespace P
attribute [local go_sem] max2_int min2_int max_two min_two max_three min_three max_four min_four
def ebbtidelaw12_awake.f (k:Nat)  :Option (Bool):=(some (([(⟨0,1,2,1⟩:S74),(⟨1,2,2,1⟩:S74)]:List (S74)):List (S74))).bind fun y786=>((span_Most.f k 3 false y786 0 2 1).bind fun bt790=>((span_Most.f k 3 false y786 0 2 5).bind fun bt792=>((span_Worth.f k 3 false y786 0 2 (([1,1]:List Int)) 2).bind fun bt797=>((span_Most.f k 3 false y786 0 2 (-1)).bind fun bt799=>(if bt790.2=0 then(if bt790.1=0 then(if bt792.2=0 then(if bt792.1=8 then(if bt797.2=0 then(if bt797.1=1 then(some (bt799.2 == 1)) else(some false)) else(some false)) else(some false)) else(some false)) else(some false)) else(some false))))))
set_option maxHeartbeats 8000000 in
set_option maxRecDepth 100000 in
theorem ebbtidelaw12_awake.calls (k:Nat)  (r:Bool) (w:World) (h:ebbtidelaw12_awake.f k  =some r) (hrT_:r=true:=by first|rfl|exact Aside0.out (by assumption)):
  Calls Try.prog 65 #[] w fun e w'=>e= .returned (.bool r)∧Below w.heap.size w w':=by
 have HRT:=Ya hrT_
 clear hrT_
 have hu74:=Try.underlying74
 have hu24:=Try.underlying24
 have HB:=Ya (Yo w.heap.size w)
 have H:((some (([(⟨0,1,2,1⟩:S74),(⟨1,2,2,1⟩:S74)]:List (S74)):List (S74))).bind fun y786=>((span_Most.f k 3 false y786 0 2 1).bind fun bt790=>((span_Most.f k 3 false y786 0 2 5).bind fun bt792=>((span_Worth.f k 3 false y786 0 2 (([1,1]:List Int)) 2).bind fun bt797=>((span_Most.f k 3 false y786 0 2 (-1)).bind fun bt799=>(if bt790.2=0 then(if bt790.1=0 then(if bt792.2=0 then(if bt792.1=8 then(if bt797.2=0 then(if bt797.1=1 then(some (bt799.2 == 1)) else(some false)) else(some false)) else(some false)) else(some false)) else(some false)) else(some false)))))))=some r:=h
 clear h
 obtain⟨y786,hy786⟩: ∃ y_:List (S74),y_=(([(⟨0,1,2,1⟩:S74),(⟨1,2,2,1⟩:S74)]:List (S74))):=⟨_,rfl⟩
 replace H:((span_Most.f k 3 false y786 0 2 1).bind fun bt790=>((span_Most.f k 3 false y786 0 2 5).bind fun bt792=>((span_Worth.f k 3 false y786 0 2 (([1,1]:List Int)) 2).bind fun bt797=>((span_Most.f k 3 false y786 0 2 (-1)).bind fun bt799=>(if bt790.2=0 then(if bt790.1=0 then(if bt792.2=0 then(if bt792.1=8 then(if bt797.2=0 then(if bt797.1=1 then(some (bt799.2 == 1)) else(some false)) else(some false)) else(some false)) else(some false)) else(some false)) else(some false))))))=some r:=by first|(rw[hy786];with_reducible exact H)|(have H2_:=(Option.bind_some _ _).symm.trans H;rw[hy786];with_reducible exact H2_)|(have H2_:=(Option.bind_some _ _).symm.trans H;with_reducible exact H2_)|with_reducible exact H|(rw[hy786];exact H)|exact H
 have Ny786:=Ya hy786
 clear hy786
 replace H:=Option.bind_eq_some_iff.mp H
 obtain⟨⟨t790,t791⟩,A10,H⟩:=H
 replace H:((span_Most.f k 3 false y786 0 2 5).bind fun bt792=>((span_Worth.f k 3 false y786 0 2 (([1,1]:List Int)) 2).bind fun bt797=>((span_Most.f k 3 false y786 0 2 (-1)).bind fun bt799=>(if t791=0 then(if t790=0 then(if bt792.2=0 then(if bt792.1=8 then(if bt797.2=0 then(if bt797.1=1 then(some (bt799.2 == 1)) else(some false)) else(some false)) else(some false)) else(some false)) else(some false)) else(some false)))))=some r:=H
 have A1:=Ya A10
 clear A10
 replace H:=Option.bind_eq_some_iff.mp H
 obtain⟨⟨t792,t793⟩,A20,H⟩:=H
 replace H:((span_Worth.f k 3 false y786 0 2 (([1,1]:List Int)) 2).bind fun bt797=>((span_Most.f k 3 false y786 0 2 (-1)).bind fun bt799=>(if t791=0 then(if t790=0 then(if t793=0 then(if t792=8 then(if bt797.2=0 then(if bt797.1=1 then(some (bt799.2 == 1)) else(some false)) else(some false)) else(some false)) else(some false)) else(some false)) else(some false))))=some r:=H
 have A2:=Ya A20
 clear A20
 obtain⟨y794,hy794⟩: ∃ y_:List Int,y_=(([1,1]:List Int)):=⟨_,rfl⟩
 replace H:((span_Worth.f k 3 false y786 0 2 y794 2).bind fun bt797=>((span_Most.f k 3 false y786 0 2 (-1)).bind fun bt799=>(if t791=0 then(if t790=0 then(if t793=0 then(if t792=8 then(if bt797.2=0 then(if bt797.1=1 then(some (bt799.2 == 1)) else(some false)) else(some false)) else(some false)) else(some false)) else(some false)) else(some false))))=some r:=by first|(rw[hy794];with_reducible exact H)|(have H2_:=(Option.bind_some _ _).symm.trans H;rw[hy794];with_reducible exact H2_)|(have H2_:=(Option.bind_some _ _).symm.trans H;with_reducible exact H2_)|with_reducible exact H|(rw[hy794];exact H)|exact H
 have Ny794:=Ya hy794
 clear hy794
 replace H:=Option.bind_eq_some_iff.mp H
 obtain⟨⟨t797,t798⟩,A30,H⟩:=H
 replace H:((span_Most.f k 3 false y786 0 2 (-1)).bind fun bt799=>(if t791=0 then(if t790=0 then(if t793=0 then(if t792=8 then(if t798=0 then(if t797=1 then(some (bt799.2 == 1)) else(some false)) else(some false)) else(some false)) else(some false)) else(some false)) else(some false)))=some r:=H
 have A3:=Ya A30
 clear A30
 replace H:=Option.bind_eq_some_iff.mp H
 obtain⟨⟨t799,t800⟩,A40,H⟩:=H
 replace H:(if t791=0 then(if t790=0 then(if t793=0 then(if t792=8 then(if t798=0 then(if t797=1 then(some (t800 == 1)) else(some false)) else(some false)) else(some false)) else(some false)) else(some false)) else(some false))=some r:=H
 have A4:=Ya A40
 clear A40
 by_cases c5:t791=0
 rotate_left
 ·rw[Yy c5] at H
  exact absurd (Option.some.inj H) (by rw[HRT.out];decide)
 rw[Yx c5] at H
 have c5b0:(t791 == 0)=true:=beq_iff_eq.mpr c5
 have c5b1:(t791 != 0)=false:=bne_eq_false_iff_eq.mpr c5
 clear c5
 by_cases c6:t790=0
 rotate_left
 ·rw[Yy c6] at H
  exact absurd (Option.some.inj H) (by rw[HRT.out];decide)
 rw[Yx c6] at H
 have c6b0:(t790 == 0)=true:=beq_iff_eq.mpr c6
 have c6b1:(t790 != 0)=false:=bne_eq_false_iff_eq.mpr c6
 clear c6
 by_cases c7:t793=0
 rotate_left
 ·rw[Yy c7] at H
  exact absurd (Option.some.inj H) (by rw[HRT.out];decide)
 rw[Yx c7] at H
 have c7b0:(t793 == 0)=true:=beq_iff_eq.mpr c7
 have c7b1:(t793 != 0)=false:=bne_eq_false_iff_eq.mpr c7
 clear c7
 by_cases c8:t792=8
 rotate_left
 ·rw[Yy c8] at H
  exact absurd (Option.some.inj H) (by rw[HRT.out];decide)
 rw[Yx c8] at H
 have c8b0:(t792 == 8)=true:=beq_iff_eq.mpr c8
 have c8b1:(t792 != 8)=false:=bne_eq_false_iff_eq.mpr c8
 clear c8
 by_cases c9:t798=0
 rotate_left
 ·rw[Yy c9] at H
  exact absurd (Option.some.inj H) (by rw[HRT.out];decide)
 rw[Yx c9] at H
 have c9b0:(t798 == 0)=true:=beq_iff_eq.mpr c9
 have c9b1:(t798 != 0)=false:=bne_eq_false_iff_eq.mpr c9
 clear c9
 by_cases c10:t797=1
 rotate_left
 ·rw[Yy c10] at H
  exact absurd (Option.some.inj H) (by rw[HRT.out];decide)
 rw[Yx c10] at H
 have c10b0:(t797 == 1)=true:=beq_iff_eq.mpr c10
 have c10b1:(t797 != 1)=false:=bne_eq_false_iff_eq.mpr c10
 clear c10
 obtain rfl:=Option.some.inj H
 go_enter Try.func65,Try.ntmps65
 go_wp2_with (first|((with_reducible refine gate_dst (N:=12) rfl ?_);refine Kd.R_lit k74 _ 74 ?hg (N:=12) ?hd (xs:=([(⟨0,1,2,1⟩:S74),(⟨1,2,2,1⟩:S74)]:List (S74))) (inner:=[.int .i64 0, .int .i64 1, .int .i64 2, .int .i64 1, .int .i64 1, .int .i64 2, .int .i64 2, .int .i64 1]) (ok:=fun _=>True) (okp:=fun _=>True) ?hr ?hp (fun _ hk=>hk) trivial (Yo _ _) (Nat.le_refl _) (by simp) ?_;(case hd=>rfl);(case hg=>rfl);(case hr=>first|(go_simp;done)|(go_simp;rfl));(case hp=>exact(Reps.c4 (show Kd.M k74 _ _ _ (⟨0,1,2,1⟩:S74) [.int .i64 0, .int .i64 1, .int .i64 2, .int .i64 1] from(k74_mkM _ _ _ (⟨0,1,2,1⟩:S74) )) (Reps.c4 (show Kd.M k74 _ _ _ (⟨1,2,2,1⟩:S74) [.int .i64 1, .int .i64 2, .int .i64 2, .int .i64 1] from(k74_mkM _ _ _ (⟨1,2,2,1⟩:S74) )) (Reps.none _ _))));intro v787 w11 ho12 hb hg_ hnew_;clear hg_ hnew_;(first|rw[← Ny786.out] at ho12|(simp only[Int.reduceToNat] at ho12;rw[← Ny786.out] at ho12));have n0_:=Ya (Kd.R_lower ho12 (Yi (by repeat(first|(with_reducible first|exact HB.out|apply Ye|apply Yd|apply Yg)|exact HB.out))));have n1_:=Ya (Yk (by repeat(first|(with_reducible first|exact HB.out|apply Ye|apply Yd|apply Yg)|exact HB.out)) hb);clear HB;have Vh:=n0_;have HB:=n1_;clear n0_ n1_;clear hb ho12;obtain⟨Ao13,co13,eo13⟩:=Kd.R_slice Vh.out;subst eo13)|((with_reducible refine gate_dst (N:=1) rfl ?_);refine Yz ?hg (N:=1) ?hd (cs:= #[.int .i64 0, .bool false, .slice none 0 0]) (t:=24) ?hr ?_;(case hd=>rfl);(case hg=>rfl);(case hr=>first|(go_simp;done)|(go_simp;rfl));intro Vr hg w14 Zf hb;have n0_:=Ya (Ys (by(with_reducible repeat(first|apply Yr|apply Yq|apply Yp));exact Vh.out) hb);have n1_:=Ya (Yk (by repeat(first|(with_reducible first|exact HB.out|apply Ye|apply Yd|apply Yg)|exact HB.out)) hb);have n2_:=Ya (Zf);have n3_:=Ya ((by rw[hg];exact(Yi (by repeat(first|(with_reducible first|exact HB.out|apply Ye|apply Yd|apply Yg)|exact HB.out))):w.heap.size≤Vr));have n4_:=Ya ((by rw[hg];exact(Yi (by repeat(first|(with_reducible first|exact HB.out|apply Ye|apply Yd|apply Yg)|exact HB.out))):w.heap.size≤Vr));clear Vh;clear HB;have Vh:=n0_;have HB:=n1_;have Wd:=n2_;have GW789:=n3_;have GE789:=n4_;clear n0_ n1_ n2_ n3_ n4_;clear hb Zf hg;have hcz15_0:w14.cell? ⟨Vr,0,none⟩=some (.int .i64 0):=(Yc Wd.out 0).trans rfl;have hcz15_1:w14.cell? ⟨Vr,1,none⟩=some (.bool false):=(Yc Wd.out 1).trans rfl;have hcz15_2:w14.cell? ⟨Vr,2,none⟩=some (.slice none 0 0):=(Yc Wd.out 2).trans rfl;have hfz15_0:=Yf Wd.out 0;have hfz15_1:=Yf Wd.out 1;have hfz15_2:=Yf Wd.out 2)|((with_reducible refine gate_callee (f:=67) rfl ?_);refine goesL_ (some 16) rfl rfl Try.func67 (by kernel_rfl) rfl #[.agg #[.int .i64 3, .bool false, .slice Ao13 y786.length co13], .int .i64 0, .int .i64 2, .int .i64 1] rfl (by(try simp only[List.map_toArray,List.map_cons,List.map_nil]);first|done|rfl|(simp only[List.length_drop,List.length_take];rfl)) ?_;(with_reducible refine(span_Most.calls k 3 false _ _ y786 0 2 1 t790 t791 _ ?side1 ?side2 A1.out).mono ?_);(case side1=>refine(Kd.R_reads' (e:=74) (base:=w.heap.size) (ok:=fun k_=>True) (n:=y786.length) (c:=co13) ?_).2.2;exact(by(with_reducible repeat(first|apply Yr|apply Yq|apply Yp));exact(Kd.R_mono (Kd.R_far (p:=⟨Vr,2,none⟩) (Kd.R_far (p:=⟨Vr,1,none⟩) (Kd.R_far (p:=⟨Vr,0,none⟩) (Kd.R_types Vh.out Wd.out (by decide)) (fun _ hk=>hk.2) (.int .i64 3)) (fun _ hk=>hk.2) (.bool false)) (fun _ hk=>hk.2) (.slice Ao13 y786.length co13)) (fun _ h_=>h_.1))));(case side2=>exact(Kd.R_reads' Vh.out).2.1);rintro e w16 ⟨rfl,hb⟩;refine⟨_,rfl,?_⟩;have n0_:=Ya (Ys (by(with_reducible repeat(first|apply Yr|apply Yq|apply Yp));exact(Kd.R_mono (Kd.R_far (p:=⟨Vr,2,none⟩) (Kd.R_far (p:=⟨Vr,1,none⟩) (Kd.R_far (p:=⟨Vr,0,none⟩) (Kd.R_types Vh.out Wd.out (by decide)) (fun _ hk=>hk.2) (.int .i64 3)) (fun _ hk=>hk.2) (.bool false)) (fun _ hk=>hk.2) (.slice Ao13 y786.length co13)) (fun _ h_=>h_.1))) hb);have n1_:=Ya (Yn (g:=Vr) (o:= .cells #[.int .i64 3, .bool false, .slice Ao13 y786.length co13] 24 (0,0)) (by(with_reducible repeat(first|refine Yl ?_ _|refine Ym ?_|refine Yj ?_ _));refine YA (cs:= #[.int .i64 3, .bool false, .slice none 0 0]) ?_ 2 _ rfl;(with_reducible repeat(first|refine Yl ?_ _|refine Ym ?_|refine Yj ?_ _));refine YA (cs:= #[.int .i64 3, .bool false, .slice none 0 0]) ?_ 1 _ rfl;(with_reducible repeat(first|refine Yl ?_ _|refine Ym ?_|refine Yj ?_ _));refine YA (cs:= #[.int .i64 0, .bool false, .slice none 0 0]) ?_ 0 _ rfl;(with_reducible repeat(first|refine Yl ?_ _|refine Ym ?_|refine Yj ?_ _));exact Wd.out) hb);have n2_:=Ya (Yk (by repeat(first|(with_reducible first|exact HB.out|apply Ye|apply Yd|apply Yg|refine Yh ?_ GE789.out)|exact HB.out)) hb);clear Vh;clear Wd;clear HB;have Vh:=n0_;have Wd:=n1_;have HB:=n2_;clear n0_ n1_ n2_;(try clear hb);(try clear hb2);(try clear hk);(try clear hi);have Uh:w16.cell? ⟨Vr,0,none⟩=some (.int .i64 3):=(Yc Wd.out 0).trans rfl;have Ui:w16.cell? ⟨Vr,1,none⟩=some (.bool false):=(Yc Wd.out 1).trans rfl;have Jk:w16.cell? ⟨Vr,2,none⟩=some (.slice Ao13 y786.length co13):=(Yc Wd.out 2).trans rfl;have Uj:=Yf Wd.out 0;have Uk:=Yf Wd.out 1;have Jl:=Yf Wd.out 2)|((with_reducible refine gate_callee (f:=67) rfl ?_);refine goesL_ (some 21) rfl rfl Try.func67 (by kernel_rfl) rfl #[.agg #[.int .i64 3, .bool false, .slice Ao13 y786.length co13], .int .i64 0, .int .i64 2, .int .i64 5] rfl (by(try simp only[List.map_toArray,List.map_cons,List.map_nil]);first|done|rfl|(simp only[List.length_drop,List.length_take];rfl)) ?_;(with_reducible refine(span_Most.calls k 3 false _ _ y786 0 2 5 t792 t793 _ ?side1 ?side2 A2.out).mono ?_);(case side1=>repeat(first|exact(Kd.R_reads' Vh.out).2.2|(with_reducible refine Kd.C_alloc ?_ _)|(with_reducible refine Kd.C_drewN ?_ _)|(with_reducible refine Kd.C_drew ?_)));(case side2=>exact(Kd.R_reads' Vh.out).2.1);rintro e w18 ⟨rfl,hb⟩;refine⟨_,rfl,?_⟩;have n0_:=Ya (Ys (by(with_reducible repeat(first|apply Yr|apply Yq|apply Yp));exact Vh.out) hb);have n1_:=Ya (Yn (g:=Vr) (o:= .cells #[.int .i64 3, .bool false, .slice Ao13 y786.length co13] 24 (0,0)) (by(with_reducible repeat(first|refine Yl ?_ _|refine Ym ?_|refine Yj ?_ _));exact Wd.out) hb);have n2_:=Ya (Yk (by repeat(first|(with_reducible first|exact HB.out|apply Ye|apply Yd|apply Yg|refine Yh ?_ GE789.out)|exact HB.out)) hb);clear Vh;clear Wd;clear HB;have Vh:=n0_;have Wd:=n1_;have HB:=n2_;clear n0_ n1_ n2_;(try clear hb);(try clear hb2);(try clear hk);(try clear hi);have hcz19_0:w18.cell? ⟨Vr,0,none⟩=some (.int .i64 3):=(Yc Wd.out 0).trans rfl;have hcz19_1:w18.cell? ⟨Vr,1,none⟩=some (.bool false):=(Yc Wd.out 1).trans rfl;have hcz19_2:w18.cell? ⟨Vr,2,none⟩=some (.slice Ao13 y786.length co13):=(Yc Wd.out 2).trans rfl;have hfz19_0:=Yf Wd.out 0;have hfz19_1:=Yf Wd.out 1;have hfz19_2:=Yf Wd.out 2)|((with_reducible refine gate_dst (N:=26) rfl ?_);refine Kd.R_lit (Kd.int .i64) _ 3 ?hg (N:=26) ?hd (xs:=([1,1]:List Int)) (inner:=[.int .i64 1, .int .i64 1]) (ok:=fun _=>True) (okp:=fun _=>True) ?hr ?hp (fun _ hk=>hk) trivial (Yo _ _) (Nat.le_refl _) (by simp) ?_;(case hd=>rfl);(case hg=>rfl);(case hr=>first|(go_simp;done)|(go_simp;rfl));(case hp=>exact(Reps.one (show Kd.M (Kd.int .i64) _ _ _ 1 [.int .i64 1] from rfl) (Reps.one (show Kd.M (Kd.int .i64) _ _ _ 1 [.int .i64 1] from rfl) (Reps.none _ _))));intro v795 w20 ho21 hb hg_ hnew_;clear hg_ hnew_;(first|rw[← Ny794.out] at ho21|(simp only[Int.reduceToNat] at ho21;rw[← Ny794.out] at ho21));have n0_:=Ya (Ys (by(with_reducible repeat(first|apply Yr|apply Yq|apply Yp));exact Vh.out) hb);have n1_:=Ya (Kd.R_lower ho21 (Yi (by repeat(first|(with_reducible first|exact HB.out|apply Ye|apply Yd|apply Yg|refine Yh ?_ GE789.out)|exact HB.out))));have n2_:=Ya (Yn (g:=Vr) (o:= .cells #[.int .i64 3, .bool false, .slice Ao13 y786.length co13] 24 (0,0)) (by(with_reducible repeat(first|refine Yl ?_ _|refine Ym ?_|refine Yj ?_ _));exact Wd.out) hb);have n3_:=Ya (Yk (by repeat(first|(with_reducible first|exact HB.out|apply Ye|apply Yd|apply Yg|refine Yh ?_ GE789.out)|exact HB.out)) hb);clear Vh;clear Wd;clear HB;have Vh:=n0_;have HO796:=n1_;have Wd:=n2_;have HB:=n3_;clear n0_ n1_ n2_ n3_;clear hb ho21;obtain⟨Ao22,co22,eo22⟩:=Kd.R_slice HO796.out;subst eo22)|((with_reducible refine gate_callee (f:=63) rfl ?_);refine goesL_ (some 27) rfl rfl Try.func63 (by kernel_rfl) rfl #[.agg #[.int .i64 3, .bool false, .slice Ao13 y786.length co13], .int .i64 0, .int .i64 2, .slice Ao22 y794.length co22, .int .i64 2] rfl (by(try simp only[List.map_toArray,List.map_cons,List.map_nil]);first|done|rfl|(simp only[List.length_drop,List.length_take];rfl)) ?_;(with_reducible refine(span_Worth.calls k 3 false _ _ y786 0 2 _ _ y794 2 t797 t798 _ ?side1 ?side2 ?side3 ?side4 A3.out).mono ?_);(case side1=>repeat(first|exact(Kd.R_reads' Vh.out).2.2|(with_reducible refine Kd.C_alloc ?_ _)|(with_reducible refine Kd.C_drewN ?_ _)|(with_reducible refine Kd.C_drew ?_)));(case side2=>exact(Kd.R_reads' Vh.out).2.1);(case side3=>repeat(first|exact(Kd.R_reads' HO796.out).2.2|(with_reducible refine Kd.C_alloc ?_ _)|(with_reducible refine Kd.C_drewN ?_ _)|(with_reducible refine Kd.C_drew ?_)));(case side4=>exact(Kd.R_reads' HO796.out).2.1);rintro e w23 ⟨rfl,hb⟩;refine⟨_,rfl,?_⟩;have n0_:=Ya (Ys (by(with_reducible repeat(first|apply Yr|apply Yq|apply Yp));exact Vh.out) hb);have n1_:=Ya (Ys (by(with_reducible repeat(first|apply Yr|apply Yq|apply Yp));exact HO796.out) hb);have n2_:=Ya (Yn (g:=Vr) (o:= .cells #[.int .i64 3, .bool false, .slice Ao13 y786.length co13] 24 (0,0)) (by(with_reducible repeat(first|refine Yl ?_ _|refine Ym ?_|refine Yj ?_ _));exact Wd.out) hb);have n3_:=Ya (Yk (by repeat(first|(with_reducible first|exact HB.out|apply Ye|apply Yd|apply Yg|refine Yh ?_ GE789.out)|exact HB.out)) hb);clear Vh;clear HO796;clear Wd;clear HB;have Vh:=n0_;have HO796:=n1_;have Wd:=n2_;have HB:=n3_;clear n0_ n1_ n2_ n3_;(try clear hb);(try clear hb2);(try clear hk);(try clear hi);have hcz24_0:w23.cell? ⟨Vr,0,none⟩=some (.int .i64 3):=(Yc Wd.out 0).trans rfl;have hcz24_1:w23.cell? ⟨Vr,1,none⟩=some (.bool false):=(Yc Wd.out 1).trans rfl;have hcz24_2:w23.cell? ⟨Vr,2,none⟩=some (.slice Ao13 y786.length co13):=(Yc Wd.out 2).trans rfl;have hfz24_0:=Yf Wd.out 0;have hfz24_1:=Yf Wd.out 1;have hfz24_2:=Yf Wd.out 2)|((with_reducible refine gate_callee (f:=67) rfl ?_);refine goesL_ (some 32) rfl rfl Try.func67 (by kernel_rfl) rfl #[.agg #[.int .i64 3, .bool false, .slice Ao13 y786.length co13], .int .i64 0, .int .i64 2, .int .i64 (-1)] rfl (by(try simp only[List.map_toArray,List.map_cons,List.map_nil]);first|done|rfl|(simp only[List.length_drop,List.length_take];rfl)) ?_;(with_reducible refine(span_Most.calls k 3 false _ _ y786 0 2 (-1) t799 t800 _ ?side1 ?side2 A4.out).mono ?_);(case side1=>repeat(first|exact(Kd.R_reads' Vh.out).2.2|(with_reducible refine Kd.C_alloc ?_ _)|(with_reducible refine Kd.C_drewN ?_ _)|(with_reducible refine Kd.C_drew ?_)));(case side2=>exact(Kd.R_reads' Vh.out).2.1);rintro e w25 ⟨rfl,hb⟩;refine⟨_,rfl,?_⟩;have n0_:=Ya (Ys (by(with_reducible repeat(first|apply Yr|apply Yq|apply Yp));exact Vh.out) hb);have n1_:=Ya (Ys (by(with_reducible repeat(first|apply Yr|apply Yq|apply Yp));exact HO796.out) hb);have n2_:=Ya (Yn (g:=Vr) (o:= .cells #[.int .i64 3, .bool false, .slice Ao13 y786.length co13] 24 (0,0)) (by(with_reducible repeat(first|refine Yl ?_ _|refine Ym ?_|refine Yj ?_ _));exact Wd.out) hb);have n3_:=Ya (Yk (by repeat(first|(with_reducible first|exact HB.out|apply Ye|apply Yd|apply Yg|refine Yh ?_ GE789.out)|exact HB.out)) hb);clear Vh;clear HO796;clear Wd;clear HB;have Vh:=n0_;have HO796:=n1_;have Wd:=n2_;have HB:=n3_;clear n0_ n1_ n2_ n3_;(try clear hb);(try clear hb2);(try clear hk);(try clear hi)))
 go_ret
 exact⟨by first|rfl|(simp[errW_none,errW_some]<;>rfl)|(simp[*,errW_none,errW_some]<;>rfl),by repeat(first|(with_reducible first|exact HB.out|apply Ye|apply Yd|apply Yg|refine Yh ?_ GE789.out)|exact HB.out)⟩
end P
namespace P
attribute [local go_sem] max2_int min2_int max_two min_two max_three min_three max_four min_four
def ebbtidelaw12_Read.l0:Nat→Int→Int→Int→Bool→List (S135)→Int→Int→Int→Int→Bool→List (S74)→Option (Int × Bool × (List (S74)) × Int × Int × Int)
 |0,_,_,_,_,_,_,_,_,_,_,_=>none
 |k+1,x1,x9,x884000,x884001,x884002,x884003,x884004,x884005,Wx,x886001,x886002=>if x9<(x884002.length:Int) then(if x9<x1 then(if 0≤x9 then(if Wx=0 then(none) else(if x886002.length<4398046511104 then(ebbtidelaw12_Read.l0 k x1 (wrap64 (x9+1)) x884000 x884001 x884002 x884003 x884004 x884005 Wx x886001 (x886002 ++ [(⟨Int.tmod (wrap64 ((rd_T135 x884002 x9).f0)) Wx,Int.tmod (wrap64 ((rd_T135 x884002 x9).f1)) Wx,Int.tmod (wrap64 ((rd_T135 x884002 x9).f2)) 6,Int.tmod (wrap64 ((rd_T135 x884002 x9).f3)) 4⟩:S74)])) else(none))) else(none)) else(if Wx=0 then(none) else(if (wrap64 (Wx - 1))=0 then(none) else(some (Wx,x886001,x886002,Int.tmod (wrap64 (x884003)) Wx,Int.tmod (wrap64 ((wrap64 ((Int.tmod (wrap64 (x884003)) Wx)+1))+(Int.tmod (wrap64 (x884004)) (wrap64 (Wx - 1))))) Wx,Int.tmod (wrap64 (x884005)) 8))))) else(if Wx=0 then(none) else(if (wrap64 (Wx - 1))=0 then(none) else(some (Wx,x886001,x886002,Int.tmod (wrap64 (x884003)) Wx,Int.tmod (wrap64 ((wrap64 ((Int.tmod (wrap64 (x884003)) Wx)+1))+(Int.tmod (wrap64 (x884004)) (wrap64 (Wx - 1))))) Wx,Int.tmod (wrap64 (x884005)) 8))))
def ebbtidelaw12_Read.f (k:Nat) (Zc:Int) (Zb:Bool) (Za:List (S135)) (Xy:Int) (Wl:Int) (Wm:Int) (a1:Int):Option (Int × Bool × (List (S74)) × Int × Int × Int):=ebbtidelaw12_Read.l0 k a1 0 Zc Zb Za Xy Wl Wm (wrap64 (2+(Int.tmod (wrap64 (Zc)) 4))) Zb ([]:List (S74))
def ebbtidelaw12_Read.T6:Bool × List (List Nat × List Nat):=(true,[([],[]),([0],[0]),([],[]),([2],[2]),([3],[3]),([],[]),([5],[5]),([4,6],[4,6]),([],[]),([8],[8]),([9],[9]),([],[]),([11],[11]),([10,12],[10,12]),([],[]),([14],[14]),([15],[15]),([16],[16]),([],[]),([18],[18]),([19],[19]),([20],[20]),([7,13,17,21],[7,13,17,21]),([22],[22]),([1,23],[1,23]),([0,1,2,3,4,5,6,7,8,9,10,11,12,13,14,15,16,17,18,19,20,21,22,23,24],[]),([25,24,24,0,1,2,3,4,5,6,7,8,9,10,11,12,13,14,15,16,17,18,19,20,21,22,23,24],[24,25])])
def ebbtidelaw12_Read.B6:List Nat:=[0,1,0,4,12,0,32,124,0,256,768,0,2048,7936,0,16384,49152,114688,0,262144,786432,1835008,4194300,8388604,16777215,33554431,67108863]
theorem ebbtidelaw12_Read.tab6:rtab .any (opsOf Try.f72 6)=ebbtidelaw12_Read.T6:=by kernel_rfl
theorem ebbtidelaw12_Read.bits6:waitsOk ebbtidelaw12_Read.T6.2 ebbtidelaw12_Read.B6=true:=by kernel_rfl
def ebbtidelaw12_Read.T8:Bool × List (List Nat × List Nat):=(true,[([],[]),([0],[0]),([],[]),([2],[2]),([3],[3]),([],[]),([5],[5]),([6],[6]),([4,7],[4,7]),([1,8],[1,8]),([],[]),([10],[10]),([9,11],[9,11]),([12,0,1,2,3,4,5,6,7,8,9,10,11,12],[12])])
def ebbtidelaw12_Read.B8:List Nat:=[0,1,0,4,12,0,32,96,252,511,0,1024,4095,8191]
theorem ebbtidelaw12_Read.tab8:rtab .any (opsOf Try.f72 8)=ebbtidelaw12_Read.T8:=by kernel_rfl
theorem ebbtidelaw12_Read.bits8:waitsOk ebbtidelaw12_Read.T8.2 ebbtidelaw12_Read.B8=true:=by kernel_rfl
def ebbtidelaw12_Read.T9:Bool × List (List Nat × List Nat):=(true,[([],[]),([],[]),([],[]),([],[]),([3],[3]),([4],[4]),([5],[5]),([0,0],[0]),([1,7,0,1,7],[1]),([2,8,0,1,2,7,8],[2]),([6,9,0,1,2,3,4,5,6,7,8,9],[6])])
def ebbtidelaw12_Read.B9:List Nat:=[0,0,0,0,8,24,56,1,131,391,1023]
theorem ebbtidelaw12_Read.tab9:rtab .any (opsOf Try.f72 9)=ebbtidelaw12_Read.T9:=by kernel_rfl
theorem ebbtidelaw12_Read.bits9:waitsOk ebbtidelaw12_Read.T9.2 ebbtidelaw12_Read.B9=true:=by kernel_rfl
set_option maxHeartbeats 8000000 in
set_option maxRecDepth 100000 in
theorem ebbtidelaw12_Read.calls (k:Nat) (Zc:Int) (Zb:Bool) (Ze:Option Addr) (Zd:Nat) (Za:List (S135)) (Xy:Int) (Wl:Int) (Wm:Int) (a1:Int) (r1:Int) (r2:Bool) (r3:List (S74)) (r4:Int) (r5:Int) (r6:Int) (w:World) (Zq:Kd.C k135 w Ze Za.length Za) (Zr:Za.length≤Zd) (h:ebbtidelaw12_Read.f k Zc Zb Za Xy Wl Wm a1=some (r1,r2,r3,r4,r5,r6)):
  Calls Try.prog 72 #[.agg #[.int .u8 Zc, .bool Zb, .slice Ze Za.length Zd, .int .u8 Xy, .int .u8 Wl, .int .u8 Wm], .int .i64 a1] w fun e w'=> ∃ v2_:Value,e= .returned (.tuple #[.agg #[.int .i64 r1, .bool r2,v2_], .int .i64 r4, .int .i64 r5, .int .i64 r6])∧Kd.R k74 74 w' w.heap.size (fun _=>True) v2_ r3∧Below w.heap.size w w':=by
 have hu70:=Try.underlying70
 have hu24:=Try.underlying24
 have hu135:=Try.underlying135
 have hu74:=Try.underlying74
 have Zl:=Ya Zq
 have Xd:=Ya Zr
 clear Zq Zr
 have HB:=Ya (Yo w.heap.size w)
 have H:(ebbtidelaw12_Read.l0 k a1 0 Zc Zb Za Xy Wl Wm (wrap64 (2+(Int.tmod (wrap64 (Zc)) 4))) Zb ([]:List (S74)))=some (r1,r2,r3,r4,r5,r6):=h
 clear h
 have H':=Ya H
 clear H
 go_enter Try.func72,Try.ntmps72
 go_wp2_with (first|((with_reducible refine gate_dst (N:=2) rfl ?_);refine Yz ?hg (N:=2) ?hd (cs:= #[.int .u8 Zc, .bool Zb, .slice Ze Za.length Zd, .int .u8 Xy, .int .u8 Wl, .int .u8 Wm]) (t:=70) ?hr ?_;(case hd=>rfl);(case hg=>rfl);(case hr=>first|(go_simp;done)|(go_simp;rfl));intro Zx hg w3 Zf hb;have n0_:=Ya (Yk (by repeat(first|(with_reducible first|exact HB.out|apply Ye|apply Yd|apply Yg)|exact HB.out)) hb);have n1_:=Ya (Zf);have n2_:=Ya ((by rw[hg];exact(Yi (by repeat(first|(with_reducible first|exact HB.out|apply Ye|apply Yd|apply Yg)|exact HB.out))):w.heap.size≤Zx));have n3_:=Ya ((by rw[hg];exact(Yi (by repeat(first|(with_reducible first|exact HB.out|apply Ye|apply Yd|apply Yg)|exact HB.out))):w.heap.size≤Zx));clear HB;have HB:=n0_;have Zi:=n1_;have GW883:=n2_;have Jj:=n3_;clear n0_ n1_ n2_ n3_;clear hb Zf hg)|((with_reducible refine gate_dst (N:=4) rfl ?_);refine Yz ?hg (N:=4) ?hd (cs:= #[.int .i64 0, .bool false, .slice none 0 0]) (t:=24) ?hr ?_;(case hd=>rfl);(case hg=>rfl);(case hr=>first|(go_simp;done)|(go_simp;rfl));intro Zn hg w4 Zf hb;have n0_:=Ya (Yn (g:=Zx) (o:= .cells #[.int .u8 Zc, .bool Zb, .slice Ze Za.length Zd, .int .u8 Xy, .int .u8 Wl, .int .u8 Wm] 70 (0,0)) (by(with_reducible repeat(first|refine Yl ?_ _|refine Ym ?_|refine Yj ?_ _));exact Zi.out) hb);have n1_:=Ya (Yk (by repeat(first|(with_reducible first|exact HB.out|apply Ye|apply Yd|apply Yg|refine Yh ?_ Jj.out)|exact HB.out)) hb);have n2_:=Ya (Zf);have n3_:=Ya ((by rw[hg];exact(Yi (by repeat(first|(with_reducible first|exact HB.out|apply Ye|apply Yd|apply Yg|refine Yh ?_ Jj.out)|exact HB.out))):w.heap.size≤Zn));have n4_:=Ya ((by rw[hg];exact(Yi (by repeat(first|(with_reducible first|exact HB.out|apply Ye|apply Yd|apply Yg|refine Yh ?_ Jj.out)|exact HB.out))):w.heap.size≤Zn));have n5_:=Ya ((by rw[hg];exact Nat.ne_of_lt (blk_lt (g:=Zx) (o:= .cells #[.int .u8 Zc, .bool Zb, .slice Ze Za.length Zd, .int .u8 Xy, .int .u8 Wl, .int .u8 Wm] 70 (0,0)) (by(with_reducible repeat(first|refine Yl ?_ _|refine Ym ?_|refine Yj ?_ _));exact Zi.out)):Zx≠Zn));have n6_:=Ya ((by rw[hg];exact Nat.ne_of_gt (blk_lt (g:=Zx) (o:= .cells #[.int .u8 Zc, .bool Zb, .slice Ze Za.length Zd, .int .u8 Xy, .int .u8 Wl, .int .u8 Wm] 70 (0,0)) (by(with_reducible repeat(first|refine Yl ?_ _|refine Ym ?_|refine Yj ?_ _));exact Zi.out)):Zn≠Zx));clear Zi;clear HB;have Zi:=n0_;have HB:=n1_;have Xi:=n2_;have GW884:=n3_;have GE884:=n4_;have Zk:=n5_;have Vs:=n6_;clear n0_ n1_ n2_ n3_ n4_ n5_ n6_;clear hb Zf hg;have hnb5:=Zk.out;have hnc5:=Vs.out;have hcz6_0:w4.cell? ⟨Zx,0,none⟩=some (.int .u8 Zc):=(Yc Zi.out 0).trans rfl;have hcz6_1:w4.cell? ⟨Zx,1,none⟩=some (.bool Zb):=(Yc Zi.out 1).trans rfl;have hcz6_2:w4.cell? ⟨Zx,2,none⟩=some (.slice Ze Za.length Zd):=(Yc Zi.out 2).trans rfl;have hcz6_3:w4.cell? ⟨Zx,3,none⟩=some (.int .u8 Xy):=(Yc Zi.out 3).trans rfl;have hcz6_4:w4.cell? ⟨Zx,4,none⟩=some (.int .u8 Wl):=(Yc Zi.out 4).trans rfl;have hcz6_5:w4.cell? ⟨Zx,5,none⟩=some (.int .u8 Wm):=(Yc Zi.out 5).trans rfl;have hfz6_0:=Yf Zi.out 0;have hfz6_1:=Yf Zi.out 1;have hfz6_2:=Yf Zi.out 2;have hfz6_3:=Yf Zi.out 3;have hfz6_4:=Yf Zi.out 4;have hfz6_5:=Yf Zi.out 5)|((with_reducible refine gate_dst (N:=8) rfl ?_);refine Yz ?hg (N:=8) ?hd (cs:= #[.int .i64 0, .bool false, .slice none 0 0]) (t:=24) ?hr ?_;(case hd=>rfl);(case hg=>rfl);(case hr=>first|(go_simp;done)|(go_simp;rfl));intro Wf hg w7 Zf hb;have n0_:=Ya (Yn (g:=Zx) (o:= .cells #[.int .u8 Zc, .bool Zb, .slice Ze Za.length Zd, .int .u8 Xy, .int .u8 Wl, .int .u8 Wm] 70 (0,0)) (by(with_reducible repeat(first|refine Yl ?_ _|refine Ym ?_|refine Yj ?_ _));exact Zi.out) hb);have n1_:=Ya (Yn (g:=Zn) (o:= .cells #[.int .i64 0, .bool false, .slice none 0 0] 24 (0,0)) (by(with_reducible repeat(first|refine Yl ?_ _|refine Ym ?_|refine Yj ?_ _));exact Xi.out) hb);have n2_:=Ya (Yk (by repeat(first|(with_reducible first|exact HB.out|apply Ye|apply Yd|apply Yg|refine Yh ?_ Jj.out|refine Yh ?_ GE884.out)|exact HB.out)) hb);have n3_:=Ya (Zf);have n4_:=Ya ((by rw[hg];exact(Yi (by repeat(first|(with_reducible first|exact HB.out|apply Ye|apply Yd|apply Yg|refine Yh ?_ Jj.out|refine Yh ?_ GE884.out)|exact HB.out))):w.heap.size≤Wf));have n5_:=Ya ((by rw[hg];exact(Yi (by repeat(first|(with_reducible first|exact HB.out|apply Ye|apply Yd|apply Yg|refine Yh ?_ Jj.out|refine Yh ?_ GE884.out)|exact HB.out))):w.heap.size≤Wf));have n6_:=Ya ((by rw[hg];exact Nat.ne_of_lt (blk_lt (g:=Zx) (o:= .cells #[.int .u8 Zc, .bool Zb, .slice Ze Za.length Zd, .int .u8 Xy, .int .u8 Wl, .int .u8 Wm] 70 (0,0)) (by(with_reducible repeat(first|refine Yl ?_ _|refine Ym ?_|refine Yj ?_ _));exact Zi.out)):Zx≠Wf));have n7_:=Ya ((by rw[hg];exact Nat.ne_of_gt (blk_lt (g:=Zx) (o:= .cells #[.int .u8 Zc, .bool Zb, .slice Ze Za.length Zd, .int .u8 Xy, .int .u8 Wl, .int .u8 Wm] 70 (0,0)) (by(with_reducible repeat(first|refine Yl ?_ _|refine Ym ?_|refine Yj ?_ _));exact Zi.out)):Wf≠Zx));have n8_:=Ya ((by rw[hg];exact Nat.ne_of_lt (blk_lt (g:=Zn) (o:= .cells #[.int .i64 0, .bool false, .slice none 0 0] 24 (0,0)) (by(with_reducible repeat(first|refine Yl ?_ _|refine Ym ?_|refine Yj ?_ _));exact Xi.out)):Zn≠Wf));have n9_:=Ya ((by rw[hg];exact Nat.ne_of_gt (blk_lt (g:=Zn) (o:= .cells #[.int .i64 0, .bool false, .slice none 0 0] 24 (0,0)) (by(with_reducible repeat(first|refine Yl ?_ _|refine Ym ?_|refine Yj ?_ _));exact Xi.out)):Wf≠Zn));clear Zi;clear Xi;clear HB;have Zi:=n0_;have Xi:=n1_;have HB:=n2_;have Zu:=n3_;have GW885:=n4_;have GE885:=n5_;have Ua:=n6_;have NB885_883:=n7_;have Wn:=n8_;have Xa:=n9_;clear n0_ n1_ n2_ n3_ n4_ n5_ n6_ n7_ n8_ n9_;clear hb Zf hg;have hnb8:=NB885_883.out;have hnc8:=Ua.out;have hnb9:=Xa.out;have hnc9:=Wn.out;have Uz:w7.cell? ⟨Wf,0,none⟩=some (.int .i64 0):=(Yc Zu.out 0).trans rfl;have Ja:w7.cell? ⟨Wf,1,none⟩=some (.bool false):=(Yc Zu.out 1).trans rfl;have Jb:w7.cell? ⟨Wf,2,none⟩=some (.slice none 0 0):=(Yc Zu.out 2).trans rfl;have Jc:=Yf Zu.out 0;have Jd:=Yf Zu.out 1;have Je:=Yf Zu.out 2))
 go_loopg [9] k (fun kq v9 w'=> ∃ (Zj:Int) (Wv:List (S74)) (u886002:Value),v9= .int .i64 Zj∧Aside0 (ebbtidelaw12_Read.l0 kq a1 Zj Zc Zb Za Xy Wl Wm (wrap64 (2+(Int.tmod (wrap64 (Zc)) 4))) Zb Wv=some (r1,r2,r3,r4,r5,r6))∧Aside0 (kq≤k)∧Aside0 (Kd.R k74 74 w' w.heap.size (fun _=>True) u886002 Wv)∧Aside0 (w'.heap[Zx]? =some (.cells #[.int .u8 Zc, .bool Zb,(.slice Ze Za.length Zd), .int .u8 Xy, .int .u8 Wl, .int .u8 Wm] 70 (0,0)))∧Aside0 (w'.heap[Zn]? =some (.cells #[.int .i64 0, .bool false,(.slice none 0 0)] 24 (0,0)))∧Aside0 (w'.heap[Wf]? =some (.cells #[.int .i64 (wrap64 (2+(Int.tmod (wrap64 (Zc)) 4))), .bool Zb,u886002] 24 (0,0)))∧Aside0 (Below w.heap.size w w'))
 case atStart=>exact⟨(0),(([]:List (S74))),(.slice none 0 0),(by first|rfl|(simp;done)|(simp[*];done)),H',⟨Nat.le_refl _⟩,⟨by first|exact Kd.R_nil _ _ _ _ _|exact Kd.N_nil _ _ _ _ _|exact Kd.V_nil _ _ _ _ _|exact Kd.Q_nil _ _ _ _ _|exact Kd.S_nil _ _ _ _ _⟩,⟨by(with_reducible repeat(first|refine Yl ?_ _|refine Ym ?_|refine Yj ?_ _));refine blk_far ?_ Ua.out _;(with_reducible repeat(first|refine Yl ?_ _|refine Ym ?_|refine Yj ?_ _));refine blk_far ?_ Ua.out _;(with_reducible repeat(first|refine Yl ?_ _|refine Ym ?_|refine Yj ?_ _));refine blk_far ?_ Ua.out _;(with_reducible repeat(first|refine Yl ?_ _|refine Ym ?_|refine Yj ?_ _));exact Zi.out⟩,⟨by(with_reducible repeat(first|refine Yl ?_ _|refine Ym ?_|refine Yj ?_ _));refine blk_far ?_ Wn.out _;(with_reducible repeat(first|refine Yl ?_ _|refine Ym ?_|refine Yj ?_ _));refine blk_far ?_ Wn.out _;(with_reducible repeat(first|refine Yl ?_ _|refine Ym ?_|refine Yj ?_ _));refine blk_far ?_ Wn.out _;(with_reducible repeat(first|refine Yl ?_ _|refine Ym ?_|refine Yj ?_ _));exact Xi.out⟩,⟨by(with_reducible repeat(first|refine Yl ?_ _|refine Ym ?_|refine Yj ?_ _));refine YA (cs:= #[.int .i64 (wrap64 (2+(Int.tmod (wrap64 (Zc)) 4))), .bool Zb, .slice none 0 0]) ?_ 2 _ rfl;(with_reducible repeat(first|refine Yl ?_ _|refine Ym ?_|refine Yj ?_ _));refine YA (cs:= #[.int .i64 (wrap64 (2+(Int.tmod (wrap64 (Zc)) 4))), .bool false, .slice none 0 0]) ?_ 1 _ rfl;(with_reducible repeat(first|refine Yl ?_ _|refine Ym ?_|refine Yj ?_ _));refine YA (cs:= #[.int .i64 0, .bool false, .slice none 0 0]) ?_ 0 _ rfl;(with_reducible repeat(first|refine Yl ?_ _|refine Ym ?_|refine Yj ?_ _));exact Zu.out⟩,⟨by repeat(first|(with_reducible first|exact HB.out|apply Ye|apply Yd|apply Yg|refine Yh ?_ Jj.out|refine Yh ?_ GE884.out|refine Yh ?_ GE885.out)|exact HB.out)⟩⟩
 case round=>
  clear H'
  try clear p2
  try clear c5
  try clear p6
  try clear c7
  try clear c8
  try clear c9
  try clear Uz
  try clear Ja
  try clear Jb
  try clear hcz6_0
  try clear hcz6_1
  try clear hcz6_2
  try clear hcz6_3
  try clear hcz6_4
  try clear hcz6_5
  try clear Jc
  try clear Jd
  try clear Je
  try clear hfz6_0
  try clear hfz6_1
  try clear hfz6_2
  try clear hfz6_3
  try clear hfz6_4
  try clear hfz6_5
  obtain⟨Zj,Wv,u886002,rfl,HA,HK1,HO_886002,Zi,Xi,Zu,HB⟩:=hrel
  cases gk with
  |zero=>exact absurd HA.out (by simp[ebbtidelaw12_Read.l0])
  |succ k1=>
   have H:=HA.out
   clear HA
   simp only[ebbtidelaw12_Read.l0] at H
   by_cases c11:Zj<(Za.length:Int)
   rotate_left
   ·rw[Yy c11] at H
    have c11b0:decide (Zj<(Za.length:Int))=false:=Yw c11
    clear c11
    by_cases c42:(wrap64 (2+(Int.tmod (wrap64 (Zc)) 4)))=0
    ·rw[Yx c42] at H
     exact absurd H (by simp)
    rw[Yy c42] at H
    have c42b0:((wrap64 (2+(Int.tmod (wrap64 (Zc)) 4))) == 0)=false:=beq_eq_false_iff_ne.mpr c42
    have c42b1:((wrap64 (2+(Int.tmod (wrap64 (Zc)) 4))) != 0)=true:=bne_iff_ne.mpr c42
    by_cases c43:(wrap64 ((wrap64 (2+(Int.tmod (wrap64 (Zc)) 4))) - 1))=0
    ·rw[Yx c43] at H
     exact absurd H (by simp)
    rw[Yy c43] at H
    have c43b0:((wrap64 ((wrap64 (2+(Int.tmod (wrap64 (Zc)) 4))) - 1)) == 0)=false:=beq_eq_false_iff_ne.mpr c43
    have c43b1:((wrap64 ((wrap64 (2+(Int.tmod (wrap64 (Zc)) 4))) - 1)) != 0)=true:=bne_iff_ne.mpr c43
    simp only[Option.some.injEq,Prod.mk.injEq] at H
    obtain⟨rfl,rfl,rfl,rfl,rfl,rfl⟩:=H
    have hnb44:=Zk.out
    have hnc44:=Vs.out
    have hnb45:=Ua.out
    have hnc45:=NB885_883.out
    have hcz46_0:wr.cell? ⟨Zx,0,none⟩=some (.int .u8 Zc):=(Yc Zi.out 0).trans rfl
    have hcz46_1:wr.cell? ⟨Zx,1,none⟩=some (.bool Zb):=(Yc Zi.out 1).trans rfl
    have hcz46_2:wr.cell? ⟨Zx,2,none⟩=some (.slice Ze Za.length Zd):=(Yc Zi.out 2).trans rfl
    have hcz46_3:wr.cell? ⟨Zx,3,none⟩=some (.int .u8 Xy):=(Yc Zi.out 3).trans rfl
    have hcz46_4:wr.cell? ⟨Zx,4,none⟩=some (.int .u8 Wl):=(Yc Zi.out 4).trans rfl
    have hcz46_5:wr.cell? ⟨Zx,5,none⟩=some (.int .u8 Wm):=(Yc Zi.out 5).trans rfl
    have hfz46_0:=Yf Zi.out 0
    have hfz46_1:=Yf Zi.out 1
    have hfz46_2:=Yf Zi.out 2
    have hfz46_3:=Yf Zi.out 3
    have hfz46_4:=Yf Zi.out 4
    have hfz46_5:=Yf Zi.out 5
    have hnb47:=Xa.out
    have hnc47:=Wn.out
    have hcz48_0:wr.cell? ⟨Wf,0,none⟩=some (.int .i64 (wrap64 (2+(Int.tmod (wrap64 (Zc)) 4)))):=(Yc Zu.out 0).trans rfl
    have hcz48_1:wr.cell? ⟨Wf,1,none⟩=some (.bool Zb):=(Yc Zu.out 1).trans rfl
    have hcz48_2:wr.cell? ⟨Wf,2,none⟩=some (u886002):=(Yc Zu.out 2).trans rfl
    have hfz48_0:=Yf Zu.out 0
    have hfz48_1:=Yf Zu.out 1
    have hfz48_2:=Yf Zu.out 2
    try go_wp2
    have n0_:=Ya (Yp HO_886002.out)
    have n1_:=Ya (Ym Zi.out)
    have n2_:=Ya (Ym Xi.out)
    have n3_:=Ya (Ym Zu.out)
    have n4_:=Ya (Yg HB.out)
    clear HO_886002
    clear Zi
    clear Xi
    clear Zu
    clear HB
    have HO_886002:=n0_
    have Zi:=n1_
    have Xi:=n2_
    have Zu:=n3_
    have HB:=n4_
    clear n0_ n1_ n2_ n3_ n4_
    refine start_ (n:=14) (S:=fun w'=>w'.cell? ⟨Zx,0,none⟩=some (.int .u8 Zc)∧w'.cell? ⟨Zx,1,none⟩=some (.bool Zb)∧w'.cell? ⟨Zx,2,none⟩=some (.slice Ze Za.length Zd)∧w'.cell? ⟨Zx,3,none⟩=some (.int .u8 Xy)∧w'.cell? ⟨Zx,4,none⟩=some (.int .u8 Wl)∧w'.cell? ⟨Zx,5,none⟩=some (.int .u8 Wm)∧w'.cell? ⟨Wf,0,none⟩=some (.int .i64 (wrap64 (2+(Int.tmod (wrap64 (Zc)) 4))))∧w'.cell? ⟨Wf,1,none⟩=some (.bool Zb)∧w'.cell? ⟨Wf,2,none⟩=some (u886002)) (ds:=[]) #[false,false,false,false,false,false,false,false,false,false,false,false,false,false] (by kernel_rfl) rfl rfl ⟨(Yc Zi.out 0).trans rfl,(Yc Zi.out 1).trans rfl,(Yc Zi.out 2).trans rfl,(Yc Zi.out 3).trans rfl,(Yc Zi.out 4).trans rfl,(Yc Zi.out 5).trans rfl,(Yc Zu.out 0).trans rfl,(Yc Zu.out 1).trans rfl,(Yc Zu.out 2).trans rfl⟩ (fun hHeld=> ?_);refine with_tabW ebbtidelaw12_Read.tab8 ebbtidelaw12_Read.bits8 (fun HT_ HW_=> ?_)
    generalize wr.drew=w49 at HO_886002 Zi Xi Zu HB hHeld ⊢
    refine pure_ (i:=0) (N:=some 70) (v:= ?_) (a':= ?_) #[true,false,false,false,false,false,false,false,false,false,false,false,false,false] rfl rfl (any_of HT_.out (by kernel_rfl)) (fun _ _ _ h=>h) (Or.inl ⟨by rfl,?_⟩) ?_ ?_
    rotate_left
    ·intro w'
     go_simp
     with_reducible rfl
    rotate_left
    ·simp only[Act.put,List.setIfInBounds_toArray,List.set_cons_zero,List.set_cons_succ,i64_w,i32_w]
     rfl
    refine pure_ (i:=1) (N:=some 71) (v:= ?_) (a':= ?_) #[true,true,false,false,false,false,false,false,false,false,false,false,false,false] rfl rfl (any_of HT_.out (by kernel_rfl)) (fun _ _ _ h=>h) (Or.inl ⟨by rfl,?_⟩) ?_ ?_
    rotate_left
    ·intro w'
     go_simp
     with_reducible rfl
    rotate_left
    ·simp only[Act.put,List.setIfInBounds_toArray,List.set_cons_zero,List.set_cons_succ,i64_w,i32_w]
     rfl
    refine pure_ (i:=2) (N:=some 72) (v:= ?_) (a':= ?_) #[true,true,true,false,false,false,false,false,false,false,false,false,false,false] rfl rfl (any_of HT_.out (by kernel_rfl)) (fun _ _ _ h=>h) (Or.inl ⟨by rfl,?_⟩) ?_ ?_
    rotate_left
    ·intro w'
     go_simp
     with_reducible rfl
    rotate_left
    ·simp only[Act.put,List.setIfInBounds_toArray,List.set_cons_zero,List.set_cons_succ,i64_w,i32_w]
     rfl
    refine pure_ (i:=5) (N:=some 75) (v:= ?_) (a':= ?_) #[true,true,true,false,false,true,false,false,false,false,false,false,false,false] rfl rfl (any_of HT_.out (by kernel_rfl)) (fun _ _ _ h=>h) (Or.inl ⟨by rfl,?_⟩) ?_ ?_
    rotate_left
    ·intro w'
     go_simp
     with_reducible rfl
    rotate_left
    ·simp only[Act.put,List.setIfInBounds_toArray,List.set_cons_zero,List.set_cons_succ,i64_w,i32_w]
     rfl
    refine pure_ (i:=10) (N:=some 80) (v:= ?_) (a':= ?_) #[true,true,true,false,false,true,false,false,false,false,true,false,false,false] rfl rfl (any_of HT_.out (by kernel_rfl)) (fun _ _ _ h=>h) (Or.inl ⟨by rfl,?_⟩) ?_ ?_
    rotate_left
    ·intro w'
     go_simp
     with_reducible rfl
    rotate_left
    ·simp only[Act.put,List.setIfInBounds_toArray,List.set_cons_zero,List.set_cons_succ,i64_w,i32_w]
     rfl
    refine take_ (i:=3) (N:=some 73) (v:= ?_) (a':= ?_) #[true,true,true,true,false,true,false,false,false,false,true,false,false,false] rfl rfl (take_ofW HT_.out HW_.out (by kernel_rfl)) (fun _ _ _ h=>h) (Or.inl ⟨by rfl,?_⟩) hHeld ?_ ?_
    rotate_left
    ·rintro w' ⟨s0,s1,s2,s3,s4,s5,s6,s7,s8⟩
     go_simp
     with_reducible rfl
    rotate_left
    ·simp only[Act.put,List.setIfInBounds_toArray,List.set_cons_zero,List.set_cons_succ,i64_w,i32_w]
     rfl
    refine pure_ (i:=4) (N:=some 74) (v:= ?_) (a':= ?_) #[true,true,true,true,true,true,false,false,false,false,true,false,false,false] rfl rfl (any_of HT_.out (by kernel_rfl)) (fun _ _ _ h=>h) (Or.inl ⟨by rfl,?_⟩) ?_ ?_
    rotate_left
    ·intro w'
     go_simp
     with_reducible rfl
    rotate_left
    ·simp only[Act.put,List.setIfInBounds_toArray,List.set_cons_zero,List.set_cons_succ,i64_w,i32_w]
     rfl
    refine take_ (i:=6) (N:=some 76) (v:= ?_) (a':= ?_) #[true,true,true,true,true,true,true,false,false,false,true,false,false,false] rfl rfl (take_ofW HT_.out HW_.out (by kernel_rfl)) (fun _ _ _ h=>h) (Or.inl ⟨by rfl,?_⟩) hHeld ?_ ?_
    rotate_left
    ·rintro w' ⟨s0,s1,s2,s3,s4,s5,s6,s7,s8⟩
     go_simp
     with_reducible rfl
    rotate_left
    ·simp only[Act.put,List.setIfInBounds_toArray,List.set_cons_zero,List.set_cons_succ,i64_w,i32_w]
     rfl
    refine pure_ (i:=7) (N:=some 77) (v:= ?_) (a':= ?_) #[true,true,true,true,true,true,true,true,false,false,true,false,false,false] rfl rfl (any_of HT_.out (by kernel_rfl)) (fun _ _ _ h=>h) (Or.inl ⟨by rfl,?_⟩) ?_ ?_
    rotate_left
    ·intro w'
     go_simp
     with_reducible rfl
    rotate_left
    ·simp only[Act.put,List.setIfInBounds_toArray,List.set_cons_zero,List.set_cons_succ,i64_w,i32_w]
     rfl
    refine pure_ (i:=8) (N:=some 78) (v:= ?_) (a':= ?_) #[true,true,true,true,true,true,true,true,true,false,true,false,false,false] rfl rfl (any_of HT_.out (by kernel_rfl)) (fun _ _ _ h=>h) (Or.inl ⟨by rfl,?_⟩) ?_ ?_
    rotate_left
    ·intro w'
     go_simp
     with_reducible rfl
    rotate_left
    ·simp only[Act.put,List.setIfInBounds_toArray,List.set_cons_zero,List.set_cons_succ,i64_w,i32_w]
     rfl
    refine pure_ (i:=9) (N:=some 79) (v:= ?_) (a':= ?_) #[true,true,true,true,true,true,true,true,true,true,true,false,false,false] rfl rfl (any_of HT_.out (by kernel_rfl)) (fun _ _ _ h=>h) (Or.inl ⟨by rfl,?_⟩) ?_ ?_
    rotate_left
    ·intro w'
     go_simp
     with_reducible rfl
    rotate_left
    ·simp only[Act.put,List.setIfInBounds_toArray,List.set_cons_zero,List.set_cons_succ,i64_w,i32_w]
     rfl
    refine take_ (i:=11) (N:=some 81) (v:= ?_) (a':= ?_) #[true,true,true,true,true,true,true,true,true,true,true,true,false,false] rfl rfl (take_ofW HT_.out HW_.out (by kernel_rfl)) (fun _ _ _ h=>h) (Or.inl ⟨by rfl,?_⟩) hHeld ?_ ?_
    rotate_left
    ·rintro w' ⟨s0,s1,s2,s3,s4,s5,s6,s7,s8⟩
     go_simp
     with_reducible rfl
    rotate_left
    ·simp only[Act.put,List.setIfInBounds_toArray,List.set_cons_zero,List.set_cons_succ,i64_w,i32_w]
     rfl
    refine pure_ (i:=12) (N:=some 82) (v:= ?_) (a':= ?_) #[true,true,true,true,true,true,true,true,true,true,true,true,true,false] rfl rfl (any_of HT_.out (by kernel_rfl)) (fun _ _ _ h=>h) (Or.inl ⟨by rfl,?_⟩) ?_ ?_
    rotate_left
    ·intro w'
     go_simp
     with_reducible rfl
    rotate_left
    ·simp only[Act.put,List.setIfInBounds_toArray,List.set_cons_zero,List.set_cons_succ,i64_w,i32_w]
     rfl
    refine pure_ (i:=13) (N:=some 12) (v:= ?_) (a':= ?_) #[true,true,true,true,true,true,true,true,true,true,true,true,true,true] rfl rfl (any_of HT_.out (by kernel_rfl)) (fun _ _ _ h=>h) (Or.inl ⟨by rfl,?_⟩) ?_ ?_
    rotate_left
    ·intro w'
     go_simp
     with_reducible rfl
    rotate_left
    ·simp only[Act.put,List.setIfInBounds_toArray,List.set_cons_zero,List.set_cons_succ,i64_w,i32_w]
     rfl
    refine done_ (done_of HT_.out (by kernel_rfl)) ?_
    try go_wp2
    have n0_:=Ya (Yp HO_886002.out)
    have n1_:=Ya (Ym Zi.out)
    have n2_:=Ya (Ym Xi.out)
    have n3_:=Ya (Ym Zu.out)
    have n4_:=Ya (Yg HB.out)
    clear HO_886002
    clear Zi
    clear Xi
    clear Zu
    clear HB
    have HO_886002:=n0_
    have Zi:=n1_
    have Xi:=n2_
    have Zu:=n3_
    have HB:=n4_
    clear n0_ n1_ n2_ n3_ n4_
    obtain⟨Ao53,co53,eo53⟩:=Kd.R_slice HO_886002.out
    (first|subst eo53|(injection eo53 with f1_ f2_ f3_;have f4_:=f1_.symm;have f5_:=f3_.symm;clear f1_ f2_ f3_;subst f4_;subst f5_))
    refine start_ (n:=11) (S:=fun w'=>w'.cell? ⟨Wf,0,none⟩=some (.int .i64 (wrap64 (2+(Int.tmod (wrap64 (Zc)) 4))))∧w'.cell? ⟨Wf,1,none⟩=some (.bool Zb)∧w'.cell? ⟨Wf,2,none⟩=some (.slice Ao53 Wv.length co53)∧w'.cell? ⟨Zx,0,none⟩=some (.int .u8 Zc)∧w'.cell? ⟨Zx,1,none⟩=some (.bool Zb)∧w'.cell? ⟨Zx,2,none⟩=some (.slice Ze Za.length Zd)∧w'.cell? ⟨Zx,3,none⟩=some (.int .u8 Xy)∧w'.cell? ⟨Zx,4,none⟩=some (.int .u8 Wl)∧w'.cell? ⟨Zx,5,none⟩=some (.int .u8 Wm)) (ds:=[]) #[false,false,false,false,false,false,false,false,false,false,false] (by kernel_rfl) rfl rfl ⟨(Yc Zu.out 0).trans rfl,(Yc Zu.out 1).trans rfl,(Yc Zu.out 2).trans rfl,(Yc Zi.out 0).trans rfl,(Yc Zi.out 1).trans rfl,(Yc Zi.out 2).trans rfl,(Yc Zi.out 3).trans rfl,(Yc Zi.out 4).trans rfl,(Yc Zi.out 5).trans rfl⟩ (fun hHeld=> ?_);refine with_tabW ebbtidelaw12_Read.tab9 ebbtidelaw12_Read.bits9 (fun HT_ HW_=> ?_)
    generalize w49.drew=w50 at HO_886002 Zi Xi Zu HB hHeld ⊢
    refine pure_ (i:=1) (N:=some 84) (v:= ?_) (a':= ?_) #[false,true,false,false,false,false,false,false,false,false,false] rfl rfl (any_of HT_.out (by kernel_rfl)) (fun _ _ _ h=>h) (Or.inl ⟨by rfl,?_⟩) ?_ ?_
    rotate_left
    ·intro w'
     go_simp
     with_reducible rfl
    rotate_left
    ·simp only[Act.put,List.setIfInBounds_toArray,List.set_cons_zero,List.set_cons_succ,i64_w,i32_w]
     rfl
    refine pure_ (i:=2) (N:=some 85) (v:= ?_) (a':= ?_) #[false,true,true,false,false,false,false,false,false,false,false] rfl rfl (any_of HT_.out (by kernel_rfl)) (fun _ _ _ h=>h) (Or.inl ⟨by rfl,?_⟩) ?_ ?_
    rotate_left
    ·intro w'
     go_simp
     with_reducible rfl
    rotate_left
    ·simp only[Act.put,List.setIfInBounds_toArray,List.set_cons_zero,List.set_cons_succ,i64_w,i32_w]
     rfl
    refine pure_ (i:=3) (N:=some 86) (v:= ?_) (a':= ?_) #[false,true,true,true,false,false,false,false,false,false,false] rfl rfl (any_of HT_.out (by kernel_rfl)) (fun _ _ _ h=>h) (Or.inl ⟨by rfl,?_⟩) ?_ ?_
    rotate_left
    ·intro w'
     go_simp
     with_reducible rfl
    rotate_left
    ·simp only[Act.put,List.setIfInBounds_toArray,List.set_cons_zero,List.set_cons_succ,i64_w,i32_w]
     rfl
    refine take_ (i:=0) (N:=some 83) (v:= ?_) (a':= ?_) #[true,true,true,true,false,false,false,false,false,false,false] rfl rfl (take_ofW HT_.out HW_.out (by kernel_rfl)) (fun _ _ _ h=>h) (Or.inl ⟨by rfl,?_⟩) hHeld ?_ ?_
    rotate_left
    ·rintro w' ⟨s0,s1,s2,s3,s4,s5,s6,s7,s8⟩
     go_simp
     with_reducible rfl
    rotate_left
    ·simp only[Act.put,List.setIfInBounds_toArray,List.set_cons_zero,List.set_cons_succ,i64_w,i32_w]
     rfl
    refine take_ (i:=4) (N:=some 87) (v:= ?_) (a':= ?_) #[true,true,true,true,true,false,false,false,false,false,false] rfl rfl (take_ofW HT_.out HW_.out (by kernel_rfl)) (fun _ _ _ h=>h) (Or.inl ⟨by rfl,?_⟩) hHeld ?_ ?_
    rotate_left
    ·rintro w' ⟨s0,s1,s2,s3,s4,s5,s6,s7,s8⟩
     go_simp
     with_reducible rfl
    rotate_left
    ·simp only[Act.put,List.setIfInBounds_toArray,List.set_cons_zero,List.set_cons_succ,i64_w,i32_w]
     rfl
    refine pure_ (i:=5) (N:=some 88) (v:= ?_) (a':= ?_) #[true,true,true,true,true,true,false,false,false,false,false] rfl rfl (any_of HT_.out (by kernel_rfl)) (fun _ _ _ h=>h) (Or.inl ⟨by rfl,?_⟩) ?_ ?_
    rotate_left
    ·intro w'
     go_simp
     with_reducible rfl
    rotate_left
    ·simp only[Act.put,List.setIfInBounds_toArray,List.set_cons_zero,List.set_cons_succ,i64_w,i32_w]
     rfl
    refine pure_ (i:=6) (N:=some 89) (v:= ?_) (a':= ?_) #[true,true,true,true,true,true,true,false,false,false,false] rfl rfl (any_of HT_.out (by kernel_rfl)) (fun _ _ _ h=>h) (Or.inl ⟨by rfl,?_⟩) ?_ ?_
    rotate_left
    ·intro w'
     go_simp
     with_reducible rfl
    rotate_left
    ·simp only[Act.put,List.setIfInBounds_toArray,List.set_cons_zero,List.set_cons_succ,i64_w,i32_w]
     rfl
    refine one_ (i:=7) (N:=none) #[true,true,true,true,true,true,true,true,false,false,false] rfl rfl (one_of HT_.out (by kernel_rfl)) (by decide) (fun K hK=> ?_)
    have hs51:w50.cell? ⟨Zn,0,none⟩=some (.int .i64 0):=(Yc Xi.out 0).trans rfl
    have hfs51:=Yf Xi.out 0
    have hns51_0:=Zk.out
    have hns51_2:=Xa.out
    have hms51_0:=Vs.out
    have hms51_2:=Wn.out
    have hs52:w50.cell? ⟨Zn,1,none⟩=some (.bool false):=(Yc Xi.out 1).trans rfl
    have hfs52:=Yf Xi.out 1
    have hns52_0:=Zk.out
    have hns52_2:=Xa.out
    have hms52_0:=Vs.out
    have hms52_2:=Wn.out
    have hs54:w50.cell? ⟨Zn,2,none⟩=some (.slice none 0 0):=(Yc Xi.out 2).trans rfl
    have hfs54:=Yf Xi.out 2
    have hns54_0:=Zk.out
    have hns54_2:=Xa.out
    have hms54_0:=Vs.out
    have hms54_2:=Wn.out
    refine skip_ (w1:= ?_) (by rfl) rfl ?_ ?_
    rotate_left
    ·go_simp
     rfl
    refine hK.out _ _ ⟨((cell_far (p:=⟨Zn,_,none⟩) Xa.out _).trans (((cell_far (p:=⟨Zn,_,none⟩) Xa.out _).trans (((cell_far (p:=⟨Zn,_,none⟩) Xa.out _).trans (hHeld.1)))))),((cell_far (p:=⟨Zn,_,none⟩) Xa.out _).trans (((cell_far (p:=⟨Zn,_,none⟩) Xa.out _).trans (((cell_far (p:=⟨Zn,_,none⟩) Xa.out _).trans (hHeld.2.1)))))),((cell_far (p:=⟨Zn,_,none⟩) Xa.out _).trans (((cell_far (p:=⟨Zn,_,none⟩) Xa.out _).trans (((cell_far (p:=⟨Zn,_,none⟩) Xa.out _).trans (hHeld.2.2.1)))))),((cell_far (p:=⟨Zn,_,none⟩) Zk.out _).trans (((cell_far (p:=⟨Zn,_,none⟩) Zk.out _).trans (((cell_far (p:=⟨Zn,_,none⟩) Zk.out _).trans (hHeld.2.2.2.1)))))),((cell_far (p:=⟨Zn,_,none⟩) Zk.out _).trans (((cell_far (p:=⟨Zn,_,none⟩) Zk.out _).trans (((cell_far (p:=⟨Zn,_,none⟩) Zk.out _).trans (hHeld.2.2.2.2.1)))))),((cell_far (p:=⟨Zn,_,none⟩) Zk.out _).trans (((cell_far (p:=⟨Zn,_,none⟩) Zk.out _).trans (((cell_far (p:=⟨Zn,_,none⟩) Zk.out _).trans (hHeld.2.2.2.2.2.1)))))),((cell_far (p:=⟨Zn,_,none⟩) Zk.out _).trans (((cell_far (p:=⟨Zn,_,none⟩) Zk.out _).trans (((cell_far (p:=⟨Zn,_,none⟩) Zk.out _).trans (hHeld.2.2.2.2.2.2.1)))))),((cell_far (p:=⟨Zn,_,none⟩) Zk.out _).trans (((cell_far (p:=⟨Zn,_,none⟩) Zk.out _).trans (((cell_far (p:=⟨Zn,_,none⟩) Zk.out _).trans (hHeld.2.2.2.2.2.2.2.1)))))),((cell_far (p:=⟨Zn,_,none⟩) Zk.out _).trans (((cell_far (p:=⟨Zn,_,none⟩) Zk.out _).trans (((cell_far (p:=⟨Zn,_,none⟩) Zk.out _).trans (hHeld.2.2.2.2.2.2.2.2))))))⟩ (fun hHeld=> ?_)
    clear hK K
    refine pure_ (i:=8) (N:=some 5) (v:= ?_) (a':= ?_) #[true,true,true,true,true,true,true,true,true,false,false] rfl rfl (any_of HT_.out (by kernel_rfl)) (fun _ _ _ h=>h) (Or.inl ⟨by rfl,?_⟩) ?_ ?_
    rotate_left
    ·intro w'
     go_simp
     with_reducible rfl
    rotate_left
    ·simp only[Act.put,List.setIfInBounds_toArray,List.set_cons_zero,List.set_cons_succ,i64_w,i32_w]
     rfl
    refine pure_ (i:=9) (N:=some 6) (v:= ?_) (a':= ?_) #[true,true,true,true,true,true,true,true,true,true,false] rfl rfl (any_of HT_.out (by kernel_rfl)) (fun _ _ _ h=>h) (Or.inl ⟨by rfl,?_⟩) ?_ ?_
    rotate_left
    ·intro w'
     go_simp
     with_reducible rfl
    rotate_left
    ·simp only[Act.put,List.setIfInBounds_toArray,List.set_cons_zero,List.set_cons_succ,i64_w,i32_w]
     rfl
    refine pure_ (i:=10) (N:=some 7) (v:= ?_) (a':= ?_) #[true,true,true,true,true,true,true,true,true,true,true] rfl rfl (any_of HT_.out (by kernel_rfl)) (fun _ _ _ h=>h) (Or.inl ⟨by rfl,?_⟩) ?_ ?_
    rotate_left
    ·intro w'
     go_simp
     with_reducible rfl
    rotate_left
    ·simp only[Act.put,List.setIfInBounds_toArray,List.set_cons_zero,List.set_cons_succ,i64_w,i32_w]
     rfl
    refine done_ (done_of HT_.out (by kernel_rfl)) ?_
    try go_wp2
    refine bodyPost_ret (results_list (rs:=[.cell 4 24, .tmp 5, .tmp 6, .tmp 7]) rfl (by simp) (.cell Zn 24 #[.int .i64 (wrap64 (2+(Int.tmod (wrap64 (Zc)) 4))), .bool Zb, .slice Ao53 Wv.length co53] (0,0) _ rfl (by(with_reducible repeat(first|refine Yl ?_ _|refine Ym ?_|refine Yj ?_ _));refine YA (cs:= #[.int .i64 (wrap64 (2+(Int.tmod (wrap64 (Zc)) 4))), .bool Zb, .slice none 0 0]) ?_ 2 _ rfl;(with_reducible repeat(first|refine Yl ?_ _|refine Ym ?_|refine Yj ?_ _));refine YA (cs:= #[.int .i64 (wrap64 (2+(Int.tmod (wrap64 (Zc)) 4))), .bool false, .slice none 0 0]) ?_ 1 _ rfl;(with_reducible repeat(first|refine Yl ?_ _|refine Ym ?_|refine Yj ?_ _));refine YA (cs:= #[.int .i64 0, .bool false, .slice none 0 0]) ?_ 0 _ rfl;(with_reducible repeat(first|refine Yl ?_ _|refine Ym ?_|refine Yj ?_ _));exact Xi.out) Try.underlying24 rfl (by kernel_rfl) (.tmp (.tmp (.tmp .nil))))) rfl ?_
    exact⟨_,by first|rfl|(simp[errW_none,errW_some]<;>rfl)|(simp[*,errW_none,errW_some]<;>rfl),by(with_reducible repeat(first|apply Yr|apply Yq|apply Yp));exact Kd.R_mono (Kd.R_far (p:=⟨Zn,2,none⟩) (Kd.R_far (p:=⟨Zn,1,none⟩) (Kd.R_far (p:=⟨Zn,0,none⟩) (Kd.R_types HO_886002.out Xi.out (by decide)) (fun _ hk=>hk.2) (.int .i64 (wrap64 (2+(Int.tmod (wrap64 (Zc)) 4))))) (fun _ hk=>hk.2) (.bool Zb)) (fun _ hk=>hk.2) (.slice Ao53 Wv.length co53)) (fun _ hk=>trivial),by repeat(first|(with_reducible first|exact HB.out|apply Ye|apply Yd|apply Yg|refine Yh ?_ Jj.out|refine Yh ?_ GE884.out|refine Yh ?_ GE885.out)|exact HB.out)⟩
   rw[Yx c11] at H
   have c11b0:decide (Zj<(Za.length:Int))=true:=Yv c11
   clear c11
   by_cases c12:Zj<a1
   rotate_left
   ·rw[Yy c12] at H
    have c12b0:decide (Zj<a1)=false:=Yw c12
    clear c12
    by_cases c29:(wrap64 (2+(Int.tmod (wrap64 (Zc)) 4)))=0
    ·rw[Yx c29] at H
     exact absurd H (by simp)
    rw[Yy c29] at H
    have c29b0:((wrap64 (2+(Int.tmod (wrap64 (Zc)) 4))) == 0)=false:=beq_eq_false_iff_ne.mpr c29
    have c29b1:((wrap64 (2+(Int.tmod (wrap64 (Zc)) 4))) != 0)=true:=bne_iff_ne.mpr c29
    by_cases c30:(wrap64 ((wrap64 (2+(Int.tmod (wrap64 (Zc)) 4))) - 1))=0
    ·rw[Yx c30] at H
     exact absurd H (by simp)
    rw[Yy c30] at H
    have c30b0:((wrap64 ((wrap64 (2+(Int.tmod (wrap64 (Zc)) 4))) - 1)) == 0)=false:=beq_eq_false_iff_ne.mpr c30
    have c30b1:((wrap64 ((wrap64 (2+(Int.tmod (wrap64 (Zc)) 4))) - 1)) != 0)=true:=bne_iff_ne.mpr c30
    simp only[Option.some.injEq,Prod.mk.injEq] at H
    obtain⟨rfl,rfl,rfl,rfl,rfl,rfl⟩:=H
    have hnb31:=Zk.out
    have hnc31:=Vs.out
    have hnb32:=Ua.out
    have hnc32:=NB885_883.out
    have hcz33_0:wr.cell? ⟨Zx,0,none⟩=some (.int .u8 Zc):=(Yc Zi.out 0).trans rfl
    have hcz33_1:wr.cell? ⟨Zx,1,none⟩=some (.bool Zb):=(Yc Zi.out 1).trans rfl
    have hcz33_2:wr.cell? ⟨Zx,2,none⟩=some (.slice Ze Za.length Zd):=(Yc Zi.out 2).trans rfl
    have hcz33_3:wr.cell? ⟨Zx,3,none⟩=some (.int .u8 Xy):=(Yc Zi.out 3).trans rfl
    have hcz33_4:wr.cell? ⟨Zx,4,none⟩=some (.int .u8 Wl):=(Yc Zi.out 4).trans rfl
    have hcz33_5:wr.cell? ⟨Zx,5,none⟩=some (.int .u8 Wm):=(Yc Zi.out 5).trans rfl
    have hfz33_0:=Yf Zi.out 0
    have hfz33_1:=Yf Zi.out 1
    have hfz33_2:=Yf Zi.out 2
    have hfz33_3:=Yf Zi.out 3
    have hfz33_4:=Yf Zi.out 4
    have hfz33_5:=Yf Zi.out 5
    have hnb34:=Xa.out
    have hnc34:=Wn.out
    have hcz35_0:wr.cell? ⟨Wf,0,none⟩=some (.int .i64 (wrap64 (2+(Int.tmod (wrap64 (Zc)) 4)))):=(Yc Zu.out 0).trans rfl
    have hcz35_1:wr.cell? ⟨Wf,1,none⟩=some (.bool Zb):=(Yc Zu.out 1).trans rfl
    have hcz35_2:wr.cell? ⟨Wf,2,none⟩=some (u886002):=(Yc Zu.out 2).trans rfl
    have hfz35_0:=Yf Zu.out 0
    have hfz35_1:=Yf Zu.out 1
    have hfz35_2:=Yf Zu.out 2
    try go_wp2
    have n0_:=Ya (Yp HO_886002.out)
    have n1_:=Ya (Ym Zi.out)
    have n2_:=Ya (Ym Xi.out)
    have n3_:=Ya (Ym Zu.out)
    have n4_:=Ya (Yg HB.out)
    clear HO_886002
    clear Zi
    clear Xi
    clear Zu
    clear HB
    have HO_886002:=n0_
    have Zi:=n1_
    have Xi:=n2_
    have Zu:=n3_
    have HB:=n4_
    clear n0_ n1_ n2_ n3_ n4_
    refine start_ (n:=14) (S:=fun w'=>w'.cell? ⟨Zx,0,none⟩=some (.int .u8 Zc)∧w'.cell? ⟨Zx,1,none⟩=some (.bool Zb)∧w'.cell? ⟨Zx,2,none⟩=some (.slice Ze Za.length Zd)∧w'.cell? ⟨Zx,3,none⟩=some (.int .u8 Xy)∧w'.cell? ⟨Zx,4,none⟩=some (.int .u8 Wl)∧w'.cell? ⟨Zx,5,none⟩=some (.int .u8 Wm)∧w'.cell? ⟨Wf,0,none⟩=some (.int .i64 (wrap64 (2+(Int.tmod (wrap64 (Zc)) 4))))∧w'.cell? ⟨Wf,1,none⟩=some (.bool Zb)∧w'.cell? ⟨Wf,2,none⟩=some (u886002)) (ds:=[]) #[false,false,false,false,false,false,false,false,false,false,false,false,false,false] (by kernel_rfl) rfl rfl ⟨(Yc Zi.out 0).trans rfl,(Yc Zi.out 1).trans rfl,(Yc Zi.out 2).trans rfl,(Yc Zi.out 3).trans rfl,(Yc Zi.out 4).trans rfl,(Yc Zi.out 5).trans rfl,(Yc Zu.out 0).trans rfl,(Yc Zu.out 1).trans rfl,(Yc Zu.out 2).trans rfl⟩ (fun hHeld=> ?_);refine with_tabW ebbtidelaw12_Read.tab8 ebbtidelaw12_Read.bits8 (fun HT_ HW_=> ?_)
    generalize wr.drew=w36 at HO_886002 Zi Xi Zu HB hHeld ⊢
    refine pure_ (i:=0) (N:=some 70) (v:= ?_) (a':= ?_) #[true,false,false,false,false,false,false,false,false,false,false,false,false,false] rfl rfl (any_of HT_.out (by kernel_rfl)) (fun _ _ _ h=>h) (Or.inl ⟨by rfl,?_⟩) ?_ ?_
    rotate_left
    ·intro w'
     go_simp
     with_reducible rfl
    rotate_left
    ·simp only[Act.put,List.setIfInBounds_toArray,List.set_cons_zero,List.set_cons_succ,i64_w,i32_w]
     rfl
    refine pure_ (i:=1) (N:=some 71) (v:= ?_) (a':= ?_) #[true,true,false,false,false,false,false,false,false,false,false,false,false,false] rfl rfl (any_of HT_.out (by kernel_rfl)) (fun _ _ _ h=>h) (Or.inl ⟨by rfl,?_⟩) ?_ ?_
    rotate_left
    ·intro w'
     go_simp
     with_reducible rfl
    rotate_left
    ·simp only[Act.put,List.setIfInBounds_toArray,List.set_cons_zero,List.set_cons_succ,i64_w,i32_w]
     rfl
    refine pure_ (i:=2) (N:=some 72) (v:= ?_) (a':= ?_) #[true,true,true,false,false,false,false,false,false,false,false,false,false,false] rfl rfl (any_of HT_.out (by kernel_rfl)) (fun _ _ _ h=>h) (Or.inl ⟨by rfl,?_⟩) ?_ ?_
    rotate_left
    ·intro w'
     go_simp
     with_reducible rfl
    rotate_left
    ·simp only[Act.put,List.setIfInBounds_toArray,List.set_cons_zero,List.set_cons_succ,i64_w,i32_w]
     rfl
    refine pure_ (i:=5) (N:=some 75) (v:= ?_) (a':= ?_) #[true,true,true,false,false,true,false,false,false,false,false,false,false,false] rfl rfl (any_of HT_.out (by kernel_rfl)) (fun _ _ _ h=>h) (Or.inl ⟨by rfl,?_⟩) ?_ ?_
    rotate_left
    ·intro w'
     go_simp
     with_reducible rfl
    rotate_left
    ·simp only[Act.put,List.setIfInBounds_toArray,List.set_cons_zero,List.set_cons_succ,i64_w,i32_w]
     rfl
    refine pure_ (i:=10) (N:=some 80) (v:= ?_) (a':= ?_) #[true,true,true,false,false,true,false,false,false,false,true,false,false,false] rfl rfl (any_of HT_.out (by kernel_rfl)) (fun _ _ _ h=>h) (Or.inl ⟨by rfl,?_⟩) ?_ ?_
    rotate_left
    ·intro w'
     go_simp
     with_reducible rfl
    rotate_left
    ·simp only[Act.put,List.setIfInBounds_toArray,List.set_cons_zero,List.set_cons_succ,i64_w,i32_w]
     rfl
    refine take_ (i:=3) (N:=some 73) (v:= ?_) (a':= ?_) #[true,true,true,true,false,true,false,false,false,false,true,false,false,false] rfl rfl (take_ofW HT_.out HW_.out (by kernel_rfl)) (fun _ _ _ h=>h) (Or.inl ⟨by rfl,?_⟩) hHeld ?_ ?_
    rotate_left
    ·rintro w' ⟨s0,s1,s2,s3,s4,s5,s6,s7,s8⟩
     go_simp
     with_reducible rfl
    rotate_left
    ·simp only[Act.put,List.setIfInBounds_toArray,List.set_cons_zero,List.set_cons_succ,i64_w,i32_w]
     rfl
    refine pure_ (i:=4) (N:=some 74) (v:= ?_) (a':= ?_) #[true,true,true,true,true,true,false,false,false,false,true,false,false,false] rfl rfl (any_of HT_.out (by kernel_rfl)) (fun _ _ _ h=>h) (Or.inl ⟨by rfl,?_⟩) ?_ ?_
    rotate_left
    ·intro w'
     go_simp
     with_reducible rfl
    rotate_left
    ·simp only[Act.put,List.setIfInBounds_toArray,List.set_cons_zero,List.set_cons_succ,i64_w,i32_w]
     rfl
    refine take_ (i:=6) (N:=some 76) (v:= ?_) (a':= ?_) #[true,true,true,true,true,true,true,false,false,false,true,false,false,false] rfl rfl (take_ofW HT_.out HW_.out (by kernel_rfl)) (fun _ _ _ h=>h) (Or.inl ⟨by rfl,?_⟩) hHeld ?_ ?_
    rotate_left
    ·rintro w' ⟨s0,s1,s2,s3,s4,s5,s6,s7,s8⟩
     go_simp
     with_reducible rfl
    rotate_left
    ·simp only[Act.put,List.setIfInBounds_toArray,List.set_cons_zero,List.set_cons_succ,i64_w,i32_w]
     rfl
    refine pure_ (i:=7) (N:=some 77) (v:= ?_) (a':= ?_) #[true,true,true,true,true,true,true,true,false,false,true,false,false,false] rfl rfl (any_of HT_.out (by kernel_rfl)) (fun _ _ _ h=>h) (Or.inl ⟨by rfl,?_⟩) ?_ ?_
    rotate_left
    ·intro w'
     go_simp
     with_reducible rfl
    rotate_left
    ·simp only[Act.put,List.setIfInBounds_toArray,List.set_cons_zero,List.set_cons_succ,i64_w,i32_w]
     rfl
    refine pure_ (i:=8) (N:=some 78) (v:= ?_) (a':= ?_) #[true,true,true,true,true,true,true,true,true,false,true,false,false,false] rfl rfl (any_of HT_.out (by kernel_rfl)) (fun _ _ _ h=>h) (Or.inl ⟨by rfl,?_⟩) ?_ ?_
    rotate_left
    ·intro w'
     go_simp
     with_reducible rfl
    rotate_left
    ·simp only[Act.put,List.setIfInBounds_toArray,List.set_cons_zero,List.set_cons_succ,i64_w,i32_w]
     rfl
    refine pure_ (i:=9) (N:=some 79) (v:= ?_) (a':= ?_) #[true,true,true,true,true,true,true,true,true,true,true,false,false,false] rfl rfl (any_of HT_.out (by kernel_rfl)) (fun _ _ _ h=>h) (Or.inl ⟨by rfl,?_⟩) ?_ ?_
    rotate_left
    ·intro w'
     go_simp
     with_reducible rfl
    rotate_left
    ·simp only[Act.put,List.setIfInBounds_toArray,List.set_cons_zero,List.set_cons_succ,i64_w,i32_w]
     rfl
    refine take_ (i:=11) (N:=some 81) (v:= ?_) (a':= ?_) #[true,true,true,true,true,true,true,true,true,true,true,true,false,false] rfl rfl (take_ofW HT_.out HW_.out (by kernel_rfl)) (fun _ _ _ h=>h) (Or.inl ⟨by rfl,?_⟩) hHeld ?_ ?_
    rotate_left
    ·rintro w' ⟨s0,s1,s2,s3,s4,s5,s6,s7,s8⟩
     go_simp
     with_reducible rfl
    rotate_left
    ·simp only[Act.put,List.setIfInBounds_toArray,List.set_cons_zero,List.set_cons_succ,i64_w,i32_w]
     rfl
    refine pure_ (i:=12) (N:=some 82) (v:= ?_) (a':= ?_) #[true,true,true,true,true,true,true,true,true,true,true,true,true,false] rfl rfl (any_of HT_.out (by kernel_rfl)) (fun _ _ _ h=>h) (Or.inl ⟨by rfl,?_⟩) ?_ ?_
    rotate_left
    ·intro w'
     go_simp
     with_reducible rfl
    rotate_left
    ·simp only[Act.put,List.setIfInBounds_toArray,List.set_cons_zero,List.set_cons_succ,i64_w,i32_w]
     rfl
    refine pure_ (i:=13) (N:=some 12) (v:= ?_) (a':= ?_) #[true,true,true,true,true,true,true,true,true,true,true,true,true,true] rfl rfl (any_of HT_.out (by kernel_rfl)) (fun _ _ _ h=>h) (Or.inl ⟨by rfl,?_⟩) ?_ ?_
    rotate_left
    ·intro w'
     go_simp
     with_reducible rfl
    rotate_left
    ·simp only[Act.put,List.setIfInBounds_toArray,List.set_cons_zero,List.set_cons_succ,i64_w,i32_w]
     rfl
    refine done_ (done_of HT_.out (by kernel_rfl)) ?_
    try go_wp2
    have n0_:=Ya (Yp HO_886002.out)
    have n1_:=Ya (Ym Zi.out)
    have n2_:=Ya (Ym Xi.out)
    have n3_:=Ya (Ym Zu.out)
    have n4_:=Ya (Yg HB.out)
    clear HO_886002
    clear Zi
    clear Xi
    clear Zu
    clear HB
    have HO_886002:=n0_
    have Zi:=n1_
    have Xi:=n2_
    have Zu:=n3_
    have HB:=n4_
    clear n0_ n1_ n2_ n3_ n4_
    obtain⟨Ao40,co40,eo40⟩:=Kd.R_slice HO_886002.out
    (first|subst eo40|(injection eo40 with f1_ f2_ f3_;have f4_:=f1_.symm;have f5_:=f3_.symm;clear f1_ f2_ f3_;subst f4_;subst f5_))
    refine start_ (n:=11) (S:=fun w'=>w'.cell? ⟨Wf,0,none⟩=some (.int .i64 (wrap64 (2+(Int.tmod (wrap64 (Zc)) 4))))∧w'.cell? ⟨Wf,1,none⟩=some (.bool Zb)∧w'.cell? ⟨Wf,2,none⟩=some (.slice Ao40 Wv.length co40)∧w'.cell? ⟨Zx,0,none⟩=some (.int .u8 Zc)∧w'.cell? ⟨Zx,1,none⟩=some (.bool Zb)∧w'.cell? ⟨Zx,2,none⟩=some (.slice Ze Za.length Zd)∧w'.cell? ⟨Zx,3,none⟩=some (.int .u8 Xy)∧w'.cell? ⟨Zx,4,none⟩=some (.int .u8 Wl)∧w'.cell? ⟨Zx,5,none⟩=some (.int .u8 Wm)) (ds:=[]) #[false,false,false,false,false,false,false,false,false,false,false] (by kernel_rfl) rfl rfl ⟨(Yc Zu.out 0).trans rfl,(Yc Zu.out 1).trans rfl,(Yc Zu.out 2).trans rfl,(Yc Zi.out 0).trans rfl,(Yc Zi.out 1).trans rfl,(Yc Zi.out 2).trans rfl,(Yc Zi.out 3).trans rfl,(Yc Zi.out 4).trans rfl,(Yc Zi.out 5).trans rfl⟩ (fun hHeld=> ?_);refine with_tabW ebbtidelaw12_Read.tab9 ebbtidelaw12_Read.bits9 (fun HT_ HW_=> ?_)
    generalize w36.drew=w37 at HO_886002 Zi Xi Zu HB hHeld ⊢
    refine pure_ (i:=1) (N:=some 84) (v:= ?_) (a':= ?_) #[false,true,false,false,false,false,false,false,false,false,false] rfl rfl (any_of HT_.out (by kernel_rfl)) (fun _ _ _ h=>h) (Or.inl ⟨by rfl,?_⟩) ?_ ?_
    rotate_left
    ·intro w'
     go_simp
     with_reducible rfl
    rotate_left
    ·simp only[Act.put,List.setIfInBounds_toArray,List.set_cons_zero,List.set_cons_succ,i64_w,i32_w]
     rfl
    refine pure_ (i:=2) (N:=some 85) (v:= ?_) (a':= ?_) #[false,true,true,false,false,false,false,false,false,false,false] rfl rfl (any_of HT_.out (by kernel_rfl)) (fun _ _ _ h=>h) (Or.inl ⟨by rfl,?_⟩) ?_ ?_
    rotate_left
    ·intro w'
     go_simp
     with_reducible rfl
    rotate_left
    ·simp only[Act.put,List.setIfInBounds_toArray,List.set_cons_zero,List.set_cons_succ,i64_w,i32_w]
     rfl
    refine pure_ (i:=3) (N:=some 86) (v:= ?_) (a':= ?_) #[false,true,true,true,false,false,false,false,false,false,false] rfl rfl (any_of HT_.out (by kernel_rfl)) (fun _ _ _ h=>h) (Or.inl ⟨by rfl,?_⟩) ?_ ?_
    rotate_left
    ·intro w'
     go_simp
     with_reducible rfl
    rotate_left
    ·simp only[Act.put,List.setIfInBounds_toArray,List.set_cons_zero,List.set_cons_succ,i64_w,i32_w]
     rfl
    refine take_ (i:=0) (N:=some 83) (v:= ?_) (a':= ?_) #[true,true,true,true,false,false,false,false,false,false,false] rfl rfl (take_ofW HT_.out HW_.out (by kernel_rfl)) (fun _ _ _ h=>h) (Or.inl ⟨by rfl,?_⟩) hHeld ?_ ?_
    rotate_left
    ·rintro w' ⟨s0,s1,s2,s3,s4,s5,s6,s7,s8⟩
     go_simp
     with_reducible rfl
    rotate_left
    ·simp only[Act.put,List.setIfInBounds_toArray,List.set_cons_zero,List.set_cons_succ,i64_w,i32_w]
     rfl
    refine take_ (i:=4) (N:=some 87) (v:= ?_) (a':= ?_) #[true,true,true,true,true,false,false,false,false,false,false] rfl rfl (take_ofW HT_.out HW_.out (by kernel_rfl)) (fun _ _ _ h=>h) (Or.inl ⟨by rfl,?_⟩) hHeld ?_ ?_
    rotate_left
    ·rintro w' ⟨s0,s1,s2,s3,s4,s5,s6,s7,s8⟩
     go_simp
     with_reducible rfl
    rotate_left
    ·simp only[Act.put,List.setIfInBounds_toArray,List.set_cons_zero,List.set_cons_succ,i64_w,i32_w]
     rfl
    refine pure_ (i:=5) (N:=some 88) (v:= ?_) (a':= ?_) #[true,true,true,true,true,true,false,false,false,false,false] rfl rfl (any_of HT_.out (by kernel_rfl)) (fun _ _ _ h=>h) (Or.inl ⟨by rfl,?_⟩) ?_ ?_
    rotate_left
    ·intro w'
     go_simp
     with_reducible rfl
    rotate_left
    ·simp only[Act.put,List.setIfInBounds_toArray,List.set_cons_zero,List.set_cons_succ,i64_w,i32_w]
     rfl
    refine pure_ (i:=6) (N:=some 89) (v:= ?_) (a':= ?_) #[true,true,true,true,true,true,true,false,false,false,false] rfl rfl (any_of HT_.out (by kernel_rfl)) (fun _ _ _ h=>h) (Or.inl ⟨by rfl,?_⟩) ?_ ?_
    rotate_left
    ·intro w'
     go_simp
     with_reducible rfl
    rotate_left
    ·simp only[Act.put,List.setIfInBounds_toArray,List.set_cons_zero,List.set_cons_succ,i64_w,i32_w]
     rfl
    refine one_ (i:=7) (N:=none) #[true,true,true,true,true,true,true,true,false,false,false] rfl rfl (one_of HT_.out (by kernel_rfl)) (by decide) (fun K hK=> ?_)
    have hs38:w37.cell? ⟨Zn,0,none⟩=some (.int .i64 0):=(Yc Xi.out 0).trans rfl
    have hfs38:=Yf Xi.out 0
    have hns38_0:=Zk.out
    have hns38_2:=Xa.out
    have hms38_0:=Vs.out
    have hms38_2:=Wn.out
    have hs39:w37.cell? ⟨Zn,1,none⟩=some (.bool false):=(Yc Xi.out 1).trans rfl
    have hfs39:=Yf Xi.out 1
    have hns39_0:=Zk.out
    have hns39_2:=Xa.out
    have hms39_0:=Vs.out
    have hms39_2:=Wn.out
    have hs41:w37.cell? ⟨Zn,2,none⟩=some (.slice none 0 0):=(Yc Xi.out 2).trans rfl
    have hfs41:=Yf Xi.out 2
    have hns41_0:=Zk.out
    have hns41_2:=Xa.out
    have hms41_0:=Vs.out
    have hms41_2:=Wn.out
    refine skip_ (w1:= ?_) (by rfl) rfl ?_ ?_
    rotate_left
    ·go_simp
     rfl
    refine hK.out _ _ ⟨((cell_far (p:=⟨Zn,_,none⟩) Xa.out _).trans (((cell_far (p:=⟨Zn,_,none⟩) Xa.out _).trans (((cell_far (p:=⟨Zn,_,none⟩) Xa.out _).trans (hHeld.1)))))),((cell_far (p:=⟨Zn,_,none⟩) Xa.out _).trans (((cell_far (p:=⟨Zn,_,none⟩) Xa.out _).trans (((cell_far (p:=⟨Zn,_,none⟩) Xa.out _).trans (hHeld.2.1)))))),((cell_far (p:=⟨Zn,_,none⟩) Xa.out _).trans (((cell_far (p:=⟨Zn,_,none⟩) Xa.out _).trans (((cell_far (p:=⟨Zn,_,none⟩) Xa.out _).trans (hHeld.2.2.1)))))),((cell_far (p:=⟨Zn,_,none⟩) Zk.out _).trans (((cell_far (p:=⟨Zn,_,none⟩) Zk.out _).trans (((cell_far (p:=⟨Zn,_,none⟩) Zk.out _).trans (hHeld.2.2.2.1)))))),((cell_far (p:=⟨Zn,_,none⟩) Zk.out _).trans (((cell_far (p:=⟨Zn,_,none⟩) Zk.out _).trans (((cell_far (p:=⟨Zn,_,none⟩) Zk.out _).trans (hHeld.2.2.2.2.1)))))),((cell_far (p:=⟨Zn,_,none⟩) Zk.out _).trans (((cell_far (p:=⟨Zn,_,none⟩) Zk.out _).trans (((cell_far (p:=⟨Zn,_,none⟩) Zk.out _).trans (hHeld.2.2.2.2.2.1)))))),((cell_far (p:=⟨Zn,_,none⟩) Zk.out _).trans (((cell_far (p:=⟨Zn,_,none⟩) Zk.out _).trans (((cell_far (p:=⟨Zn,_,none⟩) Zk.out _).trans (hHeld.2.2.2.2.2.2.1)))))),((cell_far (p:=⟨Zn,_,none⟩) Zk.out _).trans (((cell_far (p:=⟨Zn,_,none⟩) Zk.out _).trans (((cell_far (p:=⟨Zn,_,none⟩) Zk.out _).trans (hHeld.2.2.2.2.2.2.2.1)))))),((cell_far (p:=⟨Zn,_,none⟩) Zk.out _).trans (((cell_far (p:=⟨Zn,_,none⟩) Zk.out _).trans (((cell_far (p:=⟨Zn,_,none⟩) Zk.out _).trans (hHeld.2.2.2.2.2.2.2.2))))))⟩ (fun hHeld=> ?_)
    clear hK K
    refine pure_ (i:=8) (N:=some 5) (v:= ?_) (a':= ?_) #[true,true,true,true,true,true,true,true,true,false,false] rfl rfl (any_of HT_.out (by kernel_rfl)) (fun _ _ _ h=>h) (Or.inl ⟨by rfl,?_⟩) ?_ ?_
    rotate_left
    ·intro w'
     go_simp
     with_reducible rfl
    rotate_left
    ·simp only[Act.put,List.setIfInBounds_toArray,List.set_cons_zero,List.set_cons_succ,i64_w,i32_w]
     rfl
    refine pure_ (i:=9) (N:=some 6) (v:= ?_) (a':= ?_) #[true,true,true,true,true,true,true,true,true,true,false] rfl rfl (any_of HT_.out (by kernel_rfl)) (fun _ _ _ h=>h) (Or.inl ⟨by rfl,?_⟩) ?_ ?_
    rotate_left
    ·intro w'
     go_simp
     with_reducible rfl
    rotate_left
    ·simp only[Act.put,List.setIfInBounds_toArray,List.set_cons_zero,List.set_cons_succ,i64_w,i32_w]
     rfl
    refine pure_ (i:=10) (N:=some 7) (v:= ?_) (a':= ?_) #[true,true,true,true,true,true,true,true,true,true,true] rfl rfl (any_of HT_.out (by kernel_rfl)) (fun _ _ _ h=>h) (Or.inl ⟨by rfl,?_⟩) ?_ ?_
    rotate_left
    ·intro w'
     go_simp
     with_reducible rfl
    rotate_left
    ·simp only[Act.put,List.setIfInBounds_toArray,List.set_cons_zero,List.set_cons_succ,i64_w,i32_w]
     rfl
    refine done_ (done_of HT_.out (by kernel_rfl)) ?_
    try go_wp2
    refine bodyPost_ret (results_list (rs:=[.cell 4 24, .tmp 5, .tmp 6, .tmp 7]) rfl (by simp) (.cell Zn 24 #[.int .i64 (wrap64 (2+(Int.tmod (wrap64 (Zc)) 4))), .bool Zb, .slice Ao40 Wv.length co40] (0,0) _ rfl (by(with_reducible repeat(first|refine Yl ?_ _|refine Ym ?_|refine Yj ?_ _));refine YA (cs:= #[.int .i64 (wrap64 (2+(Int.tmod (wrap64 (Zc)) 4))), .bool Zb, .slice none 0 0]) ?_ 2 _ rfl;(with_reducible repeat(first|refine Yl ?_ _|refine Ym ?_|refine Yj ?_ _));refine YA (cs:= #[.int .i64 (wrap64 (2+(Int.tmod (wrap64 (Zc)) 4))), .bool false, .slice none 0 0]) ?_ 1 _ rfl;(with_reducible repeat(first|refine Yl ?_ _|refine Ym ?_|refine Yj ?_ _));refine YA (cs:= #[.int .i64 0, .bool false, .slice none 0 0]) ?_ 0 _ rfl;(with_reducible repeat(first|refine Yl ?_ _|refine Ym ?_|refine Yj ?_ _));exact Xi.out) Try.underlying24 rfl (by kernel_rfl) (.tmp (.tmp (.tmp .nil))))) rfl ?_
    exact⟨_,by first|rfl|(simp[errW_none,errW_some]<;>rfl)|(simp[*,errW_none,errW_some]<;>rfl),by(with_reducible repeat(first|apply Yr|apply Yq|apply Yp));exact Kd.R_mono (Kd.R_far (p:=⟨Zn,2,none⟩) (Kd.R_far (p:=⟨Zn,1,none⟩) (Kd.R_far (p:=⟨Zn,0,none⟩) (Kd.R_types HO_886002.out Xi.out (by decide)) (fun _ hk=>hk.2) (.int .i64 (wrap64 (2+(Int.tmod (wrap64 (Zc)) 4))))) (fun _ hk=>hk.2) (.bool Zb)) (fun _ hk=>hk.2) (.slice Ao40 Wv.length co40)) (fun _ hk=>trivial),by repeat(first|(with_reducible first|exact HB.out|apply Ye|apply Yd|apply Yg|refine Yh ?_ Jj.out|refine Yh ?_ GE884.out|refine Yh ?_ GE885.out)|exact HB.out)⟩
   rw[Yx c12] at H
   have c12b0:decide (Zj<a1)=true:=Yv c12
   clear c12
   by_cases c13:0≤Zj
   rotate_left
   ·rw[Yy c13] at H
    exact absurd H (by simp)
   rw[Yx c13] at H
   have c13b0:decide (0≤Zj)=true:=Yv c13
   clear c13
   by_cases c14:(wrap64 (2+(Int.tmod (wrap64 (Zc)) 4)))=0
   ·rw[Yx c14] at H
    exact absurd H (by simp)
   rw[Yy c14] at H
   have c14b0:((wrap64 (2+(Int.tmod (wrap64 (Zc)) 4))) == 0)=false:=beq_eq_false_iff_ne.mpr c14
   have c14b1:((wrap64 (2+(Int.tmod (wrap64 (Zc)) 4))) != 0)=true:=bne_iff_ne.mpr c14
   by_cases c15:Wv.length<4398046511104
   rotate_left
   ·rw[Yy c15] at H
    exact absurd H (by simp)
   rw[Yx c15] at H
   have LMc15:=Ya c15
   clear c15
   obtain⟨y888,hy888⟩: ∃ y_:List (S74),y_=(Wv ++ [(⟨Int.tmod (wrap64 ((rd_T135 Za Zj).f0)) (wrap64 (2+(Int.tmod (wrap64 (Zc)) 4))),Int.tmod (wrap64 ((rd_T135 Za Zj).f1)) (wrap64 (2+(Int.tmod (wrap64 (Zc)) 4))),Int.tmod (wrap64 ((rd_T135 Za Zj).f2)) 6,Int.tmod (wrap64 ((rd_T135 Za Zj).f3)) 4⟩:S74)]):=⟨_,rfl⟩
   replace H:(ebbtidelaw12_Read.l0 k1 a1 (wrap64 (Zj+1)) Zc Zb Za Xy Wl Wm (wrap64 (2+(Int.tmod (wrap64 (Zc)) 4))) Zb y888)=some (r1,r2,r3,r4,r5,r6):=by first|(rw[hy888];with_reducible exact H)|(have H2_:=(Option.bind_some _ _).symm.trans H;rw[hy888];with_reducible exact H2_)|(have H2_:=(Option.bind_some _ _).symm.trans H;with_reducible exact H2_)|with_reducible exact H|(rw[hy888];exact H)|exact H
   have Ny888:=Ya hy888
   clear hy888
   have H':=Ya H
   clear H
   have hnb16:=Zk.out
   have hnc16:=Vs.out
   have hnb17:=Ua.out
   have hnc17:=NB885_883.out
   have hcz18_0:wr.cell? ⟨Zx,0,none⟩=some (.int .u8 Zc):=(Yc Zi.out 0).trans rfl
   have hcz18_1:wr.cell? ⟨Zx,1,none⟩=some (.bool Zb):=(Yc Zi.out 1).trans rfl
   have hcz18_2:wr.cell? ⟨Zx,2,none⟩=some (.slice Ze Za.length Zd):=(Yc Zi.out 2).trans rfl
   have hcz18_3:wr.cell? ⟨Zx,3,none⟩=some (.int .u8 Xy):=(Yc Zi.out 3).trans rfl
   have hcz18_4:wr.cell? ⟨Zx,4,none⟩=some (.int .u8 Wl):=(Yc Zi.out 4).trans rfl
   have hcz18_5:wr.cell? ⟨Zx,5,none⟩=some (.int .u8 Wm):=(Yc Zi.out 5).trans rfl
   have hfz18_0:=Yf Zi.out 0
   have hfz18_1:=Yf Zi.out 1
   have hfz18_2:=Yf Zi.out 2
   have hfz18_3:=Yf Zi.out 3
   have hfz18_4:=Yf Zi.out 4
   have hfz18_5:=Yf Zi.out 5
   have p886:0≤(Zj:Int):=Yu (by first|(with_reducible assumption)|assumption)
   have q886:Zj<(Za.length:Int):=Yu (by first|(with_reducible assumption)|assumption)
   obtain⟨ad886,e886,hx886_0,hx886_1,hx886_2,hx886_3⟩:=at_T135 Zl.out Zj p886 q886
   cases e886
   replace hx886_0:=(HB.out.cell (Yb w _ hx886_0)).trans hx886_0
   replace hx886_1:=(HB.out.cell (Yb w _ hx886_1)).trans hx886_1
   replace hx886_2:=(HB.out.cell (Yb w _ hx886_2)).trans hx886_2
   replace hx886_3:=(HB.out.cell (Yb w _ hx886_3)).trans hx886_3
   replace p886:=eq_true p886
   replace q886:=eq_true q886
   try go_wp2_with (first|((with_reducible refine gate_dst (N:=10) rfl ?_);refine Yz ?hg (N:=10) ?hd (cs:= #[.int .u8 0, .int .u8 0, .int .u8 0, .int .u8 0]) (t:=135) ?hr ?_;(case hd=>rfl);(case hg=>rfl);(case hr=>first|(go_simp;done)|(go_simp;rfl));intro Xp hg w19 Zf hb;have n0_:=Ya (Ys (by(with_reducible repeat(first|apply Yr|apply Yq|apply Yp));exact HO_886002.out) hb);have n1_:=Ya (Yn (g:=Zx) (o:= .cells #[.int .u8 Zc, .bool Zb, .slice (some ad886) Za.length Zd, .int .u8 Xy, .int .u8 Wl, .int .u8 Wm] 70 (0,0)) (by(with_reducible repeat(first|refine Yl ?_ _|refine Ym ?_|refine Yj ?_ _));exact Zi.out) hb);have n2_:=Ya (Yn (g:=Zn) (o:= .cells #[.int .i64 0, .bool false, .slice none 0 0] 24 (0,0)) (by(with_reducible repeat(first|refine Yl ?_ _|refine Ym ?_|refine Yj ?_ _));exact Xi.out) hb);have n3_:=Ya (Yn (g:=Wf) (o:= .cells #[.int .i64 (wrap64 (2+(Int.tmod (wrap64 (Zc)) 4))), .bool Zb,u886002] 24 (0,0)) (by(with_reducible repeat(first|refine Yl ?_ _|refine Ym ?_|refine Yj ?_ _));exact Zu.out) hb);have n4_:=Ya (Yk (by repeat(first|(with_reducible first|exact HB.out|apply Ye|apply Yd|apply Yg|refine Yh ?_ Jj.out|refine Yh ?_ GE884.out|refine Yh ?_ GE885.out)|exact HB.out)) hb);have n5_:=Ya (Zf);have n6_:=Ya ((by rw[hg];exact(Yi (by repeat(first|(with_reducible first|exact HB.out|apply Ye|apply Yd|apply Yg|refine Yh ?_ Jj.out|refine Yh ?_ GE884.out|refine Yh ?_ GE885.out)|exact HB.out))):w.heap.size≤Xp));have n7_:=Ya ((by rw[hg];exact(Yi (by repeat(first|(with_reducible first|exact HB.out|apply Ye|apply Yd|apply Yg|refine Yh ?_ Jj.out|refine Yh ?_ GE884.out|refine Yh ?_ GE885.out)|exact HB.out))):w.heap.size≤Xp));have n8_:=Ya ((by rw[hg];exact Nat.ne_of_lt (blk_lt (g:=Zx) (o:= .cells #[.int .u8 Zc, .bool Zb, .slice (some ad886) Za.length Zd, .int .u8 Xy, .int .u8 Wl, .int .u8 Wm] 70 (0,0)) (by(with_reducible repeat(first|refine Yl ?_ _|refine Ym ?_|refine Yj ?_ _));exact Zi.out)):Zx≠Xp));have n9_:=Ya ((by rw[hg];exact Nat.ne_of_gt (blk_lt (g:=Zx) (o:= .cells #[.int .u8 Zc, .bool Zb, .slice (some ad886) Za.length Zd, .int .u8 Xy, .int .u8 Wl, .int .u8 Wm] 70 (0,0)) (by(with_reducible repeat(first|refine Yl ?_ _|refine Ym ?_|refine Yj ?_ _));exact Zi.out)):Xp≠Zx));have n10_:=Ya ((by rw[hg];exact Nat.ne_of_lt (blk_lt (g:=Zn) (o:= .cells #[.int .i64 0, .bool false, .slice none 0 0] 24 (0,0)) (by(with_reducible repeat(first|refine Yl ?_ _|refine Ym ?_|refine Yj ?_ _));exact Xi.out)):Zn≠Xp));have n11_:=Ya ((by rw[hg];exact Nat.ne_of_gt (blk_lt (g:=Zn) (o:= .cells #[.int .i64 0, .bool false, .slice none 0 0] 24 (0,0)) (by(with_reducible repeat(first|refine Yl ?_ _|refine Ym ?_|refine Yj ?_ _));exact Xi.out)):Xp≠Zn));have n12_:=Ya ((by rw[hg];exact Nat.ne_of_lt (blk_lt (g:=Wf) (o:= .cells #[.int .i64 (wrap64 (2+(Int.tmod (wrap64 (Zc)) 4))), .bool Zb,u886002] 24 (0,0)) (by(with_reducible repeat(first|refine Yl ?_ _|refine Ym ?_|refine Yj ?_ _));exact Zu.out)):Wf≠Xp));have n13_:=Ya ((by rw[hg];exact Nat.ne_of_gt (blk_lt (g:=Wf) (o:= .cells #[.int .i64 (wrap64 (2+(Int.tmod (wrap64 (Zc)) 4))), .bool Zb,u886002] 24 (0,0)) (by(with_reducible repeat(first|refine Yl ?_ _|refine Ym ?_|refine Yj ?_ _));exact Zu.out)):Xp≠Wf));clear HO_886002;clear Zi;clear Xi;clear Zu;clear HB;have HO_886002:=n0_;have Zi:=n1_;have Xi:=n2_;have Zu:=n3_;have HB:=n4_;have Wu:=n5_;have GW887:=n6_;have GE887:=n7_;have NB883_887:=n8_;have NB887_883:=n9_;have NB884_887:=n10_;have NB887_884:=n11_;have Jq:=n12_;have NB887_885:=n13_;clear n0_ n1_ n2_ n3_ n4_ n5_ n6_ n7_ n8_ n9_ n10_ n11_ n12_ n13_;clear hb Zf hg;have hnb20:=NB887_883.out;have hnc20:=NB883_887.out;have hnb21:=NB887_884.out;have hnc21:=NB884_887.out;have hnb22:=NB887_885.out;have hnc22:=Jq.out;have hcz23_0:w19.cell? ⟨Xp,0,none⟩=some (.int .u8 0):=(Yc Wu.out 0).trans rfl;have hcz23_1:w19.cell? ⟨Xp,1,none⟩=some (.int .u8 0):=(Yc Wu.out 1).trans rfl;have hcz23_2:w19.cell? ⟨Xp,2,none⟩=some (.int .u8 0):=(Yc Wu.out 2).trans rfl;have hcz23_3:w19.cell? ⟨Xp,3,none⟩=some (.int .u8 0):=(Yc Wu.out 3).trans rfl;have hfz23_0:=Yf Wu.out 0;have hfz23_1:=Yf Wu.out 1;have hfz23_2:=Yf Wu.out 2;have hfz23_3:=Yf Wu.out 3))
   have n0_:Aside0 (Kd.R k74 74 ((((w19.setCell ⟨Xp,0,none⟩ (.int .u8 ((rd_T135 Za Zj).f0))).setCell ⟨Xp,1,none⟩ (.int .u8 ((rd_T135 Za Zj).f1))).setCell ⟨Xp,2,none⟩ (.int .u8 ((rd_T135 Za Zj).f2))).setCell ⟨Xp,3,none⟩ (.int .u8 ((rd_T135 Za Zj).f3))) w.heap.size (fun _=>True) u886002 Wv):=⟨by(with_reducible repeat(first|apply Yr|apply Yq|apply Yp));exact Kd.R_mono (Kd.R_far (p:=⟨Xp,3,none⟩) (Kd.R_far (p:=⟨Xp,2,none⟩) (Kd.R_far (p:=⟨Xp,1,none⟩) (Kd.R_far (p:=⟨Xp,0,none⟩) (Kd.R_types HO_886002.out Wu.out (by decide)) (fun _ hk=>hk.2) (.int .u8 ((rd_T135 Za Zj).f0))) (fun _ hk=>hk.2) (.int .u8 ((rd_T135 Za Zj).f1))) (fun _ hk=>hk.2) (.int .u8 ((rd_T135 Za Zj).f2))) (fun _ hk=>hk.2) (.int .u8 ((rd_T135 Za Zj).f3))) (fun _ hk=>trivial)⟩
   have n1_:Aside0 (((((w19.setCell ⟨Xp,0,none⟩ (.int .u8 ((rd_T135 Za Zj).f0))).setCell ⟨Xp,1,none⟩ (.int .u8 ((rd_T135 Za Zj).f1))).setCell ⟨Xp,2,none⟩ (.int .u8 ((rd_T135 Za Zj).f2))).setCell ⟨Xp,3,none⟩ (.int .u8 ((rd_T135 Za Zj).f3))).heap[Zx]? =some (.cells #[.int .u8 Zc, .bool Zb, .slice (some ad886) Za.length Zd, .int .u8 Xy, .int .u8 Wl, .int .u8 Wm] 70 (0,0))):=⟨by(with_reducible repeat(first|refine Yl ?_ _|refine Ym ?_|refine Yj ?_ _));refine blk_far ?_ NB883_887.out _;(with_reducible repeat(first|refine Yl ?_ _|refine Ym ?_|refine Yj ?_ _));refine blk_far ?_ NB883_887.out _;(with_reducible repeat(first|refine Yl ?_ _|refine Ym ?_|refine Yj ?_ _));refine blk_far ?_ NB883_887.out _;(with_reducible repeat(first|refine Yl ?_ _|refine Ym ?_|refine Yj ?_ _));refine blk_far ?_ NB883_887.out _;(with_reducible repeat(first|refine Yl ?_ _|refine Ym ?_|refine Yj ?_ _));exact Zi.out⟩
   have n2_:Aside0 (((((w19.setCell ⟨Xp,0,none⟩ (.int .u8 ((rd_T135 Za Zj).f0))).setCell ⟨Xp,1,none⟩ (.int .u8 ((rd_T135 Za Zj).f1))).setCell ⟨Xp,2,none⟩ (.int .u8 ((rd_T135 Za Zj).f2))).setCell ⟨Xp,3,none⟩ (.int .u8 ((rd_T135 Za Zj).f3))).heap[Zn]? =some (.cells #[.int .i64 0, .bool false, .slice none 0 0] 24 (0,0))):=⟨by(with_reducible repeat(first|refine Yl ?_ _|refine Ym ?_|refine Yj ?_ _));refine blk_far ?_ NB884_887.out _;(with_reducible repeat(first|refine Yl ?_ _|refine Ym ?_|refine Yj ?_ _));refine blk_far ?_ NB884_887.out _;(with_reducible repeat(first|refine Yl ?_ _|refine Ym ?_|refine Yj ?_ _));refine blk_far ?_ NB884_887.out _;(with_reducible repeat(first|refine Yl ?_ _|refine Ym ?_|refine Yj ?_ _));refine blk_far ?_ NB884_887.out _;(with_reducible repeat(first|refine Yl ?_ _|refine Ym ?_|refine Yj ?_ _));exact Xi.out⟩
   have n3_:Aside0 (((((w19.setCell ⟨Xp,0,none⟩ (.int .u8 ((rd_T135 Za Zj).f0))).setCell ⟨Xp,1,none⟩ (.int .u8 ((rd_T135 Za Zj).f1))).setCell ⟨Xp,2,none⟩ (.int .u8 ((rd_T135 Za Zj).f2))).setCell ⟨Xp,3,none⟩ (.int .u8 ((rd_T135 Za Zj).f3))).heap[Wf]? =some (.cells #[.int .i64 (wrap64 (2+(Int.tmod (wrap64 (Zc)) 4))), .bool Zb,u886002] 24 (0,0))):=⟨by(with_reducible repeat(first|refine Yl ?_ _|refine Ym ?_|refine Yj ?_ _));refine blk_far ?_ Jq.out _;(with_reducible repeat(first|refine Yl ?_ _|refine Ym ?_|refine Yj ?_ _));refine blk_far ?_ Jq.out _;(with_reducible repeat(first|refine Yl ?_ _|refine Ym ?_|refine Yj ?_ _));refine blk_far ?_ Jq.out _;(with_reducible repeat(first|refine Yl ?_ _|refine Ym ?_|refine Yj ?_ _));refine blk_far ?_ Jq.out _;(with_reducible repeat(first|refine Yl ?_ _|refine Ym ?_|refine Yj ?_ _));exact Zu.out⟩
   have n4_:Aside0 (((((w19.setCell ⟨Xp,0,none⟩ (.int .u8 ((rd_T135 Za Zj).f0))).setCell ⟨Xp,1,none⟩ (.int .u8 ((rd_T135 Za Zj).f1))).setCell ⟨Xp,2,none⟩ (.int .u8 ((rd_T135 Za Zj).f2))).setCell ⟨Xp,3,none⟩ (.int .u8 ((rd_T135 Za Zj).f3))).heap[Xp]? =some (.cells #[.int .u8 ((rd_T135 Za Zj).f0), .int .u8 ((rd_T135 Za Zj).f1), .int .u8 ((rd_T135 Za Zj).f2), .int .u8 ((rd_T135 Za Zj).f3)] 135 (0,0))):=⟨by(with_reducible repeat(first|refine Yl ?_ _|refine Ym ?_|refine Yj ?_ _));refine YA (cs:= #[.int .u8 ((rd_T135 Za Zj).f0), .int .u8 ((rd_T135 Za Zj).f1), .int .u8 ((rd_T135 Za Zj).f2), .int .u8 0]) ?_ 3 _ rfl;(with_reducible repeat(first|refine Yl ?_ _|refine Ym ?_|refine Yj ?_ _));refine YA (cs:= #[.int .u8 ((rd_T135 Za Zj).f0), .int .u8 ((rd_T135 Za Zj).f1), .int .u8 0, .int .u8 0]) ?_ 2 _ rfl;(with_reducible repeat(first|refine Yl ?_ _|refine Ym ?_|refine Yj ?_ _));refine YA (cs:= #[.int .u8 ((rd_T135 Za Zj).f0), .int .u8 0, .int .u8 0, .int .u8 0]) ?_ 1 _ rfl;(with_reducible repeat(first|refine Yl ?_ _|refine Ym ?_|refine Yj ?_ _));refine YA (cs:= #[.int .u8 0, .int .u8 0, .int .u8 0, .int .u8 0]) ?_ 0 _ rfl;(with_reducible repeat(first|refine Yl ?_ _|refine Ym ?_|refine Yj ?_ _));exact Wu.out⟩
   have n5_:Aside0 (Below w.heap.size w ((((w19.setCell ⟨Xp,0,none⟩ (.int .u8 ((rd_T135 Za Zj).f0))).setCell ⟨Xp,1,none⟩ (.int .u8 ((rd_T135 Za Zj).f1))).setCell ⟨Xp,2,none⟩ (.int .u8 ((rd_T135 Za Zj).f2))).setCell ⟨Xp,3,none⟩ (.int .u8 ((rd_T135 Za Zj).f3)))):=⟨by repeat(first|(with_reducible first|exact HB.out|apply Ye|apply Yd|apply Yg|refine Yh ?_ Jj.out|refine Yh ?_ GE884.out|refine Yh ?_ GE885.out|refine Yh ?_ GE887.out)|exact HB.out)⟩
   (try clear HO_886002)
   (try clear Zi)
   (try clear Xi)
   (try clear Zu)
   (try clear Wu)
   (try clear HB)
   generalize ((((w19.setCell ⟨Xp,0,none⟩ (.int .u8 ((rd_T135 Za Zj).f0))).setCell ⟨Xp,1,none⟩ (.int .u8 ((rd_T135 Za Zj).f1))).setCell ⟨Xp,2,none⟩ (.int .u8 ((rd_T135 Za Zj).f2))).setCell ⟨Xp,3,none⟩ (.int .u8 ((rd_T135 Za Zj).f3)))=w24 at n0_ n1_ n2_ n3_ n4_ n5_ ⊢
   have HO_886002:=n0_
   have Zi:=n1_
   have Xi:=n2_
   have Zu:=n3_
   have Wu:=n4_
   have HB:=n5_
   clear n0_ n1_ n2_ n3_ n4_ n5_
   have n0_:=Ya (Yp HO_886002.out)
   have n1_:=Ya (Ym Zi.out)
   have n2_:=Ya (Ym Xi.out)
   have n3_:=Ya (Ym Zu.out)
   have n4_:=Ya (Ym Wu.out)
   have n5_:=Ya (Yg HB.out)
   clear HO_886002
   clear Zi
   clear Xi
   clear Zu
   clear Wu
   clear HB
   have HO_886002:=n0_
   have Zi:=n1_
   have Xi:=n2_
   have Zu:=n3_
   have Wu:=n4_
   have HB:=n5_
   clear n0_ n1_ n2_ n3_ n4_ n5_
   refine start_ (n:=27) (S:=fun w'=>w'.cell? ⟨Wf,0,none⟩=some (.int .i64 (wrap64 (2+(Int.tmod (wrap64 (Zc)) 4))))∧w'.cell? ⟨Wf,1,none⟩=some (.bool Zb)∧w'.cell? ⟨Wf,2,none⟩=some (u886002)∧w'.cell? ⟨Xp,0,none⟩=some (.int .u8 ((rd_T135 Za Zj).f0))∧w'.cell? ⟨Xp,1,none⟩=some (.int .u8 ((rd_T135 Za Zj).f1))∧w'.cell? ⟨Xp,2,none⟩=some (.int .u8 ((rd_T135 Za Zj).f2))∧w'.cell? ⟨Xp,3,none⟩=some (.int .u8 ((rd_T135 Za Zj).f3))) (ds:=[26]) #[false,false,false,false,false,false,false,false,false,false,false,false,false,false,false,false,false,false,false,false,false,false,false,false,false,false,false] (by kernel_rfl) rfl rfl ⟨(Yc Zu.out 0).trans rfl,(Yc Zu.out 1).trans rfl,(Yc Zu.out 2).trans rfl,(Yc Wu.out 0).trans rfl,(Yc Wu.out 1).trans rfl,(Yc Wu.out 2).trans rfl,(Yc Wu.out 3).trans rfl⟩ (fun hHeld=> ?_);refine with_tabW ebbtidelaw12_Read.tab6 ebbtidelaw12_Read.bits6 (fun HT_ HW_=> ?_)
   generalize w24.drew=w25 at HO_886002 Zi Xi Zu Wu HB hHeld ⊢
   refine pure_ (i:=0) (N:=some 38) (v:= ?_) (a':= ?_) #[true,false,false,false,false,false,false,false,false,false,false,false,false,false,false,false,false,false,false,false,false,false,false,false,false,false,false] rfl rfl (any_of HT_.out (by kernel_rfl)) (fun _ _ _ h=>h) (Or.inl ⟨by rfl,?_⟩) ?_ ?_
   rotate_left
   ·intro w'
    go_simp
    with_reducible rfl
   rotate_left
   ·simp only[Act.put,List.setIfInBounds_toArray,List.set_cons_zero,List.set_cons_succ,i64_w,i32_w]
    rfl
   refine pure_ (i:=2) (N:=some 40) (v:= ?_) (a':= ?_) #[true,false,true,false,false,false,false,false,false,false,false,false,false,false,false,false,false,false,false,false,false,false,false,false,false,false,false] rfl rfl (any_of HT_.out (by kernel_rfl)) (fun _ _ _ h=>h) (Or.inl ⟨by rfl,?_⟩) ?_ ?_
   rotate_left
   ·intro w'
    go_simp
    with_reducible rfl
   rotate_left
   ·simp only[Act.put,List.setIfInBounds_toArray,List.set_cons_zero,List.set_cons_succ,i64_w,i32_w]
    rfl
   refine pure_ (i:=5) (N:=some 43) (v:= ?_) (a':= ?_) #[true,false,true,false,false,true,false,false,false,false,false,false,false,false,false,false,false,false,false,false,false,false,false,false,false,false,false] rfl rfl (any_of HT_.out (by kernel_rfl)) (fun _ _ _ h=>h) (Or.inl ⟨by rfl,?_⟩) ?_ ?_
   rotate_left
   ·intro w'
    go_simp
    with_reducible rfl
   rotate_left
   ·simp only[Act.put,List.setIfInBounds_toArray,List.set_cons_zero,List.set_cons_succ,i64_w,i32_w]
    rfl
   refine pure_ (i:=8) (N:=some 46) (v:= ?_) (a':= ?_) #[true,false,true,false,false,true,false,false,true,false,false,false,false,false,false,false,false,false,false,false,false,false,false,false,false,false,false] rfl rfl (any_of HT_.out (by kernel_rfl)) (fun _ _ _ h=>h) (Or.inl ⟨by rfl,?_⟩) ?_ ?_
   rotate_left
   ·intro w'
    go_simp
    with_reducible rfl
   rotate_left
   ·simp only[Act.put,List.setIfInBounds_toArray,List.set_cons_zero,List.set_cons_succ,i64_w,i32_w]
    rfl
   refine pure_ (i:=11) (N:=some 49) (v:= ?_) (a':= ?_) #[true,false,true,false,false,true,false,false,true,false,false,true,false,false,false,false,false,false,false,false,false,false,false,false,false,false,false] rfl rfl (any_of HT_.out (by kernel_rfl)) (fun _ _ _ h=>h) (Or.inl ⟨by rfl,?_⟩) ?_ ?_
   rotate_left
   ·intro w'
    go_simp
    with_reducible rfl
   rotate_left
   ·simp only[Act.put,List.setIfInBounds_toArray,List.set_cons_zero,List.set_cons_succ,i64_w,i32_w]
    rfl
   refine pure_ (i:=14) (N:=some 52) (v:= ?_) (a':= ?_) #[true,false,true,false,false,true,false,false,true,false,false,true,false,false,true,false,false,false,false,false,false,false,false,false,false,false,false] rfl rfl (any_of HT_.out (by kernel_rfl)) (fun _ _ _ h=>h) (Or.inl ⟨by rfl,?_⟩) ?_ ?_
   rotate_left
   ·intro w'
    go_simp
    with_reducible rfl
   rotate_left
   ·simp only[Act.put,List.setIfInBounds_toArray,List.set_cons_zero,List.set_cons_succ,i64_w,i32_w]
    rfl
   refine pure_ (i:=18) (N:=some 56) (v:= ?_) (a':= ?_) #[true,false,true,false,false,true,false,false,true,false,false,true,false,false,true,false,false,false,true,false,false,false,false,false,false,false,false] rfl rfl (any_of HT_.out (by kernel_rfl)) (fun _ _ _ h=>h) (Or.inl ⟨by rfl,?_⟩) ?_ ?_
   rotate_left
   ·intro w'
    go_simp
    with_reducible rfl
   rotate_left
   ·simp only[Act.put,List.setIfInBounds_toArray,List.set_cons_zero,List.set_cons_succ,i64_w,i32_w]
    rfl
   refine take_ (i:=1) (N:=some 39) (v:= ?_) (a':= ?_) #[true,true,true,false,false,true,false,false,true,false,false,true,false,false,true,false,false,false,true,false,false,false,false,false,false,false,false] rfl rfl (take_ofW HT_.out HW_.out (by kernel_rfl)) (fun _ _ _ h=>h) (Or.inl ⟨by rfl,?_⟩) hHeld ?_ ?_
   rotate_left
   ·rintro w' ⟨s0,s1,s2,s3,s4,s5,s6⟩
    go_simp
    with_reducible rfl
   rotate_left
   ·simp only[Act.put,List.setIfInBounds_toArray,List.set_cons_zero,List.set_cons_succ,i64_w,i32_w]
    rfl
   refine take_ (i:=3) (N:=some 41) (v:= ?_) (a':= ?_) #[true,true,true,true,false,true,false,false,true,false,false,true,false,false,true,false,false,false,true,false,false,false,false,false,false,false,false] rfl rfl (take_ofW HT_.out HW_.out (by kernel_rfl)) (fun _ _ _ h=>h) (Or.inl ⟨by rfl,?_⟩) hHeld ?_ ?_
   rotate_left
   ·rintro w' ⟨s0,s1,s2,s3,s4,s5,s6⟩
    go_simp
    with_reducible rfl
   rotate_left
   ·simp only[Act.put,List.setIfInBounds_toArray,List.set_cons_zero,List.set_cons_succ,i64_w,i32_w]
    rfl
   refine pure_ (i:=4) (N:=some 42) (v:= ?_) (a':= ?_) #[true,true,true,true,true,true,false,false,true,false,false,true,false,false,true,false,false,false,true,false,false,false,false,false,false,false,false] rfl rfl (any_of HT_.out (by kernel_rfl)) (fun _ _ _ h=>h) (Or.inl ⟨by rfl,?_⟩) ?_ ?_
   rotate_left
   ·intro w'
    go_simp
    with_reducible rfl
   rotate_left
   ·simp only[Act.put,List.setIfInBounds_toArray,List.set_cons_zero,List.set_cons_succ,i64_w,i32_w]
    rfl
   refine take_ (i:=6) (N:=some 44) (v:= ?_) (a':= ?_) #[true,true,true,true,true,true,true,false,true,false,false,true,false,false,true,false,false,false,true,false,false,false,false,false,false,false,false] rfl rfl (take_ofW HT_.out HW_.out (by kernel_rfl)) (fun _ _ _ h=>h) (Or.inl ⟨by rfl,?_⟩) hHeld ?_ ?_
   rotate_left
   ·rintro w' ⟨s0,s1,s2,s3,s4,s5,s6⟩
    go_simp
    with_reducible rfl
   rotate_left
   ·simp only[Act.put,List.setIfInBounds_toArray,List.set_cons_zero,List.set_cons_succ,i64_w,i32_w]
    rfl
   refine pure_ (i:=7) (N:=some 45) (v:= ?_) (a':= ?_) #[true,true,true,true,true,true,true,true,true,false,false,true,false,false,true,false,false,false,true,false,false,false,false,false,false,false,false] rfl rfl (any_of HT_.out (by kernel_rfl)) (fun _ _ _ h=>h) (Or.inl ⟨by rfl,?_⟩) ?_ ?_
   rotate_left
   ·intro w'
    go_simp
    with_reducible rfl
   rotate_left
   ·simp only[Act.put,List.setIfInBounds_toArray,List.set_cons_zero,List.set_cons_succ,i64_w,i32_w]
    rfl
   refine take_ (i:=9) (N:=some 47) (v:= ?_) (a':= ?_) #[true,true,true,true,true,true,true,true,true,true,false,true,false,false,true,false,false,false,true,false,false,false,false,false,false,false,false] rfl rfl (take_ofW HT_.out HW_.out (by kernel_rfl)) (fun _ _ _ h=>h) (Or.inl ⟨by rfl,?_⟩) hHeld ?_ ?_
   rotate_left
   ·rintro w' ⟨s0,s1,s2,s3,s4,s5,s6⟩
    go_simp
    with_reducible rfl
   rotate_left
   ·simp only[Act.put,List.setIfInBounds_toArray,List.set_cons_zero,List.set_cons_succ,i64_w,i32_w]
    rfl
   refine pure_ (i:=10) (N:=some 48) (v:= ?_) (a':= ?_) #[true,true,true,true,true,true,true,true,true,true,true,true,false,false,true,false,false,false,true,false,false,false,false,false,false,false,false] rfl rfl (any_of HT_.out (by kernel_rfl)) (fun _ _ _ h=>h) (Or.inl ⟨by rfl,?_⟩) ?_ ?_
   rotate_left
   ·intro w'
    go_simp
    with_reducible rfl
   rotate_left
   ·simp only[Act.put,List.setIfInBounds_toArray,List.set_cons_zero,List.set_cons_succ,i64_w,i32_w]
    rfl
   refine take_ (i:=12) (N:=some 50) (v:= ?_) (a':= ?_) #[true,true,true,true,true,true,true,true,true,true,true,true,true,false,true,false,false,false,true,false,false,false,false,false,false,false,false] rfl rfl (take_ofW HT_.out HW_.out (by kernel_rfl)) (fun _ _ _ h=>h) (Or.inl ⟨by rfl,?_⟩) hHeld ?_ ?_
   rotate_left
   ·rintro w' ⟨s0,s1,s2,s3,s4,s5,s6⟩
    go_simp
    with_reducible rfl
   rotate_left
   ·simp only[Act.put,List.setIfInBounds_toArray,List.set_cons_zero,List.set_cons_succ,i64_w,i32_w]
    rfl
   refine pure_ (i:=13) (N:=some 51) (v:= ?_) (a':= ?_) #[true,true,true,true,true,true,true,true,true,true,true,true,true,true,true,false,false,false,true,false,false,false,false,false,false,false,false] rfl rfl (any_of HT_.out (by kernel_rfl)) (fun _ _ _ h=>h) (Or.inl ⟨by rfl,?_⟩) ?_ ?_
   rotate_left
   ·intro w'
    go_simp
    with_reducible rfl
   rotate_left
   ·simp only[Act.put,List.setIfInBounds_toArray,List.set_cons_zero,List.set_cons_succ,i64_w,i32_w]
    rfl
   refine take_ (i:=15) (N:=some 53) (v:= ?_) (a':= ?_) #[true,true,true,true,true,true,true,true,true,true,true,true,true,true,true,true,false,false,true,false,false,false,false,false,false,false,false] rfl rfl (take_ofW HT_.out HW_.out (by kernel_rfl)) (fun _ _ _ h=>h) (Or.inl ⟨by rfl,?_⟩) hHeld ?_ ?_
   rotate_left
   ·rintro w' ⟨s0,s1,s2,s3,s4,s5,s6⟩
    go_simp
    with_reducible rfl
   rotate_left
   ·simp only[Act.put,List.setIfInBounds_toArray,List.set_cons_zero,List.set_cons_succ,i64_w,i32_w]
    rfl
   refine pure_ (i:=16) (N:=some 54) (v:= ?_) (a':= ?_) #[true,true,true,true,true,true,true,true,true,true,true,true,true,true,true,true,true,false,true,false,false,false,false,false,false,false,false] rfl rfl (any_of HT_.out (by kernel_rfl)) (fun _ _ _ h=>h) (Or.inl ⟨by rfl,?_⟩) ?_ ?_
   rotate_left
   ·intro w'
    go_simp
    with_reducible rfl
   rotate_left
   ·simp only[Act.put,List.setIfInBounds_toArray,List.set_cons_zero,List.set_cons_succ,i64_w,i32_w]
    rfl
   refine pure_ (i:=17) (N:=some 55) (v:= ?_) (a':= ?_) #[true,true,true,true,true,true,true,true,true,true,true,true,true,true,true,true,true,true,true,false,false,false,false,false,false,false,false] rfl rfl (any_of HT_.out (by kernel_rfl)) (fun _ _ _ h=>h) (Or.inl ⟨by rfl,?_⟩) ?_ ?_
   rotate_left
   ·intro w'
    go_simp
    with_reducible rfl
   rotate_left
   ·simp only[Act.put,List.setIfInBounds_toArray,List.set_cons_zero,List.set_cons_succ,i64_w,i32_w]
    rfl
   refine take_ (i:=19) (N:=some 57) (v:= ?_) (a':= ?_) #[true,true,true,true,true,true,true,true,true,true,true,true,true,true,true,true,true,true,true,true,false,false,false,false,false,false,false] rfl rfl (take_ofW HT_.out HW_.out (by kernel_rfl)) (fun _ _ _ h=>h) (Or.inl ⟨by rfl,?_⟩) hHeld ?_ ?_
   rotate_left
   ·rintro w' ⟨s0,s1,s2,s3,s4,s5,s6⟩
    go_simp
    with_reducible rfl
   rotate_left
   ·simp only[Act.put,List.setIfInBounds_toArray,List.set_cons_zero,List.set_cons_succ,i64_w,i32_w]
    rfl
   refine pure_ (i:=20) (N:=some 58) (v:= ?_) (a':= ?_) #[true,true,true,true,true,true,true,true,true,true,true,true,true,true,true,true,true,true,true,true,true,false,false,false,false,false,false] rfl rfl (any_of HT_.out (by kernel_rfl)) (fun _ _ _ h=>h) (Or.inl ⟨by rfl,?_⟩) ?_ ?_
   rotate_left
   ·intro w'
    go_simp
    with_reducible rfl
   rotate_left
   ·simp only[Act.put,List.setIfInBounds_toArray,List.set_cons_zero,List.set_cons_succ,i64_w,i32_w]
    rfl
   refine pure_ (i:=21) (N:=some 59) (v:= ?_) (a':= ?_) #[true,true,true,true,true,true,true,true,true,true,true,true,true,true,true,true,true,true,true,true,true,true,false,false,false,false,false] rfl rfl (any_of HT_.out (by kernel_rfl)) (fun _ _ _ h=>h) (Or.inl ⟨by rfl,?_⟩) ?_ ?_
   rotate_left
   ·intro w'
    go_simp
    with_reducible rfl
   rotate_left
   ·simp only[Act.put,List.setIfInBounds_toArray,List.set_cons_zero,List.set_cons_succ,i64_w,i32_w]
    rfl
   refine pure_ (i:=22) (N:=some 60) (v:= ?_) (a':= ?_) #[true,true,true,true,true,true,true,true,true,true,true,true,true,true,true,true,true,true,true,true,true,true,true,false,false,false,false] rfl rfl (any_of HT_.out (by kernel_rfl)) (fun _ _ _ h=>h) (Or.inl ⟨by rfl,?_⟩) ?_ ?_
   rotate_left
   ·intro w'
    go_simp
    with_reducible rfl
   rotate_left
   ·simp only[Act.put,List.setIfInBounds_toArray,List.set_cons_zero,List.set_cons_succ,i64_w,i32_w]
    rfl
   refine one_ (i:=23) (N:=some 61) #[true,true,true,true,true,true,true,true,true,true,true,true,true,true,true,true,true,true,true,true,true,true,true,true,false,false,false] rfl rfl (one_of HT_.out (by kernel_rfl)) (by decide) (fun K hK=> ?_)
   refine value_ (w1:= ?_) (v:= ?_) (by rfl) rfl ?_ ?_
   rotate_left 2
   ·go_simp
    constructor
    ·rfl
    ·rfl
   refine hK.out _ _ ⟨(Yc (Yj Zu.out _) 0).trans rfl,(Yc (Yj Zu.out _) 1).trans rfl,(Yc (Yj Zu.out _) 2).trans rfl,(Yc (Yj Wu.out _) 0).trans rfl,(Yc (Yj Wu.out _) 1).trans rfl,(Yc (Yj Wu.out _) 2).trans rfl,(Yc (Yj Wu.out _) 3).trans rfl⟩ (fun hHeld=> ?_)
   clear hK K
   refine norm_ (a':= ?_) ?_ ?_
   rotate_left
   ·show Act.put _ (some 61) _=_
    simp only[Act.put,List.setIfInBounds_toArray,List.set_cons_zero,List.set_cons_succ,i64_w,i32_w]
    rfl
   refine one_ (i:=24) (N:=some 62) #[true,true,true,true,true,true,true,true,true,true,true,true,true,true,true,true,true,true,true,true,true,true,true,true,true,false,false] rfl rfl (one_of HT_.out (by kernel_rfl)) (by decide) (fun K hK=> ?_)
   refine Kd.R_append_step k74 (w0:=w) w.heap.size (by rfl) (.tmp 39) (.tmp 61) 22 74 (.agg #[(.int .i64 0),(.int .i64 0),(.int .i64 0),(.int .i64 0)]) 32 rfl Try.underlying22 info74 rfl (by decide) (by omega) u886002 Wv (⟨Int.tmod (wrap64 ((rd_T135 Za Zj).f0)) (wrap64 (2+(Int.tmod (wrap64 (Zc)) 4))),Int.tmod (wrap64 ((rd_T135 Za Zj).f1)) (wrap64 (2+(Int.tmod (wrap64 (Zc)) 4))),Int.tmod (wrap64 ((rd_T135 Za Zj).f2)) 6,Int.tmod (wrap64 ((rd_T135 Za Zj).f3)) 4⟩:S74) [.int .i64 (Int.tmod (wrap64 ((rd_T135 Za Zj).f0)) (wrap64 (2+(Int.tmod (wrap64 (Zc)) 4)))), .int .i64 (Int.tmod (wrap64 ((rd_T135 Za Zj).f1)) (wrap64 (2+(Int.tmod (wrap64 (Zc)) 4)))), .int .i64 (Int.tmod (wrap64 ((rd_T135 Za Zj).f2)) 6), .int .i64 (Int.tmod (wrap64 ((rd_T135 Za Zj).f3)) 4)] (fun _=>True) (fun _=>False) rfl rfl ?aP (fun _ hk=>hk.elim) ?aF ?aO ?aB ?aS ?aL ?_
   (case aP=>exact k74_mkM _ _ _ (⟨Int.tmod (wrap64 ((rd_T135 Za Zj).f0)) (wrap64 (2+(Int.tmod (wrap64 (Zc)) 4))),Int.tmod (wrap64 ((rd_T135 Za Zj).f1)) (wrap64 (2+(Int.tmod (wrap64 (Zc)) 4))),Int.tmod (wrap64 ((rd_T135 Za Zj).f2)) 6,Int.tmod (wrap64 ((rd_T135 Za Zj).f3)) 4⟩:S74))
   (case aB=>exact(by repeat(first|(with_reducible first|exact HB.out|apply Ye|apply Yd|apply Yg|refine Yh ?_ Jj.out|refine Yh ?_ GE884.out|refine Yh ?_ GE885.out|refine Yh ?_ GE887.out)|exact HB.out)))
   (case aF=>exact(fun _ _=>trivial))
   (case aO=>exact(by(with_reducible repeat(first|apply Yr|apply Yq|apply Yp));exact HO_886002.out))
   (case aS=>exact(Yi (by repeat(first|(with_reducible first|exact HB.out|apply Ye|apply Yd|apply Yg|refine Yh ?_ Jj.out|refine Yh ?_ GE884.out|refine Yh ?_ GE885.out|refine Yh ?_ GE887.out)|exact HB.out))))
   (case aL=>have:=LMc15.out;omega)
   intro v889 w26 ho hb hg hat
   rw[← Ny888.out] at ho
   have n0_:=Ya (blk_grown (g:=Zx) (o:= .cells #[.int .u8 Zc, .bool Zb, .slice (some ad886) Za.length Zd, .int .u8 Xy, .int .u8 Wl, .int .u8 Wm] 70 (0,0)) (by(with_reducible repeat(first|refine Yl ?_ _|refine Ym ?_|refine Yj ?_ _));exact Zi.out) hg (Kd.R_ne HO_886002.out Zi.out (by decide)))
   have n1_:=Ya (blk_grown (g:=Zn) (o:= .cells #[.int .i64 0, .bool false, .slice none 0 0] 24 (0,0)) (by(with_reducible repeat(first|refine Yl ?_ _|refine Ym ?_|refine Yj ?_ _));exact Xi.out) hg (Kd.R_ne HO_886002.out Xi.out (by decide)))
   have n2_:=Ya (blk_grown (g:=Wf) (o:= .cells #[.int .i64 (wrap64 (2+(Int.tmod (wrap64 (Zc)) 4))), .bool Zb,u886002] 24 (0,0)) (by(with_reducible repeat(first|refine Yl ?_ _|refine Ym ?_|refine Yj ?_ _));exact Zu.out) hg (Kd.R_ne HO_886002.out Zu.out (by decide)))
   have n3_:=Ya (blk_grown (g:=Xp) (o:= .cells #[.int .u8 ((rd_T135 Za Zj).f0), .int .u8 ((rd_T135 Za Zj).f1), .int .u8 ((rd_T135 Za Zj).f2), .int .u8 ((rd_T135 Za Zj).f3)] 135 (0,0)) (by(with_reducible repeat(first|refine Yl ?_ _|refine Ym ?_|refine Yj ?_ _));exact Wu.out) hg (Kd.R_ne HO_886002.out Wu.out (by decide)))
   have n4_:=Ya (hb)
   have n5_:=Ya (ho)
   clear Zi
   clear Xi
   clear Zu
   clear Wu
   clear HB
   clear HO_886002
   have Zi:=n0_
   have Xi:=n1_
   have Zu:=n2_
   have Wu:=n3_
   have HB:=n4_
   have HO890:=n5_
   clear n0_ n1_ n2_ n3_ n4_ n5_
   clear ho hb hg hat
   obtain⟨Ao27,co27,eo27⟩:=Kd.R_slice HO890.out
   (first|subst eo27|(injection eo27 with f1_ f2_ f3_;have f4_:=f1_.symm;have f5_:=f3_.symm;clear f1_ f2_ f3_;subst f4_;subst f5_))
   refine hK.out _ _ ⟨(Yc Zu.out 0).trans rfl,(Yc Zu.out 1).trans rfl,(Yc Zu.out 2).trans rfl,(Yc Wu.out 0).trans rfl,(Yc Wu.out 1).trans rfl,(Yc Wu.out 2).trans rfl,(Yc Wu.out 3).trans rfl⟩ (fun hHeld=> ?_)
   clear hK K
   refine norm_ (a':= ?_) ?_ ?_
   rotate_left
   ·show Act.put _ (some 62) _=_
    simp only[Act.put,List.setIfInBounds_toArray,List.set_cons_zero,List.set_cons_succ,i64_w,i32_w]
    rfl
   refine pure_ (i:=25) (N:=some 63) (v:= ?_) (a':= ?_) #[true,true,true,true,true,true,true,true,true,true,true,true,true,true,true,true,true,true,true,true,true,true,true,true,true,true,false] rfl rfl (any_of HT_.out (by kernel_rfl)) (fun _ _ _ h=>h) (Or.inl ⟨by rfl,?_⟩) ?_ ?_
   rotate_left
   ·intro w'
    go_simp
    with_reducible rfl
   rotate_left
   ·simp only[Act.put,List.setIfInBounds_toArray,List.set_cons_zero,List.set_cons_succ,i64_w,i32_w]
    rfl
   refine last_ (i:=26) (N:=none) #[true,true,true,true,true,true,true,true,true,true,true,true,true,true,true,true,true,true,true,true,true,true,true,true,true,true,true] rfl rfl (one_of HT_.out (by kernel_rfl)) (by decide) (fun K hK=> ?_)
   have hs28:w26.cell? ⟨Wf,2,none⟩=some (u886002):=(Yc Zu.out 2).trans rfl
   have hfs28:=Yf Zu.out 2
   have hns28_0:=Ua.out
   have hns28_1:=Wn.out
   have hns28_3:=NB887_885.out
   have hms28_0:=NB885_883.out
   have hms28_1:=Xa.out
   have hms28_3:=Jq.out
   refine skip_ (w1:= ?_) (by rfl) rfl ?_ ?_
   rotate_left
   ·go_simp
    rfl
   refine hK.out _ _ ?_
   clear hK K
   refine done_ (done_of HT_.out (by kernel_rfl)) ?_
   try go_wp2
   go_roundg k1
   case measure=>have:=HK1.out;omega
   case rel=>exact⟨(wrap64 (Zj+1)),(y888),(.slice Ao27 y888.length co27),(by first|rfl|(simp;done)|(simp[*];done)),H',⟨by have:=HK1.out;omega⟩,⟨by(with_reducible repeat(first|apply Yr|apply Yq|apply Yp));exact Kd.R_mono (Kd.R_far (p:=⟨Wf,2,none⟩) (Kd.R_types HO890.out Zu.out (by decide)) (fun _ hk=>hk.2) (.slice Ao27 y888.length co27)) (fun _ hk=>trivial)⟩,⟨by(with_reducible repeat(first|refine Yl ?_ _|refine Ym ?_|refine Yj ?_ _));refine blk_far ?_ Ua.out _;(with_reducible repeat(first|refine Yl ?_ _|refine Ym ?_|refine Yj ?_ _));exact Zi.out⟩,⟨by(with_reducible repeat(first|refine Yl ?_ _|refine Ym ?_|refine Yj ?_ _));refine blk_far ?_ Wn.out _;(with_reducible repeat(first|refine Yl ?_ _|refine Ym ?_|refine Yj ?_ _));exact Xi.out⟩,⟨by(with_reducible repeat(first|refine Yl ?_ _|refine Ym ?_|refine Yj ?_ _));refine YA (cs:= #[.int .i64 (wrap64 (2+(Int.tmod (wrap64 (Zc)) 4))), .bool Zb,u886002]) ?_ 2 _ rfl;(with_reducible repeat(first|refine Yl ?_ _|refine Ym ?_|refine Yj ?_ _));exact Zu.out⟩,⟨by repeat(first|(with_reducible first|exact HB.out|apply Ye|apply Yd|apply Yg|refine Yh ?_ Jj.out|refine Yh ?_ GE884.out|refine Yh ?_ GE885.out|refine Yh ?_ GE887.out)|exact HB.out)⟩⟩
end P
namespace P
attribute [local go_sem] max2_int min2_int max_two min_two max_three min_three max_four min_four
def maxflow_Fill.f (Zc:Int) (Zb:Bool) (Za:List (S74)) (a1:Int) (a2:Int):Option (List Int):=(if H.endsErr Zc Za a1 a2=0 then some (H.fillF Za Zc.toNat a1.toNat a2.toNat) else none)
theorem maxflow_Fill.calls (Zc:Int) (Zb:Bool) (Ze:Option Addr) (Zd:Nat) (Za:List (S74)) (a1:Int) (a2:Int) (r:List Int) (w:World) (Zq:Kd.C k74 w Ze Za.length Za) (Zr:Za.length≤Zd) (h:maxflow_Fill.f Zc Zb Za a1 a2=some r):
  Calls Try.prog 121 #[.agg #[.int .i64 Zc, .bool Zb, .slice Ze Za.length Zd], .int .i64 a1, .int .i64 a2] w fun e w'=> ∃ v0_:Value,e= .returned (v0_)∧Kd.R (Kd.int .i64) 3 w' w.heap.size (fun _=>True) v0_ r∧Below w.heap.size w w':=H.maxflow_Fill_calls Zc Zb Ze Zd Za a1 a2 r w Zq Zr h
end P
namespace P
attribute [local go_sem] max2_int min2_int max_two min_two max_three min_three max_four min_four
def maxflow_Max.f (k:Nat) (Zc:Int) (Zb:Bool) (Za:List (S74)) (a1:Int) (a2:Int):Option (List Int × Int × Int):=(static_Ends.f k Zc Zb Za a1 a2).bind fun t917=>(if t917=0 then((maxflow_Fill.f Zc Zb Za a1 a2).bind fun t918=>((maxflow_Value.f k Zc Zb Za a1 t918).bind fun t921=>(some (t918,t921,0)))) else(some (([]:List Int),0,t917)))
set_option maxHeartbeats 8000000 in
set_option maxRecDepth 100000 in
theorem maxflow_Max.calls (k:Nat) (Zc:Int) (Zb:Bool) (Ze:Option Addr) (Zd:Nat) (Za:List (S74)) (a1:Int) (a2:Int) (r1:List Int) (r2:Int) (r3:Int) (w:World) (Zq:Kd.C k74 w Ze Za.length Za) (Zr:Za.length≤Zd) (h:maxflow_Max.f k Zc Zb Za a1 a2=some (r1,r2,r3)):
  Calls Try.prog 76 #[.agg #[.int .i64 Zc, .bool Zb, .slice Ze Za.length Zd], .int .i64 a1, .int .i64 a2] w fun e w'=> ∃ v0_:Value,e= .returned (.tuple #[v0_, .int .i64 r2, .int .i64 r3])∧Kd.R (Kd.int .i64) 3 w' w.heap.size (fun _=>True) v0_ r1∧Below w.heap.size w w':=by
 have hu24:=Try.underlying24
 have Zl:=Ya Zq
 have Xd:=Ya Zr
 clear Zq Zr
 have HB:=Ya (Yo w.heap.size w)
 have H:((static_Ends.f k Zc Zb Za a1 a2).bind fun t917=>(if t917=0 then((maxflow_Fill.f Zc Zb Za a1 a2).bind fun t918=>((maxflow_Value.f k Zc Zb Za a1 t918).bind fun t921=>(some (t918,t921,0)))) else(some (([]:List Int),0,t917))))=some (r1,r2,r3):=h
 clear h
 replace H:=Option.bind_eq_some_iff.mp H
 obtain⟨t917,A40,H⟩:=H
 replace H:(if t917=0 then((maxflow_Fill.f Zc Zb Za a1 a2).bind fun t918=>((maxflow_Value.f k Zc Zb Za a1 t918).bind fun t921=>(some (t918,t921,0)))) else(some (([]:List Int),0,t917)))=some (r1,r2,r3):=H
 have A4:=Ya A40
 clear A40
 by_cases c5:t917=0
 rotate_left
 ·rw[Yy c5] at H
  have c5b0:(t917 == 0)=false:=beq_eq_false_iff_ne.mpr c5
  have c5b1:(t917 != 0)=true:=bne_iff_ne.mpr c5
  simp only[Option.some.injEq,Prod.mk.injEq] at H
  obtain⟨rfl,rfl,rfl⟩:=H
  go_enter Try.func76,Try.ntmps76
  go_wp2_with (first|((with_reducible refine gate_dst (N:=3) rfl ?_);refine Yz ?hg (N:=3) ?hd (cs:= #[.int .i64 Zc, .bool Zb, .slice Ze Za.length Zd]) (t:=24) ?hr ?_;(case hd=>rfl);(case hg=>rfl);(case hr=>first|(go_simp;done)|(go_simp;rfl));intro Ug hg w16 Zf hb;have n0_:=Ya (Yk (by repeat(first|(with_reducible first|exact HB.out|apply Ye|apply Yd|apply Yg)|exact HB.out)) hb);have n1_:=Ya (Zf);have n2_:=Ya ((by rw[hg];exact(Yi (by repeat(first|(with_reducible first|exact HB.out|apply Ye|apply Yd|apply Yg)|exact HB.out))):w.heap.size≤Ug));have n3_:=Ya ((by rw[hg];exact(Yi (by repeat(first|(with_reducible first|exact HB.out|apply Ye|apply Yd|apply Yg)|exact HB.out))):w.heap.size≤Ug));clear HB;have HB:=n0_;have Wi:=n1_;have GW916:=n2_;have GE916:=n3_;clear n0_ n1_ n2_ n3_;clear hb Zf hg;have Uh:w16.cell? ⟨Ug,0,none⟩=some (.int .i64 Zc):=(Yc Wi.out 0).trans rfl;have Ui:w16.cell? ⟨Ug,1,none⟩=some (.bool Zb):=(Yc Wi.out 1).trans rfl;have Jk:w16.cell? ⟨Ug,2,none⟩=some (.slice Ze Za.length Zd):=(Yc Wi.out 2).trans rfl;have Uj:=Yf Wi.out 0;have Uk:=Yf Wi.out 1;have Jl:=Yf Wi.out 2)|((with_reducible refine gate_callee (f:=111) rfl ?_);refine goesL_ (some 12) rfl rfl Try.func111 (by kernel_rfl) rfl #[.agg #[.int .i64 Zc, .bool Zb, .slice Ze Za.length Zd], .int .i64 a1, .int .i64 a2] rfl (by(try simp only[List.map_toArray,List.map_cons,List.map_nil]);first|done|rfl|(simp only[List.length_drop,List.length_take];rfl)) ?_;(with_reducible refine(static_Ends.calls k Zc Zb _ _ Za a1 a2 t917 _ ?side1 ?side2 A4.out).mono ?_);(case side1=>repeat(first|exact(Yt Zl.out HB.out)|(with_reducible refine Kd.C_alloc ?_ _)|(with_reducible refine Kd.C_drewN ?_ _)|(with_reducible refine Kd.C_drew ?_)));(case side2=>exact Xd.out);rintro e w18 ⟨rfl,hb⟩;refine⟨_,rfl,?_⟩;have n0_:=Ya (Yn (g:=Ug) (o:= .cells #[.int .i64 Zc, .bool Zb, .slice Ze Za.length Zd] 24 (0,0)) (by(with_reducible repeat(first|refine Yl ?_ _|refine Ym ?_|refine Yj ?_ _));exact Wi.out) hb);have n1_:=Ya (Yk (by repeat(first|(with_reducible first|exact HB.out|apply Ye|apply Yd|apply Yg|refine Yh ?_ GE916.out)|exact HB.out)) hb);clear Wi;clear HB;have Wi:=n0_;have HB:=n1_;clear n0_ n1_;(try clear hb);(try clear hb2);(try clear hk);(try clear hi)))
  go_ret3
  exact⟨_,by first|rfl|(simp[errW_none,errW_some]<;>rfl)|(simp[*,errW_none,errW_some]<;>rfl),by first|exact Kd.R_nil _ _ _ _ _|exact Kd.N_nil _ _ _ _ _|exact Kd.V_nil _ _ _ _ _|exact Kd.Q_nil _ _ _ _ _|exact Kd.S_nil _ _ _ _ _,by repeat(first|(with_reducible first|exact HB.out|apply Ye|apply Yd|apply Yg|refine Yh ?_ GE916.out)|exact HB.out)⟩
 rw[Yx c5] at H
 have c5b0:(t917 == 0)=true:=beq_iff_eq.mpr c5
 have c5b1:(t917 != 0)=false:=bne_eq_false_iff_eq.mpr c5
 clear c5
 replace H:=Option.bind_eq_some_iff.mp H
 obtain⟨t918,A60,H⟩:=H
 replace H:((maxflow_Value.f k Zc Zb Za a1 t918).bind fun t921=>(some (t918,t921,0)))=some (r1,r2,r3):=H
 have A6:=Ya A60
 clear A60
 replace H:=Option.bind_eq_some_iff.mp H
 obtain⟨t921,A70,H⟩:=H
 replace H:(some (t918,t921,0))=some (r1,r2,r3):=H
 have A7:=Ya A70
 clear A70
 simp only[Option.some.injEq,Prod.mk.injEq] at H
 obtain⟨rfl,rfl,rfl⟩:=H
 go_enter Try.func76,Try.ntmps76
 go_wp2_with (first|((with_reducible refine gate_dst (N:=3) rfl ?_);refine Yz ?hg (N:=3) ?hd (cs:= #[.int .i64 Zc, .bool Zb, .slice Ze Za.length Zd]) (t:=24) ?hr ?_;(case hd=>rfl);(case hg=>rfl);(case hr=>first|(go_simp;done)|(go_simp;rfl));intro Ug hg w8 Zf hb;have n0_:=Ya (Yk (by repeat(first|(with_reducible first|exact HB.out|apply Ye|apply Yd|apply Yg)|exact HB.out)) hb);have n1_:=Ya (Zf);have n2_:=Ya ((by rw[hg];exact(Yi (by repeat(first|(with_reducible first|exact HB.out|apply Ye|apply Yd|apply Yg)|exact HB.out))):w.heap.size≤Ug));have n3_:=Ya ((by rw[hg];exact(Yi (by repeat(first|(with_reducible first|exact HB.out|apply Ye|apply Yd|apply Yg)|exact HB.out))):w.heap.size≤Ug));clear HB;have HB:=n0_;have Wi:=n1_;have GW916:=n2_;have GE916:=n3_;clear n0_ n1_ n2_ n3_;clear hb Zf hg;have Jr:w8.cell? ⟨Ug,0,none⟩=some (.int .i64 Zc):=(Yc Wi.out 0).trans rfl;have Js:w8.cell? ⟨Ug,1,none⟩=some (.bool Zb):=(Yc Wi.out 1).trans rfl;have hcz9_2:w8.cell? ⟨Ug,2,none⟩=some (.slice Ze Za.length Zd):=(Yc Wi.out 2).trans rfl;have Jt:=Yf Wi.out 0;have Ju:=Yf Wi.out 1;have hfz9_2:=Yf Wi.out 2)|((with_reducible refine gate_callee (f:=111) rfl ?_);refine goesL_ (some 12) rfl rfl Try.func111 (by kernel_rfl) rfl #[.agg #[.int .i64 Zc, .bool Zb, .slice Ze Za.length Zd], .int .i64 a1, .int .i64 a2] rfl (by(try simp only[List.map_toArray,List.map_cons,List.map_nil]);first|done|rfl|(simp only[List.length_drop,List.length_take];rfl)) ?_;(with_reducible refine(static_Ends.calls k Zc Zb _ _ Za a1 a2 t917 _ ?side1 ?side2 A4.out).mono ?_);(case side1=>repeat(first|exact(Yt Zl.out HB.out)|(with_reducible refine Kd.C_alloc ?_ _)|(with_reducible refine Kd.C_drewN ?_ _)|(with_reducible refine Kd.C_drew ?_)));(case side2=>exact Xd.out);rintro e w10 ⟨rfl,hb⟩;refine⟨_,rfl,?_⟩;have n0_:=Ya (Yn (g:=Ug) (o:= .cells #[.int .i64 Zc, .bool Zb, .slice Ze Za.length Zd] 24 (0,0)) (by(with_reducible repeat(first|refine Yl ?_ _|refine Ym ?_|refine Yj ?_ _));exact Wi.out) hb);have n1_:=Ya (Yk (by repeat(first|(with_reducible first|exact HB.out|apply Ye|apply Yd|apply Yg|refine Yh ?_ GE916.out)|exact HB.out)) hb);clear Wi;clear HB;have Wi:=n0_;have HB:=n1_;clear n0_ n1_;(try clear hb);(try clear hb2);(try clear hk);(try clear hi);have Jx:w10.cell? ⟨Ug,0,none⟩=some (.int .i64 Zc):=(Yc Wi.out 0).trans rfl;have Jy:w10.cell? ⟨Ug,1,none⟩=some (.bool Zb):=(Yc Wi.out 1).trans rfl;have Jz:w10.cell? ⟨Ug,2,none⟩=some (.slice Ze Za.length Zd):=(Yc Wi.out 2).trans rfl;have hfz11_0:=Yf Wi.out 0;have hfz11_1:=Yf Wi.out 1;have hfz11_2:=Yf Wi.out 2)|((with_reducible refine gate_callee (f:=121) rfl ?_);refine goesL_ (some 19) rfl rfl Try.func121 (by kernel_rfl) rfl #[.agg #[.int .i64 Zc, .bool Zb, .slice Ze Za.length Zd], .int .i64 a1, .int .i64 a2] rfl (by(try simp only[List.map_toArray,List.map_cons,List.map_nil]);first|done|rfl|(simp only[List.length_drop,List.length_take];rfl)) ?_;(with_reducible refine(maxflow_Fill.calls Zc Zb _ _ Za a1 a2 t918 _ ?side1 ?side2 A6.out).mono ?_);(case side1=>repeat(first|exact(Yt Zl.out HB.out)|(with_reducible refine Kd.C_alloc ?_ _)|(with_reducible refine Kd.C_drewN ?_ _)|(with_reducible refine Kd.C_drew ?_)));(case side2=>exact Xd.out);rintro e w12 ⟨v919,rfl,ho0,hb⟩;refine⟨_,rfl,?_⟩;have n0_:=Ya (Kd.R_lower ho0 (Yi (by repeat(first|(with_reducible first|exact HB.out|apply Ye|apply Yd|apply Yg|refine Yh ?_ GE916.out)|exact HB.out))));have n1_:=Ya (Yn (g:=Ug) (o:= .cells #[.int .i64 Zc, .bool Zb, .slice Ze Za.length Zd] 24 (0,0)) (by(with_reducible repeat(first|refine Yl ?_ _|refine Ym ?_|refine Yj ?_ _));exact Wi.out) hb);have n2_:=Ya (Yk (by repeat(first|(with_reducible first|exact HB.out|apply Ye|apply Yd|apply Yg|refine Yh ?_ GE916.out)|exact HB.out)) hb);clear Wi;clear HB;have HO920:=n0_;have Wi:=n1_;have HB:=n2_;clear n0_ n1_ n2_;(try clear hb);(try clear hb2);(try clear hk);(try clear hi);(try clear ho0);have hcz13_0:w12.cell? ⟨Ug,0,none⟩=some (.int .i64 Zc):=(Yc Wi.out 0).trans rfl;have hcz13_1:w12.cell? ⟨Ug,1,none⟩=some (.bool Zb):=(Yc Wi.out 1).trans rfl;have hcz13_2:w12.cell? ⟨Ug,2,none⟩=some (.slice Ze Za.length Zd):=(Yc Wi.out 2).trans rfl;have hfz13_0:=Yf Wi.out 0;have hfz13_1:=Yf Wi.out 1;have hfz13_2:=Yf Wi.out 2;obtain⟨Ao14,co14,eo14⟩:=Kd.R_slice HO920.out;subst eo14)|((with_reducible refine gate_callee (f:=119) rfl ?_);refine goesL_ (some 24) rfl rfl Try.func119 (by kernel_rfl) rfl #[.agg #[.int .i64 Zc, .bool Zb, .slice Ze Za.length Zd], .int .i64 a1, .slice Ao14 t918.length co14] rfl (by(try simp only[List.map_toArray,List.map_cons,List.map_nil]);first|done|rfl|(simp only[List.length_drop,List.length_take];rfl)) ?_;(with_reducible refine(maxflow_Value.calls k Zc Zb _ _ Za a1 _ _ t918 t921 _ ?side1 ?side2 ?side3 ?side4 A7.out).mono ?_);(case side1=>repeat(first|exact(Yt Zl.out HB.out)|(with_reducible refine Kd.C_alloc ?_ _)|(with_reducible refine Kd.C_drewN ?_ _)|(with_reducible refine Kd.C_drew ?_)));(case side2=>exact Xd.out);(case side3=>repeat(first|exact(Kd.R_reads' HO920.out).2.2|(with_reducible refine Kd.C_alloc ?_ _)|(with_reducible refine Kd.C_drewN ?_ _)|(with_reducible refine Kd.C_drew ?_)));(case side4=>exact(Kd.R_reads' HO920.out).2.1);rintro e w15 ⟨rfl,hb⟩;refine⟨_,rfl,?_⟩;have n0_:=Ya (Ys (by(with_reducible repeat(first|apply Yr|apply Yq|apply Yp));exact HO920.out) hb);have n1_:=Ya (Yn (g:=Ug) (o:= .cells #[.int .i64 Zc, .bool Zb, .slice Ze Za.length Zd] 24 (0,0)) (by(with_reducible repeat(first|refine Yl ?_ _|refine Ym ?_|refine Yj ?_ _));exact Wi.out) hb);have n2_:=Ya (Yk (by repeat(first|(with_reducible first|exact HB.out|apply Ye|apply Yd|apply Yg|refine Yh ?_ GE916.out)|exact HB.out)) hb);clear HO920;clear Wi;clear HB;have HO920:=n0_;have Wi:=n1_;have HB:=n2_;clear n0_ n1_ n2_;(try clear hb);(try clear hb2);(try clear hk);(try clear hi)))
 go_ret3
 exact⟨_,by first|rfl|(simp[errW_none,errW_some]<;>rfl)|(simp[*,errW_none,errW_some]<;>rfl),by(with_reducible repeat(first|apply Yr|apply Yq|apply Yp));exact HO920.out,by repeat(first|(with_reducible first|exact HB.out|apply Ye|apply Yd|apply Yg|refine Yh ?_ GE916.out)|exact HB.out)⟩
end P
namespace P
attribute [local go_sem] max2_int min2_int max_two min_two max_three min_three max_four min_four
def maxflow_Most.f (k:Nat) (Zc:Int) (Zb:Bool) (Za:List (S74)) (a1:Int) (a2:Int):Option (Int × Int):=(maxflow_Max.f k Zc Zb Za a1 a2).bind fun bt923=>(some (bt923.2.1,bt923.2.2))
set_option maxHeartbeats 8000000 in
set_option maxRecDepth 100000 in
theorem maxflow_Most.calls (k:Nat) (Zc:Int) (Zb:Bool) (Ze:Option Addr) (Zd:Nat) (Za:List (S74)) (a1:Int) (a2:Int) (r1:Int) (r2:Int) (w:World) (Zq:Kd.C k74 w Ze Za.length Za) (Zr:Za.length≤Zd) (h:maxflow_Most.f k Zc Zb Za a1 a2=some (r1,r2)):
  Calls Try.prog 73 #[.agg #[.int .i64 Zc, .bool Zb, .slice Ze Za.length Zd], .int .i64 a1, .int .i64 a2] w fun e w'=>e= .returned (.tuple #[.int .i64 r1, .int .i64 r2])∧Below w.heap.size w w':=by
 have hu24:=Try.underlying24
 have Zl:=Ya Zq
 have Xd:=Ya Zr
 clear Zq Zr
 have HB:=Ya (Yo w.heap.size w)
 have H:((maxflow_Max.f k Zc Zb Za a1 a2).bind fun bt923=>(some (bt923.2.1,bt923.2.2)))=some (r1,r2):=h
 clear h
 replace H:=Option.bind_eq_some_iff.mp H
 obtain⟨⟨t923,t926,t927⟩,A40,H⟩:=H
 replace H:(some (t926,t927))=some (r1,r2):=H
 have A4:=Ya A40
 clear A40
 simp only[Option.some.injEq,Prod.mk.injEq] at H
 obtain⟨rfl,rfl⟩:=H
 go_enter Try.func73,Try.ntmps73
 go_wp2_with (first|((with_reducible refine gate_dst (N:=3) rfl ?_);refine Yz ?hg (N:=3) ?hd (cs:= #[.int .i64 Zc, .bool Zb, .slice Ze Za.length Zd]) (t:=24) ?hr ?_;(case hd=>rfl);(case hg=>rfl);(case hr=>first|(go_simp;done)|(go_simp;rfl));intro gb922 hg w5 Zf hb;have n0_:=Ya (Yk (by repeat(first|(with_reducible first|exact HB.out|apply Ye|apply Yd|apply Yg)|exact HB.out)) hb);have n1_:=Ya (Zf);have n2_:=Ya ((by rw[hg];exact(Yi (by repeat(first|(with_reducible first|exact HB.out|apply Ye|apply Yd|apply Yg)|exact HB.out))):w.heap.size≤gb922));have n3_:=Ya ((by rw[hg];exact(Yi (by repeat(first|(with_reducible first|exact HB.out|apply Ye|apply Yd|apply Yg)|exact HB.out))):w.heap.size≤gb922));clear HB;have HB:=n0_;have BK922:=n1_;have GW922:=n2_;have GE922:=n3_;clear n0_ n1_ n2_ n3_;clear hb Zf hg;have hcz6_0:w5.cell? ⟨gb922,0,none⟩=some (.int .i64 Zc):=(Yc BK922.out 0).trans rfl;have hcz6_1:w5.cell? ⟨gb922,1,none⟩=some (.bool Zb):=(Yc BK922.out 1).trans rfl;have hcz6_2:w5.cell? ⟨gb922,2,none⟩=some (.slice Ze Za.length Zd):=(Yc BK922.out 2).trans rfl;have hfz6_0:=Yf BK922.out 0;have hfz6_1:=Yf BK922.out 1;have hfz6_2:=Yf BK922.out 2)|((with_reducible refine gate_callee (f:=76) rfl ?_);refine goesL_ (some 12) rfl rfl Try.func76 (by kernel_rfl) rfl #[.agg #[.int .i64 Zc, .bool Zb, .slice Ze Za.length Zd], .int .i64 a1, .int .i64 a2] rfl (by(try simp only[List.map_toArray,List.map_cons,List.map_nil]);first|done|rfl|(simp only[List.length_drop,List.length_take];rfl)) ?_;(with_reducible refine(maxflow_Max.calls k Zc Zb _ _ Za a1 a2 t923 t926 t927 _ ?side1 ?side2 A4.out).mono ?_);(case side1=>repeat(first|exact(Yt Zl.out HB.out)|(with_reducible refine Kd.C_alloc ?_ _)|(with_reducible refine Kd.C_drewN ?_ _)|(with_reducible refine Kd.C_drew ?_)));(case side2=>exact Xd.out);rintro e w7 ⟨v924,rfl,ho0,hb⟩;refine⟨_,rfl,?_⟩;have n0_:=Ya (Kd.R_lower ho0 (Yi (by repeat(first|(with_reducible first|exact HB.out|apply Ye|apply Yd|apply Yg|refine Yh ?_ GE922.out)|exact HB.out))));have n1_:=Ya (Yn (g:=gb922) (o:= .cells #[.int .i64 Zc, .bool Zb, .slice Ze Za.length Zd] 24 (0,0)) (by(with_reducible repeat(first|refine Yl ?_ _|refine Ym ?_|refine Yj ?_ _));exact BK922.out) hb);have n2_:=Ya (Yk (by repeat(first|(with_reducible first|exact HB.out|apply Ye|apply Yd|apply Yg|refine Yh ?_ GE922.out)|exact HB.out)) hb);clear BK922;clear HB;have HO925:=n0_;have BK922:=n1_;have HB:=n2_;clear n0_ n1_ n2_;(try clear hb);(try clear hb2);(try clear hk);(try clear hi);(try clear ho0)))
 go_ret2
 exact⟨by first|rfl|(simp[errW_none,errW_some]<;>rfl)|(simp[*,errW_none,errW_some]<;>rfl),by repeat(first|(with_reducible first|exact HB.out|apply Ye|apply Yd|apply Yg|refine Yh ?_ GE922.out)|exact HB.out)⟩
end P
namespace P
attribute [local go_sem] max2_int min2_int max_two min_two max_three min_three max_four min_four
def ebbtidelaw12_SpanStill.l0:Nat→Bool→Int→Int→Int→List (S74)→Int→Int→Bool→List (S74)→Option (Bool)
 |0,_,_,_,_,_,_,_,_,_=>none
 |k+1,x3,x5,x6,x7,x8,x9,x1493000,x1493001,x1493002=>if x9<(x1493002.length:Int) then(if 0≤x9 then(if x8.length<4398046511104 then(ebbtidelaw12_SpanStill.l0 k x3 x5 x6 x7 (x8 ++ [(⟨(rd_T74 x1493002 x9).f0,(rd_T74 x1493002 x9).f1,(rd_T74 x1493002 x9).f2,0⟩:S74)]) (wrap64 (x9+1)) x1493000 x1493001 x1493002) else(none)) else(none)) else((span_Most.f k x1493000 x1493001 x8 x5 x6 x7).bind fun bt1498=>((maxflow_Most.f k x1493000 x1493001 x8 x5 x6).bind fun bt1500=>(if x3=true then(if bt1498.2=0 then(if bt1500.2=0 then(some (bt1498.1 == (wrap64 ((wrap64 (x7+1)) * bt1500.1)))) else(some false)) else(some false)) else(some false))))
def ebbtidelaw12_SpanStill.f (k:Nat) (Zc:Int) (Zb:Bool) (Za:List (S135)) (Xy:Int) (Wl:Int) (Wm:Int):Option (Bool):=(ebbtidelaw12_awake.f k).bind fun t1483=>(if t1483=true then((ebbtidelaw12_Read.f k Zc Zb Za Xy Wl Wm 10).bind fun bt1484=>(ebbtidelaw12_SpanStill.l0 k t1483 bt1484.2.2.2.1 bt1484.2.2.2.2.1 bt1484.2.2.2.2.2 ([]:List (S74)) 0 bt1484.1 bt1484.2.1 bt1484.2.2.1)) else(some false))
set_option maxHeartbeats 8000000 in
set_option maxRecDepth 100000 in
theorem ebbtidelaw12_SpanStill.calls (k:Nat) (Zc:Int) (Zb:Bool) (Ze:Option Addr) (Zd:Nat) (Za:List (S135)) (Xy:Int) (Wl:Int) (Wm:Int) (r:Bool) (w:World) (Zq:Kd.C k135 w Ze Za.length Za) (Zr:Za.length≤Zd) (h:ebbtidelaw12_SpanStill.f k Zc Zb Za Xy Wl Wm=some r) (hrT_:r=true:=by first|rfl|exact Aside0.out (by assumption)):
  Calls Try.prog 37 #[.agg #[.int .u8 Zc, .bool Zb, .slice Ze Za.length Zd, .int .u8 Xy, .int .u8 Wl, .int .u8 Wm]] w fun e w'=>e= .returned (.bool r)∧Below w.heap.size w w':=by
 have HRT:=Ya hrT_
 clear hrT_
 have hu70:=Try.underlying70
 have hu24:=Try.underlying24
 have hu74:=Try.underlying74
 have Zl:=Ya Zq
 have Xd:=Ya Zr
 clear Zq Zr
 have HB:=Ya (Yo w.heap.size w)
 have H:((ebbtidelaw12_awake.f k).bind fun t1483=>(if t1483=true then((ebbtidelaw12_Read.f k Zc Zb Za Xy Wl Wm 10).bind fun bt1484=>(ebbtidelaw12_SpanStill.l0 k t1483 bt1484.2.2.2.1 bt1484.2.2.2.2.1 bt1484.2.2.2.2.2 ([]:List (S74)) 0 bt1484.1 bt1484.2.1 bt1484.2.2.1)) else(some false)))=some r:=h
 clear h
 replace H:=Option.bind_eq_some_iff.mp H
 obtain⟨t1483,A20,H⟩:=H
 replace H:(if t1483=true then((ebbtidelaw12_Read.f k Zc Zb Za Xy Wl Wm 10).bind fun bt1484=>(ebbtidelaw12_SpanStill.l0 k t1483 bt1484.2.2.2.1 bt1484.2.2.2.2.1 bt1484.2.2.2.2.2 ([]:List (S74)) 0 bt1484.1 bt1484.2.1 bt1484.2.2.1)) else(some false))=some r:=H
 have A2:=Ya A20
 clear A20
 by_cases c3:t1483=true
 rotate_left
 ·replace c3:=Bool.eq_false_iff.mpr c3
  subst c3
  have H1:(some false)=some r:=by rw[Yy (show ¬ (false=true) by decide)] at H;exact H
  exact absurd (Option.some.inj H1) (by rw[HRT.out];decide)
 subst c3
 have H1:((ebbtidelaw12_Read.f k Zc Zb Za Xy Wl Wm 10).bind fun bt1484=>(ebbtidelaw12_SpanStill.l0 k true bt1484.2.2.2.1 bt1484.2.2.2.2.1 bt1484.2.2.2.2.2 ([]:List (S74)) 0 bt1484.1 bt1484.2.1 bt1484.2.2.1))=some r:=by first|(rw[Yx rfl] at H;exact H)|(rw[Yx trivial] at H;exact H)
 clear H
 have H:=H1
 clear H1
 replace H:=Option.bind_eq_some_iff.mp H
 obtain⟨⟨t1484,t1485,t1486,t1489,t1490,t1491⟩,A40,H⟩:=H
 replace H:(ebbtidelaw12_SpanStill.l0 k true t1489 t1490 t1491 ([]:List (S74)) 0 t1484 t1485 t1486)=some r:=H
 have A4:=Ya A40
 clear A40
 have H':=Ya H
 clear H
 go_enter Try.func37,Try.ntmps37
 go_wp2_with (first|((with_reducible refine gate_dst (N:=1) rfl ?_);refine Yz ?hg (N:=1) ?hd (cs:= #[.int .u8 Zc, .bool Zb, .slice Ze Za.length Zd, .int .u8 Xy, .int .u8 Wl, .int .u8 Wm]) (t:=70) ?hr ?_;(case hd=>rfl);(case hg=>rfl);(case hr=>first|(go_simp;done)|(go_simp;rfl));intro Wq hg w5 Zf hb;have n0_:=Ya (Yk (by repeat(first|(with_reducible first|exact HB.out|apply Ye|apply Yd|apply Yg)|exact HB.out)) hb);have n1_:=Ya (Zf);have n2_:=Ya ((by rw[hg];exact(Yi (by repeat(first|(with_reducible first|exact HB.out|apply Ye|apply Yd|apply Yg)|exact HB.out))):w.heap.size≤Wq));have n3_:=Ya ((by rw[hg];exact(Yi (by repeat(first|(with_reducible first|exact HB.out|apply Ye|apply Yd|apply Yg)|exact HB.out))):w.heap.size≤Wq));clear HB;have HB:=n0_;have Xe:=n1_;have GW1482:=n2_;have Ud:=n3_;clear n0_ n1_ n2_ n3_;clear hb Zf hg)|((with_reducible refine gate_callee (f:=65) rfl ?_);refine goesL_ (some 15) rfl rfl Try.func65 (by kernel_rfl) rfl #[] rfl (by(try simp only[List.map_toArray,List.map_cons,List.map_nil]);first|done|rfl|(simp only[List.length_drop,List.length_take];rfl)) ?_;(with_reducible refine(ebbtidelaw12_awake.calls k  true _ A2.out).mono ?_);rintro e w6 ⟨rfl,hb⟩;refine⟨_,rfl,?_⟩;have n0_:=Ya (Yn (g:=Wq) (o:= .cells #[.int .u8 Zc, .bool Zb, .slice Ze Za.length Zd, .int .u8 Xy, .int .u8 Wl, .int .u8 Wm] 70 (0,0)) (by(with_reducible repeat(first|refine Yl ?_ _|refine Ym ?_|refine Yj ?_ _));exact Xe.out) hb);have n1_:=Ya (Yk (by repeat(first|(with_reducible first|exact HB.out|apply Ye|apply Yd|apply Yg|refine Yh ?_ Ud.out)|exact HB.out)) hb);clear Xe;clear HB;have Xe:=n0_;have HB:=n1_;clear n0_ n1_;(try clear hb);(try clear hb2);(try clear hk);(try clear hi);have hcz7_0:w6.cell? ⟨Wq,0,none⟩=some (.int .u8 Zc):=(Yc Xe.out 0).trans rfl;have hcz7_1:w6.cell? ⟨Wq,1,none⟩=some (.bool Zb):=(Yc Xe.out 1).trans rfl;have hcz7_2:w6.cell? ⟨Wq,2,none⟩=some (.slice Ze Za.length Zd):=(Yc Xe.out 2).trans rfl;have hcz7_3:w6.cell? ⟨Wq,3,none⟩=some (.int .u8 Xy):=(Yc Xe.out 3).trans rfl;have hcz7_4:w6.cell? ⟨Wq,4,none⟩=some (.int .u8 Wl):=(Yc Xe.out 4).trans rfl;have hcz7_5:w6.cell? ⟨Wq,5,none⟩=some (.int .u8 Wm):=(Yc Xe.out 5).trans rfl;have hfz7_0:=Yf Xe.out 0;have hfz7_1:=Yf Xe.out 1;have hfz7_2:=Yf Xe.out 2;have hfz7_3:=Yf Xe.out 3;have hfz7_4:=Yf Xe.out 4;have hfz7_5:=Yf Xe.out 5)|((with_reducible refine gate_callee (f:=72) rfl ?_);refine goesL_ (some 20) rfl rfl Try.func72 (by kernel_rfl) rfl #[.agg #[.int .u8 Zc, .bool Zb, .slice Ze Za.length Zd, .int .u8 Xy, .int .u8 Wl, .int .u8 Wm], .int .i64 10] rfl (by(try simp only[List.map_toArray,List.map_cons,List.map_nil]);first|done|rfl|(simp only[List.length_drop,List.length_take];rfl)) ?_;(with_reducible refine(ebbtidelaw12_Read.calls k Zc Zb _ _ Za Xy Wl Wm 10 t1484 t1485 t1486 t1489 t1490 t1491 _ ?side1 ?side2 A4.out).mono ?_);(case side1=>repeat(first|exact(Yt Zl.out HB.out)|(with_reducible refine Kd.C_alloc ?_ _)|(with_reducible refine Kd.C_drewN ?_ _)|(with_reducible refine Kd.C_drew ?_)));(case side2=>exact Xd.out);rintro e w8 ⟨v1487,rfl,ho0,hb⟩;refine⟨_,rfl,?_⟩;have n0_:=Ya (Kd.R_lower ho0 (Yi (by repeat(first|(with_reducible first|exact HB.out|apply Ye|apply Yd|apply Yg|refine Yh ?_ Ud.out)|exact HB.out))));have n1_:=Ya (Yn (g:=Wq) (o:= .cells #[.int .u8 Zc, .bool Zb, .slice Ze Za.length Zd, .int .u8 Xy, .int .u8 Wl, .int .u8 Wm] 70 (0,0)) (by(with_reducible repeat(first|refine Yl ?_ _|refine Ym ?_|refine Yj ?_ _));exact Xe.out) hb);have n2_:=Ya (Yk (by repeat(first|(with_reducible first|exact HB.out|apply Ye|apply Yd|apply Yg|refine Yh ?_ Ud.out)|exact HB.out)) hb);clear Xe;clear HB;have HO1488:=n0_;have Xe:=n1_;have HB:=n2_;clear n0_ n1_ n2_;(try clear hb);(try clear hb2);(try clear hk);(try clear hi);(try clear ho0))|((with_reducible refine gate_dst (N:=4) rfl ?_);refine Yz ?hg (N:=4) ?hd (cs:= #[.int .i64 0, .bool false, .slice none 0 0]) (t:=24) ?hr ?_;(case hd=>rfl);(case hg=>rfl);(case hr=>first|(go_simp;done)|(go_simp;rfl));intro Wa hg w9 Zf hb;have n0_:=Ya (Ys (by(with_reducible repeat(first|apply Yr|apply Yq|apply Yp));exact HO1488.out) hb);have n1_:=Ya (Yn (g:=Wq) (o:= .cells #[.int .u8 Zc, .bool Zb, .slice Ze Za.length Zd, .int .u8 Xy, .int .u8 Wl, .int .u8 Wm] 70 (0,0)) (by(with_reducible repeat(first|refine Yl ?_ _|refine Ym ?_|refine Yj ?_ _));exact Xe.out) hb);have n2_:=Ya (Yk (by repeat(first|(with_reducible first|exact HB.out|apply Ye|apply Yd|apply Yg|refine Yh ?_ Ud.out)|exact HB.out)) hb);have n3_:=Ya (Zf);have n4_:=Ya ((by rw[hg];exact(Yi (by repeat(first|(with_reducible first|exact HB.out|apply Ye|apply Yd|apply Yg|refine Yh ?_ Ud.out)|exact HB.out))):w.heap.size≤Wa));have n5_:=Ya ((by rw[hg];exact(Yi (by repeat(first|(with_reducible first|exact HB.out|apply Ye|apply Yd|apply Yg|refine Yh ?_ Ud.out)|exact HB.out))):w.heap.size≤Wa));have n6_:=Ya ((by rw[hg];exact Nat.ne_of_lt (blk_lt (g:=Wq) (o:= .cells #[.int .u8 Zc, .bool Zb, .slice Ze Za.length Zd, .int .u8 Xy, .int .u8 Wl, .int .u8 Wm] 70 (0,0)) (by(with_reducible repeat(first|refine Yl ?_ _|refine Ym ?_|refine Yj ?_ _));exact Xe.out)):Wq≠Wa));have n7_:=Ya ((by rw[hg];exact Nat.ne_of_gt (blk_lt (g:=Wq) (o:= .cells #[.int .u8 Zc, .bool Zb, .slice Ze Za.length Zd, .int .u8 Xy, .int .u8 Wl, .int .u8 Wm] 70 (0,0)) (by(with_reducible repeat(first|refine Yl ?_ _|refine Ym ?_|refine Yj ?_ _));exact Xe.out)):Wa≠Wq));clear HO1488;clear Xe;clear HB;have HO1488:=n0_;have Xe:=n1_;have HB:=n2_;have Xb:=n3_;have GW1492:=n4_;have GE1492:=n5_;have Vy:=n6_;have NB1492_1482:=n7_;clear n0_ n1_ n2_ n3_ n4_ n5_ n6_ n7_;clear hb Zf hg;have hnb10:=NB1492_1482.out;have hnc10:=Vy.out;have Jx:w9.cell? ⟨Wa,0,none⟩=some (.int .i64 0):=(Yc Xb.out 0).trans rfl;have Jy:w9.cell? ⟨Wa,1,none⟩=some (.bool false):=(Yc Xb.out 1).trans rfl;have Jz:w9.cell? ⟨Wa,2,none⟩=some (.slice none 0 0):=(Yc Xb.out 2).trans rfl;have hfz11_0:=Yf Xb.out 0;have hfz11_1:=Yf Xb.out 1;have hfz11_2:=Yf Xb.out 2;obtain⟨Ao12,co12,eo12⟩:=Kd.R_slice HO1488.out;subst eo12))
 go_loopg [8,9] k (fun kq v8 v9 w'=> ∃ (x8_1:List (S74)) (Zj:Int),v9= .int .i64 Zj∧Aside0 (ebbtidelaw12_SpanStill.l0 kq true t1489 t1490 t1491 x8_1 Zj t1484 t1485 t1486=some r)∧Aside0 (kq≤k)∧Aside0 (Kd.R k74 74 w' w.heap.size (fun k_=>some k_≠((.slice Ao12 t1486.length co12):Value).ownBlock) v8 x8_1)∧Aside0 (Kd.R k74 74 w' w.heap.size (fun k_=>some k_≠(v8:Value).ownBlock) (.slice Ao12 t1486.length co12) t1486)∧Aside0 (w'.heap[Wq]? =some (.cells #[.int .u8 Zc, .bool Zb,(.slice Ze Za.length Zd), .int .u8 Xy, .int .u8 Wl, .int .u8 Wm] 70 (0,0)))∧Aside0 (w'.heap[Wa]? =some (.cells #[.int .i64 t1484, .bool t1485,(.slice Ao12 t1486.length co12)] 24 (0,0)))∧Aside0 (Below w.heap.size w w'))
 case atStart=>exact⟨(([]:List (S74))),(0),(by first|rfl|(simp;done)|(simp[*];done)),H',⟨Nat.le_refl _⟩,⟨by first|exact Kd.R_nil _ _ _ _ _|exact Kd.N_nil _ _ _ _ _|exact Kd.V_nil _ _ _ _ _|exact Kd.Q_nil _ _ _ _ _|exact Kd.S_nil _ _ _ _ _⟩,⟨by(with_reducible repeat(first|apply Yr|apply Yq|apply Yp));exact Kd.R_mono (Kd.R_far (p:=⟨Wa,2,none⟩) (Kd.R_far (p:=⟨Wa,1,none⟩) (Kd.R_far (p:=⟨Wa,0,none⟩) (Kd.R_types HO1488.out Xb.out (by decide)) (fun _ hk=>hk.2) (.int .i64 t1484)) (fun _ hk=>hk.2) (.bool t1485)) (fun _ hk=>hk.2) (.slice Ao12 t1486.length co12)) (fun _ hk=>(by simp[Value.ownBlock]))⟩,⟨by(with_reducible repeat(first|refine Yl ?_ _|refine Ym ?_|refine Yj ?_ _));refine blk_far ?_ Vy.out _;(with_reducible repeat(first|refine Yl ?_ _|refine Ym ?_|refine Yj ?_ _));refine blk_far ?_ Vy.out _;(with_reducible repeat(first|refine Yl ?_ _|refine Ym ?_|refine Yj ?_ _));refine blk_far ?_ Vy.out _;(with_reducible repeat(first|refine Yl ?_ _|refine Ym ?_|refine Yj ?_ _));exact Xe.out⟩,⟨by(with_reducible repeat(first|refine Yl ?_ _|refine Ym ?_|refine Yj ?_ _));refine YA (cs:= #[.int .i64 t1484, .bool t1485, .slice none 0 0]) ?_ 2 _ rfl;(with_reducible repeat(first|refine Yl ?_ _|refine Ym ?_|refine Yj ?_ _));refine YA (cs:= #[.int .i64 t1484, .bool false, .slice none 0 0]) ?_ 1 _ rfl;(with_reducible repeat(first|refine Yl ?_ _|refine Ym ?_|refine Yj ?_ _));refine YA (cs:= #[.int .i64 0, .bool false, .slice none 0 0]) ?_ 0 _ rfl;(with_reducible repeat(first|refine Yl ?_ _|refine Ym ?_|refine Yj ?_ _));exact Xb.out⟩,⟨by repeat(first|(with_reducible first|exact HB.out|apply Ye|apply Yd|apply Yg|refine Yh ?_ Ud.out|refine Yh ?_ GE1492.out)|exact HB.out)⟩⟩
 case round=>
  clear H'
  try clear c1
  try clear p2
  try clear c3
  try clear c6
  try clear c7
  try clear c10
  try clear Jx
  try clear Jy
  try clear Jz
  try clear hcz7_0
  try clear hcz7_1
  try clear hcz7_2
  try clear hcz7_3
  try clear hcz7_4
  try clear hcz7_5
  try clear hfz11_0
  try clear hfz11_1
  try clear hfz11_2
  try clear hfz7_0
  try clear hfz7_1
  try clear hfz7_2
  try clear hfz7_3
  try clear hfz7_4
  try clear hfz7_5
  obtain⟨x8_1,Zj,rfl,HA,HK1,HO_8,HO_1493002,Xe,Xb,HB⟩:=hrel
  cases gk with
  |zero=>exact absurd HA.out (by simp[ebbtidelaw12_SpanStill.l0])
  |succ k1=>
   have H:=HA.out
   clear HA
   simp only[ebbtidelaw12_SpanStill.l0] at H
   by_cases c13:Zj<(t1486.length:Int)
   rotate_left
   ·rw[Yy c13] at H
    have c13b0:decide (Zj<(t1486.length:Int))=false:=Yw c13
    clear c13
    replace H:=Option.bind_eq_some_iff.mp H
    obtain⟨⟨t1498,t1499⟩,A230,H⟩:=H
    replace H:((maxflow_Most.f k1 t1484 t1485 x8_1 t1489 t1490).bind fun bt1500=>(if true=true then(if t1499=0 then(if bt1500.2=0 then(some (t1498 == (wrap64 ((wrap64 (t1491+1)) * bt1500.1)))) else(some false)) else(some false)) else(some false)))=some r:=H
    have A23:=Ya A230
    clear A230
    replace H:=Option.bind_eq_some_iff.mp H
    obtain⟨⟨t1500,t1501⟩,A240,H⟩:=H
    replace H:(if true=true then(if t1499=0 then(if t1501=0 then(some (t1498 == (wrap64 ((wrap64 (t1491+1)) * t1500)))) else(some false)) else(some false)) else(some false))=some r:=H
    have A24:=Ya A240
    clear A240
    by_cases c25:true=true
    rotate_left
    ·exact absurd rfl c25
    clear c25
    have H1:(if t1499=0 then(if t1501=0 then(some (t1498 == (wrap64 ((wrap64 (t1491+1)) * t1500)))) else(some false)) else(some false))=some r:=by first|(rw[Yx rfl] at H;exact H)|(rw[Yx trivial] at H;exact H)
    clear H
    have H:=H1
    clear H1
    by_cases c26:t1499=0
    rotate_left
    ·rw[Yy c26] at H
     exact absurd (Option.some.inj H) (by rw[HRT.out];decide)
    rw[Yx c26] at H
    have c26b0:(t1499 == 0)=true:=beq_iff_eq.mpr c26
    have c26b1:(t1499 != 0)=false:=bne_eq_false_iff_eq.mpr c26
    clear c26
    by_cases c27:t1501=0
    rotate_left
    ·rw[Yy c27] at H
     exact absurd (Option.some.inj H) (by rw[HRT.out];decide)
    rw[Yx c27] at H
    have c27b0:(t1501 == 0)=true:=beq_iff_eq.mpr c27
    have c27b1:(t1501 != 0)=false:=bne_eq_false_iff_eq.mpr c27
    clear c27
    obtain rfl:=Option.some.inj H
    have hnb28:=NB1492_1482.out
    have hnc28:=Vy.out
    have hcz29_0:wr.cell? ⟨Wa,0,none⟩=some (.int .i64 t1484):=(Yc Xb.out 0).trans rfl
    have hcz29_1:wr.cell? ⟨Wa,1,none⟩=some (.bool t1485):=(Yc Xb.out 1).trans rfl
    have hcz29_2:wr.cell? ⟨Wa,2,none⟩=some (.slice Ao12 t1486.length co12):=(Yc Xb.out 2).trans rfl
    have hfz29_0:=Yf Xb.out 0
    have hfz29_1:=Yf Xb.out 1
    have hfz29_2:=Yf Xb.out 2
    obtain⟨Ao30,co30,eo30⟩:=Kd.R_slice HO_8.out
    subst eo30
    go_wp2_with (first|((with_reducible refine gate_callee (f:=67) rfl ?_);refine goesL_ (some 49) rfl rfl Try.func67 (by kernel_rfl) rfl #[.agg #[.int .i64 t1484, .bool t1485, .slice Ao30 x8_1.length co30], .int .i64 t1489, .int .i64 t1490, .int .i64 t1491] rfl (by(try simp only[List.map_toArray,List.map_cons,List.map_nil]);first|done|rfl|(simp only[List.length_drop,List.length_take];rfl)) ?_;(with_reducible refine(span_Most.calls k1 t1484 t1485 _ _ x8_1 t1489 t1490 t1491 t1498 t1499 _ ?side1 ?side2 A23.out).mono ?_);(case side1=>refine(Kd.R_reads' (e:=74) (base:=w.heap.size) (ok:=fun k_=>some k_≠(.slice Ao12 t1486.length co12:Value).ownBlock) (n:=x8_1.length) (c:=co30) ?_).2.2;exact(by(with_reducible repeat(first|apply Yr|apply Yq|apply Yp));exact(Kd.R_mono (Kd.R_far (p:=⟨Wa,2,none⟩) (Kd.R_types HO_8.out Xb.out (by decide)) (fun _ hk=>hk.2) (.slice Ao30 x8_1.length co30)) (fun _ h_=>h_.1))));(case side2=>exact(Kd.R_reads' HO_8.out).2.1);rintro e w31 ⟨rfl,hb⟩;refine⟨_,rfl,?_⟩;have n0_:=Ya (Ys (by(with_reducible repeat(first|apply Yr|apply Yq|apply Yp));exact(Kd.R_mono (Kd.R_far (p:=⟨Wa,2,none⟩) (Kd.R_types HO_8.out Xb.out (by decide)) (fun _ hk=>hk.2) (.slice Ao30 x8_1.length co30)) (fun _ h_=>h_.1))) hb);have n1_:=Ya (Ys (by(with_reducible repeat(first|apply Yr|apply Yq|apply Yp));exact(Kd.R_mono (Kd.R_far (p:=⟨Wa,2,none⟩) (Kd.R_types HO_1493002.out Xb.out (by decide)) (fun _ hk=>hk.2) (.slice Ao30 x8_1.length co30)) (fun _ h_=>h_.1))) hb);have n2_:=Ya (Yn (g:=Wq) (o:= .cells #[.int .u8 Zc, .bool Zb, .slice Ze Za.length Zd, .int .u8 Xy, .int .u8 Wl, .int .u8 Wm] 70 (0,0)) (by(with_reducible repeat(first|refine Yl ?_ _|refine Ym ?_|refine Yj ?_ _));refine blk_far ?_ Vy.out _;(with_reducible repeat(first|refine Yl ?_ _|refine Ym ?_|refine Yj ?_ _));exact Xe.out) hb);have n3_:=Ya (Yn (g:=Wa) (o:= .cells #[.int .i64 t1484, .bool t1485, .slice Ao30 x8_1.length co30] 24 (0,0)) (by(with_reducible repeat(first|refine Yl ?_ _|refine Ym ?_|refine Yj ?_ _));refine YA (cs:= #[.int .i64 t1484, .bool t1485, .slice Ao12 t1486.length co12]) ?_ 2 _ rfl;(with_reducible repeat(first|refine Yl ?_ _|refine Ym ?_|refine Yj ?_ _));exact Xb.out) hb);have n4_:=Ya (Yk (by repeat(first|(with_reducible first|exact HB.out|apply Ye|apply Yd|apply Yg|refine Yh ?_ Ud.out|refine Yh ?_ GE1492.out)|exact HB.out)) hb);clear HO_8;clear HO_1493002;clear Xe;clear Xb;clear HB;have HO_8:=n0_;have HO_1493002:=n1_;have Xe:=n2_;have Xb:=n3_;have HB:=n4_;clear n0_ n1_ n2_ n3_ n4_;(try clear hb);(try clear hb2);(try clear hk);(try clear hi);have hcz32_0:w31.cell? ⟨Wa,0,none⟩=some (.int .i64 t1484):=(Yc Xb.out 0).trans rfl;have hcz32_1:w31.cell? ⟨Wa,1,none⟩=some (.bool t1485):=(Yc Xb.out 1).trans rfl;have hcz32_2:w31.cell? ⟨Wa,2,none⟩=some (.slice Ao30 x8_1.length co30):=(Yc Xb.out 2).trans rfl;have hfz32_0:=Yf Xb.out 0;have hfz32_1:=Yf Xb.out 1;have hfz32_2:=Yf Xb.out 2)|((with_reducible refine gate_callee (f:=73) rfl ?_);refine goesL_ (some 56) rfl rfl Try.func73 (by kernel_rfl) rfl #[.agg #[.int .i64 t1484, .bool t1485, .slice Ao30 x8_1.length co30], .int .i64 t1489, .int .i64 t1490] rfl (by(try simp only[List.map_toArray,List.map_cons,List.map_nil]);first|done|rfl|(simp only[List.length_drop,List.length_take];rfl)) ?_;(with_reducible refine(maxflow_Most.calls k1 t1484 t1485 _ _ x8_1 t1489 t1490 t1500 t1501 _ ?side1 ?side2 A24.out).mono ?_);(case side1=>repeat(first|exact(Kd.R_reads' HO_8.out).2.2|(with_reducible refine Kd.C_alloc ?_ _)|(with_reducible refine Kd.C_drewN ?_ _)|(with_reducible refine Kd.C_drew ?_)));(case side2=>exact(Kd.R_reads' HO_8.out).2.1);rintro e w33 ⟨rfl,hb⟩;refine⟨_,rfl,?_⟩;have n0_:=Ya (Ys (by(with_reducible repeat(first|apply Yr|apply Yq|apply Yp));exact HO_8.out) hb);have n1_:=Ya (Ys (by(with_reducible repeat(first|apply Yr|apply Yq|apply Yp));exact HO_1493002.out) hb);have n2_:=Ya (Yn (g:=Wq) (o:= .cells #[.int .u8 Zc, .bool Zb, .slice Ze Za.length Zd, .int .u8 Xy, .int .u8 Wl, .int .u8 Wm] 70 (0,0)) (by(with_reducible repeat(first|refine Yl ?_ _|refine Ym ?_|refine Yj ?_ _));exact Xe.out) hb);have n3_:=Ya (Yn (g:=Wa) (o:= .cells #[.int .i64 t1484, .bool t1485, .slice Ao30 x8_1.length co30] 24 (0,0)) (by(with_reducible repeat(first|refine Yl ?_ _|refine Ym ?_|refine Yj ?_ _));exact Xb.out) hb);have n4_:=Ya (Yk (by repeat(first|(with_reducible first|exact HB.out|apply Ye|apply Yd|apply Yg|refine Yh ?_ Ud.out|refine Yh ?_ GE1492.out)|exact HB.out)) hb);clear HO_8;clear HO_1493002;clear Xe;clear Xb;clear HB;have HO_8:=n0_;have HO_1493002:=n1_;have Xe:=n2_;have Xb:=n3_;have HB:=n4_;clear n0_ n1_ n2_ n3_ n4_;(try clear hb);(try clear hb2);(try clear hk);(try clear hi)))
    go_ret
    exact⟨by first|rfl|(simp[errW_none,errW_some]<;>rfl)|(simp[*,errW_none,errW_some]<;>rfl),by repeat(first|(with_reducible first|exact HB.out|apply Ye|apply Yd|apply Yg|refine Yh ?_ Ud.out|refine Yh ?_ GE1492.out)|exact HB.out)⟩
   rw[Yx c13] at H
   have c13b0:decide (Zj<(t1486.length:Int))=true:=Yv c13
   clear c13
   by_cases c14:0≤Zj
   rotate_left
   ·rw[Yy c14] at H
    exact absurd H (by simp)
   rw[Yx c14] at H
   have c14b0:decide (0≤Zj)=true:=Yv c14
   clear c14
   by_cases c15:x8_1.length<4398046511104
   rotate_left
   ·rw[Yy c15] at H
    exact absurd H (by simp)
   rw[Yx c15] at H
   have LMc15:=Ya c15
   clear c15
   obtain⟨y1495,hy1495⟩: ∃ y_:List (S74),y_=(x8_1 ++ [(⟨(rd_T74 t1486 Zj).f0,(rd_T74 t1486 Zj).f1,(rd_T74 t1486 Zj).f2,0⟩:S74)]):=⟨_,rfl⟩
   replace H:(ebbtidelaw12_SpanStill.l0 k1 true t1489 t1490 t1491 y1495 (wrap64 (Zj+1)) t1484 t1485 t1486)=some r:=by first|(rw[hy1495];with_reducible exact H)|(have H2_:=(Option.bind_some _ _).symm.trans H;rw[hy1495];with_reducible exact H2_)|(have H2_:=(Option.bind_some _ _).symm.trans H;with_reducible exact H2_)|with_reducible exact H|(rw[hy1495];exact H)|exact H
   have Ny1495:=Ya hy1495
   clear hy1495
   have H':=Ya H
   clear H
   have hnb16:=NB1492_1482.out
   have hnc16:=Vy.out
   have Uh:wr.cell? ⟨Wa,0,none⟩=some (.int .i64 t1484):=(Yc Xb.out 0).trans rfl
   have Ui:wr.cell? ⟨Wa,1,none⟩=some (.bool t1485):=(Yc Xb.out 1).trans rfl
   have Jk:wr.cell? ⟨Wa,2,none⟩=some (.slice Ao12 t1486.length co12):=(Yc Xb.out 2).trans rfl
   have Uj:=Yf Xb.out 0
   have Uk:=Yf Xb.out 1
   have Jl:=Yf Xb.out 2
   have p1493:0≤(Zj:Int):=Yu (by first|(with_reducible assumption)|assumption)
   have q1493:Zj<(t1486.length:Int):=Yu (by first|(with_reducible assumption)|assumption)
   obtain⟨ad1493,e1493,hx1493_0,hx1493_1,hx1493_2,hx1493_3⟩:=at_T74 (Kd.R_reads' HO_1493002.out).2.2 Zj p1493 q1493
   cases e1493
   replace p1493:=eq_true p1493
   replace q1493:=eq_true q1493
   go_upto_region 10 with (first|((with_reducible refine gate_dst (N:=10) rfl ?_);refine Yz ?hg (N:=10) ?hd (cs:= #[.int .i64 0, .int .i64 0, .int .i64 0, .int .i64 0]) (t:=74) ?hr ?_;(case hd=>rfl);(case hg=>rfl);(case hr=>first|(go_simp;done)|(go_simp;rfl));intro Zv hg w18 Zf hb;have n0_:=Ya (Ys (Kd.R_elderB (by(with_reducible repeat(first|apply Yr|apply Yq|apply Yp));exact HO_8.out) Zv (Nat.le_of_eq hg.symm)) hb);have n1_:=Ya (Ys (Kd.R_elderB (by(with_reducible repeat(first|apply Yr|apply Yq|apply Yp));exact HO_1493002.out) Zv (Nat.le_of_eq hg.symm)) hb);have n2_:=Ya (Yn (g:=Wq) (o:= .cells #[.int .u8 Zc, .bool Zb, .slice Ze Za.length Zd, .int .u8 Xy, .int .u8 Wl, .int .u8 Wm] 70 (0,0)) (by(with_reducible repeat(first|refine Yl ?_ _|refine Ym ?_|refine Yj ?_ _));exact Xe.out) hb);have n3_:=Ya (Yn (g:=Wa) (o:= .cells #[.int .i64 t1484, .bool t1485, .slice (some ad1493) t1486.length co12] 24 (0,0)) (by(with_reducible repeat(first|refine Yl ?_ _|refine Ym ?_|refine Yj ?_ _));exact Xb.out) hb);have n4_:=Ya (Yk (by repeat(first|(with_reducible first|exact HB.out|apply Ye|apply Yd|apply Yg|refine Yh ?_ Ud.out|refine Yh ?_ GE1492.out)|exact HB.out)) hb);have n5_:=Ya (Zf);have n6_:=Ya ((by rw[hg];exact(Yi (by repeat(first|(with_reducible first|exact HB.out|apply Ye|apply Yd|apply Yg|refine Yh ?_ Ud.out|refine Yh ?_ GE1492.out)|exact HB.out))):w.heap.size≤Zv));have n7_:=Ya ((by rw[hg];exact(Yi (by repeat(first|(with_reducible first|exact HB.out|apply Ye|apply Yd|apply Yg|refine Yh ?_ Ud.out|refine Yh ?_ GE1492.out)|exact HB.out))):w.heap.size≤Zv));have n8_:=Ya ((by rw[hg];exact Nat.ne_of_lt (blk_lt (g:=Wq) (o:= .cells #[.int .u8 Zc, .bool Zb, .slice Ze Za.length Zd, .int .u8 Xy, .int .u8 Wl, .int .u8 Wm] 70 (0,0)) (by(with_reducible repeat(first|refine Yl ?_ _|refine Ym ?_|refine Yj ?_ _));exact Xe.out)):Wq≠Zv));have n9_:=Ya ((by rw[hg];exact Nat.ne_of_gt (blk_lt (g:=Wq) (o:= .cells #[.int .u8 Zc, .bool Zb, .slice Ze Za.length Zd, .int .u8 Xy, .int .u8 Wl, .int .u8 Wm] 70 (0,0)) (by(with_reducible repeat(first|refine Yl ?_ _|refine Ym ?_|refine Yj ?_ _));exact Xe.out)):Zv≠Wq));have n10_:=Ya ((by rw[hg];exact Nat.ne_of_lt (blk_lt (g:=Wa) (o:= .cells #[.int .i64 t1484, .bool t1485, .slice (some ad1493) t1486.length co12] 24 (0,0)) (by(with_reducible repeat(first|refine Yl ?_ _|refine Ym ?_|refine Yj ?_ _));exact Xb.out)):Wa≠Zv));have n11_:=Ya ((by rw[hg];exact Nat.ne_of_gt (blk_lt (g:=Wa) (o:= .cells #[.int .i64 t1484, .bool t1485, .slice (some ad1493) t1486.length co12] 24 (0,0)) (by(with_reducible repeat(first|refine Yl ?_ _|refine Ym ?_|refine Yj ?_ _));exact Xb.out)):Zv≠Wa));clear HO_8;clear HO_1493002;clear Xe;clear Xb;clear HB;have HO_8:=n0_;have HO_1493002:=n1_;have Xe:=n2_;have Xb:=n3_;have HB:=n4_;have Ww:=n5_;have GW1494:=n6_;have GE1494:=n7_;have Ul:=n8_;have NB1494_1482:=n9_;have Um:=n10_;have NB1494_1492:=n11_;clear n0_ n1_ n2_ n3_ n4_ n5_ n6_ n7_ n8_ n9_ n10_ n11_;clear hb Zf hg;have hnb19:=NB1494_1482.out;have hnc19:=Ul.out;have hnb20:=NB1494_1492.out;have hnc20:=Um.out;have hcz21_0:w18.cell? ⟨Zv,0,none⟩=some (.int .i64 0):=(Yc Ww.out 0).trans rfl;have hcz21_1:w18.cell? ⟨Zv,1,none⟩=some (.int .i64 0):=(Yc Ww.out 1).trans rfl;have hcz21_2:w18.cell? ⟨Zv,2,none⟩=some (.int .i64 0):=(Yc Ww.out 2).trans rfl;have hcz21_3:w18.cell? ⟨Zv,3,none⟩=some (.int .i64 0):=(Yc Ww.out 3).trans rfl;have hfz21_0:=Yf Ww.out 0;have hfz21_1:=Yf Ww.out 1;have hfz21_2:=Yf Ww.out 2;have hfz21_3:=Yf Ww.out 3)|fail)
   have z0_:=Ya (Kd.R_far (p:=⟨Zv,3,none⟩) (Kd.R_far (p:=⟨Zv,2,none⟩) (Kd.R_far (p:=⟨Zv,1,none⟩) (Kd.R_far (p:=⟨Zv,0,none⟩) (Kd.R_mono HO_8.out (fun k_ hk=>(⟨hk,hk.2⟩:_∧k_≠Zv))) (fun _ hk=>hk.2) (.int .i64 ((rd_T74 t1486 Zj).f0))) (fun _ hk=>hk.2) (.int .i64 ((rd_T74 t1486 Zj).f1))) (fun _ hk=>hk.2) (.int .i64 ((rd_T74 t1486 Zj).f2))) (fun _ hk=>hk.2) (.int .i64 ((rd_T74 t1486 Zj).f3)))
   have z1_:=Ya (Kd.R_far (p:=⟨Zv,3,none⟩) (Kd.R_far (p:=⟨Zv,2,none⟩) (Kd.R_far (p:=⟨Zv,1,none⟩) (Kd.R_far (p:=⟨Zv,0,none⟩) (Kd.R_mono HO_1493002.out (fun k_ hk=>(⟨hk,hk.2⟩:_∧k_≠Zv))) (fun _ hk=>hk.2) (.int .i64 ((rd_T74 t1486 Zj).f0))) (fun _ hk=>hk.2) (.int .i64 ((rd_T74 t1486 Zj).f1))) (fun _ hk=>hk.2) (.int .i64 ((rd_T74 t1486 Zj).f2))) (fun _ hk=>hk.2) (.int .i64 ((rd_T74 t1486 Zj).f3)))
   have z2_:=Ya (blk_far (p:=⟨Zv,3,none⟩) (blk_far (p:=⟨Zv,2,none⟩) (blk_far (p:=⟨Zv,1,none⟩) (blk_far (p:=⟨Zv,0,none⟩) (Xe.out) Ul.out (.int .i64 ((rd_T74 t1486 Zj).f0))) Ul.out (.int .i64 ((rd_T74 t1486 Zj).f1))) Ul.out (.int .i64 ((rd_T74 t1486 Zj).f2))) Ul.out (.int .i64 ((rd_T74 t1486 Zj).f3)))
   have z3_:=Ya (blk_far (p:=⟨Zv,3,none⟩) (blk_far (p:=⟨Zv,2,none⟩) (blk_far (p:=⟨Zv,1,none⟩) (blk_far (p:=⟨Zv,0,none⟩) (Xb.out) Um.out (.int .i64 ((rd_T74 t1486 Zj).f0))) Um.out (.int .i64 ((rd_T74 t1486 Zj).f1))) Um.out (.int .i64 ((rd_T74 t1486 Zj).f2))) Um.out (.int .i64 ((rd_T74 t1486 Zj).f3)))
   have z4_:Aside0 (((((w18.setCell ⟨Zv,0,none⟩ (.int .i64 ((rd_T74 t1486 Zj).f0))).setCell ⟨Zv,1,none⟩ (.int .i64 ((rd_T74 t1486 Zj).f1))).setCell ⟨Zv,2,none⟩ (.int .i64 ((rd_T74 t1486 Zj).f2))).setCell ⟨Zv,3,none⟩ (.int .i64 ((rd_T74 t1486 Zj).f3))).heap[Zv]? =some (.cells #[.int .i64 ((rd_T74 t1486 Zj).f0), .int .i64 ((rd_T74 t1486 Zj).f1), .int .i64 ((rd_T74 t1486 Zj).f2), .int .i64 ((rd_T74 t1486 Zj).f3)] 74 (0,0))):=⟨YA (cs:= #[.int .i64 ((rd_T74 t1486 Zj).f0), .int .i64 ((rd_T74 t1486 Zj).f1), .int .i64 ((rd_T74 t1486 Zj).f2), .int .i64 0]) (YA (cs:= #[.int .i64 ((rd_T74 t1486 Zj).f0), .int .i64 ((rd_T74 t1486 Zj).f1), .int .i64 0, .int .i64 0]) (YA (cs:= #[.int .i64 ((rd_T74 t1486 Zj).f0), .int .i64 0, .int .i64 0, .int .i64 0]) (YA (cs:= #[.int .i64 0, .int .i64 0, .int .i64 0, .int .i64 0]) (Ww.out) 0 _ rfl) 1 _ rfl) 2 _ rfl) 3 _ rfl⟩
   have z5_:Aside0 (Below w.heap.size w ((((w18.setCell ⟨Zv,0,none⟩ (.int .i64 ((rd_T74 t1486 Zj).f0))).setCell ⟨Zv,1,none⟩ (.int .i64 ((rd_T74 t1486 Zj).f1))).setCell ⟨Zv,2,none⟩ (.int .i64 ((rd_T74 t1486 Zj).f2))).setCell ⟨Zv,3,none⟩ (.int .i64 ((rd_T74 t1486 Zj).f3)))):=⟨Yh (Yh (Yh (Yh (HB.out) GW1494.out) GW1494.out) GW1494.out) GW1494.out⟩
   clear HO_8 HO_1493002 Xe Xb Ww HB
   try clear hcz21_0 hcz21_1 hcz21_2 hcz21_3 hfz21_0 hfz21_1 hfz21_2 hfz21_3
   try clear Uh Ui Jk Uj Uk Jl
   try clear hx1421_0 hx1421_1 hx1421_2 hx1421_3
   generalize ((((w18.setCell ⟨Zv,0,none⟩ (.int .i64 ((rd_T74 t1486 Zj).f0))).setCell ⟨Zv,1,none⟩ (.int .i64 ((rd_T74 t1486 Zj).f1))).setCell ⟨Zv,2,none⟩ (.int .i64 ((rd_T74 t1486 Zj).f2))).setCell ⟨Zv,3,none⟩ (.int .i64 ((rd_T74 t1486 Zj).f3)))=wz at *
   have HO_8:=z0_
   have HO_1493002:=z1_
   have Xe:=z2_
   have Xb:=z3_
   have Ww:=z4_
   have HB:=z5_
   clear z0_ z1_ z2_ z3_ z4_ z5_
   have hcz21_0:wz.cell? ⟨Zv,0,none⟩=some (.int .i64 ((rd_T74 t1486 Zj).f0)):=(Yc Ww.out 0).trans rfl
   have hcz21_1:wz.cell? ⟨Zv,1,none⟩=some (.int .i64 ((rd_T74 t1486 Zj).f1)):=(Yc Ww.out 1).trans rfl
   have hcz21_2:wz.cell? ⟨Zv,2,none⟩=some (.int .i64 ((rd_T74 t1486 Zj).f2)):=(Yc Ww.out 2).trans rfl
   have hcz21_3:wz.cell? ⟨Zv,3,none⟩=some (.int .i64 ((rd_T74 t1486 Zj).f3)):=(Yc Ww.out 3).trans rfl
   have hfz21_0:=Yf Ww.out 0
   have hfz21_1:=Yf Ww.out 1
   have hfz21_2:=Yf Ww.out 2
   have hfz21_3:=Yf Ww.out 3
   go_wp2_with (first|((with_reducible refine gate_builtin (b:= .append) (xs:= #[.tmp 38, .tmp 40]) rfl ?_);at_builtin;refine Kd.R_append k74 (w0:=w) w.heap.size rfl (.tmp 38) (.tmp 40) 22 74 (.agg #[(.int .i64 0),(.int .i64 0),(.int .i64 0),(.int .i64 0)]) 32 rfl Try.underlying22 info74 rfl (by decide) (by omega) u8 x8_1 (⟨(rd_T74 t1486 Zj).f0,(rd_T74 t1486 Zj).f1,(rd_T74 t1486 Zj).f2,0⟩:S74) [.int .i64 ((rd_T74 t1486 Zj).f0), .int .i64 ((rd_T74 t1486 Zj).f1), .int .i64 ((rd_T74 t1486 Zj).f2), .int .i64 0] (fun k_=>some k_≠(.slice (some ad1493) t1486.length co12:Value).ownBlock∧k_≠Zv) (fun _=>False) rfl (by first|(go_simp;done)|(go_simp;rfl)) ?aP (fun _ hk=>hk.elim) ?aF ?aO ?aB ?aS ?aL ?_;(case aP=>exact k74_mkM _ _ _ (⟨(rd_T74 t1486 Zj).f0,(rd_T74 t1486 Zj).f1,(rd_T74 t1486 Zj).f2,0⟩:S74));(case aB=>exact(by repeat(first|(with_reducible first|exact HB.out|apply Ye|apply Yd|apply Yg|refine Yh ?_ Ud.out|refine Yh ?_ GE1492.out|refine Yh ?_ GE1494.out)|exact HB.out)));(case aF=>exact(fun k_ hk=>⟨Kd.fresh' (Kd.R_lt (by(with_reducible repeat(first|apply Yr|apply Yq|apply Yp));exact(Kd.R_mono (Kd.R_far (p:=⟨Zv,3,none⟩) HO_1493002.out (fun _ hk=>hk.2) (.int .i64 0)) (fun _ h_=>h_.1)))) k_ hk,Kd.freshB (g:=Zv) (o:= .cells #[.int .i64 ((rd_T74 t1486 Zj).f0), .int .i64 ((rd_T74 t1486 Zj).f1), .int .i64 ((rd_T74 t1486 Zj).f2), .int .i64 0] 74 (0,0)) (by(with_reducible repeat(first|refine Yl ?_ _|refine Ym ?_|refine Yj ?_ _));refine YA (cs:= #[.int .i64 ((rd_T74 t1486 Zj).f0), .int .i64 ((rd_T74 t1486 Zj).f1), .int .i64 ((rd_T74 t1486 Zj).f2), .int .i64 ((rd_T74 t1486 Zj).f3)]) ?_ 3 _ rfl;exact Ww.out) k_ hk⟩));(case aO=>exact(by(with_reducible repeat(first|apply Yr|apply Yq|apply Yp));exact Kd.R_mono (Kd.R_far (p:=⟨Zv,3,none⟩) HO_8.out (fun _ hk=>hk.2) (.int .i64 0)) (fun _ hk=>⟨hk.1.1,hk.1.2⟩)));(case aS=>exact(Yi (by repeat(first|(with_reducible first|exact HB.out|apply Ye|apply Yd|apply Yg|refine Yh ?_ Ud.out|refine Yh ?_ GE1492.out|refine Yh ?_ GE1494.out)|exact HB.out))));(case aL=>have:=LMc15.out;omega);intro v1496 w22 ho hb hg hat;rw[← Ny1495.out] at ho;have n0_:=Ya (Kd.R_after (ok:=(fun k_=>k_≠Zv)) (by(with_reducible repeat(first|apply Yr|apply Yq|apply Yp));exact Kd.R_mono (Kd.R_far (p:=⟨Zv,3,none⟩) HO_1493002.out (fun _ hk=>hk.2) (.int .i64 0)) (fun _ hk=>⟨hk.1.2,hk.1.1⟩)) hg hat);have n1_:=Ya (blk_grown (g:=Wq) (o:= .cells #[.int .u8 Zc, .bool Zb, .slice Ze Za.length Zd, .int .u8 Xy, .int .u8 Wl, .int .u8 Wm] 70 (0,0)) (by refine blk_far ?_ Ul.out _;exact Xe.out) hg (Kd.R_ne HO_8.out Xe.out (by decide)));have n2_:=Ya (blk_grown (g:=Wa) (o:= .cells #[.int .i64 t1484, .bool t1485, .slice (some ad1493) t1486.length co12] 24 (0,0)) (by refine blk_far ?_ Um.out _;exact Xb.out) hg (Kd.R_ne HO_8.out Xb.out (by decide)));have n3_:=Ya (blk_grown (g:=Zv) (o:= .cells #[.int .i64 ((rd_T74 t1486 Zj).f0), .int .i64 ((rd_T74 t1486 Zj).f1), .int .i64 ((rd_T74 t1486 Zj).f2), .int .i64 0] 74 (0,0)) (by(with_reducible repeat(first|refine Yl ?_ _|refine Ym ?_|refine Yj ?_ _));refine YA (cs:= #[.int .i64 ((rd_T74 t1486 Zj).f0), .int .i64 ((rd_T74 t1486 Zj).f1), .int .i64 ((rd_T74 t1486 Zj).f2), .int .i64 ((rd_T74 t1486 Zj).f3)]) ?_ 3 _ rfl;exact Ww.out) hg (Kd.R_away HO_8.out (fun _ hk=>hk.2)));have n4_:=Ya (hb);have n5_:=Ya (ho);clear HO_1493002;clear Xe;clear Xb;clear Ww;clear HB;clear HO_8;have HO_1493002:=n0_;have Xe:=n1_;have Xb:=n2_;have Ww:=n3_;have HB:=n4_;have HO1497:=n5_;clear n0_ n1_ n2_ n3_ n4_ n5_;clear ho hb hg hat)|fail)
   go_roundg k1
   case measure=>have:=HK1.out;omega
   case rel=>exact⟨(y1495),(wrap64 (Zj+1)),(by first|rfl|(simp;done)|(simp[*];done)),H',⟨by have:=HK1.out;omega⟩,⟨by(with_reducible repeat(first|apply Yr|apply Yq|apply Yp));exact Kd.R_mono HO1497.out (fun _ hk=>hk.1)⟩,⟨by(with_reducible repeat(first|apply Yr|apply Yq|apply Yp));exact Kd.R_mono HO_1493002.out (fun _ hk=>hk.2)⟩,⟨by(with_reducible repeat(first|refine Yl ?_ _|refine Ym ?_|refine Yj ?_ _));exact Xe.out⟩,⟨by(with_reducible repeat(first|refine Yl ?_ _|refine Ym ?_|refine Yj ?_ _));exact Xb.out⟩,⟨by repeat(first|(with_reducible first|exact HB.out|apply Ye|apply Yd|apply Yg|refine Yh ?_ Ud.out|refine Yh ?_ GE1492.out|refine Yh ?_ GE1494.out)|exact HB.out)⟩⟩
end P
namespace Opn
open Go.ChangeShapes Go.WideShapes Go.Deep 
def Opens (P:Program) (t:TypeId) {α:Type} (d:Kd α) (ok:α→Prop):Prop:=
 ∀ (H:Type) (enc:TypeId × Value→H) (w:World) (base:Nat) (spare:Nat→Bool) (held:Bool) (fuel:Nat) (cs:List Value) (x:DataW H × List MemPlace),
  DataW.trod enc P w base spare held fuel t cs=some x→ ∃ a:α,d.K w a cs∧ok a
theorem opens_int {P:Program} {t:TypeId} {k:IntKind} (ht:P.underlying t=some (.int k)):Opens P t (Kd.int k) (fun n=>(Lit.int k n).wf=true):=by
 intro H enc w base spare held fuel cs x h
 obtain⟨n,rfl,_,hw⟩:=DataW.trod_int ht h
 exact⟨n,rfl,hw⟩
theorem opens_bool {P:Program} {t:TypeId} (ht:P.underlying t=some .bool):Opens P t Kd.bool (fun _=>True):=by
 intro H enc w base spare held fuel cs x h
 obtain⟨b,rfl,_⟩:=DataW.trod_bool ht h
 exact⟨b,rfl,trivial⟩
theorem opens_slice {P:Program} {t e:TypeId} {α:Type} {d:Kd α} {ok:α→Prop} (ht:P.underlying t=some (.slice e)) (hc:P.cellsOf e=d.sz) (h:Opens P e d ok):
  Opens P t (Kd.slice e d) (fun l=>l.length≤9223372036854775807∧ ∀ x∈l,ok x):=by
 intro H enc w base spare held fuel cs x hx
 rcases open_slice ht hx with ⟨rfl,_⟩|⟨a,len,cap,m,n,D,Pl,rfl,hb,hl,hm,hmm,_,hi⟩
 ·exact⟨[],⟨none,0,rfl,Nat.le_refl _,rfl,by simp,fun h=>absurd h (by simp)⟩,by simp,by simp⟩
 ·have hlm:len≤m:=by rw[hmm];split<;>omega
  have hel: ∀ i:Nat,i<len→ ∃ a':α,ok a'∧ ∃ c,c.length=d.sz∧d.K w a' c∧ ∀ j u,c[j]? =some u→w.cell? (a.add (i * d.sz+j))=some u:=by
   intro i hil
   obtain⟨cs',hcs,htr⟩:=hi i (by omega)
   obtain⟨a',hK,hok⟩:=h H enc w base spare held n cs' _ htr
   rw[hc] at hcs
   obtain⟨_,hcl,hat⟩:=World.cells?_some hcs
   refine⟨a',hok,cs',hcl,hK,fun j u hu=> ?_⟩
   have hj:j<d.sz:=by have:=(List.getElem?_eq_some_iff.1 hu).1;omega
   have:=hat j hj
   rw[← Go.Deep.add_add,this,hu]
  have hrow: ∀ k:Nat,k≤len→ ∃ xs:List α,xs.length=k∧(∀ x∈xs,ok x)∧ ∀ j p,xs[j]? =some p→ ∃ c,c.length=d.sz∧d.K w p c∧ ∀ i u,c[i]? =some u→w.cell? (a.add (j * d.sz+i))=some u:=by
   intro k
   induction k with
   |zero=>exact fun _=>⟨[],rfl,by simp,by simp⟩
   |succ k ih=>
    intro hk
    obtain⟨xs,h1,h2,h3⟩:=ih (by omega)
    obtain⟨a',ho,c,hcl,hK,hcell⟩:=hel k (by omega)
    refine⟨xs ++ [a'],by simp[h1],fun x hx=> ?_,fun j p hj=> ?_⟩
    ·rcases List.mem_append.1 hx with h|h
     ·exact h2 x h
     ·rw[List.mem_singleton.1 h];exact ho
    ·by_cases hjk:j<xs.length
     ·rw[List.getElem?_append_left hjk] at hj
      exact h3 j p hj
     ·have hjl:=(List.getElem?_eq_some_iff.1 hj).1
      simp at hjl
      have hje:j=k:=by omega
      subst hje
      rw[← h1,List.getElem?_concat_length] at hj
      obtain rfl:=Option.some.inj hj
      exact⟨c,hcl,hK,hcell⟩
  obtain⟨xs,h1,h2,h3⟩:=hrow len (Nat.le_refl _)
  have hmx:len≤9223372036854775807:=by unfold maxLen at hm;omega
  subst h1
  exact⟨xs,⟨some a,cap,rfl,hl,rfl,hmx,fun _=>⟨a,rfl,h3⟩⟩,hmx,h2⟩
theorem opens_iso {P:Program} {t:TypeId} {α β:Type} {d:Kd α} {ok:α→Prop} (h:Opens P t d ok) (f:β→α) (g:α→β) (hfg: ∀ x,f (g x)=x):Opens P t (Kd.iso d f) (fun y=>ok (f y)):=by
 intro H enc w base spare held fuel cs x hx
 obtain⟨a,hK,hok⟩:=h H enc w base spare held fuel cs x hx
 exact⟨g a,by show d.K w (f (g a)) cs;rw[hfg];exact hK,by show ok (f (g a));rw[hfg];exact hok⟩
def OpensFs (P:Program) (fs:List Field) (off:Nat) {α:Type} (d:Kd α) (ok:α→Prop):Prop:=
 ∀ (H:Type) (enc:TypeId × Value→H) (w:World) (base:Nat) (spare:Nat→Bool) (held:Bool) (n:Nat) (cs:List Value),cs.length=off+d.sz→
  (∀ f∈fs, ∃ y,DataW.trod enc P w base spare held n f.type ((cs.drop f.offset).take (P.cellsOf f.type))=some y)→ ∃ a:α,d.K w a (cs.drop off)∧ok a
theorem fs_one {P:Program} {f:Field} {off:Nat} {α:Type} {d:Kd α} {ok:α→Prop} (ho:f.offset=off) (hc:P.cellsOf f.type=d.sz) (h:Opens P f.type d ok):OpensFs P [f] off d ok:=by
 intro H enc w base spare held n cs hl hf
 obtain⟨y,hy⟩:=hf f (by simp)
 rw[ho,hc,List.take_of_length_le (by simp;omega)] at hy
 exact h H enc w base spare held n _ y hy
theorem fs_cons {P:Program} {f:Field} {fs:List Field} {off:Nat} {α β:Type} {d:Kd α} {d':Kd β} {ok:α→Prop} {ok':β→Prop} (ho:f.offset=off) (hc:P.cellsOf f.type=d.sz) (h:Opens P f.type d ok)
  (hr:OpensFs P fs (off+d.sz) d' ok'):OpensFs P (f::fs) off (Kd.pair d d') (fun x=>ok x.1∧ok' x.2):=by
 intro H enc w base spare held n cs hl hf
 have hsz:(Kd.pair d d').sz=d.sz+d'.sz:=rfl
 rw[hsz] at hl
 obtain⟨y,hy⟩:=hf f (by simp)
 rw[ho,hc] at hy
 obtain⟨a,hK,hok⟩:=h H enc w base spare held n _ y hy
 obtain⟨b,hKb,hokb⟩:=hr H enc w base spare held n cs (by omega) (fun f' hf'=>hf f' (List.mem_cons_of_mem _ hf'))
 refine⟨(a,b),⟨_,_,?_,hK,hKb⟩,hok,hokb⟩
 rw[← List.drop_drop]
 exact(List.take_append_drop _ _).symm
theorem opens_struct {P:Program} {t:TypeId} {fs:Array Field} {α:Type} {d:Kd α} {ok:α→Prop} (hs:P.underlying t=some (.struct fs)) (hC:P.cellsOf t=d.sz) (h:OpensFs P fs.toList 0 d ok):Opens P t d ok:=by
 intro H enc w base spare held fuel cs x hx
 obtain⟨xs,n,_,_,hl,hlen,hf⟩:=DataW.trod_struct hs hx
 obtain⟨a,hK,hok⟩:=h H enc w base spare held n cs (by rw[hl,hC,Nat.zero_add]) (fun f hfm=>by
  obtain⟨j,hj⟩:=List.getElem?_of_mem hfm
  have hj':fs[j]? =some f:=by rw[← hj];simp
  have hjl:j<xs.length:=by rw[hlen];exact(Array.getElem?_eq_some_iff.1 hj').1
  have h1:=hf j f hj'
  rw[List.getElem?_eq_getElem hjl] at h1
  exact⟨_,h1⟩)
 exact⟨a,hK,hok⟩
theorem arg_struct {H:Type} {enc:TypeId × Value→H} {P:Program} {w:World} {base b0:Nat} {spare:Nat→Bool} {held:Bool} {r:Reach} {t:TypeId} {fs:Array Field} {v:Value} {dd:DataW H} {p:List MemPlace} {α:Type} {d:Kd α} {ok:α→Prop}
  (hs:P.underlying t=some (.struct fs)) (ho:Opens P t d ok) (hv:Value.okWide P w r b0 t v) (h:DataW.Trod enc P w base spare held t v dd p): ∃ a cs,v= .agg cs∧d.K w a cs.toList∧ok a:=by
 obtain⟨cs,rfl,hsz⟩:=okWide_struct hs hv
 obtain⟨fuel,hf⟩:=h
 obtain⟨a,hK,hok⟩:=ho H enc w base spare held fuel _ _ hf
 exact⟨a,cs,rfl,by simpa [Value.cells] using hK,hok⟩
end Opn
end Go.Proofs.Ytkcpanpdipmmmaa
