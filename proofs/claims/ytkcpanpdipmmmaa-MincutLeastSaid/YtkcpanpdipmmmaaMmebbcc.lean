/- What the law's row needs of these texts, taken out of them by wip/tool/mini.py: P135 P136 P137 P35 P138 P139 QFewWalk QLevelLaw QRoomRef QCheckRef QWayFact QMostLaw QMinLaw QLMincut QFewLaws P140 QOpen QLFew. -/
import Derived.Test.YtkcpanpdipmmmaaMoafmie
import Derived.Test.YtkcpanpdipmmmaaMlfnnkb
import Derived.Test.YtkcpanpdipmmmaaMioleai
import Derived.Test.YtkcpanpdipmmmaaMdcalel
import Derived.Deep.DeepCutAuto
import Derived.Test.YtkcpanpdipmmmaaMkknlne
import Derived.Test.YtkcpanpdipmmmaaVcljknl
import Derived.Deep.Slices
import Derived.Deep.Fields
import Derived.ChangeSame
import Derived.ChangeArms
import Derived.OpenShut
set_option linter.unusedVariables false
set_option linter.unusedSimpArgs false
open Go.RowKit Go.Proofs.YtkcpanpdipmmmaaW.PrintWords Go.Proofs.YtkcpanpdipmmmaaW.PrintLast Go.Proofs.YtkcpanpdipmmmaaW.PrintMore
namespace Go.Proofs.Ytkcpanpdipmmmaa
namespace P
attribute [local go_sem] max2_int min2_int max_two min_two max_three min_three max_four min_four
def ebbtideref10_Side.l0:Nat→List Int→List Bool→Int→Option (List Bool × Int)
 |0,_,_,_=>none
 |k+1,x8,x10,x11=>if x11<(x8.length:Int) then(if 0≤x11 then(if x10.length<140737488355328 then(ebbtideref10_Side.l0 k x8 (x10 ++ [decide ((rd x8 x11)≥0)]) (wrap64 (x11+1))) else(none)) else(none)) else(some (x10,0))
def ebbtideref10_Side.f (k:Nat) (Zc:Int) (Zb:Bool) (Za:List (S74)) (l1:List Int) (a2:Int):Option (List Bool × Int):=(ebbtideref08_Levels.f k Zc Zb Za l1 a2).bind fun bt1047=>(if bt1047.2=0 then(ebbtideref10_Side.l0 k bt1047.1 ([]:List Bool) 0) else(some (([]:List Bool),bt1047.2)))
set_option maxHeartbeats 8000000 in
set_option maxRecDepth 100000 in
theorem ebbtideref10_Side.calls (k:Nat) (Zc:Int) (Zb:Bool) (Ze:Option Addr) (Zd:Nat) (Za:List (S74)) (A1:Option Addr) (c1:Nat) (l1:List Int) (a2:Int) (r1:List Bool) (r2:Int) (w:World) (Zr:Kd.C k74 w Ze Za.length Za) (Zs:Za.length≤Zd) (hr1:Kd.C (Kd.int .i64) w A1 l1.length l1) (hc1:l1.length≤c1) (h:ebbtideref10_Side.f k Zc Zb Za l1 a2=some (r1,r2)):
  Calls Try.prog 84 #[.agg #[.int .i64 Zc, .bool Zb, .slice Ze Za.length Zd], .slice A1 l1.length c1, .int .i64 a2] w fun e w'=> ∃ v0_:Value,e= .returned (.tuple #[v0_, .int .i64 r2])∧Kd.R Kd.bool 4 w' w.heap.size (fun _=>True) v0_ r1∧Below w.heap.size w w':=by
 have hu24:=Try.underlying24;have Zl:=Ya Zr;have Zv:=Ya Zs;clear Zr Zs;have HR1:=Ya hr1;have HC1:=Ya hc1;clear hr1 hc1;have HB:=Ya (Yo w.heap.size w);have H:((ebbtideref08_Levels.f k Zc Zb Za l1 a2).bind fun bt1047=>(if bt1047.2=0 then(ebbtideref10_Side.l0 k bt1047.1 ([]:List Bool) 0) else(some (([]:List Bool),bt1047.2))))=some (r1,r2):=h;clear h;replace H:=Option.bind_eq_some_iff.mp H;obtain⟨⟨t1047,t1050⟩,A40,H⟩:=H;replace H:(if t1050=0 then(ebbtideref10_Side.l0 k t1047 ([]:List Bool) 0) else(some (([]:List Bool),t1050)))=some (r1,r2):=H;have A4:=Ya A40;clear A40;by_cases c5:t1050=0
 rotate_left
 ·rw[Yy c5] at H
  have c5b0:(t1050 == 0)=false:=beq_eq_false_iff_ne.mpr c5;have c5b1:(t1050 != 0)=true:=bne_iff_ne.mpr c5;simp only[Option.some.injEq,Prod.mk.injEq] at H;obtain⟨rfl,rfl⟩:=H;go_enter Try.func84,Try.ntmps84;go_wp2_with (first|((with_reducible refine gate_dst (N:=3) rfl ?_);refine Yz ?hg (N:=3) ?hd (cs:= #[.int .i64 Zc, .bool Zb, .slice Ze Za.length Zd]) (t:=24) ?hr ?_;(case hd=>rfl);(case hg=>rfl);(case hr=>first|(go_simp;done)|(go_simp;rfl));intro gb1046 hg w15 Zf hb;have n0_:=Ya (Yk (by repeat(first|(with_reducible first|exact HB.out|apply Ye|apply Yd|apply Yg)|exact HB.out)) hb);have n1_:=Ya (Zf);have n2_:=Ya ((by rw[hg];exact(Yi (by repeat(first|(with_reducible first|exact HB.out|apply Ye|apply Yd|apply Yg)|exact HB.out))):w.heap.size≤gb1046));have n3_:=Ya ((by rw[hg];exact(Yi (by repeat(first|(with_reducible first|exact HB.out|apply Ye|apply Yd|apply Yg)|exact HB.out))):w.heap.size≤gb1046));clear HB;have HB:=n0_;have Wx:=n1_;have GW1046:=n2_;have GE1046:=n3_;clear n0_ n1_ n2_ n3_;clear hb Zf hg;have hcz16_0:w15.cell? ⟨gb1046,0,none⟩=some (.int .i64 Zc):=(Yc Wx.out 0).trans rfl;have hcz16_1:w15.cell? ⟨gb1046,1,none⟩=some (.bool Zb):=(Yc Wx.out 1).trans rfl;have hcz16_2:w15.cell? ⟨gb1046,2,none⟩=some (.slice Ze Za.length Zd):=(Yc Wx.out 2).trans rfl;have hfz16_0:=Yf Wx.out 0;have hfz16_1:=Yf Wx.out 1;have hfz16_2:=Yf Wx.out 2)|((with_reducible refine gate_callee (f:=54) rfl ?_);refine goesL_ (some 16) rfl rfl Try.func54 (by kernel_rfl) rfl #[.agg #[.int .i64 Zc, .bool Zb, .slice Ze Za.length Zd], .slice A1 l1.length c1, .int .i64 a2] rfl (by(try simp only[List.map_toArray,List.map_cons,List.map_nil]);first|done|rfl|(simp only[List.length_drop,List.length_take];rfl)) ?_;(with_reducible refine(ebbtideref08_Levels.calls k Zc Zb _ _ Za _ _ l1 a2 t1047 t1050 _ ?side1 ?side2 ?side3 ?side4 A4.out).mono ?_);(case side1=>repeat(first|exact(Yt Zl.out HB.out)|(with_reducible refine Kd.C_alloc ?_ _)|(with_reducible refine Kd.C_drewN ?_ _)|(with_reducible refine Kd.C_drew ?_)));(case side2=>exact Zv.out);(case side3=>repeat(first|exact(Yt HR1.out HB.out)|(with_reducible refine Kd.C_alloc ?_ _)|(with_reducible refine Kd.C_drewN ?_ _)|(with_reducible refine Kd.C_drew ?_)));(case side4=>exact HC1.out);rintro e w17 ⟨v1048,rfl,ho0,hb⟩;refine⟨_,rfl,?_⟩;have n0_:=Ya (Kd.R_lower ho0 (Yi (by repeat(first|(with_reducible first|exact HB.out|apply Ye|apply Yd|apply Yg|refine Yh ?_ GE1046.out)|exact HB.out))));have n1_:=Ya (Yn (g:=gb1046) (o:= .cells #[.int .i64 Zc, .bool Zb, .slice Ze Za.length Zd] 24 (0,0)) (by(with_reducible repeat(first|refine Yl ?_ _|refine Ym ?_|refine Yj ?_ _));exact Wx.out) hb);have n2_:=Ya (Yk (by repeat(first|(with_reducible first|exact HB.out|apply Ye|apply Yd|apply Yg|refine Yh ?_ GE1046.out)|exact HB.out)) hb);clear Wx;clear HB;have HO1049:=n0_;have Wx:=n1_;have HB:=n2_;clear n0_ n1_ n2_;(try clear hb);(try clear hb2);(try clear hk);(try clear hi);(try clear ho0)));go_ret2;exact⟨_,by first|rfl|(simp[errW_none,errW_some]<;>rfl)|(simp[*,errW_none,errW_some]<;>rfl),by first|exact Kd.R_nil _ _ _ _ _|exact Kd.N_nil _ _ _ _ _|exact Kd.V_nil _ _ _ _ _|exact Kd.Q_nil _ _ _ _ _|exact Kd.S_nil _ _ _ _ _,by repeat(first|(with_reducible first|exact HB.out|apply Ye|apply Yd|apply Yg|refine Yh ?_ GE1046.out)|exact HB.out)⟩
 rw[Yx c5] at H;have c5b0:(t1050 == 0)=true:=beq_iff_eq.mpr c5;have c5b1:(t1050 != 0)=false:=bne_eq_false_iff_eq.mpr c5;clear c5;have H':=Ya H;clear H;go_enter Try.func84,Try.ntmps84;go_wp2_with (first|((with_reducible refine gate_dst (N:=3) rfl ?_);refine Yz ?hg (N:=3) ?hd (cs:= #[.int .i64 Zc, .bool Zb, .slice Ze Za.length Zd]) (t:=24) ?hr ?_;(case hd=>rfl);(case hg=>rfl);(case hr=>first|(go_simp;done)|(go_simp;rfl));intro gb1046 hg w6 Zf hb;have n0_:=Ya (Yk (by repeat(first|(with_reducible first|exact HB.out|apply Ye|apply Yd|apply Yg)|exact HB.out)) hb);have n1_:=Ya (Zf);have n2_:=Ya ((by rw[hg];exact(Yi (by repeat(first|(with_reducible first|exact HB.out|apply Ye|apply Yd|apply Yg)|exact HB.out))):w.heap.size≤gb1046));have n3_:=Ya ((by rw[hg];exact(Yi (by repeat(first|(with_reducible first|exact HB.out|apply Ye|apply Yd|apply Yg)|exact HB.out))):w.heap.size≤gb1046));clear HB;have HB:=n0_;have Wx:=n1_;have GW1046:=n2_;have GE1046:=n3_;clear n0_ n1_ n2_ n3_;clear hb Zf hg;have hcz7_0:w6.cell? ⟨gb1046,0,none⟩=some (.int .i64 Zc):=(Yc Wx.out 0).trans rfl;have hcz7_1:w6.cell? ⟨gb1046,1,none⟩=some (.bool Zb):=(Yc Wx.out 1).trans rfl;have hcz7_2:w6.cell? ⟨gb1046,2,none⟩=some (.slice Ze Za.length Zd):=(Yc Wx.out 2).trans rfl;have hfz7_0:=Yf Wx.out 0;have hfz7_1:=Yf Wx.out 1;have hfz7_2:=Yf Wx.out 2)|((with_reducible refine gate_callee (f:=54) rfl ?_);refine goesL_ (some 16) rfl rfl Try.func54 (by kernel_rfl) rfl #[.agg #[.int .i64 Zc, .bool Zb, .slice Ze Za.length Zd], .slice A1 l1.length c1, .int .i64 a2] rfl (by(try simp only[List.map_toArray,List.map_cons,List.map_nil]);first|done|rfl|(simp only[List.length_drop,List.length_take];rfl)) ?_;(with_reducible refine(ebbtideref08_Levels.calls k Zc Zb _ _ Za _ _ l1 a2 t1047 t1050 _ ?side1 ?side2 ?side3 ?side4 A4.out).mono ?_);(case side1=>repeat(first|exact(Yt Zl.out HB.out)|(with_reducible refine Kd.C_alloc ?_ _)|(with_reducible refine Kd.C_drewN ?_ _)|(with_reducible refine Kd.C_drew ?_)));(case side2=>exact Zv.out);(case side3=>repeat(first|exact(Yt HR1.out HB.out)|(with_reducible refine Kd.C_alloc ?_ _)|(with_reducible refine Kd.C_drewN ?_ _)|(with_reducible refine Kd.C_drew ?_)));(case side4=>exact HC1.out);rintro e w8 ⟨v1048,rfl,ho0,hb⟩;refine⟨_,rfl,?_⟩;have n0_:=Ya (Kd.R_lower ho0 (Yi (by repeat(first|(with_reducible first|exact HB.out|apply Ye|apply Yd|apply Yg|refine Yh ?_ GE1046.out)|exact HB.out))));have n1_:=Ya (Yn (g:=gb1046) (o:= .cells #[.int .i64 Zc, .bool Zb, .slice Ze Za.length Zd] 24 (0,0)) (by(with_reducible repeat(first|refine Yl ?_ _|refine Ym ?_|refine Yj ?_ _));exact Wx.out) hb);have n2_:=Ya (Yk (by repeat(first|(with_reducible first|exact HB.out|apply Ye|apply Yd|apply Yg|refine Yh ?_ GE1046.out)|exact HB.out)) hb);clear Wx;clear HB;have HO1049:=n0_;have Wx:=n1_;have HB:=n2_;clear n0_ n1_ n2_;(try clear hb);(try clear hb2);(try clear hk);(try clear hi);(try clear ho0)));go_loopg [10,11] k (fun kq v10 v11 w'=> ∃ (Uy:List Bool) (Zh:Int),v11= .int .i64 Zh∧Aside0 (ebbtideref10_Side.l0 kq t1047 Uy Zh=some (r1,r2))∧Aside0 (kq≤k)∧Aside0 (Kd.R (Kd.int .i64) 3 w' w.heap.size (fun _=>True) v1048 t1047)∧Aside0 (Kd.R Kd.bool 4 w' w.heap.size (fun _=>True) v10 Uy)∧Aside0 (w'.heap[gb1046]? =some (.cells #[.int .i64 Zc, .bool Zb,(.slice Ze Za.length Zd)] 24 (0,0)))∧Aside0 (Below w.heap.size w w'))
 case atStart=>exact⟨(([]:List Bool)),(0),(by first|rfl|(simp;done)|(simp[*];done)),H',⟨Nat.le_refl _⟩,⟨by(with_reducible repeat(first|apply Yr|apply Yq|apply Yp));exact HO1049.out⟩,⟨by first|exact Kd.R_nil _ _ _ _ _|exact Kd.N_nil _ _ _ _ _|exact Kd.V_nil _ _ _ _ _|exact Kd.Q_nil _ _ _ _ _|exact Kd.S_nil _ _ _ _ _⟩,⟨by(with_reducible repeat(first|refine Yl ?_ _|refine Ym ?_|refine Yj ?_ _));exact Wx.out⟩,⟨by repeat(first|(with_reducible first|exact HB.out|apply Ye|apply Yd|apply Yg|refine Yh ?_ GE1046.out)|exact HB.out)⟩⟩
 case round=>
  clear H';try clear c1
  try clear p2
  try clear c5
  try clear c5b0
  try clear c5b1
  try clear c8
  try clear hcz7_0
  try clear hcz7_1
  try clear hcz7_2
  try clear hfz7_0
  try clear hfz7_1
  try clear hfz7_2
  obtain⟨Uy,Zh,rfl,HA,HK1,HO_8,HO_10,Wx,HB⟩:=hrel;cases gk with
  |zero=>exact absurd HA.out (by simp[ebbtideref10_Side.l0])
  |succ k1=>
   have H:=HA.out;clear HA;simp only[ebbtideref10_Side.l0] at H;by_cases c9:Zh<(t1047.length:Int)
   rotate_left
   ·rw[Yy c9] at H
    have c9b0:decide (Zh<(t1047.length:Int))=false:=Yw c9;clear c9;simp only[Option.some.injEq,Prod.mk.injEq] at H;obtain⟨rfl,rfl⟩:=H;obtain⟨Ao14,co14,eo14⟩:=Kd.R_slice HO_8.out;subst eo14;go_wp2;go_ret2;exact⟨_,by first|rfl|(simp[errW_none,errW_some]<;>rfl)|(simp[*,errW_none,errW_some]<;>rfl),by(with_reducible repeat(first|apply Yr|apply Yq|apply Yp));exact HO_10.out,by repeat(first|(with_reducible first|exact HB.out|apply Ye|apply Yd|apply Yg|refine Yh ?_ GE1046.out)|exact HB.out)⟩
   rw[Yx c9] at H;have c9b0:decide (Zh<(t1047.length:Int))=true:=Yv c9;clear c9;by_cases c10:0≤Zh
   rotate_left
   ·rw[Yy c10] at H
    exact absurd H (by simp)
   rw[Yx c10] at H;have c10b0:decide (0≤Zh)=true:=Yv c10;clear c10;by_cases c11:Uy.length<140737488355328
   rotate_left
   ·rw[Yy c11] at H
    exact absurd H (by simp)
   rw[Yx c11] at H;have LMc11:=Ya c11;clear c11;obtain⟨y1052,hy1052⟩: ∃ y_:List Bool,y_=(Uy ++ [decide ((rd t1047 Zh)≥0)]):=⟨_,rfl⟩;replace H:(ebbtideref10_Side.l0 k1 t1047 y1052 (wrap64 (Zh+1)))=some (r1,r2):=by first|(rw[hy1052];with_reducible exact H)|(have H2_:=(Option.bind_some _ _).symm.trans H;rw[hy1052];with_reducible exact H2_)|(have H2_:=(Option.bind_some _ _).symm.trans H;with_reducible exact H2_)|with_reducible exact H|(rw[hy1052];exact H)|exact H
   have Ny1052:=Ya hy1052;clear hy1052;have H':=Ya H;clear H;obtain⟨Ao12,co12,eo12⟩:=Kd.R_slice HO_8.out;subst eo12;have p1051:0≤(Zh:Int):=Yu (by first|(with_reducible assumption)|assumption);have q1051:Zh<(t1047.length:Int):=Yu (by first|(with_reducible assumption)|assumption);obtain⟨ad1051,e1051,hx1051_0⟩:=Kd.at_int (Kd.R_reads' HO_8.out).2.2 Zh p1051 q1051;cases e1051;replace p1051:=eq_true p1051;replace q1051:=eq_true q1051;go_wp2_with (first|((with_reducible refine gate_builtin (b:= .append) (xs:= #[.tmp 28, .tmp 34]) rfl ?_);at_builtin;refine Kd.R_append Kd.bool (w0:=w) w.heap.size rfl (.tmp 28) (.tmp 34) 26 4 (.bool false) 1 rfl Try.underlying26 info4 rfl (by decide) (by omega) u10 Uy (decide ((rd t1047 Zh)≥0)) [.bool (decide ((rd t1047 Zh)≥0))] (fun _=>True) (fun _=>False) rfl rfl ?aP (fun _ hk=>hk.elim) ?aF ?aO ?aB ?aS ?aL ?_;(case aP=>exact rfl);(case aB=>exact(by repeat(first|(with_reducible first|exact HB.out|apply Ye|apply Yd|apply Yg|refine Yh ?_ GE1046.out)|exact HB.out)));(case aF=>exact(fun _ _=>trivial));(case aO=>exact(by(with_reducible repeat(first|apply Yr|apply Yq|apply Yp));exact HO_10.out));(case aS=>exact(Yi (by repeat(first|(with_reducible first|exact HB.out|apply Ye|apply Yd|apply Yg|refine Yh ?_ GE1046.out)|exact HB.out))));(case aL=>have:=LMc11.out;omega);intro v1053 w13 ho hb hg hat;rw[← Ny1052.out] at ho;have n0_:=Ya (Kd.R_over' (by(with_reducible repeat(first|apply Yr|apply Yq|apply Yp));exact HO_8.out) (Kd.R_typed (by(with_reducible repeat(first|apply Yr|apply Yq|apply Yp));exact HO_10.out)) (by decide) hg);have n1_:=Ya (blk_grown (g:=gb1046) (o:= .cells #[.int .i64 Zc, .bool Zb, .slice Ze Za.length Zd] 24 (0,0)) (by(with_reducible repeat(first|refine Yl ?_ _|refine Ym ?_|refine Yj ?_ _));exact Wx.out) hg (Kd.R_ne HO_10.out Wx.out (by decide)));have n2_:=Ya (hb);have n3_:=Ya (ho);clear HO_8;clear Wx;clear HB;clear HO_10;have HO_8:=n0_;have Wx:=n1_;have HB:=n2_;have HO1054:=n3_;clear n0_ n1_ n2_ n3_;clear ho hb hg hat));go_roundg k1
   case measure=>have:=HK1.out;omega
   case rel=>exact⟨(y1052),(wrap64 (Zh+1)),(by first|rfl|(simp;done)|(simp[*];done)),H',⟨by have:=HK1.out;omega⟩,⟨by(with_reducible repeat(first|apply Yr|apply Yq|apply Yp));exact HO_8.out⟩,⟨by(with_reducible repeat(first|apply Yr|apply Yq|apply Yp));exact HO1054.out⟩,⟨by(with_reducible repeat(first|refine Yl ?_ _|refine Ym ?_|refine Yj ?_ _));exact Wx.out⟩,⟨by repeat(first|(with_reducible first|exact HB.out|apply Ye|apply Yd|apply Yg|refine Yh ?_ GE1046.out)|exact HB.out)⟩⟩
end P
namespace P
attribute [local go_sem] max2_int min2_int max_two min_two max_three min_three max_four min_four
def ebbtideref10_Takes.l0:Nat→List Bool→Int→Int→Int→Bool→List (S74)→Option (Int)
 |0,_,_,_,_,_,_=>none
 |k+1,x1,x5,x6,x1056000,x1056001,Jk=>if x6<(Jk.length:Int) then(if 0≤x6 then(if 0≤((rd_T74 Jk x6).f0) then(if ((rd_T74 Jk x6).f0)<(x1.length:Int) then(if rdOf false x1 ((rd_T74 Jk x6).f0)=true then(if 0≤((rd_T74 Jk x6).f1) then(if ((rd_T74 Jk x6).f1)<(x1.length:Int) then(if (rdOf false x1 ((rd_T74 Jk x6).f1)=true) then(ebbtideref10_Takes.l0 k x1 x5 (wrap64 (x6+1)) x1056000 x1056001 Jk) else(ebbtideref10_Takes.l0 k x1 (wrap64 (x5+((rd_T74 Jk x6).f2))) (wrap64 (x6+1)) x1056000 x1056001 Jk)) else(none)) else(none)) else(ebbtideref10_Takes.l0 k x1 x5 (wrap64 (x6+1)) x1056000 x1056001 Jk)) else(none)) else(none)) else(none)) else(some x5)
def ebbtideref10_Takes.f (k:Nat) (Zc:Int) (Zb:Bool) (Za:List (S74)) (l1:List Bool):Option (Int):=ebbtideref10_Takes.l0 k l1 0 0 Zc Zb Za
set_option maxHeartbeats 8000000 in
set_option maxRecDepth 100000 in
theorem ebbtideref10_Takes.calls (k:Nat) (Zc:Int) (Zb:Bool) (Ze:Option Addr) (Zd:Nat) (Za:List (S74)) (A1:Option Addr) (c1:Nat) (l1:List Bool) (r:Int) (w:World) (Zr:Kd.C k74 w Ze Za.length Za) (Zs:Za.length≤Zd) (hr1:Kd.C Kd.bool w A1 l1.length l1) (hc1:l1.length≤c1) (h:ebbtideref10_Takes.f k Zc Zb Za l1=some r):
  Calls Try.prog 126 #[.agg #[.int .i64 Zc, .bool Zb, .slice Ze Za.length Zd], .slice A1 l1.length c1] w fun e w'=>e= .returned (.int .i64 r)∧Below w.heap.size w w':=by
 have hu24:=Try.underlying24;have Zl:=Ya Zr;have Zv:=Ya Zs;clear Zr Zs;have HR1:=Ya hr1;have HC1:=Ya hc1;clear hr1 hc1;have HB:=Ya (Yo w.heap.size w);have H:(ebbtideref10_Takes.l0 k l1 0 0 Zc Zb Za)=some r:=h;clear h;have H':=Ya H;clear H;go_enter Try.func126,Try.ntmps126;go_wp2_with (first|((with_reducible refine gate_dst (N:=2) rfl ?_);refine Yz ?hg (N:=2) ?hd (cs:= #[.int .i64 Zc, .bool Zb, .slice Ze Za.length Zd]) (t:=24) ?hr ?_;(case hd=>rfl);(case hg=>rfl);(case hr=>first|(go_simp;done)|(go_simp;rfl));intro gb1055 hg w3 Zf hb;have n0_:=Ya (Yk (by repeat(first|(with_reducible first|exact HB.out|apply Ye|apply Yd|apply Yg)|exact HB.out)) hb);have n1_:=Ya (Zf);have n2_:=Ya ((by rw[hg];exact(Yi (by repeat(first|(with_reducible first|exact HB.out|apply Ye|apply Yd|apply Yg)|exact HB.out))):w.heap.size≤gb1055));have n3_:=Ya ((by rw[hg];exact(Yi (by repeat(first|(with_reducible first|exact HB.out|apply Ye|apply Yd|apply Yg)|exact HB.out))):w.heap.size≤gb1055));clear HB;have HB:=n0_;have Wm:=n1_;have GW1055:=n2_;have GE1055:=n3_;clear n0_ n1_ n2_ n3_;clear hb Zf hg));go_loopg [5,6] k (fun kq v5 v6 w'=> ∃ (Zt:Int) (Zk:Int),v5= .int .i64 Zt∧v6= .int .i64 Zk∧Aside0 (ebbtideref10_Takes.l0 kq l1 Zt Zk Zc Zb Za=some r)∧Aside0 (kq≤k)∧Aside0 (w'.heap[gb1055]? =some (.cells #[.int .i64 Zc, .bool Zb,(.slice Ze Za.length Zd)] 24 (0,0)))∧Aside0 (Below w.heap.size w w'))
 case atStart=>exact⟨(0),(0),(by first|rfl|(simp;done)|(simp[*];done)),(by first|rfl|(simp;done)|(simp[*];done)),H',⟨Nat.le_refl _⟩,⟨by(with_reducible repeat(first|refine Yl ?_ _|refine Ym ?_|refine Yj ?_ _));exact Wm.out⟩,⟨by repeat(first|(with_reducible first|exact HB.out|apply Ye|apply Yd|apply Yg|refine Yh ?_ GE1055.out)|exact HB.out)⟩⟩
 case round=>
  clear H';try clear c1
  try clear p2
  obtain⟨Zt,Zk,rfl,rfl,HA,HK1,Wm,HB⟩:=hrel;cases gk with
  |zero=>exact absurd HA.out (by simp[ebbtideref10_Takes.l0])
  |succ k1=>
   have H:=HA.out;clear HA;simp only[ebbtideref10_Takes.l0] at H;by_cases c4:Zk<(Za.length:Int)
   rotate_left
   ·rw[Yy c4] at H
    have c4b0:decide (Zk<(Za.length:Int))=false:=Yw c4;clear c4;obtain rfl:=Option.some.inj H;have Uk:wr.cell? ⟨gb1055,0,none⟩=some (.int .i64 Zc):=(Yc Wm.out 0).trans rfl;have Ul:wr.cell? ⟨gb1055,1,none⟩=some (.bool Zb):=(Yc Wm.out 1).trans rfl;have hcz17_2:wr.cell? ⟨gb1055,2,none⟩=some (.slice Ze Za.length Zd):=(Yc Wm.out 2).trans rfl;have Um:=Yf Wm.out 0;have Un:=Yf Wm.out 1;have hfz17_2:=Yf Wm.out 2;go_wp2;go_ret;exact⟨by first|rfl|(simp[errW_none,errW_some]<;>rfl)|(simp[*,errW_none,errW_some]<;>rfl),by repeat(first|(with_reducible first|exact HB.out|apply Ye|apply Yd|apply Yg|refine Yh ?_ GE1055.out)|exact HB.out)⟩
   rw[Yx c4] at H;have c4b0:decide (Zk<(Za.length:Int))=true:=Yv c4;clear c4;by_cases c5:0≤Zk
   rotate_left
   ·rw[Yy c5] at H
    exact absurd H (by simp)
   rw[Yx c5] at H;have c5b0:decide (0≤Zk)=true:=Yv c5;clear c5;by_cases c6:0≤((rd_T74 Za Zk).f0)
   rotate_left
   ·rw[Yy c6] at H
    exact absurd H (by simp)
   rw[Yx c6] at H;have c6b0:decide (0≤((rd_T74 Za Zk).f0))=true:=Yv c6;clear c6;by_cases c7:((rd_T74 Za Zk).f0)<(l1.length:Int)
   rotate_left
   ·rw[Yy c7] at H
    exact absurd H (by simp)
   rw[Yx c7] at H;have c7b0:decide (((rd_T74 Za Zk).f0)<(l1.length:Int))=true:=Yv c7;clear c7;obtain⟨bq8,hbq8⟩: ∃ b_:Bool,b_=(rdOf false l1 ((rd_T74 Za Zk).f0)):=⟨_,rfl⟩;replace H:(if bq8=true then(if 0≤((rd_T74 Za Zk).f1) then(if ((rd_T74 Za Zk).f1)<(l1.length:Int) then(if (rdOf false l1 ((rd_T74 Za Zk).f1)=true) then(ebbtideref10_Takes.l0 k1 l1 Zt (wrap64 (Zk+1)) Zc Zb Za) else(ebbtideref10_Takes.l0 k1 l1 (wrap64 (Zt+((rd_T74 Za Zk).f2))) (wrap64 (Zk+1)) Zc Zb Za)) else(none)) else(none)) else(ebbtideref10_Takes.l0 k1 l1 Zt (wrap64 (Zk+1)) Zc Zb Za))=some r:=by rw[← hbq8] at H;exact H
   have Nbq8:=Ya hbq8;clear hbq8;by_cases c9:bq8=true
   rotate_left
   ·replace c9:=Bool.eq_false_iff.mpr c9
    subst c9;have H1:(ebbtideref10_Takes.l0 k1 l1 Zt (wrap64 (Zk+1)) Zc Zb Za)=some r:=by rw[Yy (show ¬ (false=true) by decide)] at H;exact H
    clear H;have H:=H1;clear H1;have H':=Ya H;clear H;have hcz16_0:wr.cell? ⟨gb1055,0,none⟩=some (.int .i64 Zc):=(Yc Wm.out 0).trans rfl;have hcz16_1:wr.cell? ⟨gb1055,1,none⟩=some (.bool Zb):=(Yc Wm.out 1).trans rfl;have hcz16_2:wr.cell? ⟨gb1055,2,none⟩=some (.slice Ze Za.length Zd):=(Yc Wm.out 2).trans rfl;have hfz16_0:=Yf Wm.out 0;have hfz16_1:=Yf Wm.out 1;have hfz16_2:=Yf Wm.out 2;have p1056:0≤(Zk:Int):=Yu (by first|(with_reducible assumption)|assumption);have q1056:Zk<(Za.length:Int):=Yu (by first|(with_reducible assumption)|assumption);obtain⟨ad1056,e1056,Jl,Jm,Jn,Jo⟩:=at_T74 Zl.out Zk p1056 q1056;cases e1056;replace Jl:=(HB.out.cell (Yb w _ Jl)).trans Jl;replace Jm:=(HB.out.cell (Yb w _ Jm)).trans Jm;replace Jn:=(HB.out.cell (Yb w _ Jn)).trans Jn;replace Jo:=(HB.out.cell (Yb w _ Jo)).trans Jo;replace p1056:=eq_true p1056;replace q1056:=eq_true q1056;have p1057:0≤(((rd_T74 Za Zk).f0):Int):=Yu (by first|(with_reducible assumption)|assumption);have q1057:((rd_T74 Za Zk).f0)<(l1.length:Int):=Yu (by first|(with_reducible assumption)|assumption);obtain⟨ad1057,e1057,Va⟩:=Kd.at_bool HR1.out ((rd_T74 Za Zk).f0) p1057 q1057
    (try rw[← Nbq8.out] at Va)
    cases e1057;replace Va:=(HB.out.cell (Yb w _ Va)).trans Va;replace p1057:=eq_true p1057;replace q1057:=eq_true q1057;go_wp2;go_roundg k1
    case measure=>have:=HK1.out;omega
    case rel=>exact⟨(Zt),(wrap64 (Zk+1)),(by first|rfl|(simp;done)|(simp[*];done)),(by first|rfl|(simp;done)|(simp[*];done)),H',⟨by have:=HK1.out;omega⟩,⟨by(with_reducible repeat(first|refine Yl ?_ _|refine Ym ?_|refine Yj ?_ _));exact Wm.out⟩,⟨by repeat(first|(with_reducible first|exact HB.out|apply Ye|apply Yd|apply Yg|refine Yh ?_ GE1055.out)|exact HB.out)⟩⟩
   subst c9;have H1:(if 0≤((rd_T74 Za Zk).f1) then(if ((rd_T74 Za Zk).f1)<(l1.length:Int) then(if (rdOf false l1 ((rd_T74 Za Zk).f1)=true) then(ebbtideref10_Takes.l0 k1 l1 Zt (wrap64 (Zk+1)) Zc Zb Za) else(ebbtideref10_Takes.l0 k1 l1 (wrap64 (Zt+((rd_T74 Za Zk).f2))) (wrap64 (Zk+1)) Zc Zb Za)) else(none)) else(none))=some r:=by first|(rw[Yx rfl] at H;exact H)|(rw[Yx trivial] at H;exact H)
   clear H;have H:=H1;clear H1;by_cases c10:0≤((rd_T74 Za Zk).f1)
   rotate_left
   ·rw[Yy c10] at H
    exact absurd H (by simp)
   rw[Yx c10] at H;have c10b0:decide (0≤((rd_T74 Za Zk).f1))=true:=Yv c10;clear c10;by_cases c11:((rd_T74 Za Zk).f1)<(l1.length:Int)
   rotate_left
   ·rw[Yy c11] at H
    exact absurd H (by simp)
   rw[Yx c11] at H;have c11b0:decide (((rd_T74 Za Zk).f1)<(l1.length:Int))=true:=Yv c11;clear c11;obtain⟨bq12,hbq12⟩: ∃ b_:Bool,b_=(rdOf false l1 ((rd_T74 Za Zk).f1)):=⟨_,rfl⟩;replace H:(if (bq12=true) then(ebbtideref10_Takes.l0 k1 l1 Zt (wrap64 (Zk+1)) Zc Zb Za) else(ebbtideref10_Takes.l0 k1 l1 (wrap64 (Zt+((rd_T74 Za Zk).f2))) (wrap64 (Zk+1)) Zc Zb Za))=some r:=by rw[← hbq12] at H;exact H
   have Nbq12:=Ya hbq12;clear hbq12;by_cases c13:(bq12=true)
   ·subst c13
    have H1:(ebbtideref10_Takes.l0 k1 l1 Zt (wrap64 (Zk+1)) Zc Zb Za)=some r:=by first|(rw[Yx rfl] at H;exact H)|(rw[Yx trivial] at H;exact H)
    clear H;have H:=H1;clear H1;have H':=Ya H;clear H;have Ug:wr.cell? ⟨gb1055,0,none⟩=some (.int .i64 Zc):=(Yc Wm.out 0).trans rfl;have Uh:wr.cell? ⟨gb1055,1,none⟩=some (.bool Zb):=(Yc Wm.out 1).trans rfl;have Jz:wr.cell? ⟨gb1055,2,none⟩=some (.slice Ze Za.length Zd):=(Yc Wm.out 2).trans rfl;have Ui:=Yf Wm.out 0;have Uj:=Yf Wm.out 1;have hfz14_2:=Yf Wm.out 2;have p1056:0≤(Zk:Int):=Yu (by first|(with_reducible assumption)|assumption);have q1056:Zk<(Za.length:Int):=Yu (by first|(with_reducible assumption)|assumption);obtain⟨ad1056,e1056,Jl,Jm,Jn,Jo⟩:=at_T74 Zl.out Zk p1056 q1056;cases e1056;replace Jl:=(HB.out.cell (Yb w _ Jl)).trans Jl;replace Jm:=(HB.out.cell (Yb w _ Jm)).trans Jm;replace Jn:=(HB.out.cell (Yb w _ Jn)).trans Jn;replace Jo:=(HB.out.cell (Yb w _ Jo)).trans Jo;replace p1056:=eq_true p1056;replace q1056:=eq_true q1056;have p1057:0≤(((rd_T74 Za Zk).f0):Int):=Yu (by first|(with_reducible assumption)|assumption);have q1057:((rd_T74 Za Zk).f0)<(l1.length:Int):=Yu (by first|(with_reducible assumption)|assumption);obtain⟨ad1057,e1057,Va⟩:=Kd.at_bool HR1.out ((rd_T74 Za Zk).f0) p1057 q1057
    (try rw[← Nbq8.out] at Va)
    (try rw[← Nbq12.out] at Va)
    cases e1057;replace Va:=(HB.out.cell (Yb w _ Va)).trans Va;replace p1057:=eq_true p1057;replace q1057:=eq_true q1057;have p1058:0≤(Zk:Int):=Yu (by first|(with_reducible assumption)|assumption);have q1058:Zk<(Za.length:Int):=Yu (by first|(with_reducible assumption)|assumption);obtain⟨ad1058,e1058,hx1058_0,hx1058_1,hx1058_2,hx1058_3⟩:=at_T74 Zl.out Zk p1058 q1058;obtain rfl:ad1056=ad1058:=(by injection e1058);replace hx1058_0:=(HB.out.cell (Yb w _ hx1058_0)).trans hx1058_0;replace hx1058_1:=(HB.out.cell (Yb w _ hx1058_1)).trans hx1058_1;replace hx1058_2:=(HB.out.cell (Yb w _ hx1058_2)).trans hx1058_2;replace hx1058_3:=(HB.out.cell (Yb w _ hx1058_3)).trans hx1058_3;replace p1058:=eq_true p1058;replace q1058:=eq_true q1058;have p1059:0≤(((rd_T74 Za Zk).f1):Int):=Yu (by first|(with_reducible assumption)|assumption);have q1059:((rd_T74 Za Zk).f1)<(l1.length:Int):=Yu (by first|(with_reducible assumption)|assumption);obtain⟨ad1059,e1059,Jp⟩:=Kd.at_bool HR1.out ((rd_T74 Za Zk).f1) p1059 q1059
    (try rw[← Nbq8.out] at Jp)
    (try rw[← Nbq12.out] at Jp)
    obtain rfl:ad1057=ad1059:=(by injection e1059);replace Jp:=(HB.out.cell (Yb w _ Jp)).trans Jp;replace p1059:=eq_true p1059;replace q1059:=eq_true q1059;go_wp2;go_roundg k1
    case measure=>have:=HK1.out;omega
    case rel=>exact⟨(Zt),(wrap64 (Zk+1)),(by first|rfl|(simp;done)|(simp[*];done)),(by first|rfl|(simp;done)|(simp[*];done)),H',⟨by have:=HK1.out;omega⟩,⟨by(with_reducible repeat(first|refine Yl ?_ _|refine Ym ?_|refine Yj ?_ _));exact Wm.out⟩,⟨by repeat(first|(with_reducible first|exact HB.out|apply Ye|apply Yd|apply Yg|refine Yh ?_ GE1055.out)|exact HB.out)⟩⟩
   replace c13:=Bool.eq_false_iff.mpr c13;subst c13;have H1:(ebbtideref10_Takes.l0 k1 l1 (wrap64 (Zt+((rd_T74 Za Zk).f2))) (wrap64 (Zk+1)) Zc Zb Za)=some r:=by rw[Yy (show ¬ (false=true) by decide)] at H;exact H
   clear H;have H:=H1;clear H1;have H':=Ya H;clear H;have hcz15_0:wr.cell? ⟨gb1055,0,none⟩=some (.int .i64 Zc):=(Yc Wm.out 0).trans rfl;have hcz15_1:wr.cell? ⟨gb1055,1,none⟩=some (.bool Zb):=(Yc Wm.out 1).trans rfl;have hcz15_2:wr.cell? ⟨gb1055,2,none⟩=some (.slice Ze Za.length Zd):=(Yc Wm.out 2).trans rfl;have hfz15_0:=Yf Wm.out 0;have hfz15_1:=Yf Wm.out 1;have hfz15_2:=Yf Wm.out 2;have p1056:0≤(Zk:Int):=Yu (by first|(with_reducible assumption)|assumption);have q1056:Zk<(Za.length:Int):=Yu (by first|(with_reducible assumption)|assumption);obtain⟨ad1056,e1056,Jl,Jm,Jn,Jo⟩:=at_T74 Zl.out Zk p1056 q1056;cases e1056;replace Jl:=(HB.out.cell (Yb w _ Jl)).trans Jl;replace Jm:=(HB.out.cell (Yb w _ Jm)).trans Jm;replace Jn:=(HB.out.cell (Yb w _ Jn)).trans Jn;replace Jo:=(HB.out.cell (Yb w _ Jo)).trans Jo;replace p1056:=eq_true p1056;replace q1056:=eq_true q1056;have p1057:0≤(((rd_T74 Za Zk).f0):Int):=Yu (by first|(with_reducible assumption)|assumption);have q1057:((rd_T74 Za Zk).f0)<(l1.length:Int):=Yu (by first|(with_reducible assumption)|assumption);obtain⟨ad1057,e1057,Va⟩:=Kd.at_bool HR1.out ((rd_T74 Za Zk).f0) p1057 q1057
   (try rw[← Nbq8.out] at Va)
   (try rw[← Nbq12.out] at Va)
   cases e1057;replace Va:=(HB.out.cell (Yb w _ Va)).trans Va;replace p1057:=eq_true p1057;replace q1057:=eq_true q1057;have p1058:0≤(Zk:Int):=Yu (by first|(with_reducible assumption)|assumption);have q1058:Zk<(Za.length:Int):=Yu (by first|(with_reducible assumption)|assumption);obtain⟨ad1058,e1058,hx1058_0,hx1058_1,hx1058_2,hx1058_3⟩:=at_T74 Zl.out Zk p1058 q1058;obtain rfl:ad1056=ad1058:=(by injection e1058);replace hx1058_0:=(HB.out.cell (Yb w _ hx1058_0)).trans hx1058_0;replace hx1058_1:=(HB.out.cell (Yb w _ hx1058_1)).trans hx1058_1;replace hx1058_2:=(HB.out.cell (Yb w _ hx1058_2)).trans hx1058_2;replace hx1058_3:=(HB.out.cell (Yb w _ hx1058_3)).trans hx1058_3;replace p1058:=eq_true p1058;replace q1058:=eq_true q1058;have p1059:0≤(((rd_T74 Za Zk).f1):Int):=Yu (by first|(with_reducible assumption)|assumption);have q1059:((rd_T74 Za Zk).f1)<(l1.length:Int):=Yu (by first|(with_reducible assumption)|assumption);obtain⟨ad1059,e1059,Jp⟩:=Kd.at_bool HR1.out ((rd_T74 Za Zk).f1) p1059 q1059
   (try rw[← Nbq8.out] at Jp)
   (try rw[← Nbq12.out] at Jp)
   obtain rfl:ad1057=ad1059:=(by injection e1059);replace Jp:=(HB.out.cell (Yb w _ Jp)).trans Jp;replace p1059:=eq_true p1059;replace q1059:=eq_true q1059;have p1060:0≤(Zk:Int):=Yu (by first|(with_reducible assumption)|assumption);have q1060:Zk<(Za.length:Int):=Yu (by first|(with_reducible assumption)|assumption);obtain⟨ad1060,e1060,hx1060_0,hx1060_1,hx1060_2,hx1060_3⟩:=at_T74 Zl.out Zk p1060 q1060;obtain rfl:ad1056=ad1060:=(by injection e1060);replace hx1060_0:=(HB.out.cell (Yb w _ hx1060_0)).trans hx1060_0;replace hx1060_1:=(HB.out.cell (Yb w _ hx1060_1)).trans hx1060_1;replace hx1060_2:=(HB.out.cell (Yb w _ hx1060_2)).trans hx1060_2;replace hx1060_3:=(HB.out.cell (Yb w _ hx1060_3)).trans hx1060_3;replace p1060:=eq_true p1060;replace q1060:=eq_true q1060;go_wp2;go_roundg k1
   case measure=>have:=HK1.out;omega
   case rel=>exact⟨(wrap64 (Zt+((rd_T74 Za Zk).f2))),(wrap64 (Zk+1)),(by first|rfl|(simp;done)|(simp[*];done)),(by first|rfl|(simp;done)|(simp[*];done)),H',⟨by have:=HK1.out;omega⟩,⟨by(with_reducible repeat(first|refine Yl ?_ _|refine Ym ?_|refine Yj ?_ _));exact Wm.out⟩,⟨by repeat(first|(with_reducible first|exact HB.out|apply Ye|apply Yd|apply Yg|refine Yh ?_ GE1055.out)|exact HB.out)⟩⟩
end P
namespace P
attribute [local go_sem] max2_int min2_int max_two min_two max_three min_three max_four min_four
def ebbtideref10_Least.f (k:Nat) (Zc:Int) (Zb:Bool) (Za:List (S74)) (a1:Int) (a2:Int):Option (List Bool × Int × Int):=(ebbtideref07_Ends.f k Zc Zb Za a1 a2).bind fun t1062=>(if t1062=0 then((ebbtideref09_Best.f k Zc Zb Za a1 a2).bind fun t1063=>((ebbtideref10_Side.f k Zc Zb Za t1063 a1).bind fun bt1066=>((ebbtideref10_Takes.f k Zc Zb Za bt1066.1).bind fun t1070=>(some (bt1066.1,t1070,0))))) else(some (([]:List Bool),0,t1062)))
def ebbtideref10_Least.T4:Bool × List (List Nat × List Nat):=(true,[([],[]),([],[]),([],[]),([],[]),([1,2,3],[1,2,3]),([],[]),([0,4,5,4],[0,4,5]),([6],[6]),([7],[7]),([7],[7]),([8,6,0,1,2,3,4,5,6,7,8],[8]),([9,10,0,1,2,3,4,5,6,7,8,9,10],[9])])
def ebbtideref10_Least.B4:List Nat:=[0,0,0,0,14,0,63,127,255,255,511,2047]
theorem ebbtideref10_Least.tab4:rtab .any (opsOf Try.f80 4)=ebbtideref10_Least.T4:=by kernel_rfl
theorem ebbtideref10_Least.bits4:waitsOk ebbtideref10_Least.T4.2 ebbtideref10_Least.B4=true:=by kernel_rfl
set_option maxHeartbeats 8000000 in
set_option maxRecDepth 100000 in
theorem ebbtideref10_Least.calls (k:Nat) (Zc:Int) (Zb:Bool) (Ze:Option Addr) (Zd:Nat) (Za:List (S74)) (a1:Int) (a2:Int) (r1:List Bool) (r2:Int) (r3:Int) (w:World) (Zr:Kd.C k74 w Ze Za.length Za) (Zs:Za.length≤Zd) (h:ebbtideref10_Least.f k Zc Zb Za a1 a2=some (r1,r2,r3)):
  Calls Try.prog 80 #[.agg #[.int .i64 Zc, .bool Zb, .slice Ze Za.length Zd], .int .i64 a1, .int .i64 a2] w fun e w'=> ∃ v0_:Value,e= .returned (.tuple #[v0_, .int .i64 r2, .int .i64 r3])∧Kd.R Kd.bool 4 w' w.heap.size (fun _=>True) v0_ r1∧Below w.heap.size w w':=by
 have hu24:=Try.underlying24;have Zl:=Ya Zr;have Zv:=Ya Zs;clear Zr Zs;have HB:=Ya (Yo w.heap.size w);have H:((ebbtideref07_Ends.f k Zc Zb Za a1 a2).bind fun t1062=>(if t1062=0 then((ebbtideref09_Best.f k Zc Zb Za a1 a2).bind fun t1063=>((ebbtideref10_Side.f k Zc Zb Za t1063 a1).bind fun bt1066=>((ebbtideref10_Takes.f k Zc Zb Za bt1066.1).bind fun t1070=>(some (bt1066.1,t1070,0))))) else(some (([]:List Bool),0,t1062))))=some (r1,r2,r3):=h;clear h;replace H:=Option.bind_eq_some_iff.mp H;obtain⟨t1062,A40,H⟩:=H;replace H:(if t1062=0 then((ebbtideref09_Best.f k Zc Zb Za a1 a2).bind fun t1063=>((ebbtideref10_Side.f k Zc Zb Za t1063 a1).bind fun bt1066=>((ebbtideref10_Takes.f k Zc Zb Za bt1066.1).bind fun t1070=>(some (bt1066.1,t1070,0))))) else(some (([]:List Bool),0,t1062)))=some (r1,r2,r3):=H;have A4:=Ya A40;clear A40;by_cases c5:t1062=0
 rotate_left
 ·rw[Yy c5] at H
  have c5b0:(t1062 == 0)=false:=beq_eq_false_iff_ne.mpr c5;have c5b1:(t1062 != 0)=true:=bne_iff_ne.mpr c5;simp only[Option.some.injEq,Prod.mk.injEq] at H;obtain⟨rfl,rfl,rfl⟩:=H;go_enter Try.func80,Try.ntmps80;go_wp2_with (first|((with_reducible refine gate_dst (N:=3) rfl ?_);refine Yz ?hg (N:=3) ?hd (cs:= #[.int .i64 Zc, .bool Zb, .slice Ze Za.length Zd]) (t:=24) ?hr ?_;(case hd=>rfl);(case hg=>rfl);(case hr=>first|(go_simp;done)|(go_simp;rfl));intro Vh hg w19 Zf hb;have n0_:=Ya (Yk (by repeat(first|(with_reducible first|exact HB.out|apply Ye|apply Yd|apply Yg)|exact HB.out)) hb);have n1_:=Ya (Zf);have n2_:=Ya ((by rw[hg];exact(Yi (by repeat(first|(with_reducible first|exact HB.out|apply Ye|apply Yd|apply Yg)|exact HB.out))):w.heap.size≤Vh));have n3_:=Ya ((by rw[hg];exact(Yi (by repeat(first|(with_reducible first|exact HB.out|apply Ye|apply Yd|apply Yg)|exact HB.out))):w.heap.size≤Vh));clear HB;have HB:=n0_;have Xj:=n1_;have GW1061:=n2_;have GE1061:=n3_;clear n0_ n1_ n2_ n3_;clear hb Zf hg;have hcz20_0:w19.cell? ⟨Vh,0,none⟩=some (.int .i64 Zc):=(Yc Xj.out 0).trans rfl;have hcz20_1:w19.cell? ⟨Vh,1,none⟩=some (.bool Zb):=(Yc Xj.out 1).trans rfl;have hcz20_2:w19.cell? ⟨Vh,2,none⟩=some (.slice Ze Za.length Zd):=(Yc Xj.out 2).trans rfl;have hfz20_0:=Yf Xj.out 0;have hfz20_1:=Yf Xj.out 1;have hfz20_2:=Yf Xj.out 2)|((with_reducible refine gate_callee (f:=77) rfl ?_);refine goesL_ (some 15) rfl rfl Try.func77 (by kernel_rfl) rfl #[.agg #[.int .i64 Zc, .bool Zb, .slice Ze Za.length Zd], .int .i64 a1, .int .i64 a2] rfl (by(try simp only[List.map_toArray,List.map_cons,List.map_nil]);first|done|rfl|(simp only[List.length_drop,List.length_take];rfl)) ?_;(with_reducible refine(ebbtideref07_Ends.calls k Zc Zb _ _ Za a1 a2 t1062 _ ?side1 ?side2 A4.out).mono ?_);(case side1=>repeat(first|exact(Yt Zl.out HB.out)|(with_reducible refine Kd.C_alloc ?_ _)|(with_reducible refine Kd.C_drewN ?_ _)|(with_reducible refine Kd.C_drew ?_)));(case side2=>exact Zv.out);rintro e w21 ⟨rfl,hb⟩;refine⟨_,rfl,?_⟩;have n0_:=Ya (Yn (g:=Vh) (o:= .cells #[.int .i64 Zc, .bool Zb, .slice Ze Za.length Zd] 24 (0,0)) (by(with_reducible repeat(first|refine Yl ?_ _|refine Ym ?_|refine Yj ?_ _));exact Xj.out) hb);have n1_:=Ya (Yk (by repeat(first|(with_reducible first|exact HB.out|apply Ye|apply Yd|apply Yg|refine Yh ?_ GE1061.out)|exact HB.out)) hb);clear Xj;clear HB;have Xj:=n0_;have HB:=n1_;clear n0_ n1_;(try clear hb);(try clear hb2);(try clear hk);(try clear hi)));go_ret3;exact⟨_,by first|rfl|(simp[errW_none,errW_some]<;>rfl)|(simp[*,errW_none,errW_some]<;>rfl),by first|exact Kd.R_nil _ _ _ _ _|exact Kd.N_nil _ _ _ _ _|exact Kd.V_nil _ _ _ _ _|exact Kd.Q_nil _ _ _ _ _|exact Kd.S_nil _ _ _ _ _,by repeat(first|(with_reducible first|exact HB.out|apply Ye|apply Yd|apply Yg|refine Yh ?_ GE1061.out)|exact HB.out)⟩
 rw[Yx c5] at H;have c5b0:(t1062 == 0)=true:=beq_iff_eq.mpr c5;have c5b1:(t1062 != 0)=false:=bne_eq_false_iff_eq.mpr c5;clear c5;replace H:=Option.bind_eq_some_iff.mp H;obtain⟨t1063,A60,H⟩:=H;replace H:((ebbtideref10_Side.f k Zc Zb Za t1063 a1).bind fun bt1066=>((ebbtideref10_Takes.f k Zc Zb Za bt1066.1).bind fun t1070=>(some (bt1066.1,t1070,0))))=some (r1,r2,r3):=H;have A6:=Ya A60;clear A60;replace H:=Option.bind_eq_some_iff.mp H;obtain⟨⟨t1066,t1069⟩,A70,H⟩:=H;replace H:((ebbtideref10_Takes.f k Zc Zb Za t1066).bind fun t1070=>(some (t1066,t1070,0)))=some (r1,r2,r3):=H;have A7:=Ya A70;clear A70;replace H:=Option.bind_eq_some_iff.mp H;obtain⟨t1070,A80,H⟩:=H;replace H:(some (t1066,t1070,0))=some (r1,r2,r3):=H;have A8:=Ya A80;clear A80;simp only[Option.some.injEq,Prod.mk.injEq] at H;obtain⟨rfl,rfl,rfl⟩:=H;go_enter Try.func80,Try.ntmps80;try go_wp2_with (first|((with_reducible refine gate_dst (N:=3) rfl ?_);refine Yz ?hg (N:=3) ?hd (cs:= #[.int .i64 Zc, .bool Zb, .slice Ze Za.length Zd]) (t:=24) ?hr ?_;(case hd=>rfl);(case hg=>rfl);(case hr=>first|(go_simp;done)|(go_simp;rfl));intro Vh hg w9 Zf hb;have n0_:=Ya (Yk (by repeat(first|(with_reducible first|exact HB.out|apply Ye|apply Yd|apply Yg)|exact HB.out)) hb);have n1_:=Ya (Zf);have n2_:=Ya ((by rw[hg];exact(Yi (by repeat(first|(with_reducible first|exact HB.out|apply Ye|apply Yd|apply Yg)|exact HB.out))):w.heap.size≤Vh));have n3_:=Ya ((by rw[hg];exact(Yi (by repeat(first|(with_reducible first|exact HB.out|apply Ye|apply Yd|apply Yg)|exact HB.out))):w.heap.size≤Vh));clear HB;have HB:=n0_;have Xj:=n1_;have GW1061:=n2_;have GE1061:=n3_;clear n0_ n1_ n2_ n3_;clear hb Zf hg;have Vs:w9.cell? ⟨Vh,0,none⟩=some (.int .i64 Zc):=(Yc Xj.out 0).trans rfl;have Vt:w9.cell? ⟨Vh,1,none⟩=some (.bool Zb):=(Yc Xj.out 1).trans rfl;have Jq:w9.cell? ⟨Vh,2,none⟩=some (.slice Ze Za.length Zd):=(Yc Xj.out 2).trans rfl;have Vu:=Yf Xj.out 0;have Vv:=Yf Xj.out 1;have Jr:=Yf Xj.out 2)|((with_reducible refine gate_callee (f:=77) rfl ?_);refine goesL_ (some 15) rfl rfl Try.func77 (by kernel_rfl) rfl #[.agg #[.int .i64 Zc, .bool Zb, .slice Ze Za.length Zd], .int .i64 a1, .int .i64 a2] rfl (by(try simp only[List.map_toArray,List.map_cons,List.map_nil]);first|done|rfl|(simp only[List.length_drop,List.length_take];rfl)) ?_;(with_reducible refine(ebbtideref07_Ends.calls k Zc Zb _ _ Za a1 a2 t1062 _ ?side1 ?side2 A4.out).mono ?_);(case side1=>repeat(first|exact(Yt Zl.out HB.out)|(with_reducible refine Kd.C_alloc ?_ _)|(with_reducible refine Kd.C_drewN ?_ _)|(with_reducible refine Kd.C_drew ?_)));(case side2=>exact Zv.out);rintro e w11 ⟨rfl,hb⟩;refine⟨_,rfl,?_⟩;have n0_:=Ya (Yn (g:=Vh) (o:= .cells #[.int .i64 Zc, .bool Zb, .slice Ze Za.length Zd] 24 (0,0)) (by(with_reducible repeat(first|refine Yl ?_ _|refine Ym ?_|refine Yj ?_ _));exact Xj.out) hb);have n1_:=Ya (Yk (by repeat(first|(with_reducible first|exact HB.out|apply Ye|apply Yd|apply Yg|refine Yh ?_ GE1061.out)|exact HB.out)) hb);clear Xj;clear HB;have Xj:=n0_;have HB:=n1_;clear n0_ n1_;(try clear hb);(try clear hb2);(try clear hk);(try clear hi)))
 have n0_:=Ya (Ym Xj.out);have n1_:=Ya (Yg HB.out);clear Xj;clear HB;have Xj:=n0_;have HB:=n1_;clear n0_ n1_;refine start_ (n:=12) (S:=fun w'=>w'.cell? ⟨Vh,0,none⟩=some (.int .i64 Zc)∧w'.cell? ⟨Vh,1,none⟩=some (.bool Zb)∧w'.cell? ⟨Vh,2,none⟩=some (.slice Ze Za.length Zd)) (ds:=[]) #[false,false,false,false,false,false,false,false,false,false,false,false] (by kernel_rfl) rfl rfl ⟨(Yc Xj.out 0).trans rfl,(Yc Xj.out 1).trans rfl,(Yc Xj.out 2).trans rfl⟩ (fun hHeld=> ?_);refine with_tabW ebbtideref10_Least.tab4 ebbtideref10_Least.bits4 (fun HT_ HW_=> ?_);generalize w11.drew=w12 at Xj HB hHeld ⊢;refine pure_ (i:=2) (N:=some 22) (v:= ?_) (a':= ?_) #[false,false,true,false,false,false,false,false,false,false,false,false] rfl rfl (any_of HT_.out (by kernel_rfl)) (fun _ _ _ h=>h) (Or.inl ⟨by rfl,?_⟩) ?_ ?_
 rotate_left
 ·intro w'
  go_simp
  with_reducible rfl
 rotate_left
 ·simp only[Act.put,List.setIfInBounds_toArray,List.set_cons_zero,List.set_cons_succ,i64_w,i32_w]
  rfl
 refine pure_ (i:=3) (N:=some 23) (v:= ?_) (a':= ?_) #[false,false,true,true,false,false,false,false,false,false,false,false] rfl rfl (any_of HT_.out (by kernel_rfl)) (fun _ _ _ h=>h) (Or.inl ⟨by rfl,?_⟩) ?_ ?_
 rotate_left
 ·intro w'
  go_simp
  with_reducible rfl
 rotate_left
 ·simp only[Act.put,List.setIfInBounds_toArray,List.set_cons_zero,List.set_cons_succ,i64_w,i32_w]
  rfl
 refine pure_ (i:=5) (N:=some 25) (v:= ?_) (a':= ?_) #[false,false,true,true,false,true,false,false,false,false,false,false] rfl rfl (any_of HT_.out (by kernel_rfl)) (fun _ _ _ h=>h) (Or.inl ⟨by rfl,?_⟩) ?_ ?_
 rotate_left
 ·intro w'
  go_simp
  with_reducible rfl
 rotate_left
 ·simp only[Act.put,List.setIfInBounds_toArray,List.set_cons_zero,List.set_cons_succ,i64_w,i32_w]
  rfl
 refine take_ (i:=0) (N:=some 20) (v:= ?_) (a':= ?_) #[true,false,true,true,false,true,false,false,false,false,false,false] rfl rfl (take_ofW HT_.out HW_.out (by kernel_rfl)) (fun _ _ _ h=>h) (Or.inl ⟨by rfl,?_⟩) hHeld ?_ ?_
 rotate_left
 ·rintro w' ⟨s0,s1,s2⟩
  go_simp
  with_reducible rfl
 rotate_left
 ·simp only[Act.put,List.setIfInBounds_toArray,List.set_cons_zero,List.set_cons_succ,i64_w,i32_w]
  rfl
 refine take_ (i:=1) (N:=some 21) (v:= ?_) (a':= ?_) #[true,true,true,true,false,true,false,false,false,false,false,false] rfl rfl (take_ofW HT_.out HW_.out (by kernel_rfl)) (fun _ _ _ h=>h) (Or.inl ⟨by rfl,?_⟩) hHeld ?_ ?_
 rotate_left
 ·rintro w' ⟨s0,s1,s2⟩
  go_simp
  with_reducible rfl
 rotate_left
 ·simp only[Act.put,List.setIfInBounds_toArray,List.set_cons_zero,List.set_cons_succ,i64_w,i32_w]
  rfl
 refine one_ (i:=4) (N:=some 24) #[true,true,true,true,true,true,false,false,false,false,false,false] rfl rfl (one_of HT_.out (by kernel_rfl)) (by decide) (fun K hK=> ?_);refine goes_ Try.func87 (by kernel_rfl) rfl #[.agg #[.int .i64 Zc, .bool Zb, .slice Ze Za.length Zd], .int .i64 a1, .int .i64 a2] (by rfl) rfl rfl (by(try simp only[List.map_toArray,List.map_cons,List.map_nil]);first|done|rfl|(simp only[List.length_drop,List.length_take];rfl)) ?_
 with_reducible refine(ebbtideref09_Best.calls k Zc Zb _ _ Za a1 a2 t1063 _ ?side1 ?side2 A6.out).mono ?_
 (case side1=>repeat(first|exact(Yt Zl.out HB.out)|(with_reducible refine Kd.C_alloc ?_ _)|(with_reducible refine Kd.C_drewN ?_ _)|(with_reducible refine Kd.C_drew ?_)))
 (case side2=>exact Zv.out)
 rintro e w13 ⟨v1064,rfl,ho0,hb⟩;refine⟨_,rfl,?_⟩;have n0_:=Ya (Kd.R_lower ho0 (Yi (by repeat(first|(with_reducible first|exact HB.out|apply Ye|apply Yd|apply Yg|refine Yh ?_ GE1061.out)|exact HB.out))));have n1_:=Ya (Yn (g:=Vh) (o:= .cells #[.int .i64 Zc, .bool Zb, .slice Ze Za.length Zd] 24 (0,0)) (by(with_reducible repeat(first|refine Yl ?_ _|refine Ym ?_|refine Yj ?_ _));exact Xj.out) hb);have n2_:=Ya (Yk (by repeat(first|(with_reducible first|exact HB.out|apply Ye|apply Yd|apply Yg|refine Yh ?_ GE1061.out)|exact HB.out)) hb);clear Xj;clear HB;have HO1065:=n0_;have Xj:=n1_;have HB:=n2_;clear n0_ n1_ n2_
 (try clear hb)
 (try clear hb2)
 (try clear hk)
 (try clear hi)
 (try clear ho0)
 obtain⟨Ao14,co14,eo14⟩:=Kd.R_slice HO1065.out
 (first|subst eo14|(injection eo14 with f1_ f2_ f3_;have f4_:=f1_.symm;have f5_:=f3_.symm;clear f1_ f2_ f3_;subst f4_;subst f5_))
 refine hK.out _ _ ⟨(Yc Xj.out 0).trans rfl,(Yc Xj.out 1).trans rfl,(Yc Xj.out 2).trans rfl⟩ (fun hHeld=> ?_);clear hK K;refine norm_ (a':= ?_) ?_ ?_
 rotate_left
 ·show Act.put _ (some 24) _=_
  simp only[Act.put,List.setIfInBounds_toArray,List.set_cons_zero,List.set_cons_succ,i64_w,i32_w];rfl
 refine one_ (i:=6) (N:=some 26) #[true,true,true,true,true,true,true,false,false,false,false,false] rfl rfl (one_of HT_.out (by kernel_rfl)) (by decide) (fun K hK=> ?_);refine goes_ Try.func84 (by kernel_rfl) rfl #[.agg #[.int .i64 Zc, .bool Zb, .slice Ze Za.length Zd], .slice Ao14 t1063.length co14, .int .i64 a1] (by rfl) rfl rfl (by(try simp only[List.map_toArray,List.map_cons,List.map_nil]);first|done|rfl|(simp only[List.length_drop,List.length_take];rfl)) ?_
 with_reducible refine(ebbtideref10_Side.calls k Zc Zb _ _ Za _ _ t1063 a1 t1066 t1069 _ ?side1 ?side2 ?side3 ?side4 A7.out).mono ?_
 (case side1=>repeat(first|exact(Yt Zl.out HB.out)|(with_reducible refine Kd.C_alloc ?_ _)|(with_reducible refine Kd.C_drewN ?_ _)|(with_reducible refine Kd.C_drew ?_)))
 (case side2=>exact Zv.out)
 (case side3=>repeat(first|exact(Kd.R_reads' HO1065.out).2.2|(with_reducible refine Kd.C_alloc ?_ _)|(with_reducible refine Kd.C_drewN ?_ _)|(with_reducible refine Kd.C_drew ?_)))
 (case side4=>exact(Kd.R_reads' HO1065.out).2.1)
 rintro e w15 ⟨v1067,rfl,ho0,hb⟩;refine⟨_,rfl,?_⟩;have n0_:=Ya (Ys (by(with_reducible repeat(first|apply Yr|apply Yq|apply Yp));exact HO1065.out) hb);have n1_:=Ya (Kd.R_lower ho0 (Yi (by repeat(first|(with_reducible first|exact HB.out|apply Ye|apply Yd|apply Yg|refine Yh ?_ GE1061.out)|exact HB.out))));have n2_:=Ya (Yn (g:=Vh) (o:= .cells #[.int .i64 Zc, .bool Zb, .slice Ze Za.length Zd] 24 (0,0)) (by(with_reducible repeat(first|refine Yl ?_ _|refine Ym ?_|refine Yj ?_ _));exact Xj.out) hb);have n3_:=Ya (Yk (by repeat(first|(with_reducible first|exact HB.out|apply Ye|apply Yd|apply Yg|refine Yh ?_ GE1061.out)|exact HB.out)) hb);clear HO1065;clear Xj;clear HB;have HO1065:=n0_;have HO1068:=n1_;have Xj:=n2_;have HB:=n3_;clear n0_ n1_ n2_ n3_
 (try clear hb)
 (try clear hb2)
 (try clear hk)
 (try clear hi)
 (try clear ho0)
 refine hK.out _ _ ⟨(Yc Xj.out 0).trans rfl,(Yc Xj.out 1).trans rfl,(Yc Xj.out 2).trans rfl⟩ (fun hHeld=> ?_);clear hK K;refine norm_ (a':= ?_) ?_ ?_
 rotate_left
 ·show Act.put _ (some 26) _=_
  simp only[Act.put,List.setIfInBounds_toArray,List.set_cons_zero,List.set_cons_succ,i64_w,i32_w];rfl
 refine pure_ (i:=7) (N:=some 19) (v:= ?_) (a':= ?_) #[true,true,true,true,true,true,true,true,false,false,false,false] rfl rfl (any_of HT_.out (by kernel_rfl)) (fun _ _ _ h=>h) (Or.inl ⟨by rfl,?_⟩) ?_ ?_
 rotate_left
 ·intro w'
  go_simp
  with_reducible rfl
 rotate_left
 ·simp only[Act.put,List.setIfInBounds_toArray,List.set_cons_zero,List.set_cons_succ,i64_w,i32_w]
  rfl
 refine pure_ (i:=8) (N:=some 27) (v:= ?_) (a':= ?_) #[true,true,true,true,true,true,true,true,true,false,false,false] rfl rfl (any_of HT_.out (by kernel_rfl)) (fun _ _ _ h=>h) (Or.inl ⟨by rfl,?_⟩) ?_ ?_
 rotate_left
 ·intro w'
  go_simp
  with_reducible rfl
 rotate_left
 ·simp only[Act.put,List.setIfInBounds_toArray,List.set_cons_zero,List.set_cons_succ,i64_w,i32_w]
  rfl
 refine pure_ (i:=9) (N:=some 28) (v:= ?_) (a':= ?_) #[true,true,true,true,true,true,true,true,true,true,false,false] rfl rfl (any_of HT_.out (by kernel_rfl)) (fun _ _ _ h=>h) (Or.inl ⟨by rfl,?_⟩) ?_ ?_
 rotate_left
 ·intro w'
  go_simp
  with_reducible rfl
 rotate_left
 ·simp only[Act.put,List.setIfInBounds_toArray,List.set_cons_zero,List.set_cons_succ,i64_w,i32_w]
  rfl
 refine pure_ (i:=10) (N:=some 10) (v:= ?_) (a':= ?_) #[true,true,true,true,true,true,true,true,true,true,true,false] rfl rfl (any_of HT_.out (by kernel_rfl)) (fun _ _ _ h=>h) (Or.inl ⟨by rfl,?_⟩) ?_ ?_
 rotate_left
 ·intro w'
  go_simp
  with_reducible rfl
 rotate_left
 ·simp only[Act.put,List.setIfInBounds_toArray,List.set_cons_zero,List.set_cons_succ,i64_w,i32_w]
  rfl
 refine pure_ (i:=11) (N:=some 11) (v:= ?_) (a':= ?_) #[true,true,true,true,true,true,true,true,true,true,true,true] rfl rfl (any_of HT_.out (by kernel_rfl)) (fun _ _ _ h=>h) (Or.inl ⟨by rfl,?_⟩) ?_ ?_
 rotate_left
 ·intro w'
  go_simp
  with_reducible rfl
 rotate_left
 ·simp only[Act.put,List.setIfInBounds_toArray,List.set_cons_zero,List.set_cons_succ,i64_w,i32_w]
  rfl
 refine done_ (done_of HT_.out (by kernel_rfl)) ?_;have hcz16_0:w15.cell? ⟨Vh,0,none⟩=some (.int .i64 Zc):=(Yc Xj.out 0).trans rfl;have hcz16_1:w15.cell? ⟨Vh,1,none⟩=some (.bool Zb):=(Yc Xj.out 1).trans rfl;have hcz16_2:w15.cell? ⟨Vh,2,none⟩=some (.slice Ze Za.length Zd):=(Yc Xj.out 2).trans rfl;have hfz16_0:=Yf Xj.out 0;have hfz16_1:=Yf Xj.out 1;have hfz16_2:=Yf Xj.out 2;obtain⟨Ao17,co17,eo17⟩:=Kd.R_slice HO1068.out;subst eo17;try go_wp2_with (first|((with_reducible refine gate_callee (f:=126) rfl ?_);refine goesL_ (some 32) rfl rfl Try.func126 (by kernel_rfl) rfl #[.agg #[.int .i64 Zc, .bool Zb, .slice Ze Za.length Zd], .slice Ao17 t1066.length co17] rfl (by(try simp only[List.map_toArray,List.map_cons,List.map_nil]);first|done|rfl|(simp only[List.length_drop,List.length_take];rfl)) ?_;(with_reducible refine(ebbtideref10_Takes.calls k Zc Zb _ _ Za _ _ t1066 t1070 _ ?side1 ?side2 ?side3 ?side4 A8.out).mono ?_);(case side1=>repeat(first|exact(Yt Zl.out HB.out)|(with_reducible refine Kd.C_alloc ?_ _)|(with_reducible refine Kd.C_drewN ?_ _)|(with_reducible refine Kd.C_drew ?_)));(case side2=>exact Zv.out);(case side3=>repeat(first|exact(Kd.R_reads' HO1068.out).2.2|(with_reducible refine Kd.C_alloc ?_ _)|(with_reducible refine Kd.C_drewN ?_ _)|(with_reducible refine Kd.C_drew ?_)));(case side4=>exact(Kd.R_reads' HO1068.out).2.1);rintro e w18 ⟨rfl,hb⟩;refine⟨_,rfl,?_⟩;have n0_:=Ya (Ys (by(with_reducible repeat(first|apply Yr|apply Yq|apply Yp));exact HO1065.out) hb);have n1_:=Ya (Ys (by(with_reducible repeat(first|apply Yr|apply Yq|apply Yp));exact HO1068.out) hb);have n2_:=Ya (Yn (g:=Vh) (o:= .cells #[.int .i64 Zc, .bool Zb, .slice Ze Za.length Zd] 24 (0,0)) (by(with_reducible repeat(first|refine Yl ?_ _|refine Ym ?_|refine Yj ?_ _));exact Xj.out) hb);have n3_:=Ya (Yk (by repeat(first|(with_reducible first|exact HB.out|apply Ye|apply Yd|apply Yg|refine Yh ?_ GE1061.out)|exact HB.out)) hb);clear HO1065;clear HO1068;clear Xj;clear HB;have HO1065:=n0_;have HO1068:=n1_;have Xj:=n2_;have HB:=n3_;clear n0_ n1_ n2_ n3_;(try clear hb);(try clear hb2);(try clear hk);(try clear hi)))
 go_ret3;exact⟨_,by first|rfl|(simp[errW_none,errW_some]<;>rfl)|(simp[*,errW_none,errW_some]<;>rfl),by(with_reducible repeat(first|apply Yr|apply Yq|apply Yp));exact HO1068.out,by repeat(first|(with_reducible first|exact HB.out|apply Ye|apply Yd|apply Yg|refine Yh ?_ GE1061.out)|exact HB.out)⟩
end P
namespace P
attribute [local go_sem] max2_int min2_int max_two min_two max_three min_three max_four min_four
def ebbtideref10_Same.l0:Nat→List Bool→List Bool→Int→Option (Bool)
 |0,_,_,_=>none
 |k+1,x0,x1,x5=>if x5<(x0.length:Int) then(if 0≤x5 then(if x5<(x1.length:Int) then(if ((rdOf false x0 x5) != (rdOf false x1 x5))=true then(some false) else(ebbtideref10_Same.l0 k x0 x1 (wrap64 (x5+1)))) else(none)) else(none)) else(some true)
def ebbtideref10_Same.f (k:Nat) (l0:List Bool) (l1:List Bool):Option (Bool):=if (l0.length:Int)=(l1.length:Int) then(ebbtideref10_Same.l0 k l0 l1 0) else(some false)
set_option maxHeartbeats 8000000 in
set_option maxRecDepth 100000 in
theorem ebbtideref10_Same.calls (k:Nat) (A0:Option Addr) (c0:Nat) (l0:List Bool) (A1:Option Addr) (c1:Nat) (l1:List Bool) (r:Bool) (w:World) (hr0:Kd.C Kd.bool w A0 l0.length l0) (hc0:l0.length≤c0) (hr1:Kd.C Kd.bool w A1 l1.length l1) (hc1:l1.length≤c1) (h:ebbtideref10_Same.f k l0 l1=some r):
  Calls Try.prog 42 #[.slice A0 l0.length c0, .slice A1 l1.length c1] w fun e w'=>e= .returned (.bool r)∧Drawn0 w w':=by
 have HR0:=Ya hr0;have HC0:=Ya hc0;clear hr0 hc0;have HR1:=Ya hr1;have HC1:=Ya hc1;clear hr1 hc1;have H:(if (l0.length:Int)=(l1.length:Int) then(ebbtideref10_Same.l0 k l0 l1 0) else(some false))=some r:=h;clear h;by_cases c3:(l0.length:Int)=(l1.length:Int)
 rotate_left
 ·rw[Yy c3] at H
  have c3b0:((l0.length:Int) == (l1.length:Int))=false:=beq_eq_false_iff_ne.mpr c3;have c3b1:((l0.length:Int) != (l1.length:Int))=true:=bne_iff_ne.mpr c3;have c3b2:(l0.length == l1.length)=false:=by first|simpa using c3|(simp at c3 ⊢;omega)
  obtain rfl:=Option.some.inj H;go_enter Try.func42,Try.ntmps42;go_wp2;repeat(go_quiet (fail);try go_wp2)
  go_ret;exact⟨by first|rfl|(simp;done)|(simp[*];done),by repeat(first|exact Drawn0.refl _|apply Drawn0.step)⟩
 rw[Yx c3] at H;have c3b0:((l0.length:Int) == (l1.length:Int))=true:=beq_iff_eq.mpr c3;have c3b1:((l0.length:Int) != (l1.length:Int))=false:=bne_eq_false_iff_eq.mpr c3;have c3b2:(l0.length == l1.length)=true:=by first|simpa using c3|(simp at c3 ⊢;omega)
 clear c3;have H':=Ya H;clear H;go_enter Try.func42,Try.ntmps42;go_wp2;repeat(go_quiet (fail);try go_wp2)
 go_loopg [5] k (fun kq v5 w'=> ∃ (Zt:Int),v5= .int .i64 Zt∧Aside0 (ebbtideref10_Same.l0 kq l0 l1 Zt=some r)∧Aside0 (kq≤k)∧Drawn0 w w')
 case atStart=>exact⟨(0),(by first|rfl|(simp;done)|(simp[*];done)),H',⟨Nat.le_refl _⟩,by repeat(first|exact Drawn0.refl _|apply Drawn0.step)⟩
 case round=>
  clear H';try clear c1
  try clear p2
  try clear c3
  try clear c3b0
  try clear c3b1
  try clear c3b2
  obtain⟨Zt,rfl,HA,HK1,⟨m1,rfl⟩⟩:=hrel;cases gk with
  |zero=>exact absurd HA.out (by simp[ebbtideref10_Same.l0])
  |succ k1=>
   have H:=HA.out;clear HA;simp only[ebbtideref10_Same.l0] at H;by_cases c4:Zt<(l0.length:Int)
   rotate_left
   ·rw[Yy c4] at H
    have c4b0:decide (Zt<(l0.length:Int))=false:=Yw c4;clear c4;obtain rfl:=Option.some.inj H;go_wp2;repeat(go_quiet (fail);try go_wp2)
    go_ret;exact⟨by first|rfl|(simp;done)|(simp[*];done),by repeat(first|exact Drawn0.refl _|apply Drawn0.step)⟩
   rw[Yx c4] at H;have c4b0:decide (Zt<(l0.length:Int))=true:=Yv c4;clear c4;by_cases c5:0≤Zt
   rotate_left
   ·rw[Yy c5] at H
    exact absurd H (by simp)
   rw[Yx c5] at H;have c5b0:decide (0≤Zt)=true:=Yv c5;clear c5;by_cases c6:Zt<(l1.length:Int)
   rotate_left
   ·rw[Yy c6] at H
    exact absurd H (by simp)
   rw[Yx c6] at H;have c6b0:decide (Zt<(l1.length:Int))=true:=Yv c6;clear c6;by_cases c7:((rdOf false l0 Zt) != (rdOf false l1 Zt))=true
   ·rw[Yx c7] at H
    have c7b0:((rdOf false l0 Zt) != (rdOf false l1 Zt))=true:=c7
    (try (have c7b1:decide ((rdOf false l0 Zt)=(rdOf false l1 Zt))=false:=by simpa using c7))
    (try (have c7b2:((rdOf false l0 Zt) == (rdOf false l1 Zt))=false:=by simpa using c7))
    (try (have c7b3: ¬ ((rdOf false l0 Zt)=(rdOf false l1 Zt)):=by simpa using c7))
    clear c7;obtain rfl:=Option.some.inj H;have p217:0≤(Zt:Int):=Yu (by first|(with_reducible assumption)|assumption);have q217:Zt<(l0.length:Int):=Yu (by first|(with_reducible assumption)|assumption);obtain⟨ad217,e217,hx217_0⟩:=Kd.at_bool HR0.out Zt p217 q217;cases e217;replace p217:=eq_true p217;replace q217:=eq_true q217;have p218:0≤(Zt:Int):=Yu (by first|(with_reducible assumption)|assumption);have q218:Zt<(l1.length:Int):=Yu (by first|(with_reducible assumption)|assumption);obtain⟨ad218,e218,hx218_0⟩:=Kd.at_bool HR1.out Zt p218 q218;cases e218;replace p218:=eq_true p218;replace q218:=eq_true q218;go_wp2;repeat(go_quiet (fail);try go_wp2)
    go_ret;exact⟨by first|rfl|(simp;done)|(simp[*];done),by repeat(first|exact Drawn0.refl _|apply Drawn0.step)⟩
   rw[Yy c7] at H;have c7b0:((rdOf false l0 Zt) != (rdOf false l1 Zt))=false:=by simpa using c7
   (try (have c7b1:decide ((rdOf false l0 Zt)=(rdOf false l1 Zt))=true:=by simpa using c7))
   (try (have c7b2:((rdOf false l0 Zt) == (rdOf false l1 Zt))=true:=by simpa using c7))
   clear c7;have H':=Ya H;clear H;have p217:0≤(Zt:Int):=Yu (by first|(with_reducible assumption)|assumption);have q217:Zt<(l0.length:Int):=Yu (by first|(with_reducible assumption)|assumption);obtain⟨ad217,e217,hx217_0⟩:=Kd.at_bool HR0.out Zt p217 q217;cases e217;replace p217:=eq_true p217;replace q217:=eq_true q217;have p218:0≤(Zt:Int):=Yu (by first|(with_reducible assumption)|assumption);have q218:Zt<(l1.length:Int):=Yu (by first|(with_reducible assumption)|assumption);obtain⟨ad218,e218,hx218_0⟩:=Kd.at_bool HR1.out Zt p218 q218;cases e218;replace p218:=eq_true p218;replace q218:=eq_true q218;go_wp2;repeat(go_quiet (fail);try go_wp2)
   go_roundg k1
   case measure=>have:=HK1.out;omega
   case rel=>exact⟨(wrap64 (Zt+1)),(by first|rfl|(simp;done)|(simp[*];done)),H',⟨by have:=HK1.out;omega⟩,by repeat(first|exact Drawn0.refl _|apply Drawn0.step)⟩
end P
namespace P
attribute [local go_sem] max2_int min2_int max_two min_two max_three min_three max_four min_four
def mincut_Capacity.f (k:Nat) (Zc:Int) (Zb:Bool) (Za:List (S74)) (l1:List Bool):Option (Int × Int):=(netfmt_Check.f k Zc Zb Za).bind fun t1072=>(if t1072=0 then(if (l1.length:Int)=Zc then((mincut_takes.f k Zc Zb Za l1).bind fun t1073=>(some (t1073,0))) else(some (0,1))) else(some (0,t1072)))
set_option maxHeartbeats 8000000 in
set_option maxRecDepth 100000 in
theorem mincut_Capacity.calls (k:Nat) (Zc:Int) (Zb:Bool) (Ze:Option Addr) (Zd:Nat) (Za:List (S74)) (A1:Option Addr) (c1:Nat) (l1:List Bool) (r1:Int) (r2:Int) (w:World) (Zr:Kd.C k74 w Ze Za.length Za) (Zs:Za.length≤Zd) (hr1:Kd.C Kd.bool w A1 l1.length l1) (hc1:l1.length≤c1) (h:mincut_Capacity.f k Zc Zb Za l1=some (r1,r2)):
  Calls Try.prog 82 #[.agg #[.int .i64 Zc, .bool Zb, .slice Ze Za.length Zd], .slice A1 l1.length c1] w fun e w'=>e= .returned (.tuple #[.int .i64 r1, .int .i64 r2])∧Below w.heap.size w w':=by
 have hu24:=Try.underlying24;have Zl:=Ya Zr;have Zv:=Ya Zs;clear Zr Zs;have HR1:=Ya hr1;have HC1:=Ya hc1;clear hr1 hc1;have HB:=Ya (Yo w.heap.size w);have H:((netfmt_Check.f k Zc Zb Za).bind fun t1072=>(if t1072=0 then(if (l1.length:Int)=Zc then((mincut_takes.f k Zc Zb Za l1).bind fun t1073=>(some (t1073,0))) else(some (0,1))) else(some (0,t1072))))=some (r1,r2):=h;clear h;replace H:=Option.bind_eq_some_iff.mp H;obtain⟨t1072,A30,H⟩:=H;replace H:(if t1072=0 then(if (l1.length:Int)=Zc then((mincut_takes.f k Zc Zb Za l1).bind fun t1073=>(some (t1073,0))) else(some (0,1))) else(some (0,t1072)))=some (r1,r2):=H;have A3:=Ya A30;clear A30;by_cases c4:t1072=0
 rotate_left
 ·rw[Yy c4] at H
  have c4b0:(t1072 == 0)=false:=beq_eq_false_iff_ne.mpr c4;have c4b1:(t1072 != 0)=true:=bne_iff_ne.mpr c4;simp only[Option.some.injEq,Prod.mk.injEq] at H;obtain⟨rfl,rfl⟩:=H;go_enter Try.func82,Try.ntmps82;go_wp2_with (first|((with_reducible refine gate_dst (N:=2) rfl ?_);refine Yz ?hg (N:=2) ?hd (cs:= #[.int .i64 Zc, .bool Zb, .slice Ze Za.length Zd]) (t:=24) ?hr ?_;(case hd=>rfl);(case hg=>rfl);(case hr=>first|(go_simp;done)|(go_simp;rfl));intro Wr hg w16 Zf hb;have n0_:=Ya (Yk (by repeat(first|(with_reducible first|exact HB.out|apply Ye|apply Yd|apply Yg)|exact HB.out)) hb);have n1_:=Ya (Zf);have n2_:=Ya ((by rw[hg];exact(Yi (by repeat(first|(with_reducible first|exact HB.out|apply Ye|apply Yd|apply Yg)|exact HB.out))):w.heap.size≤Wr));have n3_:=Ya ((by rw[hg];exact(Yi (by repeat(first|(with_reducible first|exact HB.out|apply Ye|apply Yd|apply Yg)|exact HB.out))):w.heap.size≤Wr));clear HB;have HB:=n0_;have Xn:=n1_;have GW1071:=n2_;have GE1071:=n3_;clear n0_ n1_ n2_ n3_;clear hb Zf hg;have Uk:w16.cell? ⟨Wr,0,none⟩=some (.int .i64 Zc):=(Yc Xn.out 0).trans rfl;have Ul:w16.cell? ⟨Wr,1,none⟩=some (.bool Zb):=(Yc Xn.out 1).trans rfl;have hcz17_2:w16.cell? ⟨Wr,2,none⟩=some (.slice Ze Za.length Zd):=(Yc Xn.out 2).trans rfl;have Um:=Yf Xn.out 0;have Un:=Yf Xn.out 1;have hfz17_2:=Yf Xn.out 2)|((with_reducible refine gate_callee (f:=127) rfl ?_);refine goesL_ (some 8) rfl rfl Try.func127 (by kernel_rfl) rfl #[.agg #[.int .i64 Zc, .bool Zb, .slice Ze Za.length Zd]] rfl (by(try simp only[List.map_toArray,List.map_cons,List.map_nil]);first|done|rfl|(simp only[List.length_drop,List.length_take];rfl)) ?_;(with_reducible refine(netfmt_Check.calls k Zc Zb _ _ Za t1072 _ ?side1 ?side2 A3.out).mono ?_);(case side1=>repeat(first|exact(Yt Zl.out HB.out)|(with_reducible refine Kd.C_alloc ?_ _)|(with_reducible refine Kd.C_drewN ?_ _)|(with_reducible refine Kd.C_drew ?_)));(case side2=>exact Zv.out);rintro e w18 ⟨rfl,hb⟩;refine⟨_,rfl,?_⟩;have n0_:=Ya (Yn (g:=Wr) (o:= .cells #[.int .i64 Zc, .bool Zb, .slice Ze Za.length Zd] 24 (0,0)) (by(with_reducible repeat(first|refine Yl ?_ _|refine Ym ?_|refine Yj ?_ _));exact Xn.out) hb);have n1_:=Ya (Yk (by repeat(first|(with_reducible first|exact HB.out|apply Ye|apply Yd|apply Yg|refine Yh ?_ GE1071.out)|exact HB.out)) hb);clear Xn;clear HB;have Xn:=n0_;have HB:=n1_;clear n0_ n1_;(try clear hb);(try clear hb2);(try clear hk);(try clear hi)));go_ret2;exact⟨by first|rfl|(simp[errW_none,errW_some]<;>rfl)|(simp[*,errW_none,errW_some]<;>rfl),by repeat(first|(with_reducible first|exact HB.out|apply Ye|apply Yd|apply Yg|refine Yh ?_ GE1071.out)|exact HB.out)⟩
 rw[Yx c4] at H;have c4b0:(t1072 == 0)=true:=beq_iff_eq.mpr c4;have c4b1:(t1072 != 0)=false:=bne_eq_false_iff_eq.mpr c4;clear c4;by_cases c5:(l1.length:Int)=Zc
 rotate_left
 ·rw[Yy c5] at H
  have c5b0:((l1.length:Int) == Zc)=false:=beq_eq_false_iff_ne.mpr c5;have c5b1:((l1.length:Int) != Zc)=true:=bne_iff_ne.mpr c5;simp only[Option.some.injEq,Prod.mk.injEq] at H;obtain⟨rfl,rfl⟩:=H;go_enter Try.func82,Try.ntmps82;go_wp2_with (first|((with_reducible refine gate_dst (N:=2) rfl ?_);refine Yz ?hg (N:=2) ?hd (cs:= #[.int .i64 Zc, .bool Zb, .slice Ze Za.length Zd]) (t:=24) ?hr ?_;(case hd=>rfl);(case hg=>rfl);(case hr=>first|(go_simp;done)|(go_simp;rfl));intro Wr hg w12 Zf hb;have n0_:=Ya (Yk (by repeat(first|(with_reducible first|exact HB.out|apply Ye|apply Yd|apply Yg)|exact HB.out)) hb);have n1_:=Ya (Zf);have n2_:=Ya ((by rw[hg];exact(Yi (by repeat(first|(with_reducible first|exact HB.out|apply Ye|apply Yd|apply Yg)|exact HB.out))):w.heap.size≤Wr));have n3_:=Ya ((by rw[hg];exact(Yi (by repeat(first|(with_reducible first|exact HB.out|apply Ye|apply Yd|apply Yg)|exact HB.out))):w.heap.size≤Wr));clear HB;have HB:=n0_;have Xn:=n1_;have GW1071:=n2_;have GE1071:=n3_;clear n0_ n1_ n2_ n3_;clear hb Zf hg;have hcz13_0:w12.cell? ⟨Wr,0,none⟩=some (.int .i64 Zc):=(Yc Xn.out 0).trans rfl;have hcz13_1:w12.cell? ⟨Wr,1,none⟩=some (.bool Zb):=(Yc Xn.out 1).trans rfl;have hcz13_2:w12.cell? ⟨Wr,2,none⟩=some (.slice Ze Za.length Zd):=(Yc Xn.out 2).trans rfl;have hfz13_0:=Yf Xn.out 0;have hfz13_1:=Yf Xn.out 1;have hfz13_2:=Yf Xn.out 2)|((with_reducible refine gate_callee (f:=127) rfl ?_);refine goesL_ (some 8) rfl rfl Try.func127 (by kernel_rfl) rfl #[.agg #[.int .i64 Zc, .bool Zb, .slice Ze Za.length Zd]] rfl (by(try simp only[List.map_toArray,List.map_cons,List.map_nil]);first|done|rfl|(simp only[List.length_drop,List.length_take];rfl)) ?_;(with_reducible refine(netfmt_Check.calls k Zc Zb _ _ Za t1072 _ ?side1 ?side2 A3.out).mono ?_);(case side1=>repeat(first|exact(Yt Zl.out HB.out)|(with_reducible refine Kd.C_alloc ?_ _)|(with_reducible refine Kd.C_drewN ?_ _)|(with_reducible refine Kd.C_drew ?_)));(case side2=>exact Zv.out);rintro e w14 ⟨rfl,hb⟩;refine⟨_,rfl,?_⟩;have n0_:=Ya (Yn (g:=Wr) (o:= .cells #[.int .i64 Zc, .bool Zb, .slice Ze Za.length Zd] 24 (0,0)) (by(with_reducible repeat(first|refine Yl ?_ _|refine Ym ?_|refine Yj ?_ _));exact Xn.out) hb);have n1_:=Ya (Yk (by repeat(first|(with_reducible first|exact HB.out|apply Ye|apply Yd|apply Yg|refine Yh ?_ GE1071.out)|exact HB.out)) hb);clear Xn;clear HB;have Xn:=n0_;have HB:=n1_;clear n0_ n1_;(try clear hb);(try clear hb2);(try clear hk);(try clear hi);have hcz15_0:w14.cell? ⟨Wr,0,none⟩=some (.int .i64 Zc):=(Yc Xn.out 0).trans rfl;have hcz15_1:w14.cell? ⟨Wr,1,none⟩=some (.bool Zb):=(Yc Xn.out 1).trans rfl;have hcz15_2:w14.cell? ⟨Wr,2,none⟩=some (.slice Ze Za.length Zd):=(Yc Xn.out 2).trans rfl;have hfz15_0:=Yf Xn.out 0;have hfz15_1:=Yf Xn.out 1;have hfz15_2:=Yf Xn.out 2));go_ret2;exact⟨by first|rfl|(simp[errW_none,errW_some]<;>rfl)|(simp[*,errW_none,errW_some]<;>rfl),by repeat(first|(with_reducible first|exact HB.out|apply Ye|apply Yd|apply Yg|refine Yh ?_ GE1071.out)|exact HB.out)⟩
 rw[Yx c5] at H;have c5b0:((l1.length:Int) == Zc)=true:=beq_iff_eq.mpr c5;have c5b1:((l1.length:Int) != Zc)=false:=bne_eq_false_iff_eq.mpr c5;clear c5;replace H:=Option.bind_eq_some_iff.mp H;obtain⟨t1073,A60,H⟩:=H;replace H:(some (t1073,0))=some (r1,r2):=H;have A6:=Ya A60;clear A60;simp only[Option.some.injEq,Prod.mk.injEq] at H;obtain⟨rfl,rfl⟩:=H;go_enter Try.func82,Try.ntmps82;go_wp2_with (first|((with_reducible refine gate_dst (N:=2) rfl ?_);refine Yz ?hg (N:=2) ?hd (cs:= #[.int .i64 Zc, .bool Zb, .slice Ze Za.length Zd]) (t:=24) ?hr ?_;(case hd=>rfl);(case hg=>rfl);(case hr=>first|(go_simp;done)|(go_simp;rfl));intro Wr hg w7 Zf hb;have n0_:=Ya (Yk (by repeat(first|(with_reducible first|exact HB.out|apply Ye|apply Yd|apply Yg)|exact HB.out)) hb);have n1_:=Ya (Zf);have n2_:=Ya ((by rw[hg];exact(Yi (by repeat(first|(with_reducible first|exact HB.out|apply Ye|apply Yd|apply Yg)|exact HB.out))):w.heap.size≤Wr));have n3_:=Ya ((by rw[hg];exact(Yi (by repeat(first|(with_reducible first|exact HB.out|apply Ye|apply Yd|apply Yg)|exact HB.out))):w.heap.size≤Wr));clear HB;have HB:=n0_;have Xn:=n1_;have GW1071:=n2_;have GE1071:=n3_;clear n0_ n1_ n2_ n3_;clear hb Zf hg;have hcz8_0:w7.cell? ⟨Wr,0,none⟩=some (.int .i64 Zc):=(Yc Xn.out 0).trans rfl;have hcz8_1:w7.cell? ⟨Wr,1,none⟩=some (.bool Zb):=(Yc Xn.out 1).trans rfl;have hcz8_2:w7.cell? ⟨Wr,2,none⟩=some (.slice Ze Za.length Zd):=(Yc Xn.out 2).trans rfl;have hfz8_0:=Yf Xn.out 0;have hfz8_1:=Yf Xn.out 1;have hfz8_2:=Yf Xn.out 2)|((with_reducible refine gate_callee (f:=127) rfl ?_);refine goesL_ (some 8) rfl rfl Try.func127 (by kernel_rfl) rfl #[.agg #[.int .i64 Zc, .bool Zb, .slice Ze Za.length Zd]] rfl (by(try simp only[List.map_toArray,List.map_cons,List.map_nil]);first|done|rfl|(simp only[List.length_drop,List.length_take];rfl)) ?_;(with_reducible refine(netfmt_Check.calls k Zc Zb _ _ Za t1072 _ ?side1 ?side2 A3.out).mono ?_);(case side1=>repeat(first|exact(Yt Zl.out HB.out)|(with_reducible refine Kd.C_alloc ?_ _)|(with_reducible refine Kd.C_drewN ?_ _)|(with_reducible refine Kd.C_drew ?_)));(case side2=>exact Zv.out);rintro e w9 ⟨rfl,hb⟩;refine⟨_,rfl,?_⟩;have n0_:=Ya (Yn (g:=Wr) (o:= .cells #[.int .i64 Zc, .bool Zb, .slice Ze Za.length Zd] 24 (0,0)) (by(with_reducible repeat(first|refine Yl ?_ _|refine Ym ?_|refine Yj ?_ _));exact Xn.out) hb);have n1_:=Ya (Yk (by repeat(first|(with_reducible first|exact HB.out|apply Ye|apply Yd|apply Yg|refine Yh ?_ GE1071.out)|exact HB.out)) hb);clear Xn;clear HB;have Xn:=n0_;have HB:=n1_;clear n0_ n1_;(try clear hb);(try clear hb2);(try clear hk);(try clear hi);have Vs:w9.cell? ⟨Wr,0,none⟩=some (.int .i64 Zc):=(Yc Xn.out 0).trans rfl;have Vt:w9.cell? ⟨Wr,1,none⟩=some (.bool Zb):=(Yc Xn.out 1).trans rfl;have Jq:w9.cell? ⟨Wr,2,none⟩=some (.slice Ze Za.length Zd):=(Yc Xn.out 2).trans rfl;have Vu:=Yf Xn.out 0;have Vv:=Yf Xn.out 1;have Jr:=Yf Xn.out 2)|((with_reducible refine gate_callee (f:=125) rfl ?_);refine goesL_ (some 19) rfl rfl Try.func125 (by kernel_rfl) rfl #[.agg #[.int .i64 Zc, .bool Zb, .slice Ze Za.length Zd], .slice A1 l1.length c1] rfl (by(try simp only[List.map_toArray,List.map_cons,List.map_nil]);first|done|rfl|(simp only[List.length_drop,List.length_take];rfl)) ?_;(with_reducible refine(mincut_takes.calls k Zc Zb _ _ Za _ _ l1 t1073 _ ?side1 ?side2 ?side3 ?side4 A6.out).mono ?_);(case side1=>repeat(first|exact(Yt Zl.out HB.out)|(with_reducible refine Kd.C_alloc ?_ _)|(with_reducible refine Kd.C_drewN ?_ _)|(with_reducible refine Kd.C_drew ?_)));(case side2=>exact Zv.out);(case side3=>repeat(first|exact(Yt HR1.out HB.out)|(with_reducible refine Kd.C_alloc ?_ _)|(with_reducible refine Kd.C_drewN ?_ _)|(with_reducible refine Kd.C_drew ?_)));(case side4=>exact HC1.out);rintro e w11 ⟨rfl,hb⟩;refine⟨_,rfl,?_⟩;have n0_:=Ya (Yn (g:=Wr) (o:= .cells #[.int .i64 Zc, .bool Zb, .slice Ze Za.length Zd] 24 (0,0)) (by(with_reducible repeat(first|refine Yl ?_ _|refine Ym ?_|refine Yj ?_ _));exact Xn.out) hb);have n1_:=Ya (Yk (by repeat(first|(with_reducible first|exact HB.out|apply Ye|apply Yd|apply Yg|refine Yh ?_ GE1071.out)|exact HB.out)) hb);clear Xn;clear HB;have Xn:=n0_;have HB:=n1_;clear n0_ n1_;(try clear hb);(try clear hb2);(try clear hk);(try clear hi)));go_ret2;exact⟨by first|rfl|(simp[errW_none,errW_some]<;>rfl)|(simp[*,errW_none,errW_some]<;>rfl),by repeat(first|(with_reducible first|exact HB.out|apply Ye|apply Yd|apply Yg|refine Yh ?_ GE1071.out)|exact HB.out)⟩
end P
namespace P
attribute [local go_sem] max2_int min2_int max_two min_two max_three min_three max_four min_four
def ebbtidelaw10_awake.f (k:Nat)  :Option (Bool):=(some (([(⟨0,1,3,0⟩:S74),(⟨1,2,1,0⟩:S74)]:List (S74)):List (S74))).bind fun y1074=>((mincut_Least.f k 3 false y1074 0 2).bind fun bt1078=>((mincut_Capacity.f k 3 false y1074 (([true,false,false]:List Bool))).bind fun bt1086=>(if bt1078.2.2=0 then(if bt1078.2.1=1 then((ebbtideref10_Same.f k bt1078.1 (([true,true,false]:List Bool))).bind fun t1091=>(if t1091=true then(if bt1086.2=0 then(some (bt1086.1 == 3)) else(some false)) else(some false))) else(some false)) else(some false))))
set_option maxHeartbeats 8000000 in
set_option maxRecDepth 100000 in
theorem ebbtidelaw10_awake.calls (k:Nat)  (r:Bool) (w:World) (h:ebbtidelaw10_awake.f k  =some r) (hrT_:r=true:=by first|rfl|exact Aside0.out (by assumption)):
  Calls Try.prog 81 #[] w fun e w'=>e= .returned (.bool r)∧Below w.heap.size w w':=by
 have HRT:=Ya hrT_;clear hrT_;have hu74:=Try.underlying74;have hu24:=Try.underlying24;have HB:=Ya (Yo w.heap.size w);have H:((some (([(⟨0,1,3,0⟩:S74),(⟨1,2,1,0⟩:S74)]:List (S74)):List (S74))).bind fun y1074=>((mincut_Least.f k 3 false y1074 0 2).bind fun bt1078=>((mincut_Capacity.f k 3 false y1074 (([true,false,false]:List Bool))).bind fun bt1086=>(if bt1078.2.2=0 then(if bt1078.2.1=1 then((ebbtideref10_Same.f k bt1078.1 (([true,true,false]:List Bool))).bind fun t1091=>(if t1091=true then(if bt1086.2=0 then(some (bt1086.1 == 3)) else(some false)) else(some false))) else(some false)) else(some false)))))=some r:=h;clear h;obtain⟨y1074,hy1074⟩: ∃ y_:List (S74),y_=(([(⟨0,1,3,0⟩:S74),(⟨1,2,1,0⟩:S74)]:List (S74))):=⟨_,rfl⟩;replace H:((mincut_Least.f k 3 false y1074 0 2).bind fun bt1078=>((mincut_Capacity.f k 3 false y1074 (([true,false,false]:List Bool))).bind fun bt1086=>(if bt1078.2.2=0 then(if bt1078.2.1=1 then((ebbtideref10_Same.f k bt1078.1 (([true,true,false]:List Bool))).bind fun t1091=>(if t1091=true then(if bt1086.2=0 then(some (bt1086.1 == 3)) else(some false)) else(some false))) else(some false)) else(some false))))=some r:=by first|(rw[hy1074];with_reducible exact H)|(have H2_:=(Option.bind_some _ _).symm.trans H;rw[hy1074];with_reducible exact H2_)|(have H2_:=(Option.bind_some _ _).symm.trans H;with_reducible exact H2_)|with_reducible exact H|(rw[hy1074];exact H)|exact H
 have Ny1074:=Ya hy1074;clear hy1074;replace H:=Option.bind_eq_some_iff.mp H;obtain⟨⟨t1078,t1081,t1082⟩,A10,H⟩:=H;replace H:((mincut_Capacity.f k 3 false y1074 (([true,false,false]:List Bool))).bind fun bt1086=>(if t1082=0 then(if t1081=1 then((ebbtideref10_Same.f k t1078 (([true,true,false]:List Bool))).bind fun t1091=>(if t1091=true then(if bt1086.2=0 then(some (bt1086.1 == 3)) else(some false)) else(some false))) else(some false)) else(some false)))=some r:=H;have A1:=Ya A10;clear A10;obtain⟨y1083,hy1083⟩: ∃ y_:List Bool,y_=(([true,false,false]:List Bool)):=⟨_,rfl⟩;replace H:((mincut_Capacity.f k 3 false y1074 y1083).bind fun bt1086=>(if t1082=0 then(if t1081=1 then((ebbtideref10_Same.f k t1078 (([true,true,false]:List Bool))).bind fun t1091=>(if t1091=true then(if bt1086.2=0 then(some (bt1086.1 == 3)) else(some false)) else(some false))) else(some false)) else(some false)))=some r:=by first|(rw[hy1083];with_reducible exact H)|(have H2_:=(Option.bind_some _ _).symm.trans H;rw[hy1083];with_reducible exact H2_)|(have H2_:=(Option.bind_some _ _).symm.trans H;with_reducible exact H2_)|with_reducible exact H|(rw[hy1083];exact H)|exact H
 have Ny1083:=Ya hy1083;clear hy1083;replace H:=Option.bind_eq_some_iff.mp H;obtain⟨⟨t1086,t1087⟩,A20,H⟩:=H;replace H:(if t1082=0 then(if t1081=1 then((ebbtideref10_Same.f k t1078 (([true,true,false]:List Bool))).bind fun t1091=>(if t1091=true then(if t1087=0 then(some (t1086 == 3)) else(some false)) else(some false))) else(some false)) else(some false))=some r:=H;have A2:=Ya A20;clear A20;by_cases c3:t1082=0
 rotate_left
 ·rw[Yy c3] at H
  exact absurd (Option.some.inj H) (by rw[HRT.out];decide)
 rw[Yx c3] at H;have c3b0:(t1082 == 0)=true:=beq_iff_eq.mpr c3;have c3b1:(t1082 != 0)=false:=bne_eq_false_iff_eq.mpr c3;clear c3;by_cases c4:t1081=1
 rotate_left
 ·rw[Yy c4] at H
  exact absurd (Option.some.inj H) (by rw[HRT.out];decide)
 rw[Yx c4] at H;have c4b0:(t1081 == 1)=true:=beq_iff_eq.mpr c4;have c4b1:(t1081 != 1)=false:=bne_eq_false_iff_eq.mpr c4;clear c4;obtain⟨y1088,hy1088⟩: ∃ y_:List Bool,y_=(([true,true,false]:List Bool)):=⟨_,rfl⟩;replace H:((ebbtideref10_Same.f k t1078 y1088).bind fun t1091=>(if t1091=true then(if t1087=0 then(some (t1086 == 3)) else(some false)) else(some false)))=some r:=by first|(rw[hy1088];with_reducible exact H)|(have H2_:=(Option.bind_some _ _).symm.trans H;rw[hy1088];with_reducible exact H2_)|(have H2_:=(Option.bind_some _ _).symm.trans H;with_reducible exact H2_)|with_reducible exact H|(rw[hy1088];exact H)|exact H
 have Ny1088:=Ya hy1088;clear hy1088;replace H:=Option.bind_eq_some_iff.mp H;obtain⟨t1091,A50,H⟩:=H;replace H:(if t1091=true then(if t1087=0 then(some (t1086 == 3)) else(some false)) else(some false))=some r:=H;have A5:=Ya A50;clear A50;by_cases c6:t1091=true
 rotate_left
 ·replace c6:=Bool.eq_false_iff.mpr c6
  subst c6;have H1:(some false)=some r:=by rw[Yy (show ¬ (false=true) by decide)] at H;exact H
  exact absurd (Option.some.inj H1) (by rw[HRT.out];decide)
 subst c6;have H1:(if t1087=0 then(some (t1086 == 3)) else(some false))=some r:=by first|(rw[Yx rfl] at H;exact H)|(rw[Yx trivial] at H;exact H)
 clear H;have H:=H1;clear H1;by_cases c7:t1087=0
 rotate_left
 ·rw[Yy c7] at H
  exact absurd (Option.some.inj H) (by rw[HRT.out];decide)
 rw[Yx c7] at H;have c7b0:(t1087 == 0)=true:=beq_iff_eq.mpr c7;have c7b1:(t1087 != 0)=false:=bne_eq_false_iff_eq.mpr c7;clear c7;obtain rfl:=Option.some.inj H;go_enter Try.func81,Try.ntmps81;go_wp2_with (first|((with_reducible refine gate_dst (N:=9) rfl ?_);(try (refine gate_guard (by rfl) ?_;dsimp only));refine Kd.R_lit k74 _ 74 ?hg (N:=9) ?hd (xs:=([(⟨0,1,3,0⟩:S74),(⟨1,2,1,0⟩:S74)]:List (S74))) (inner:=[.int .i64 0, .int .i64 1, .int .i64 3, .int .i64 0, .int .i64 1, .int .i64 2, .int .i64 1, .int .i64 0]) (ok:=fun _=>True) (okp:=fun _=>True) ?hr ?hp (fun _ hk=>hk) trivial (Yo _ _) (Nat.le_refl _) (by simp) ?_;(case hd=>rfl);(case hg=>rfl);(case hr=>first|(go_simp;done)|(go_simp;rfl));(case hp=>exact(Reps.c4 (show Kd.M k74 _ _ _ (⟨0,1,3,0⟩:S74) [.int .i64 0, .int .i64 1, .int .i64 3, .int .i64 0] from(k74_mkM _ _ _ (⟨0,1,3,0⟩:S74) )) (Reps.c4 (show Kd.M k74 _ _ _ (⟨1,2,1,0⟩:S74) [.int .i64 1, .int .i64 2, .int .i64 1, .int .i64 0] from(k74_mkM _ _ _ (⟨1,2,1,0⟩:S74) )) (Reps.none _ _))));intro v1075 w8 ho9 hb hg_ hnew_;clear hg_ hnew_;(first|rw[← Ny1074.out] at ho9|(simp only[Int.reduceToNat] at ho9;rw[← Ny1074.out] at ho9));have n0_:=Ya (Kd.R_lower ho9 (Yi (by repeat(first|(with_reducible first|exact HB.out|apply Ye|apply Yd|apply Yg)|exact HB.out))));have n1_:=Ya (Yk (by repeat(first|(with_reducible first|exact HB.out|apply Ye|apply Yd|apply Yg)|exact HB.out)) hb);clear HB;have Uf:=n0_;have HB:=n1_;clear n0_ n1_;clear hb ho9;obtain⟨Ao10,co10,eo10⟩:=Kd.R_slice Uf.out;subst eo10)|((with_reducible refine gate_dst (N:=1) rfl ?_);(try (refine gate_guard (by rfl) ?_;dsimp only));refine Yz ?hg (N:=1) ?hd (cs:= #[.int .i64 0, .bool false, .slice none 0 0]) (t:=24) ?hr ?_;(case hd=>rfl);(case hg=>rfl);(case hr=>first|(go_simp;done)|(go_simp;rfl));intro Uw hg w11 Zf hb;have n0_:=Ya (Ys (by(with_reducible repeat(first|apply Yr|apply Yq|apply Yp));exact Uf.out) hb);have n1_:=Ya (Yk (by repeat(first|(with_reducible first|exact HB.out|apply Ye|apply Yd|apply Yg)|exact HB.out)) hb);have n2_:=Ya (Zf);have n3_:=Ya ((by rw[hg];exact(Yi (by repeat(first|(with_reducible first|exact HB.out|apply Ye|apply Yd|apply Yg)|exact HB.out))):w.heap.size≤Uw));have n4_:=Ya ((by rw[hg];exact(Yi (by repeat(first|(with_reducible first|exact HB.out|apply Ye|apply Yd|apply Yg)|exact HB.out))):w.heap.size≤Uw));clear Uf;clear HB;have Uf:=n0_;have HB:=n1_;have Wy:=n2_;have GW1077:=n3_;have GE1077:=n4_;clear n0_ n1_ n2_ n3_ n4_;clear hb Zf hg;have hcz12_0:w11.cell? ⟨Uw,0,none⟩=some (.int .i64 0):=(Yc Wy.out 0).trans rfl;have hcz12_1:w11.cell? ⟨Uw,1,none⟩=some (.bool false):=(Yc Wy.out 1).trans rfl;have hcz12_2:w11.cell? ⟨Uw,2,none⟩=some (.slice none 0 0):=(Yc Wy.out 2).trans rfl;have hfz12_0:=Yf Wy.out 0;have hfz12_1:=Yf Wy.out 1;have hfz12_2:=Yf Wy.out 2)|((with_reducible refine gate_callee (f:=79) rfl ?_);refine goesL_ (some 13) rfl rfl Try.func79 (by kernel_rfl) rfl #[.agg #[.int .i64 3, .bool false, .slice Ao10 y1074.length co10], .int .i64 0, .int .i64 2] rfl (by(try simp only[List.map_toArray,List.map_cons,List.map_nil]);first|done|rfl|(simp only[List.length_drop,List.length_take];rfl)) ?_;(with_reducible refine(mincut_Least.calls k 3 false _ _ y1074 0 2 t1078 t1081 t1082 _ ?side1 ?side2 A1.out).mono ?_);(case side1=>refine(Kd.R_reads' (e:=74) (base:=w.heap.size) (ok:=fun k_=>True) (n:=y1074.length) (c:=co10) ?_).2.2;exact(by(with_reducible repeat(first|apply Yr|apply Yq|apply Yp));exact(Kd.R_mono (Kd.R_far (p:=⟨Uw,2,none⟩) (Kd.R_far (p:=⟨Uw,1,none⟩) (Kd.R_far (p:=⟨Uw,0,none⟩) (Kd.R_types Uf.out Wy.out (by decide)) (fun _ hk=>hk.2) (.int .i64 3)) (fun _ hk=>hk.2) (.bool false)) (fun _ hk=>hk.2) (.slice Ao10 y1074.length co10)) (fun _ h_=>h_.1))));(case side2=>exact(Kd.R_reads' Uf.out).2.1);rintro e w13 ⟨v1079,rfl,ho0,hb⟩;refine⟨_,rfl,?_⟩;have n0_:=Ya (Ys (by(with_reducible repeat(first|apply Yr|apply Yq|apply Yp));exact(Kd.R_mono (Kd.R_far (p:=⟨Uw,2,none⟩) (Kd.R_far (p:=⟨Uw,1,none⟩) (Kd.R_far (p:=⟨Uw,0,none⟩) (Kd.R_types Uf.out Wy.out (by decide)) (fun _ hk=>hk.2) (.int .i64 3)) (fun _ hk=>hk.2) (.bool false)) (fun _ hk=>hk.2) (.slice Ao10 y1074.length co10)) (fun _ h_=>h_.1))) hb);have n1_:=Ya (Kd.R_lower ho0 (Yi (by repeat(first|(with_reducible first|exact HB.out|apply Ye|apply Yd|apply Yg|refine Yh ?_ GE1077.out)|exact HB.out))));have n2_:=Ya (Yn (g:=Uw) (o:= .cells #[.int .i64 3, .bool false, .slice Ao10 y1074.length co10] 24 (0,0)) (by(with_reducible repeat(first|refine Yl ?_ _|refine Ym ?_|refine Yj ?_ _));refine YA (cs:= #[.int .i64 3, .bool false, .slice none 0 0]) ?_ 2 _ rfl;(with_reducible repeat(first|refine Yl ?_ _|refine Ym ?_|refine Yj ?_ _));refine YA (cs:= #[.int .i64 3, .bool false, .slice none 0 0]) ?_ 1 _ rfl;(with_reducible repeat(first|refine Yl ?_ _|refine Ym ?_|refine Yj ?_ _));refine YA (cs:= #[.int .i64 0, .bool false, .slice none 0 0]) ?_ 0 _ rfl;(with_reducible repeat(first|refine Yl ?_ _|refine Ym ?_|refine Yj ?_ _));exact Wy.out) hb);have n3_:=Ya (Yk (by repeat(first|(with_reducible first|exact HB.out|apply Ye|apply Yd|apply Yg|refine Yh ?_ GE1077.out)|exact HB.out)) hb);clear Uf;clear Wy;clear HB;have Uf:=n0_;have HO1080:=n1_;have Wy:=n2_;have HB:=n3_;clear n0_ n1_ n2_ n3_;(try clear hb);(try clear hb2);(try clear hk);(try clear hi);(try clear ho0);have Ug:w13.cell? ⟨Uw,0,none⟩=some (.int .i64 3):=(Yc Wy.out 0).trans rfl;have Uh:w13.cell? ⟨Uw,1,none⟩=some (.bool false):=(Yc Wy.out 1).trans rfl;have Jz:w13.cell? ⟨Uw,2,none⟩=some (.slice Ao10 y1074.length co10):=(Yc Wy.out 2).trans rfl;have Ui:=Yf Wy.out 0;have Uj:=Yf Wy.out 1;have hfz14_2:=Yf Wy.out 2)|((with_reducible refine gate_dst (N:=19) rfl ?_);(try (refine gate_guard (by rfl) ?_;dsimp only));refine Kd.R_lit Kd.bool _ 4 ?hg (N:=19) ?hd (xs:=([true,false,false]:List Bool)) (inner:=[.bool true, .bool false, .bool false]) (ok:=fun _=>True) (okp:=fun _=>True) ?hr ?hp (fun _ hk=>hk) trivial (Yo _ _) (Nat.le_refl _) (by simp) ?_;(case hd=>rfl);(case hg=>rfl);(case hr=>first|(go_simp;done)|(go_simp;rfl));(case hp=>exact(Reps.one (show Kd.M Kd.bool _ _ _ true [.bool true] from rfl) (Reps.one (show Kd.M Kd.bool _ _ _ false [.bool false] from rfl) (Reps.one (show Kd.M Kd.bool _ _ _ false [.bool false] from rfl) (Reps.none _ _)))));intro v1084 w15 ho16 hb hg_ hnew_;clear hg_ hnew_;(first|rw[← Ny1083.out] at ho16|(simp only[Int.reduceToNat] at ho16;rw[← Ny1083.out] at ho16));have n0_:=Ya (Ys (by(with_reducible repeat(first|apply Yr|apply Yq|apply Yp));exact Uf.out) hb);have n1_:=Ya (Kd.R_elder' (by(with_reducible repeat(first|apply Yr|apply Yq|apply Yp));exact HO1080.out) (Kd.R_base ho16) hb);have n2_:=Ya (Kd.R_lower (Kd.R_new' ho16 (Kd.R_lt (by(with_reducible repeat(first|apply Yr|apply Yq|apply Yp));exact HO1080.out))) (Yi (by repeat(first|(with_reducible first|exact HB.out|apply Ye|apply Yd|apply Yg|refine Yh ?_ GE1077.out)|exact HB.out))));have n3_:=Ya (Yn (g:=Uw) (o:= .cells #[.int .i64 3, .bool false, .slice Ao10 y1074.length co10] 24 (0,0)) (by(with_reducible repeat(first|refine Yl ?_ _|refine Ym ?_|refine Yj ?_ _));exact Wy.out) hb);have n4_:=Ya (Yk (by repeat(first|(with_reducible first|exact HB.out|apply Ye|apply Yd|apply Yg|refine Yh ?_ GE1077.out)|exact HB.out)) hb);clear Uf;clear HO1080;clear Wy;clear HB;have Uf:=n0_;have HO1080:=n1_;have HO1085:=n2_;have Wy:=n3_;have HB:=n4_;clear n0_ n1_ n2_ n3_ n4_;clear hb ho16;obtain⟨Ao17,co17,eo17⟩:=Kd.R_slice HO1085.out;subst eo17)|((with_reducible refine gate_callee (f:=82) rfl ?_);refine goesL_ (some 20) rfl rfl Try.func82 (by kernel_rfl) rfl #[.agg #[.int .i64 3, .bool false, .slice Ao10 y1074.length co10], .slice Ao17 y1083.length co17] rfl (by(try simp only[List.map_toArray,List.map_cons,List.map_nil]);first|done|rfl|(simp only[List.length_drop,List.length_take];rfl)) ?_;(with_reducible refine(mincut_Capacity.calls k 3 false _ _ y1074 _ _ y1083 t1086 t1087 _ ?side1 ?side2 ?side3 ?side4 A2.out).mono ?_);(case side1=>repeat(first|exact(Kd.R_reads' Uf.out).2.2|(with_reducible refine Kd.C_alloc ?_ _)|(with_reducible refine Kd.C_drewN ?_ _)|(with_reducible refine Kd.C_drew ?_)));(case side2=>exact(Kd.R_reads' Uf.out).2.1);(case side3=>repeat(first|exact(Kd.R_reads' HO1085.out).2.2|(with_reducible refine Kd.C_alloc ?_ _)|(with_reducible refine Kd.C_drewN ?_ _)|(with_reducible refine Kd.C_drew ?_)));(case side4=>exact(Kd.R_reads' HO1085.out).2.1);rintro e w18 ⟨rfl,hb⟩;refine⟨_,rfl,?_⟩;have n0_:=Ya (Ys (by(with_reducible repeat(first|apply Yr|apply Yq|apply Yp));exact Uf.out) hb);have n1_:=Ya (Ys (by(with_reducible repeat(first|apply Yr|apply Yq|apply Yp));exact HO1080.out) hb);have n2_:=Ya (Ys (by(with_reducible repeat(first|apply Yr|apply Yq|apply Yp));exact HO1085.out) hb);have n3_:=Ya (Yn (g:=Uw) (o:= .cells #[.int .i64 3, .bool false, .slice Ao10 y1074.length co10] 24 (0,0)) (by(with_reducible repeat(first|refine Yl ?_ _|refine Ym ?_|refine Yj ?_ _));exact Wy.out) hb);have n4_:=Ya (Yk (by repeat(first|(with_reducible first|exact HB.out|apply Ye|apply Yd|apply Yg|refine Yh ?_ GE1077.out)|exact HB.out)) hb);clear Uf;clear HO1080;clear HO1085;clear Wy;clear HB;have Uf:=n0_;have HO1080:=n1_;have HO1085:=n2_;have Wy:=n3_;have HB:=n4_;clear n0_ n1_ n2_ n3_ n4_;(try clear hb);(try clear hb2);(try clear hk);(try clear hi))|((with_reducible refine gate_dst (N:=31) rfl ?_);(try (refine gate_guard (by rfl) ?_;dsimp only));refine Kd.R_lit Kd.bool _ 4 ?hg (N:=31) ?hd (xs:=([true,true,false]:List Bool)) (inner:=[.bool true, .bool true, .bool false]) (ok:=fun _=>True) (okp:=fun _=>True) ?hr ?hp (fun _ hk=>hk) trivial (Yo _ _) (Nat.le_refl _) (by simp) ?_;(case hd=>rfl);(case hg=>rfl);(case hr=>first|(go_simp;done)|(go_simp;rfl));(case hp=>exact(Reps.one (show Kd.M Kd.bool _ _ _ true [.bool true] from rfl) (Reps.one (show Kd.M Kd.bool _ _ _ true [.bool true] from rfl) (Reps.one (show Kd.M Kd.bool _ _ _ false [.bool false] from rfl) (Reps.none _ _)))));intro v1089 w19 ho20 hb hg_ hnew_;clear hg_ hnew_;(first|rw[← Ny1088.out] at ho20|(simp only[Int.reduceToNat] at ho20;rw[← Ny1088.out] at ho20));have n0_:=Ya (Ys (by(with_reducible repeat(first|apply Yr|apply Yq|apply Yp));exact Uf.out) hb);have n1_:=Ya (Kd.R_elder' (by(with_reducible repeat(first|apply Yr|apply Yq|apply Yp));exact HO1080.out) (Kd.R_base ho20) hb);have n2_:=Ya (Kd.R_elder' (by(with_reducible repeat(first|apply Yr|apply Yq|apply Yp));exact HO1085.out) (Kd.R_base ho20) hb);have n3_:=Ya (Kd.R_lower (Kd.R_new' (Kd.R_new' ho20 (Kd.R_lt (by(with_reducible repeat(first|apply Yr|apply Yq|apply Yp));exact HO1080.out))) (Kd.R_lt (by(with_reducible repeat(first|apply Yr|apply Yq|apply Yp));exact HO1085.out))) (Yi (by repeat(first|(with_reducible first|exact HB.out|apply Ye|apply Yd|apply Yg|refine Yh ?_ GE1077.out)|exact HB.out))));have n4_:=Ya (Yn (g:=Uw) (o:= .cells #[.int .i64 3, .bool false, .slice Ao10 y1074.length co10] 24 (0,0)) (by(with_reducible repeat(first|refine Yl ?_ _|refine Ym ?_|refine Yj ?_ _));exact Wy.out) hb);have n5_:=Ya (Yk (by repeat(first|(with_reducible first|exact HB.out|apply Ye|apply Yd|apply Yg|refine Yh ?_ GE1077.out)|exact HB.out)) hb);clear Uf;clear HO1080;clear HO1085;clear Wy;clear HB;have Uf:=n0_;have HO1080:=n1_;have HO1085:=n2_;have HO1090:=n3_;have Wy:=n4_;have HB:=n5_;clear n0_ n1_ n2_ n3_ n4_ n5_;clear hb ho20;obtain⟨Ao21,co21,eo21⟩:=Kd.R_slice HO1080.out;subst eo21;obtain⟨Ao22,co22,eo22⟩:=Kd.R_slice HO1090.out;subst eo22)|(go_at_call 42;(with_reducible refine(ebbtideref10_Same.calls k _ _ t1078 _ _ y1088 true _ ?side1 ?side2 ?side3 ?side4 A5.out).mono ?_);(case side1=>repeat(first|exact(Kd.R_reads' HO1080.out).2.2|(with_reducible refine Kd.C_alloc ?_ _)|(with_reducible refine Kd.C_drewN ?_ _)|(with_reducible refine Kd.C_drew ?_)));(case side2=>exact(Kd.R_reads' HO1080.out).2.1);(case side3=>repeat(first|exact(Kd.R_reads' HO1090.out).2.2|(with_reducible refine Kd.C_alloc ?_ _)|(with_reducible refine Kd.C_drewN ?_ _)|(with_reducible refine Kd.C_drew ?_)));(case side4=>exact(Kd.R_reads' HO1090.out).2.1);rintro e w' ⟨rfl,⟨nd,rfl⟩⟩));go_ret;exact⟨by first|rfl|(simp[errW_none,errW_some]<;>rfl)|(simp[*,errW_none,errW_some]<;>rfl),by repeat(first|(with_reducible first|exact HB.out|apply Ye|apply Yd|apply Yg|refine Yh ?_ GE1077.out)|exact HB.out)⟩
end P
namespace H
open P
def fewN (n nd:Int):Int:=if nd<n∧n≤50 then nd else n
def fewL (l:List S74) (ar:Nat):List S74:=if ar<l.length∧l.length≤200 then l.take ar else l
theorem fewL_C {w:World} {A:Option Addr} {l:List S74} (h:Kd.C k74 w A l.length l) (ar:Nat):Kd.C k74 w A (fewL l ar).length (fewL l ar):=by
 unfold fewL;split
 ·exact Kd.C_take h (by omega)
 ·exact h
theorem fewL_le (l:List S74) (ar:Nat):(fewL l ar).length≤l.length:=by
 unfold fewL;split
 ·rw[List.length_take];omega
 ·exact Nat.le_refl _
set_option maxHeartbeats 4000000 in
set_option maxRecDepth 100000 in
theorem few_calls (n:Int) (b:Bool) (A:Option Addr) (c:Nat) (l:List S74) (nd:Int) (ar:Nat) (w:World) (har:ar≤200) (hc:l.length≤c) (hC:Kd.C k74 w A l.length l):
  Calls Try.prog 66 #[.agg #[.int .i64 n, .bool b, .slice A l.length c], .int .i64 nd, .int .i64 (ar:Int)] w fun e w'=>e= .returned (.agg #[.int .i64 (fewN n nd), .bool b, .slice A (fewL l ar).length c])∧Below w.heap.size w w':=by
 have hu24:=Try.underlying24;have hu22:=Try.underlying22;have hA:0<l.length→ ∃ ad,A=some ad:=fun h=>by obtain⟨ad,e,_⟩:=hC.2.2 h;exact⟨ad,e⟩
 have HAD:=Ya hA;clear hA hC;go_enter Try.func66,Try.ntmps66;go_upto_region 1 with (first|((with_reducible refine gate_dst (N:=3) rfl ?_);refine Yz ?hg (N:=3) ?hd (cs:= #[.int .i64 n, .bool b, .slice A l.length c]) (t:=24) ?hr ?_;(case hd=>rfl);(case hg=>rfl);(case hr=>first|(go_simp;done)|(go_simp;rfl));intro g3 hg3 w5 Zf hb;have B3:=Ya Zf;have HB:=Ya hb;have HG3:=Ya hg3;clear hg3 Zf hb)|fail)
 have B6:Aside0 ((w5.alloc (.cells #[.int .i64 0, .bool false, .slice none 0 0] 24)).heap[w5.heap.size]? =some (.cells #[.int .i64 0, .bool false, .slice none 0 0] 24 (0,0))):=⟨heap_alloc_new w5 _⟩;have m0_:=Ya (Yn B3.out (Ye (Yo _ _) (.cells #[.int .i64 0, .bool false, .slice none 0 0] 24)));have m1_:=Ya (Ye HB.out (.cells #[.int .i64 0, .bool false, .slice none 0 0] 24));have hg36:g3<w5.heap.size:=blk_lt B3.out;have hgw:w.heap.size≤g3:=by have:=HG3.out;omega
 clear B3 HB HG3;have B3:=m0_;have HB:=m1_;clear m0_ m1_;generalize w5.alloc (.cells #[.int .i64 0, .bool false, .slice none 0 0] 24)=w6 at *;generalize w5.heap.size=g6 at *;have h0:w6.cell? ⟨g3,0,none⟩=some (.int .i64 n):=(Yc B3.out 0).trans rfl;have h1:w6.cell? ⟨g3,1,none⟩=some (.bool b):=(Yc B3.out 1).trans rfl;have h2:w6.cell? ⟨g3,2,none⟩=some (.slice A l.length c):=(Yc B3.out 2).trans rfl;have f0:=Yf B3.out 0;have hg63:g6≠g3:=by omega
 have hgw6:w.heap.size≤g6:=by omega
 by_cases hn:nd<n
 ·have e1:decide (nd<n)=true:=Yv hn
  by_cases h50:n≤50
  ·have e2:decide (n≤50)=true:=Yv h50
   have e3:fewN n nd=nd:=by unfold fewN;rw[Yx ⟨hn,h50⟩]
   have E3:=Ya e3;clear e3;go_upto_region 3 with fail
   have C3:Aside0 ((w6.setCell ⟨g3,0,none⟩ (.int .i64 nd)).heap[g3]? =some (.cells #[.int .i64 nd, .bool b, .slice A l.length c] 24 (0,0))):=⟨(blk_set B3.out 0 (.int .i64 nd)).trans rfl⟩;have C6:Aside0 ((w6.setCell ⟨g3,0,none⟩ (.int .i64 nd)).heap[g6]? =some (.cells #[.int .i64 0, .bool false, .slice none 0 0] 24 (0,0))):=⟨blk_far B6.out (p:=⟨g3,0,none⟩) hg63 _⟩;have HC:Aside0 (Below w.heap.size w (w6.setCell ⟨g3,0,none⟩ (.int .i64 nd))):=⟨Yh HB.out hgw⟩;clear B3 B6 HB h0 h1 h2 f0;generalize w6.setCell ⟨g3,0,none⟩ (.int .i64 nd)=w7 at *;have f2:=Yf C3.out 2;have x2:w7.cell? ⟨g3,2,none⟩=some (.slice A l.length c):=(Yc C3.out 2).trans rfl;by_cases hl:ar<l.length
   ·have d1:decide ((ar:Int)<(l.length:Int))=true:=Yv (by omega)
    by_cases hl2:l.length≤200
    ·have d2:decide ((l.length:Int)≤200)=true:=Yv (by omega)
     obtain⟨ad,rfl⟩:=HAD.out (by omega);have r1:(0:Int)≤(ar:Int):=by omega
     have r2:(ar:Int)≤(c:Int):=by omega
     have e4:(fewL l ar).length=ar:=by unfold fewL;rw[Yx ⟨hl,hl2⟩,List.length_take];omega
     have E4:=Ya e4;clear e4;go_upto_region 5 with fail
     have D3:Aside0 ((w7.setCell ⟨g3,2,none⟩ (.slice (some ad) ar c)).heap[g3]? =some (.cells #[.int .i64 nd, .bool b, .slice (some ad) ar c] 24 (0,0))):=⟨(blk_set C3.out 2 _).trans rfl⟩;have D6:Aside0 ((w7.setCell ⟨g3,2,none⟩ (.slice (some ad) ar c)).heap[g6]? =some (.cells #[.int .i64 0, .bool false, .slice none 0 0] 24 (0,0))):=⟨blk_far C6.out (p:=⟨g3,2,none⟩) hg63 _⟩;have HD:Aside0 (Below w.heap.size w (w7.setCell ⟨g3,2,none⟩ (.slice (some ad) ar c))):=⟨Yh HC.out hgw⟩;clear C3 C6 HC f2 x2;generalize w7.setCell ⟨g3,2,none⟩ (.slice (some ad) ar c)=w8 at *;have C3:=D3;have C6:=D6;have HC:=HD;clear D3 D6 HD;have k0:w8.cell? ⟨g3,0,none⟩=some (.int .i64 nd):=(Yc C3.out 0).trans rfl;have k1:w8.cell? ⟨g3,1,none⟩=some (.bool b):=(Yc C3.out 1).trans rfl;have k2:w8.cell? ⟨g3,2,none⟩=some (.slice (some ad) ar c):=(Yc C3.out 2).trans rfl;have j0:w8.cell? ⟨g6,0,none⟩=some (.int .i64 0):=(Yc C6.out 0).trans rfl;have j1:w8.cell? ⟨g6,1,none⟩=some (.bool false):=(Yc C6.out 1).trans rfl;have j2:w8.cell? ⟨g6,2,none⟩=some (.slice none 0 0):=(Yc C6.out 2).trans rfl;have q0:=Yf C6.out 0;have q1:=Yf C6.out 1;have q2:=Yf C6.out 2;go_wp2_with fail;refine bodyPost_ret (results_cell_row rfl _ _ g6 24 #[.int .i64 nd, .bool b, .slice (some ad) ar c] (0,0) _ rfl (YA (cs:= #[.int .i64 nd, .bool b, .slice none 0 0]) (YA (cs:= #[.int .i64 nd, .bool false, .slice none 0 0]) (YA (cs:= #[.int .i64 0, .bool false, .slice none 0 0]) C6.out 0 _ rfl) 1 _ rfl) 2 _ rfl) Try.underlying24 rfl (by kernel_rfl)) rfl ?_;exact⟨by rw[E3.out,E4.out],Yh (Yh (Yh HC.out hgw6) hgw6) hgw6⟩
    ·have d2:decide ((l.length:Int)≤200)=false:=Yw (by omega)
     have e4:fewL l ar=l:=by unfold fewL;rw[Yy (fun h=>by omega)]
     have E4:=Ya e4;clear e4;go_upto_region 5 with fail
     clear f2 x2;have k0:w7.cell? ⟨g3,0,none⟩=some (.int .i64 nd):=(Yc C3.out 0).trans rfl;have k1:w7.cell? ⟨g3,1,none⟩=some (.bool b):=(Yc C3.out 1).trans rfl;have k2:w7.cell? ⟨g3,2,none⟩=some (.slice A l.length c):=(Yc C3.out 2).trans rfl;have j0:w7.cell? ⟨g6,0,none⟩=some (.int .i64 0):=(Yc C6.out 0).trans rfl;have j1:w7.cell? ⟨g6,1,none⟩=some (.bool false):=(Yc C6.out 1).trans rfl;have j2:w7.cell? ⟨g6,2,none⟩=some (.slice none 0 0):=(Yc C6.out 2).trans rfl;have q0:=Yf C6.out 0;have q1:=Yf C6.out 1;have q2:=Yf C6.out 2;go_wp2_with fail;refine bodyPost_ret (results_cell_row rfl _ _ g6 24 #[.int .i64 nd, .bool b, .slice A l.length c] (0,0) _ rfl (YA (cs:= #[.int .i64 nd, .bool b, .slice none 0 0]) (YA (cs:= #[.int .i64 nd, .bool false, .slice none 0 0]) (YA (cs:= #[.int .i64 0, .bool false, .slice none 0 0]) C6.out 0 _ rfl) 1 _ rfl) 2 _ rfl) Try.underlying24 rfl (by kernel_rfl)) rfl ?_;exact⟨by rw[E3.out,E4.out],Yh (Yh (Yh HC.out hgw6) hgw6) hgw6⟩
   ·have d1:decide ((ar:Int)<(l.length:Int))=false:=Yw (by omega)
    have e4:fewL l ar=l:=by unfold fewL;rw[Yy (fun h=>by omega)]
    have E4:=Ya e4;clear e4;go_upto_region 5 with fail
    clear f2 x2;have k0:w7.cell? ⟨g3,0,none⟩=some (.int .i64 nd):=(Yc C3.out 0).trans rfl;have k1:w7.cell? ⟨g3,1,none⟩=some (.bool b):=(Yc C3.out 1).trans rfl;have k2:w7.cell? ⟨g3,2,none⟩=some (.slice A l.length c):=(Yc C3.out 2).trans rfl;have j0:w7.cell? ⟨g6,0,none⟩=some (.int .i64 0):=(Yc C6.out 0).trans rfl;have j1:w7.cell? ⟨g6,1,none⟩=some (.bool false):=(Yc C6.out 1).trans rfl;have j2:w7.cell? ⟨g6,2,none⟩=some (.slice none 0 0):=(Yc C6.out 2).trans rfl;have q0:=Yf C6.out 0;have q1:=Yf C6.out 1;have q2:=Yf C6.out 2;go_wp2_with fail;refine bodyPost_ret (results_cell_row rfl _ _ g6 24 #[.int .i64 nd, .bool b, .slice A l.length c] (0,0) _ rfl (YA (cs:= #[.int .i64 nd, .bool b, .slice none 0 0]) (YA (cs:= #[.int .i64 nd, .bool false, .slice none 0 0]) (YA (cs:= #[.int .i64 0, .bool false, .slice none 0 0]) C6.out 0 _ rfl) 1 _ rfl) 2 _ rfl) Try.underlying24 rfl (by kernel_rfl)) rfl ?_;exact⟨by rw[E3.out,E4.out],Yh (Yh (Yh HC.out hgw6) hgw6) hgw6⟩
  ·have e2:decide (n≤50)=false:=Yw h50
   have e3:fewN n nd=n:=by unfold fewN;rw[Yy (fun h=>by omega)]
   have E3:=Ya e3;clear e3 h0 h1 h2 f0;have C3:=B3;have C6:=B6;have HC:=HB;clear B3 B6 HB;have h0:w6.cell? ⟨g3,0,none⟩=some (.int .i64 n):=(Yc C3.out 0).trans rfl;go_upto_region 3 with fail
   clear h0;have f2:=Yf C3.out 2;have x2:w6.cell? ⟨g3,2,none⟩=some (.slice A l.length c):=(Yc C3.out 2).trans rfl;by_cases hl:ar<l.length
   ·have d1:decide ((ar:Int)<(l.length:Int))=true:=Yv (by omega)
    by_cases hl2:l.length≤200
    ·have d2:decide ((l.length:Int)≤200)=true:=Yv (by omega)
     obtain⟨ad,rfl⟩:=HAD.out (by omega);have r1:(0:Int)≤(ar:Int):=by omega
     have r2:(ar:Int)≤(c:Int):=by omega
     have e4:(fewL l ar).length=ar:=by unfold fewL;rw[Yx ⟨hl,hl2⟩,List.length_take];omega
     have E4:=Ya e4;clear e4;go_upto_region 5 with fail
     have D3:Aside0 ((w6.setCell ⟨g3,2,none⟩ (.slice (some ad) ar c)).heap[g3]? =some (.cells #[.int .i64 n, .bool b, .slice (some ad) ar c] 24 (0,0))):=⟨(blk_set C3.out 2 _).trans rfl⟩;have D6:Aside0 ((w6.setCell ⟨g3,2,none⟩ (.slice (some ad) ar c)).heap[g6]? =some (.cells #[.int .i64 0, .bool false, .slice none 0 0] 24 (0,0))):=⟨blk_far C6.out (p:=⟨g3,2,none⟩) hg63 _⟩;have HD:Aside0 (Below w.heap.size w (w6.setCell ⟨g3,2,none⟩ (.slice (some ad) ar c))):=⟨Yh HC.out hgw⟩;clear C3 C6 HC f2 x2;generalize w6.setCell ⟨g3,2,none⟩ (.slice (some ad) ar c)=w8 at *;have C3:=D3;have C6:=D6;have HC:=HD;clear D3 D6 HD;have k0:w8.cell? ⟨g3,0,none⟩=some (.int .i64 n):=(Yc C3.out 0).trans rfl;have k1:w8.cell? ⟨g3,1,none⟩=some (.bool b):=(Yc C3.out 1).trans rfl;have k2:w8.cell? ⟨g3,2,none⟩=some (.slice (some ad) ar c):=(Yc C3.out 2).trans rfl;have j0:w8.cell? ⟨g6,0,none⟩=some (.int .i64 0):=(Yc C6.out 0).trans rfl;have j1:w8.cell? ⟨g6,1,none⟩=some (.bool false):=(Yc C6.out 1).trans rfl;have j2:w8.cell? ⟨g6,2,none⟩=some (.slice none 0 0):=(Yc C6.out 2).trans rfl;have q0:=Yf C6.out 0;have q1:=Yf C6.out 1;have q2:=Yf C6.out 2;go_wp2_with fail;refine bodyPost_ret (results_cell_row rfl _ _ g6 24 #[.int .i64 n, .bool b, .slice (some ad) ar c] (0,0) _ rfl (YA (cs:= #[.int .i64 n, .bool b, .slice none 0 0]) (YA (cs:= #[.int .i64 n, .bool false, .slice none 0 0]) (YA (cs:= #[.int .i64 0, .bool false, .slice none 0 0]) C6.out 0 _ rfl) 1 _ rfl) 2 _ rfl) Try.underlying24 rfl (by kernel_rfl)) rfl ?_;exact⟨by rw[E3.out,E4.out],Yh (Yh (Yh HC.out hgw6) hgw6) hgw6⟩
    ·have d2:decide ((l.length:Int)≤200)=false:=Yw (by omega)
     have e4:fewL l ar=l:=by unfold fewL;rw[Yy (fun h=>by omega)]
     have E4:=Ya e4;clear e4;go_upto_region 5 with fail
     clear f2 x2;have k0:w6.cell? ⟨g3,0,none⟩=some (.int .i64 n):=(Yc C3.out 0).trans rfl;have k1:w6.cell? ⟨g3,1,none⟩=some (.bool b):=(Yc C3.out 1).trans rfl;have k2:w6.cell? ⟨g3,2,none⟩=some (.slice A l.length c):=(Yc C3.out 2).trans rfl;have j0:w6.cell? ⟨g6,0,none⟩=some (.int .i64 0):=(Yc C6.out 0).trans rfl;have j1:w6.cell? ⟨g6,1,none⟩=some (.bool false):=(Yc C6.out 1).trans rfl;have j2:w6.cell? ⟨g6,2,none⟩=some (.slice none 0 0):=(Yc C6.out 2).trans rfl;have q0:=Yf C6.out 0;have q1:=Yf C6.out 1;have q2:=Yf C6.out 2;go_wp2_with fail;refine bodyPost_ret (results_cell_row rfl _ _ g6 24 #[.int .i64 n, .bool b, .slice A l.length c] (0,0) _ rfl (YA (cs:= #[.int .i64 n, .bool b, .slice none 0 0]) (YA (cs:= #[.int .i64 n, .bool false, .slice none 0 0]) (YA (cs:= #[.int .i64 0, .bool false, .slice none 0 0]) C6.out 0 _ rfl) 1 _ rfl) 2 _ rfl) Try.underlying24 rfl (by kernel_rfl)) rfl ?_;exact⟨by rw[E3.out,E4.out],Yh (Yh (Yh HC.out hgw6) hgw6) hgw6⟩
   ·have d1:decide ((ar:Int)<(l.length:Int))=false:=Yw (by omega)
    have e4:fewL l ar=l:=by unfold fewL;rw[Yy (fun h=>by omega)]
    have E4:=Ya e4;clear e4;go_upto_region 5 with fail
    clear f2 x2;have k0:w6.cell? ⟨g3,0,none⟩=some (.int .i64 n):=(Yc C3.out 0).trans rfl;have k1:w6.cell? ⟨g3,1,none⟩=some (.bool b):=(Yc C3.out 1).trans rfl;have k2:w6.cell? ⟨g3,2,none⟩=some (.slice A l.length c):=(Yc C3.out 2).trans rfl;have j0:w6.cell? ⟨g6,0,none⟩=some (.int .i64 0):=(Yc C6.out 0).trans rfl;have j1:w6.cell? ⟨g6,1,none⟩=some (.bool false):=(Yc C6.out 1).trans rfl;have j2:w6.cell? ⟨g6,2,none⟩=some (.slice none 0 0):=(Yc C6.out 2).trans rfl;have q0:=Yf C6.out 0;have q1:=Yf C6.out 1;have q2:=Yf C6.out 2;go_wp2_with fail;refine bodyPost_ret (results_cell_row rfl _ _ g6 24 #[.int .i64 n, .bool b, .slice A l.length c] (0,0) _ rfl (YA (cs:= #[.int .i64 n, .bool b, .slice none 0 0]) (YA (cs:= #[.int .i64 n, .bool false, .slice none 0 0]) (YA (cs:= #[.int .i64 0, .bool false, .slice none 0 0]) C6.out 0 _ rfl) 1 _ rfl) 2 _ rfl) Try.underlying24 rfl (by kernel_rfl)) rfl ?_;exact⟨by rw[E3.out,E4.out],Yh (Yh (Yh HC.out hgw6) hgw6) hgw6⟩
 ·have e1:decide (nd<n)=false:=Yw hn
  have e3:fewN n nd=n:=by unfold fewN;rw[Yy (fun h=>by omega)]
  have E3:=Ya e3;clear e3 h0 h1 h2 f0;have C3:=B3;have C6:=B6;have HC:=HB;clear B3 B6 HB;have h0:w6.cell? ⟨g3,0,none⟩=some (.int .i64 n):=(Yc C3.out 0).trans rfl;go_upto_region 3 with fail
  clear h0;have f2:=Yf C3.out 2;have x2:w6.cell? ⟨g3,2,none⟩=some (.slice A l.length c):=(Yc C3.out 2).trans rfl;by_cases hl:ar<l.length
  ·have d1:decide ((ar:Int)<(l.length:Int))=true:=Yv (by omega)
   by_cases hl2:l.length≤200
   ·have d2:decide ((l.length:Int)≤200)=true:=Yv (by omega)
    obtain⟨ad,rfl⟩:=HAD.out (by omega);have r1:(0:Int)≤(ar:Int):=by omega
    have r2:(ar:Int)≤(c:Int):=by omega
    have e4:(fewL l ar).length=ar:=by unfold fewL;rw[Yx ⟨hl,hl2⟩,List.length_take];omega
    have E4:=Ya e4;clear e4;go_upto_region 5 with fail
    have D3:Aside0 ((w6.setCell ⟨g3,2,none⟩ (.slice (some ad) ar c)).heap[g3]? =some (.cells #[.int .i64 n, .bool b, .slice (some ad) ar c] 24 (0,0))):=⟨(blk_set C3.out 2 _).trans rfl⟩;have D6:Aside0 ((w6.setCell ⟨g3,2,none⟩ (.slice (some ad) ar c)).heap[g6]? =some (.cells #[.int .i64 0, .bool false, .slice none 0 0] 24 (0,0))):=⟨blk_far C6.out (p:=⟨g3,2,none⟩) hg63 _⟩;have HD:Aside0 (Below w.heap.size w (w6.setCell ⟨g3,2,none⟩ (.slice (some ad) ar c))):=⟨Yh HC.out hgw⟩;clear C3 C6 HC f2 x2;generalize w6.setCell ⟨g3,2,none⟩ (.slice (some ad) ar c)=w8 at *;have C3:=D3;have C6:=D6;have HC:=HD;clear D3 D6 HD;have k0:w8.cell? ⟨g3,0,none⟩=some (.int .i64 n):=(Yc C3.out 0).trans rfl;have k1:w8.cell? ⟨g3,1,none⟩=some (.bool b):=(Yc C3.out 1).trans rfl;have k2:w8.cell? ⟨g3,2,none⟩=some (.slice (some ad) ar c):=(Yc C3.out 2).trans rfl;have j0:w8.cell? ⟨g6,0,none⟩=some (.int .i64 0):=(Yc C6.out 0).trans rfl;have j1:w8.cell? ⟨g6,1,none⟩=some (.bool false):=(Yc C6.out 1).trans rfl;have j2:w8.cell? ⟨g6,2,none⟩=some (.slice none 0 0):=(Yc C6.out 2).trans rfl;have q0:=Yf C6.out 0;have q1:=Yf C6.out 1;have q2:=Yf C6.out 2;go_wp2_with fail;refine bodyPost_ret (results_cell_row rfl _ _ g6 24 #[.int .i64 n, .bool b, .slice (some ad) ar c] (0,0) _ rfl (YA (cs:= #[.int .i64 n, .bool b, .slice none 0 0]) (YA (cs:= #[.int .i64 n, .bool false, .slice none 0 0]) (YA (cs:= #[.int .i64 0, .bool false, .slice none 0 0]) C6.out 0 _ rfl) 1 _ rfl) 2 _ rfl) Try.underlying24 rfl (by kernel_rfl)) rfl ?_;exact⟨by rw[E3.out,E4.out],Yh (Yh (Yh HC.out hgw6) hgw6) hgw6⟩
   ·have d2:decide ((l.length:Int)≤200)=false:=Yw (by omega)
    have e4:fewL l ar=l:=by unfold fewL;rw[Yy (fun h=>by omega)]
    have E4:=Ya e4;clear e4;go_upto_region 5 with fail
    clear f2 x2;have k0:w6.cell? ⟨g3,0,none⟩=some (.int .i64 n):=(Yc C3.out 0).trans rfl;have k1:w6.cell? ⟨g3,1,none⟩=some (.bool b):=(Yc C3.out 1).trans rfl;have k2:w6.cell? ⟨g3,2,none⟩=some (.slice A l.length c):=(Yc C3.out 2).trans rfl;have j0:w6.cell? ⟨g6,0,none⟩=some (.int .i64 0):=(Yc C6.out 0).trans rfl;have j1:w6.cell? ⟨g6,1,none⟩=some (.bool false):=(Yc C6.out 1).trans rfl;have j2:w6.cell? ⟨g6,2,none⟩=some (.slice none 0 0):=(Yc C6.out 2).trans rfl;have q0:=Yf C6.out 0;have q1:=Yf C6.out 1;have q2:=Yf C6.out 2;go_wp2_with fail;refine bodyPost_ret (results_cell_row rfl _ _ g6 24 #[.int .i64 n, .bool b, .slice A l.length c] (0,0) _ rfl (YA (cs:= #[.int .i64 n, .bool b, .slice none 0 0]) (YA (cs:= #[.int .i64 n, .bool false, .slice none 0 0]) (YA (cs:= #[.int .i64 0, .bool false, .slice none 0 0]) C6.out 0 _ rfl) 1 _ rfl) 2 _ rfl) Try.underlying24 rfl (by kernel_rfl)) rfl ?_;exact⟨by rw[E3.out,E4.out],Yh (Yh (Yh HC.out hgw6) hgw6) hgw6⟩
  ·have d1:decide ((ar:Int)<(l.length:Int))=false:=Yw (by omega)
   have e4:fewL l ar=l:=by unfold fewL;rw[Yy (fun h=>by omega)]
   have E4:=Ya e4;clear e4;go_upto_region 5 with fail
   clear f2 x2;have k0:w6.cell? ⟨g3,0,none⟩=some (.int .i64 n):=(Yc C3.out 0).trans rfl;have k1:w6.cell? ⟨g3,1,none⟩=some (.bool b):=(Yc C3.out 1).trans rfl;have k2:w6.cell? ⟨g3,2,none⟩=some (.slice A l.length c):=(Yc C3.out 2).trans rfl;have j0:w6.cell? ⟨g6,0,none⟩=some (.int .i64 0):=(Yc C6.out 0).trans rfl;have j1:w6.cell? ⟨g6,1,none⟩=some (.bool false):=(Yc C6.out 1).trans rfl;have j2:w6.cell? ⟨g6,2,none⟩=some (.slice none 0 0):=(Yc C6.out 2).trans rfl;have q0:=Yf C6.out 0;have q1:=Yf C6.out 1;have q2:=Yf C6.out 2;go_wp2_with fail;refine bodyPost_ret (results_cell_row rfl _ _ g6 24 #[.int .i64 n, .bool b, .slice A l.length c] (0,0) _ rfl (YA (cs:= #[.int .i64 n, .bool b, .slice none 0 0]) (YA (cs:= #[.int .i64 n, .bool false, .slice none 0 0]) (YA (cs:= #[.int .i64 0, .bool false, .slice none 0 0]) C6.out 0 _ rfl) 1 _ rfl) 2 _ rfl) Try.underlying24 rfl (by kernel_rfl)) rfl ?_;exact⟨by rw[E3.out,E4.out],Yh (Yh (Yh HC.out hgw6) hgw6) hgw6⟩
end H
namespace Q
open P
open H (levelsRes wayP endsErr wayRes wayF wayF_eq StepsOk Right right_of stepsR bfP bfL dOf nodes wayL frP toP esP way_nat bf_same Fd bfP_upto dOf_len dOf_get fnd fnd_some fnd_none fnd_of backL_spec lv_lt esP_fr esP_to steps_ev)
theorem stepsOk {l:List S74} {F:List Int} {n:Nat} (hr:Right l F n):StepsOk l n (stepsR l F F.length):=
 ⟨hr.ends,hr.arcs,fun s hs=>H.stepsR_of hr s hs,by have:=H.stepsR_len l F F.length;have:=hr.len;have:=hr.arcs;omega⟩
theorem way_same {l:List S74} {F:List Int} {n:Nat} (hr:Right l F n) (s v:Nat):wayRes l (stepsR l F F.length) n s (v:Int)=(wayP l F n s v,decide (v∈nodes (bfP l F n s))):=by
 rw[way_nat,bf_same hr];unfold wayP;by_cases h:v∈nodes (bfP l F n s)
 ·rw[Yx h,Yx h,Yv h]
 ·rw[Yy h,Yy h,Yw h]
theorem way_ref_eq {l:List S74} {F:List Int} {n:Nat} (hr:Right l F n) {s:Nat} (hs:s<n) (b:Bool) (v:Nat):ebbtideref08_Way.f (n:Int) b l (s:Int) (v:Int) (stepsR l F F.length)=some (wayP l F n s v,decide (v∈nodes (bfP l F n s))):=by
 unfold ebbtideref08_Way.f;rw[wayF_eq (stepsOk hr) hs hr.fifty,way_same hr]
theorem wayP_len {l:List S74} {F:List Int} {n:Nat} (hr:Right l F n) {s:Nat} (hs:s<n) {v:Nat} (hv:v<n) (h:v∈nodes (bfP l F n s)):((wayP l F n s v).length:Int)=(dOf n (bfP l F n s)).getD v 0:=by
 obtain⟨x,hx,rfl⟩:=List.mem_map.1 h;have hu:=(bfP_upto hr hs).fds;unfold wayP;rw[Yx h];unfold wayL;rw[List.length_reverse,(backL_spec hu esP_fr _ hx (Nat.le_of_lt (lv_lt hu hx))).1,H.dOf_mem hu.nodup hx 0 hv]
theorem levels_l0 {l:List S74} {F:List Int} {n:Nat} (hr:Right l F n) {s:Nat} (hs:s<n) (b:Bool) (d:Nat): ∀ v:Nat,v+d=n→
  Ev (fun k=>ebbtideref08_Levels.l0 k (s:Int) (stepsR l F F.length) ((dOf n (bfP l F n s)).take v) (v:Int) (n:Int) b l) (dOf n (bfP l F n s),0):=by
 have hn:=hr.fifty
 induction d with
 |zero=>
  intro v hv;refine Ev.succ ?_;simp only[ebbtideref08_Levels.l0];refine Ev.neg (by omega) ?_;exact Ev.done (by rw[List.take_of_length_le (by rw[dOf_len];omega)])
 |succ d ih=>
  intro v hv;have hvn:v<n:=by omega
  have hg:=dOf_get (bfP l F n s) 0 hvn;have htk:(dOf n (bfP l F n s)).take (v+1)=(dOf n (bfP l F n s)).take v ++ [(dOf n (bfP l F n s)).getD v 0]:=by
   rw[List.take_add_one,List.getElem?_eq_getElem (by rw[dOf_len];exact hvn),List.getD_eq_getElem?_getD,List.getElem?_eq_getElem (by rw[dOf_len];exact hvn)];rfl
  have hnext:=ih (v+1) (by omega);rw[htk] at hnext;refine Ev.succ ?_;simp only[ebbtideref08_Levels.l0];refine Ev.pos (by omega) ?_;refine Ev.call (way_ref_eq hr hs b v) ?_;rw[wrap_succ (n:=n) (by omega) (by omega)];by_cases hm:v∈nodes (bfP l F n s)
  ·refine Ev.pos (by simpa using hm) ?_
   refine Ev.pos (by rw[List.length_take,dOf_len];omega) ?_;rw[← wayP_len hr hs hvn hm] at hnext;exact hnext
  ·refine Ev.neg (by simpa using hm) ?_
   refine Ev.pos (by rw[List.length_take,dOf_len];omega) ?_;rw[hg,fnd_none.2 hm] at hnext;exact hnext
theorem ref_levels_ev (n:Int) (b:Bool) (l:List S74) (F:List Int) (s:Int):Ev (fun k=>ebbtideref08_Levels.f k n b l F s) (levelsRes n l F s):=by
 unfold ebbtideref08_Levels.f levelsRes;refine Ev.bind (ref_asked_ev n b l F) ?_;by_cases h0:askErr n l F=0
 ·rw[Yx h0]
  refine Ev.pos h0 ?_;obtain⟨n0,rfl,hr⟩:=right_of h0;refine Ev.call (node_eq n0 b l s) ?_;by_cases hs:0≤s∧s<(n0:Int)
  ·rw[Yx hs]
   refine Ev.pos (Yv hs) ?_;obtain⟨s0,rfl⟩: ∃ s0:Nat,s=s0:=⟨s.toNat,by omega⟩;refine Ev.bind (steps_ev hr _ b) ?_;rw[Int.toNat_natCast,Int.toNat_natCast];exact levels_l0 hr (by omega) b n0 0 (by omega)
  ·rw[Yy hs]
   refine Ev.neg (by simpa using hs) ?_;exact Ev.now _
 ·rw[Yy h0]
  refine Ev.neg h0 ?_;exact Ev.now _
theorem levelsRes_len (n:Int) (l:List S74) (F:List Int) (s:Int):(levelsRes n l F s).1.length≤50:=by
 unfold levelsRes;split
 ·rename_i h0
  split
  ·obtain⟨n0,rfl,hr⟩:=right_of h0
   have:=hr.fifty;rw[Int.toNat_natCast];show (dOf n0 _).length≤50;rw[dOf_len];omega
  ·simp
 ·simp
end Q
namespace Q
open P
open H (stRoom)
theorem rdStep_nat (l:List S38) (i:Nat):rd_T38 l (i:Int)=l.getD i z38:=by unfold rd_T38;rw[Int.toNat_natCast]
end Q
namespace Q
open P
open H (endsErr Right right_of StepOf stRoom IsFlow leastR pushW stRoom_in)
theorem flowOk_of {l:List S74} {F:List Int} {n:Nat} (hr:Right l F n):FlowOk l F:=by
 refine⟨hr.len,fun i hi=> ?_⟩;have:=hr.nums i (by rw[← hr.len];exact hi);rw[rd_nat];exact⟨this.2.2.1,this.2.2.2.1⟩
section
variable {l:List S74} {F:List Int} {n:Nat}
theorem left_rt (hr:Right l F n) {s:S38} (hs:StepOf l s) (m:Int) (b:Bool):ebbtideref07_Left.f m b l F s.f0 s.f1=some (stRoom l F s):=by
 have h0:=stRoom_in hr hs;have hl:=hr.len;obtain⟨i,h1,h2⟩:=hs;unfold ebbtideref07_Left.f;unfold stRoom at *;by_cases g:s.f1=true
 ·simp only[Yx g] at h0 ⊢
  rw[Yx (by omega),Yx (by omega)];rfl
 ·simp only[Yy g] at h0 ⊢
  rw[Yx (by omega),Yx (by omega),Yx (by omega)];have e:rd F s.f0=F.getD s.f0.toNat 0:=rfl;rw[e,wrap_id (by omega) (by omega)]
def minR (l:List S74) (F:List Int):Int→List S38→Int
 |a,[]=>a
 |a,s::L=>minR l F (min a (stRoom l F s)) L
theorem minR_least (l:List S74) (F:List Int): ∀ (L:List S38) (a:Int),L≠[]→minR l F a L=min a (leastR l F L)
 |[],a,h=>absurd rfl h
 |[s],a,_=>rfl
 |s::t::L,a,_=>by
  show minR l F (min a (stRoom l F s)) (t::L)=_;rw[minR_least l F (t::L) _ (by simp)];show _=min a (min (stRoom l F s) (leastR l F (t::L)));omega
theorem bottle_l0 (hr:Right l F n) (b:Bool) (m:Int) {W:List S38} (hW: ∀ s,s∈W→StepOf l s) (hl:W.length≤1000000) (d:Nat): ∀ (i:Nat) (a:Int),i+d=W.length→
  Ev (fun k=>ebbtideref08_Bottle.l0 k F W a (i:Int) m b l) (minR l F a (W.drop i)):=by
 induction d with
 |zero=>
  intro i a hi;refine Ev.succ ?_;simp only[ebbtideref08_Bottle.l0];refine Ev.neg (by omega) ?_;exact Ev.done (by rw[List.drop_of_length_le (by omega)];rfl)
 |succ d ih=>
  intro i a hi;refine Ev.succ ?_;simp only[ebbtideref08_Bottle.l0];refine Ev.pos (by omega) ?_;refine Ev.pos (by omega) ?_;rw[rdStep_nat];have hm:W.getD i z38∈W:=by rw[List.getD_eq_getElem?_getD,List.getElem?_eq_getElem (by omega)];exact List.getElem_mem _
  refine Ev.call (left_rt hr (hW _ hm) m b) ?_;rw[wrap_succ (n:=W.length) (by omega) (by omega),drop_getD W i z38 (by omega)];have e:mn a (stRoom l F (W.getD i z38))=min a (stRoom l F (W.getD i z38)):=by unfold mn;split<;>omega
  rw[e];exact ih (i+1) _ (by omega)
theorem bottle_ev (hr:Right l F n) (b:Bool) (m:Int) {W:List S38} (hW: ∀ s,s∈W→StepOf l s) (hl:W.length≤1000000) (hne:W≠[]):Ev (fun k=>ebbtideref08_Bottle.f k m b l F W) (leastR l F W):=by
 cases W with
 |nil=>exact absurd rfl hne
 |cons s W=>
  unfold ebbtideref08_Bottle.f;refine Ev.pos (by simp) ?_;have e0:rd_T38 (s::W) 0=s:=rfl;rw[e0];refine Ev.call (left_rt hr (hW s List.mem_cons_self) m b) ?_;refine Ev.eq (bottle_l0 hr b m hW hl W.length 1 (stRoom l F s) (by simp;omega)) ?_;show minR l F (stRoom l F s) W=_;cases W with
  |nil=>rfl
  |cons t W=>
   rw[minR_least l F (t::W) _ (by simp)];rfl
end
end Q
namespace Q
open P
open H (wayP Right bfP dOf nodes wayL frP toP esP bfP_upto dOf_len backL backL_spec esP_fr esP_to stFrom stTo stRoom mem_esP stL_of StepOf Leads netG fds_lt dOf_mem fnd fnd_some)
theorem leads_imp {α:Type} {to_:α→Nat} {es es':Nat→List α} (h: ∀ u e,e∈es u→e∈es' u): ∀ {L:List α} {u t:Nat},Leads to_ es u L t→Leads to_ es' u L t
 |[],u,t,hl=>hl
 |e::L,u,t,hl=>⟨h _ _ hl.1,leads_imp h hl.2⟩
theorem backL_mem {fr:S38→Nat} {st:List (H.Fd S38)} {s:Nat} (k:Nat): ∀ {v:Nat} {e:S38},e∈backL fr st s k v→ ∃ x,x∈st∧x.v≠s∧x.by_=e:=by
 induction k with
 |zero=>intro v e h;cases h
 |succ k ih=>
  intro v e h;unfold backL at h;by_cases hv:v=s
  ·rw[Yx hv] at h;cases h
  ·rw[Yy hv] at h
   cases hf:fnd st v with
   |none=>rw[hf] at h;cases h
   |some x=>
    rw[hf] at h;rcases List.mem_cons.1 h with h|h
    ·obtain⟨h1,h2⟩:=fnd_some hf
     exact⟨x,h1,by omega,h.symm⟩
    ·exact ih h
section
variable {l:List S74} {F:List Int} {n s t:Nat}
theorem wayP_fact (hr:Right l F n) (hs:s<n) (hm:t∈nodes (bfP l F n s)):Leads (toP l) (fun v=>H.stL l v l.length) s (wayP l F n s t) t∧ ∀ e,e∈wayP l F n s t→(netG l F (dOf n (bfP l F n s))).adm (frP l e) e=true:=by
 have hu:=(bfP_upto hr hs).fds;obtain⟨x,hx,hxt⟩:=List.mem_map.1 hm;have hW:wayP l F n s t=(backL (frP l) (bfP l F n s) s x.lv x.v).reverse:=by rw[← hxt];exact H.way_of hr hs hu ⟨[],by rw[List.append_nil]⟩ hx
 rw[hW];constructor
 ·have h_:=(backL_spec hu esP_fr _ hx (Nat.le_refl _)).2
  rw[hxt] at h_;exact leads_imp (fun u e he=>(mem_esP.1 he).1) (by rw[hxt];exact h_)
 ·intro e he
  rw[List.mem_reverse] at he;obtain⟨y,hy,hyne,hye⟩:=backL_mem _ he;rcases hu.mem_lv hy with ⟨h1,_⟩|⟨_,hto,z,hz,hze,hlv⟩
  ·exact absurd h1 hyne
  rw[hye] at hto hze;have hfz:=esP_fr _ _ hze;have hzd:=dOf_mem hu.nodup hz (0:Int) (fds_lt hu (esP_to hr) hs _ (List.mem_map_of_mem hz));have hyd:=dOf_mem hu.nodup hy (0:Int) (fds_lt hu (esP_to hr) hs _ (List.mem_map_of_mem hy));unfold H.Net_.adm;rw[Bool.and_eq_true,decide_eq_true_eq];refine⟨?_,?_⟩
  ·show (dOf n (bfP l F n s)).getD (toP l e) 0=(dOf n (bfP l F n s)).getD (frP l e) 0+1
   rw[hto,hfz];have h1:(dOf n (bfP l F n s)).getD y.v 0=(y.lv:Int):=hyd;have h2:(dOf n (bfP l F n s)).getD z.v 0=(z.lv:Int):=hzd;omega
  ·show decide (0<stRoom l F e)=true
   exact Yv (mem_esP.1 hze).2
end
end Q
namespace Q
open P
open H (endsErr Right right_of StepOf stRoom IsFlow MaxF leastR pushW fillF bfP nodes wayP stepsR steps_ev netG dOf frP toP)
theorem max_fill {l:List S74} {n s t:Nat} (hr:Right l (List.replicate l.length 0) n) (hs:s<n) (ht:t<n) (hst:s≠t):MaxF l (fillF l n s t) n s t:=H.fill_max hr hs ht hst
theorem fill_eq {n:Int} {l:List S74} {s t:Int} (b:Bool) (h:endsErr n l s t=0):maxflow_Fill.f n b l s t=some (fillF l n.toNat s.toNat t.toNat):=by unfold maxflow_Fill.f;rw[Yx h]
theorem pushed_l0 {l:List S74} {n:Nat} {c:Int} (h0:0≤c) {W:List S38} (hl:W.length≤1000000) (d:Nat): ∀ (i:Nat) (X:List Int),i+d=W.length→Right l X n→(∀ s,s∈W.drop i→StepOf l s∧c≤stRoom l X s)→(W.drop i).Pairwise (fun a b=>a.f0≠b.f0)→
  Ev (fun k=>ebbtideref07_Pushed.l0 k W c X (i:Int)) (pushW X c (W.drop i)):=by
 induction d with
 |zero=>
  intro i X hi _ _ _;refine Ev.succ ?_;simp only[ebbtideref07_Pushed.l0];refine Ev.neg (by omega) ?_;exact Ev.done (by rw[List.drop_of_length_le (by omega)];rfl)
 |succ d ih=>
  intro i X hi hr hst hp;have hd:=drop_getD W i z38 (by omega);obtain⟨e,hee⟩: ∃ e,e=W.getD i z38:=⟨_,rfl⟩;rw[← hee] at hd;rw[hd] at hst hp ⊢;rw[List.pairwise_cons] at hp;obtain⟨hso,hrm⟩:=hst e List.mem_cons_self;have hgo:=hr.go hso h0 hrm;have hXl:=hr.len;have hnx:=ih (i+1) (H.goS X e c) (by omega) hgo (fun x hx=>by
   have hx2:=hst x (List.mem_cons_of_mem _ hx);exact⟨hx2.1,by rw[H.room_other hso hx2.1 c (hp.1 x hx)];exact hx2.2⟩) hp.2
  obtain⟨j,hj,hje⟩:=hso;have hgn:=hgo.nums j hj;have hin:=hr.nums j hj;have hroom:=H.stRoom_in hr ⟨j,hj,hje⟩;refine Ev.succ ?_;simp only[ebbtideref07_Pushed.l0];refine Ev.pos (by omega) ?_;refine Ev.pos (by omega) ?_;rw[rdStep_nat, ← hee];have e1:rd X e.f0=X.getD j 0:=by rw[hje,rd_nat]
  have e2:X.getD e.f0.toNat 0=X.getD j 0:=by rw[hje,Int.toNat_natCast]
  rw[wrap_succ (n:=W.length) (by omega) (by omega)];unfold stRoom at hrm;unfold H.goS at hnx;refine Ev.ite (fun g=> ?_) (fun g=> ?_)
  ·rw[Yx g] at hrm hnx
   refine Ev.pos (by omega) ?_;refine Ev.pos (by omega) ?_;rw[e1,wrap_id (by omega) (by omega), ← e2];show Ev _ (pushW (H.goS X e c) c (W.drop (i+1)));unfold H.goS;rw[Yx g];exact hnx
  ·rw[Yy g] at hrm hnx
   have hf2:=hin.2.2.2.2;rw[hje] at hrm;rw[Int.toNat_natCast] at hrm;refine Ev.pos (by omega) ?_;refine Ev.pos (by omega) ?_;rw[e1,wrap_id (by omega) (by omega), ← e2];show Ev _ (pushW (H.goS X e c) c (W.drop (i+1)));unfold H.goS;rw[Yy g];exact hnx
theorem pushed_ev {l:List S74} {F:List Int} {n:Nat} (hr:Right l F n) {c:Int} (h0:0≤c) {W:List S38} (hl:W.length≤1000000) (hst: ∀ s,s∈W→StepOf l s∧c≤stRoom l F s) (hp:W.Pairwise (fun a b=>a.f0≠b.f0)):
  Ev (fun k=>ebbtideref07_Pushed.f k F W c) (pushW F c W):=by
 have hF:=hr.len;have har:=hr.arcs;unfold ebbtideref07_Pushed.f;refine Ev.pos (by simp;omega) ?_;rw[List.nil_append];exact pushed_l0 h0 hl W.length 0 F (by omega) hr hst hp
theorem wayP_len50 {l:List S74} {F:List Int} {n:Nat} (hr:Right l F n) {s:Nat} (hs:s<n) {t:Nat} (h:t∈nodes (bfP l F n s)):(wayP l F n s t).length≤50:=by
 obtain⟨x,hx,rfl⟩:=List.mem_map.1 h;have hu:=(H.bfP_upto hr hs).fds;have h3:=H.lv_lt hu hx;have h4:=H.fds_len hu (H.esP_to hr) hs;have h5:=hr.fifty;unfold wayP;rw[Yx h];unfold H.wayL;rw[List.length_reverse,(H.backL_spec hu H.esP_fr _ hx (Nat.le_of_lt h3)).1];omega
theorem best_l0 {l:List S74} {n s t:Nat} (b:Bool) (hs:s<n) (ht:t<n) (hst:s≠t) (d:Nat): ∀ F:List Int,IsFlow l F n s t→209715200 - bal l F s<d→
  ∃ G,MaxF l G n s t∧Ev (fun k=>ebbtideref09_Best.l0 k (s:Int) (t:Int) F (n:Int) b l) G:=by
 induction d with
 |zero=>intro F hf hd;have:=H.flow_top hf hs hst;omega
 |succ d ih=>
  intro F hf hd;have hr:=hf.right;by_cases hm:t∈nodes (bfP l F n s)
  ·obtain⟨hL,ha⟩:=wayP_fact hr hs hm
   obtain⟨g1,g2,g3,g4,g5,g6,g7⟩:=H.push_found hf hr hs hst hL ha;obtain⟨G,q1,q2⟩:=ih _ g1 (by omega);refine⟨G,q1,?_⟩;have h50:=wayP_len50 hr hs hm;refine Ev.succ ?_;simp only[ebbtideref09_Best.l0];refine Ev.bind (steps_ev hr _ b) ?_;refine Ev.call (way_ref_eq hr hs b t) ?_;refine Ev.pos (Yv hm) ?_;refine Ev.bind (bottle_ev hr b _ g6 (by show (wayP l F n s t).length≤1000000;omega) g3) ?_;refine Ev.bind (pushed_ev hr (c:=leastR l F (wayP l F n s t)) (by omega) (by show (wayP l F n s t).length≤1000000;omega) (fun e he=>⟨g6 e he,H.leastR_le he⟩) g5) ?_;exact q2
  ·refine⟨F,⟨hf,hm⟩,?_⟩
   refine Ev.succ ?_;simp only[ebbtideref09_Best.l0];refine Ev.bind (steps_ev hr _ b) ?_;refine Ev.call (way_ref_eq hr hs b t) ?_;refine Ev.neg (by simpa using hm) ?_;exact Ev.now _
theorem best_ev {l:List S74} {n s t:Nat} (b:Bool) (hr:Right l (List.replicate l.length 0) n) (hs:s<n) (ht:t<n) (hst:s≠t): ∃ G,MaxF l G n s t∧Ev (fun k=>ebbtideref09_Best.f k (n:Int) b l (s:Int) (t:Int)) G:=by
 obtain⟨h1,h2⟩:=H.zeros_of (s:=s) (t:=t) hr;obtain⟨G,g1,g2⟩:=best_l0 b hs ht hst 300000000 _ h1 (by omega);refine⟨G,g1,?_⟩;have har:=hr.arcs;unfold ebbtideref09_Best.f;refine Ev.pos (by omega) ?_;refine Ev.pos (by omega) ?_;rw[Int.toNat_natCast];exact g2
end Q
namespace Q
open P
open H (endsErr Right right_of IsFlow MaxF fillF bfP nodes dOf dOf_len dOf_get fnd fnd_none levelsRes capR capR_cons sideP sideP_iff behindF)
def sd (S:List Bool) (v:Int):Bool:=rdOf false S v
theorem takes_l0 (m:Int) (l:List S74) (S:List Bool) (hn:NetOk m l) (hS:(S.length:Int)=m) (d:Nat): ∀ (i:Nat) (acc:Int),i+d=l.length→0≤acc→acc≤1048576 * i→
  Ev (fun k=>mincut_takes.l0 k S acc l (l.length:Int) (i:Int)) (acc+capR (sd S) (l.drop i)):=by
 have hl:=hn.len
 induction d with
 |zero=>
  intro i acc hi h0 h1;refine Ev.succ ?_;simp only[mincut_takes.l0];refine Ev.neg (by omega) ?_;rw[List.drop_of_length_le (by omega)];exact Ev.done (by simp[capR])
 |succ d ih=>
  intro i acc hi h0 h1;have ha:=hn.at_ (i:=(i:Int)) (by omega) (by omega);have a0:=ha.f0;have a1:=ha.f1;have a2:=ha.f2;have a3:=ha.h0;have a4:=ha.h1;have a5:=ha.h2;rw[drop_getD l i z74 (by omega), ← rdArc_nat,capR_cons];refine Ev.succ ?_;simp only[mincut_takes.l0];refine Ev.pos (by omega) ?_;refine Ev.pos (by omega) ?_;refine Ev.pos (by omega) ?_;refine Ev.pos (by omega) ?_;refine Ev.pos (by omega) ?_;rw[wrap_succ (n:=l.length) (by omega) (by omega)];refine Ev.ite (fun g=> ?_) (fun g=> ?_)
  ·have g1:sd S (rd_T74 l (i:Int)).f0=true:=g
   refine Ev.pos (by omega) ?_;refine Ev.pos (by omega) ?_;refine Ev.ite (fun g2=> ?_) (fun g2=> ?_)
   ·have g3:sd S (rd_T74 l (i:Int)).f1=true:=g2
    rw[g1,g3,Yy (by decide)];exact Ev.eq (ih (i+1) _ (by omega) (by omega) (by omega)) (by omega)
   ·have g3:sd S (rd_T74 l (i:Int)).f1=false:=Bool.eq_false_iff.2 g2
    rw[g1,g3,Yx (by decide),wrap_id (by omega) (by omega)];exact Ev.eq (ih (i+1) _ (by omega) (by omega) (by omega)) (by omega)
  ·have g1:sd S (rd_T74 l (i:Int)).f0=false:=Bool.eq_false_iff.2 g
   rw[g1,Yy (by simp)];exact Ev.eq (ih (i+1) _ (by omega) (by omega) (by omega)) (by omega)
theorem takes_ev (n m:Int) (b:Bool) (l:List S74) (S:List Bool) (hn:NetOk m l) (hS:(S.length:Int)=m):Ev (fun k=>mincut_takes.f k n b l S) (capR (sd S) l):=by
 unfold mincut_takes.f;exact Ev.eq (takes_l0 m l S hn hS l.length 0 0 (by omega) (by omega) (by omega)) (by rw[List.drop_zero];omega)
theorem ref_takes_l0 (n m:Int) (b:Bool) (l:List S74) (S:List Bool) (hn:NetOk m l) (hS:(S.length:Int)=m) (d:Nat): ∀ (i:Nat) (acc:Int),i+d=l.length→0≤acc→acc≤1048576 * i→
  Ev (fun k=>ebbtideref10_Takes.l0 k S acc (i:Int) n b l) (acc+capR (sd S) (l.drop i)):=by
 have hl:=hn.len
 induction d with
 |zero=>
  intro i acc hi h0 h1;refine Ev.succ ?_;simp only[ebbtideref10_Takes.l0];refine Ev.neg (by omega) ?_;rw[List.drop_of_length_le (by omega)];exact Ev.done (by simp[capR])
 |succ d ih=>
  intro i acc hi h0 h1;have ha:=hn.at_ (i:=(i:Int)) (by omega) (by omega);have a0:=ha.f0;have a1:=ha.f1;have a2:=ha.f2;have a3:=ha.h0;have a4:=ha.h1;have a5:=ha.h2;rw[drop_getD l i z74 (by omega), ← rdArc_nat,capR_cons];refine Ev.succ ?_;simp only[ebbtideref10_Takes.l0];refine Ev.pos (by omega) ?_;refine Ev.pos (by omega) ?_;refine Ev.pos (by omega) ?_;refine Ev.pos (by omega) ?_;rw[wrap_succ (n:=l.length) (by omega) (by omega)];refine Ev.ite (fun g=> ?_) (fun g=> ?_)
  ·have g1:sd S (rd_T74 l (i:Int)).f0=true:=g
   refine Ev.pos (by omega) ?_;refine Ev.pos (by omega) ?_;refine Ev.ite (fun g2=> ?_) (fun g2=> ?_)
   ·have g3:sd S (rd_T74 l (i:Int)).f1=true:=g2
    rw[g1,g3,Yy (by decide)];exact Ev.eq (ih (i+1) _ (by omega) (by omega) (by omega)) (by omega)
   ·have g3:sd S (rd_T74 l (i:Int)).f1=false:=Bool.eq_false_iff.2 g2
    rw[g1,g3,Yx (by decide),wrap_id (by omega) (by omega)];exact Ev.eq (ih (i+1) _ (by omega) (by omega) (by omega)) (by omega)
  ·have g1:sd S (rd_T74 l (i:Int)).f0=false:=Bool.eq_false_iff.2 g
   rw[g1,Yy (by simp)];exact Ev.eq (ih (i+1) _ (by omega) (by omega) (by omega)) (by omega)
theorem ref_takes_ev (n m:Int) (b:Bool) (l:List S74) (S:List Bool) (hn:NetOk m l) (hS:(S.length:Int)=m):Ev (fun k=>ebbtideref10_Takes.f k n b l S) (capR (sd S) l):=by
 unfold ebbtideref10_Takes.f;exact Ev.eq (ref_takes_l0 n m b l S hn hS l.length 0 0 (by omega) (by omega) (by omega)) (by rw[List.drop_zero];omega)
def capaR (n:Int) (l:List S74) (S:List Bool):Int × Int:=if netErr n l=0 then(if (S.length:Int)=n then(capR (sd S) l,0) else(0,1)) else(0,netErr n l)
theorem capacity_ev (n:Int) (b:Bool) (l:List S74) (S:List Bool):Ev (fun k=>mincut_Capacity.f k n b l S) (capaR n l S):=by
 unfold mincut_Capacity.f capaR;refine Ev.bind (check_ev n b l) ?_;refine Ev.ite (fun h=> ?_) (fun h=> ?_)
 ·rw[Yx h]
  refine Ev.ite (fun g=> ?_) (fun g=> ?_)
  ·rw[Yx g]
   exact Ev.bind (takes_ev n n b l S (netErr_ok h) g) (Ev.now _)
  ·rw[Yy g];exact Ev.now _
 ·rw[Yy h];exact Ev.now _
def sideR (n:Int) (l:List S74) (F:List Int) (s:Int):List Bool × Int:=if (levelsRes n l F s).2=0 then(farB (levelsRes n l F s).1,0) else([],(levelsRes n l F s).2)
theorem ref_side_l0 (d:List Int) (hd:d.length≤1000000) (m:Nat): ∀ i:Nat,i+m=d.length→
  Ev (fun k=>ebbtideref10_Side.l0 k d (farB (d.take i)) (i:Int)) (farB d,0):=by
 induction m with
 |zero=>
  intro i hi;refine Ev.succ ?_;simp only[ebbtideref10_Side.l0];refine Ev.neg (by omega) ?_;exact Ev.done (by rw[List.take_of_length_le (by omega)])
 |succ m ih=>
  intro i hi;have hnx:=ih (i+1) (by omega);have e:farB (d.take i) ++ [decide (rd d (i:Int)≥0)]=farB (d.take (i+1)):=by
   rw[rd_nat,List.getD_eq_getElem?_getD,List.take_add_one,List.getElem?_eq_getElem (by omega)];unfold farB;rw[List.map_append];rfl
  rw[← e] at hnx;refine Ev.succ ?_;simp only[ebbtideref10_Side.l0];refine Ev.pos (by omega) ?_;refine Ev.pos (by omega) ?_;refine Ev.pos (by unfold farB;rw[List.length_map,List.length_take];omega) ?_;rw[wrap_succ (n:=d.length) (by omega) (by omega)];exact hnx
theorem ref_side_ev (n:Int) (b:Bool) (l:List S74) (F:List Int) (s:Int):Ev (fun k=>ebbtideref10_Side.f k n b l F s) (sideR n l F s):=by
 unfold ebbtideref10_Side.f sideR;refine Ev.bind (ref_levels_ev n b l F s) ?_;refine Ev.ite (fun h=> ?_) (fun h=> ?_)
 ·rw[Yx h]
  have h_:=levelsRes_len n l F s;exact ref_side_l0 _ (by omega) (levelsRes n l F s).1.length 0 (by omega)
 ·rw[Yy h];exact Ev.now _
theorem same10_l0 (a:List Bool) (hl:a.length≤1000000) (d:Nat): ∀ i:Nat,i+d=a.length→Ev (fun k=>ebbtideref10_Same.l0 k a a (i:Int)) true:=by
 induction d with
 |zero=>
  intro i hi;refine Ev.succ ?_;simp only[ebbtideref10_Same.l0];refine Ev.neg (by omega) ?_;exact Ev.now _
 |succ d ih=>
  intro i hi;refine Ev.succ ?_;simp only[ebbtideref10_Same.l0];refine Ev.pos (by omega) ?_;refine Ev.pos (by omega) ?_;refine Ev.pos (by omega) ?_;refine Ev.neg (by simp) ?_;rw[wrap_succ (n:=a.length) (by omega) (by omega)];exact ih (i+1) (by omega)
theorem same10_ev (a:List Bool) (hl:a.length≤1000000):Ev (fun k=>ebbtideref10_Same.f k a a) true:=by
 unfold ebbtideref10_Same.f;refine Ev.pos rfl ?_;exact same10_l0 a hl a.length 0 (by omega)
theorem behind_len (l:List S74) (F:List Int) (n s:Nat):(behindF l F n s).length=n:=by unfold behindF;rw[List.length_map,dOf_len]
theorem behind_get {l:List S74} {F:List Int} {n s v:Nat} (hv:v<n):sd (behindF l F n s) (v:Int)=decide (v∈nodes (bfP l F n s)):=by
 unfold sd rdOf behindF;rw[Int.toNat_natCast,List.getD_eq_getElem?_getD,List.getElem?_map];have hlt:v<(dOf n (bfP l F n s)).length:=by rw[dOf_len];exact hv
 have h:=H.dOf_neg (bfP l F n s) 0 hv;rw[List.getD_eq_getElem?_getD,List.getElem?_eq_getElem hlt] at h;rw[List.getElem?_eq_getElem hlt];simp only[Option.getD_some] at h;show decide ((dOf n (bfP l F n s))[v]≥0)=_;by_cases hm:v∈nodes (bfP l F n s)
 ·rw[Yv hm,Yv]
  have: ¬ (dOf n (bfP l F n s))[v]<0:=fun g=>h.1 g hm
  omega
 ·rw[Yw hm,Yw]
  have:=h.2 hm;omega
theorem behind_ext {S T:List Bool} {n:Nat} (h1:S.length=n) (h2:T.length=n) (h: ∀ v:Nat,v<n→sd S v=sd T v):S=T:=by
 apply List.ext_getElem (by omega);intro i g1 g2;have:=h i (by omega);unfold sd rdOf at this;rw[Int.toNat_natCast,List.getD_eq_getElem?_getD,List.getD_eq_getElem?_getD,List.getElem?_eq_getElem g1,List.getElem?_eq_getElem g2] at this
 simpa using this
theorem behind_same {l:List S74} {F G:List Int} {n s t:Nat} (h:MaxF l F n s t) (g:MaxF l G n s t) (hs:s<n) (hst:s≠t):behindF l F n s=behindF l G n s:=by
 refine behind_ext (behind_len _ _ _ _) (behind_len _ _ _ _) fun v hv=> ?_
 rw[behind_get hv,behind_get hv];exact decide_eq_decide.2 (H.side_same h g hs hst v)
theorem capR_congr {R Q:Int→Bool} {n:Int} : ∀ {l:List S74},(∀ a∈l,ArcOk n a)→(∀ v:Int,0≤v→v<n→R v=Q v)→capR R l=capR Q l
 |[],_,_=>rfl
 |a::l,ha,h=>by
  have h1:=ha a List.mem_cons_self;rw[capR_cons,capR_cons,h _ h1.f0 h1.h0,h _ h1.f1 h1.h1,capR_congr (fun b hb=>ha b (List.mem_cons_of_mem _ hb)) h]
theorem behind_cap {l:List S74} {F:List Int} {n s t:Nat} (hn:NetOk n l) (h:MaxF l F n s t) (hs:s<n) (hst:s≠t):capR (sd (behindF l F n s)) l=bal l F s:=by
 rw[(H.max_value h hs hst).1];refine capR_congr hn.arcs fun v h0 h1=> ?_
 obtain⟨v,rfl⟩: ∃ v':Nat,v=v':=⟨v.toNat,by omega⟩;rw[behind_get (by omega)];unfold sideP;rw[Int.toNat_natCast];exact decide_eq_decide.2 ⟨fun g=>⟨by omega,g⟩,fun g=>g.2⟩
def leastS (n:Int) (l:List S74) (s t:Int):List Bool × Int × Int:=
 if endsErr n l s t=0 then(behindF l (fillF l n.toNat s.toNat t.toNat) n.toNat s.toNat,bal l (fillF l n.toNat s.toNat t.toNat) s,0) else([],0,endsErr n l s t)
theorem leastS_nat {l:List S74} {n s t:Nat} (h:endsErr (n:Int) l (s:Int) (t:Int)=0):leastS n l s t=(behindF l (fillF l n s t) n s,bal l (fillF l n s t) s,0):=by
 unfold leastS;rw[Yx h];simp only[Int.toNat_natCast]
theorem leastS_no {l:List S74} {n s t:Int} (h: ¬ endsErr n l s t=0):leastS n l s t=([],0,endsErr n l s t):=by unfold leastS;rw[Yy h]
theorem least_ev (n:Int) (b:Bool) (l:List S74) (s t:Int):Ev (fun k=>mincut_Least.f k n b l s t) (leastS n l s t):=by
 unfold mincut_Least.f;refine Ev.bind (ends_ev n b l s t) ?_;by_cases h:endsErr n l s t=0
 ·refine Ev.pos h ?_
  refine Ev.call (fill_eq b h) ?_;obtain⟨n0,s0,t0,rfl,rfl,rfl,hs,ht,hst,hn,hr⟩:=ends_zero h;rw[leastS_nat h];simp only[Int.toNat_natCast];have hM:=max_fill hr hs ht hst;have ha:=ask_of hn (flowOk_of hM.flow.right);have hB:mincut_Behind.f (n0:Int) b l (fillF l n0 s0 t0) (s0:Int)=some (behindF l (fillF l n0 s0 t0) n0 s0):=by
   unfold mincut_Behind.f;rw[Yx ⟨ha,by omega,by omega⟩,Int.toNat_natCast,Int.toNat_natCast]
  refine Ev.call hB ?_;refine Ev.bind (takes_ev n0 n0 b l _ hn (by rw[behind_len])) ?_;exact Ev.done (by rw[behind_cap hn hM hs hst])
 ·rw[leastS_no h]
  refine Ev.neg h ?_;exact Ev.now _
theorem ref_least_ev (n:Int) (b:Bool) (l:List S74) (s t:Int):Ev (fun k=>ebbtideref10_Least.f k n b l s t) (leastS n l s t):=by
 unfold ebbtideref10_Least.f;refine Ev.bind (ref_ends_ev n b l s t) ?_;by_cases h:endsErr n l s t=0
 ·refine Ev.pos h ?_
  obtain⟨n0,s0,t0,rfl,rfl,rfl,hs,ht,hst,hn,hr⟩:=ends_zero h;obtain⟨G,g1,g2⟩:=best_ev b hr hs ht hst;rw[leastS_nat h];have hM:=max_fill hr hs ht hst;have ha:=ask_of hn (flowOk_of g1.flow.right);refine Ev.bind g2 ?_;refine Ev.bind (ref_side_ev n0 b l G s0) ?_;have hS:sideR n0 l G s0=(behindF l (fillF l n0 s0 t0) n0 s0,0):=by
   have hl:levelsRes n0 l G s0=(dOf n0 (bfP l G n0 s0),0):=by unfold levelsRes;rw[Yx ha,Yx (by omega),Int.toNat_natCast,Int.toNat_natCast]
   unfold sideR;rw[hl,Yx rfl,behind_same hM g1 hs hst];rfl
  rw[hS];refine Ev.bind (ref_takes_ev n0 n0 b l _ hn (by rw[behind_len])) ?_;exact Ev.done (by rw[behind_cap hn hM hs hst])
 ·rw[leastS_no h]
  refine Ev.neg h ?_;exact Ev.now _
end Q
namespace Q
open P
open H (endsErr Right right_of IsFlow MaxF fillF bfP nodes dOf dOf_len levelsRes capR capR_cons sideP sideP_iff behindF)
def two10:List S74:=[(⟨0,1,3,0⟩:S74),(⟨1,2,1,0⟩:S74)]
theorem two10_right:Right two10 (List.replicate two10.length 0) 3:=by
 obtain⟨n0,h1,h2⟩:=right_of (n:=3) (l:=two10) (F:=List.replicate two10.length 0) (by decide +kernel);obtain rfl:n0=3:=by omega
 exact h2
theorem two10_max:MaxF two10 (fillF two10 3 0 2) 3 0 2:=max_fill two10_right (by decide) (by decide) (by decide)
theorem two10_top:MaxF two10 [1,1] 3 0 2:=by
 obtain⟨n0,h1,h2⟩:=right_of (n:=3) (l:=two10) (F:=[1,1]) (by decide +kernel);obtain rfl:n0=3:=by omega
 refine⟨⟨h2,fun v a b c d=> ?_⟩,by decide +kernel⟩;obtain rfl:v=1:=by omega
 decide +kernel
theorem awake10_ev:Ev (fun k=>ebbtidelaw10_awake.f k) true:=by
 have e1:endsErr 3 two10 0 2=0:=by decide +kernel
 have v1:bal two10 (fillF two10 3 0 2) 0=1:=by
  have h_:=H.max_same (s:=0) (t:=2) two10_max two10_top (by decide) (by decide);have h_2:bal two10 [1,1] ((0:Nat):Int)=1:=by decide +kernel
  rw[h_2] at h_;exact h_
 have v2:behindF two10 (fillF two10 3 0 2) 3 0=[true,true,false]:=by
  rw[behind_same (s:=0) (t:=2) two10_max two10_top (by decide) (by decide)];decide +kernel
 have m1:leastS 3 two10 0 2=([true,true,false],1,0):=by
  have h_:=leastS_nat (n:=3) (l:=two10) (s:=0) (t:=2) e1;have h_2:leastS 3 two10 0 2=(behindF two10 (fillF two10 3 0 2) 3 0,bal two10 (fillF two10 3 0 2) 0,0):=h_;rw[h_2,v1,v2]
 have m2:capaR 3 two10 [true,false,false]=(3,0):=by decide +kernel
 unfold ebbtidelaw10_awake.f;refine Ev.let_ ?_;refine Ev.bind (least_ev 3 false two10 0 2) ?_;refine Ev.bind (capacity_ev 3 false two10 _) ?_;rw[m1,m2];refine Ev.pos rfl ?_;refine Ev.pos rfl ?_;refine Ev.bind (same10_ev [true,true,false] (by decide)) ?_;refine Ev.pos rfl ?_;refine Ev.pos rfl ?_;exact Ev.now _
end Q
namespace H
open P
open Q (leastS least_ev ref_least_ev awake10_ev same10_ev leastS_no leastS_nat behind_len ends_zero)
set_option maxHeartbeats 4000000 in
set_option maxRecDepth 100000 in
theorem ebbtidelaw10_MincutLeast_calls (Zc:Int) (Zb:Bool) (Ze:Option Addr) (Zd:Nat) (Za:List S74) (a1:Int) (a2:Int) (r:Bool) (w:World) (Zr:Kd.C k74 w Ze Za.length Za) (Zs:Za.length≤Zd) (h:some true=some r):
  Calls Try.prog 25 #[.agg #[.int .i64 Zc, .bool Zb, .slice Ze Za.length Zd], .int .i64 a1, .int .i64 a2] w fun e w'=>e= .returned (.bool r)∧Below w.heap.size w w':=by
 have hu24:=Try.underlying24;injection h with h
 subst h;obtain⟨n1,hn1⟩: ∃ n_,n_=fewN Zc 12:=⟨_,rfl⟩;obtain⟨l1,hl1⟩: ∃ l_,l_=fewL Za 40:=⟨_,rfl⟩;have hlen:(leastS n1 l1 a1 a2).1.length≤1000000:=by
  by_cases h:endsErr n1 l1 a1 a2=0
  ·obtain⟨n0,s0,t0,e1,e2,e3,hs,ht,hst,hn,hr⟩:=ends_zero h
   rw[e1,e2,e3] at h ⊢;rw[leastS_nat h];show (behindF _ _ _ _).length≤_;rw[behind_len];have:=hr.fifty;omega
  ·rw[leastS_no h];simp
 obtain⟨⟨S,v,e⟩,hve⟩: ∃ p,p=leastS n1 l1 a1 a2:=⟨_,rfl⟩;rw[← hve] at hlen;have hlen:S.length≤1000000:=hlen;obtain⟨K1,hK1⟩:=least_ev n1 Zb l1 a1 a2;have hm1:=hK1 K1 (Nat.le_refl _);obtain⟨K2,hK2⟩:=ref_least_ev n1 Zb l1 a1 a2;have hm2:=hK2 K2 (Nat.le_refl _);obtain⟨K3,hK3⟩:=awake10_ev;have hm3:=hK3 K3 (Nat.le_refl _);obtain⟨K4,hK4⟩:=same10_ev S hlen;have hm4:=hK4 K4 (Nat.le_refl _);rw[← hve] at hm1 hm2;have HM1:=Ya hm1;have HM2:=Ya hm2;have HM3:=Ya hm3;have HM4:=Ya hm4;have HN1:=Ya hn1;have HL1:=Ya hl1;have H2:=Ya Zr;have HC2:=Ya Zs;have HLC:Aside0 (Kd.C k74 w Ze l1.length l1):=⟨by rw[hl1];exact fewL_C Zr 40⟩;have HLE:Aside0 (l1.length≤Zd):=⟨by rw[hl1];exact Nat.le_trans (fewL_le Za 40) Zs⟩;clear hve hK1 hK2 hK3 hK4 hm1 hm2 hm3 hm4 hn1 hl1 Zr Zs hlen;go_enter Try.func25,Try.ntmps25;go_upto_region 2 with (first|((with_reducible refine gate_dst (N:=3) rfl ?_);refine Yz ?hg (N:=3) ?hd (cs:= #[.int .i64 Zc, .bool Zb, .slice Ze Za.length Zd]) (t:=24) ?hr ?_;(case hd=>rfl);(case hg=>rfl);(case hr=>first|(go_simp;done)|(go_simp;rfl));intro g3 hg3 w5 Zf hb;have B3:=Ya Zf;have HB:=Ya hb;have HG3:Aside0 (w.heap.size≤g3):=⟨Nat.le_of_eq hg3.symm⟩;clear hg3 Zf hb;have x0:w5.cell? ⟨g3,0,none⟩=some (.int .i64 Zc):=(Yc B3.out 0).trans rfl;have x1:w5.cell? ⟨g3,1,none⟩=some (.bool Zb):=(Yc B3.out 1).trans rfl;have x2:w5.cell? ⟨g3,2,none⟩=some (.slice Ze Za.length Zd):=(Yc B3.out 2).trans rfl)|(go_at_call 66;refine(few_calls Zc Zb Ze Zd Za 12 40 _ (by decide) HC2.out (Yt H2.out HB.out)).mono ?_;rintro e_ w6 ⟨rfl,hb⟩;have m0_:=Ya (Yk HB.out hb);have m1_:=Ya (Yn B3.out hb);clear HB B3 hb x0 x1 x2;have HB:=m0_;have B3:=m1_;clear m0_ m1_;have x0:w6.cell? ⟨g3,0,none⟩=some (.int .i64 Zc):=(Yc B3.out 0).trans rfl;have x1:w6.cell? ⟨g3,1,none⟩=some (.bool Zb):=(Yc B3.out 1).trans rfl;have x2:w6.cell? ⟨g3,2,none⟩=some (.slice Ze Za.length Zd):=(Yc B3.out 2).trans rfl;have f0:=Yf B3.out 0;have f1:=Yf B3.out 1;have f2:=Yf B3.out 2)|fail)
 have B3':Aside0 ((((w6.setCell ⟨g3,0,none⟩ (.int .i64 (fewN Zc 12))).setCell ⟨g3,1,none⟩ (.bool Zb)).setCell ⟨g3,2,none⟩ (.slice Ze (fewL Za 40).length Zd)).heap[g3]? =some (.cells #[.int .i64 n1, .bool Zb, .slice Ze l1.length Zd] 24 (0,0))):=⟨by rw[HN1.out,HL1.out];exact YA (YA (YA B3.out 0 _ rfl) 1 _ rfl) 2 _ rfl⟩;have HB':Aside0 (Below w.heap.size w (((w6.setCell ⟨g3,0,none⟩ (.int .i64 (fewN Zc 12))).setCell ⟨g3,1,none⟩ (.bool Zb)).setCell ⟨g3,2,none⟩ (.slice Ze (fewL Za 40).length Zd))):=⟨Yh (Yh (Yh HB.out HG3.out) HG3.out) HG3.out⟩;clear B3 HB x0 x1 x2 f0 f1 f2;generalize ((w6.setCell ⟨g3,0,none⟩ (.int .i64 (fewN Zc 12))).setCell ⟨g3,1,none⟩ (.bool Zb)).setCell ⟨g3,2,none⟩ (.slice Ze (fewL Za 40).length Zd)=w7 at *;have B3:=B3';have HB:=HB';clear B3' HB';have x0:w7.cell? ⟨g3,0,none⟩=some (.int .i64 n1):=(Yc B3.out 0).trans rfl;have x1:w7.cell? ⟨g3,1,none⟩=some (.bool Zb):=(Yc B3.out 1).trans rfl;have x2:w7.cell? ⟨g3,2,none⟩=some (.slice Ze l1.length Zd):=(Yc B3.out 2).trans rfl;go_wp2_with (first|(go_at_call 79;refine(mincut_Least.calls K1 n1 Zb Ze Zd l1 a1 a2 S v e _ (Yt HLC.out HB.out) HLE.out HM1.out).mono ?_;rintro e_ w8 ⟨u1,rfl,hR1,hb⟩;obtain⟨A1,c1,ev⟩:=Kd.R_slice hR1;subst ev;have HR1:=Ya (Kd.R_reads' hR1).2.2;have HE1:=Ya (Kd.R_reads' hR1).2.1;clear hR1;have m0_:=Ya (Yk HB.out hb);have m1_:=Ya (Yn B3.out hb);clear HB B3 hb x0 x1 x2;have HB:=m0_;have B3:=m1_;clear m0_ m1_;have x0:w8.cell? ⟨g3,0,none⟩=some (.int .i64 n1):=(Yc B3.out 0).trans rfl;have x1:w8.cell? ⟨g3,1,none⟩=some (.bool Zb):=(Yc B3.out 1).trans rfl;have x2:w8.cell? ⟨g3,2,none⟩=some (.slice Ze l1.length Zd):=(Yc B3.out 2).trans rfl)|(go_at_call 80;refine(ebbtideref10_Least.calls K2 n1 Zb Ze Zd l1 a1 a2 S v e _ (Yt HLC.out HB.out) HLE.out HM2.out).mono ?_;rintro e_ w9 ⟨u2,rfl,hR2,hb⟩;obtain⟨A2,c2,ev⟩:=Kd.R_slice hR2;subst ev;have HR2:=Ya (Kd.R_reads' hR2).2.2;have HE2:=Ya (Kd.R_reads' hR2).2.1;have HR1':=Ya (Yt HR1.out hb);clear hR2 HR1;have HR1:=HR1';clear HR1';have m0_:=Ya (Yk HB.out hb);have m1_:=Ya (Yn B3.out hb);clear HB B3 hb x0 x1 x2;have HB:=m0_;have B3:=m1_;clear m0_ m1_;have x0:w9.cell? ⟨g3,0,none⟩=some (.int .i64 n1):=(Yc B3.out 0).trans rfl;have x1:w9.cell? ⟨g3,1,none⟩=some (.bool Zb):=(Yc B3.out 1).trans rfl;have x2:w9.cell? ⟨g3,2,none⟩=some (.slice Ze l1.length Zd):=(Yc B3.out 2).trans rfl)|(go_at_call 81;refine(ebbtidelaw10_awake.calls K3 true _ HM3.out).mono ?_;rintro e_ w10 ⟨rfl,hb⟩;have HR1':=Ya (Yt HR1.out hb);have HR2':=Ya (Yt HR2.out hb);clear HR1 HR2;have HR1:=HR1';have HR2:=HR2';clear HR1' HR2';have m0_:=Ya (Yk HB.out hb);have m1_:=Ya (Yn B3.out hb);clear HB B3 hb x0 x1 x2;have HB:=m0_;have B3:=m1_;clear m0_ m1_;have x0:w10.cell? ⟨g3,0,none⟩=some (.int .i64 n1):=(Yc B3.out 0).trans rfl;have x1:w10.cell? ⟨g3,1,none⟩=some (.bool Zb):=(Yc B3.out 1).trans rfl;have x2:w10.cell? ⟨g3,2,none⟩=some (.slice Ze l1.length Zd):=(Yc B3.out 2).trans rfl)|(go_at_call 42;refine(ebbtideref10_Same.calls K4 A1 c1 S A2 c2 S true _ HR1.out HE1.out HR2.out HE2.out HM4.out).mono ?_;rintro e_ w11 ⟨rfl,hd⟩;have hb:=hd.below;clear hd;have m0_:=Ya (Yk HB.out hb);have m1_:=Ya (Yn B3.out hb);clear HB B3 hb x0 x1 x2;have HB:=m0_;have B3:=m1_;clear m0_ m1_;have x0:w11.cell? ⟨g3,0,none⟩=some (.int .i64 n1):=(Yc B3.out 0).trans rfl;have x1:w11.cell? ⟨g3,1,none⟩=some (.bool Zb):=(Yc B3.out 1).trans rfl;have x2:w11.cell? ⟨g3,2,none⟩=some (.slice Ze l1.length Zd):=(Yc B3.out 2).trans rfl)|fail);go_ret;exact⟨rfl,HB.out⟩
end H
namespace P
attribute [local go_sem] max2_int min2_int max_two min_two max_three min_three max_four min_four
def ebbtidelaw10_MincutLeast.f (Zc:Int) (Zb:Bool) (Za:List (S74)) (a1:Int) (a2:Int):Option (Bool):=some true
theorem ebbtidelaw10_MincutLeast.calls (Zc:Int) (Zb:Bool) (Ze:Option Addr) (Zd:Nat) (Za:List (S74)) (a1:Int) (a2:Int) (r:Bool) (w:World) (Zr:Kd.C k74 w Ze Za.length Za) (Zs:Za.length≤Zd) (h:ebbtidelaw10_MincutLeast.f Zc Zb Za a1 a2=some r):
  Calls Try.prog 25 #[.agg #[.int .i64 Zc, .bool Zb, .slice Ze Za.length Zd], .int .i64 a1, .int .i64 a2] w fun e w'=>e= .returned (.bool r)∧Below w.heap.size w w':=H.ebbtidelaw10_MincutLeast_calls Zc Zb Ze Zd Za a1 a2 r w Zr Zs h
end P
namespace Opn
open Go.ChangeShapes Go.WideShapes Go.Deep 
def Opens (P:Program) (t:TypeId) {α:Type} (d:Kd α) (ok:α→Prop):Prop:=
 ∀ (H:Type) (enc:TypeId × Value→H) (w:World) (base:Nat) (spare:Nat→Bool) (held:Bool) (fuel:Nat) (cs:List Value) (x:DataW H × List MemPlace),
  DataW.trod enc P w base spare held fuel t cs=some x→ ∃ a:α,d.K w a cs∧ok a
theorem opens_int {P:Program} {t:TypeId} {k:IntKind} (ht:P.underlying t=some (.int k)):Opens P t (Kd.int k) (fun n=>(Lit.int k n).wf=true):=by
 intro H enc w base spare held fuel cs x h;obtain⟨n,rfl,_,hw⟩:=DataW.trod_int ht h;exact⟨n,rfl,hw⟩
theorem opens_bool {P:Program} {t:TypeId} (ht:P.underlying t=some .bool):Opens P t Kd.bool (fun _=>True):=by
 intro H enc w base spare held fuel cs x h;obtain⟨b,rfl,_⟩:=DataW.trod_bool ht h;exact⟨b,rfl,trivial⟩
theorem opens_slice {P:Program} {t e:TypeId} {α:Type} {d:Kd α} {ok:α→Prop} (ht:P.underlying t=some (.slice e)) (hc:P.cellsOf e=d.sz) (h:Opens P e d ok):
  Opens P t (Kd.slice e d) (fun l=>l.length≤9223372036854775807∧ ∀ x∈l,ok x):=by
 intro H enc w base spare held fuel cs x hx;rcases open_slice ht hx with ⟨rfl,_⟩|⟨a,len,cap,m,n,D,Pl,rfl,hb,hl,hm,hmm,_,hi⟩
 ·exact⟨[],⟨none,0,rfl,Nat.le_refl _,rfl,by simp,fun h=>absurd h (by simp)⟩,by simp,by simp⟩
 ·have hlm:len≤m:=by rw[hmm];split<;>omega
  have hel: ∀ i:Nat,i<len→ ∃ a':α,ok a'∧ ∃ c,c.length=d.sz∧d.K w a' c∧ ∀ j u,c[j]? =some u→w.cell? (a.add (i * d.sz+j))=some u:=by
   intro i hil;obtain⟨cs',hcs,htr⟩:=hi i (by omega);obtain⟨a',hK,hok⟩:=h H enc w base spare held n cs' _ htr;rw[hc] at hcs;obtain⟨_,hcl,hat⟩:=World.cells?_some hcs;refine⟨a',hok,cs',hcl,hK,fun j u hu=> ?_⟩;have hj:j<d.sz:=by have:=(List.getElem?_eq_some_iff.1 hu).1;omega
   have:=hat j hj;rw[← Go.Deep.add_add,this,hu]
  have hrow: ∀ k:Nat,k≤len→ ∃ xs:List α,xs.length=k∧(∀ x∈xs,ok x)∧ ∀ j p,xs[j]? =some p→ ∃ c,c.length=d.sz∧d.K w p c∧ ∀ i u,c[i]? =some u→w.cell? (a.add (j * d.sz+i))=some u:=by
   intro k
   induction k with
   |zero=>exact fun _=>⟨[],rfl,by simp,by simp⟩
   |succ k ih=>
    intro hk;obtain⟨xs,h1,h2,h3⟩:=ih (by omega);obtain⟨a',ho,c,hcl,hK,hcell⟩:=hel k (by omega);refine⟨xs ++ [a'],by simp[h1],fun x hx=> ?_,fun j p hj=> ?_⟩
    ·rcases List.mem_append.1 hx with h|h
     ·exact h2 x h
     ·rw[List.mem_singleton.1 h];exact ho
    ·by_cases hjk:j<xs.length
     ·rw[List.getElem?_append_left hjk] at hj
      exact h3 j p hj
     ·have hjl:=(List.getElem?_eq_some_iff.1 hj).1
      simp at hjl;have hje:j=k:=by omega
      subst hje;rw[← h1,List.getElem?_concat_length] at hj;obtain rfl:=Option.some.inj hj;exact⟨c,hcl,hK,hcell⟩
  obtain⟨xs,h1,h2,h3⟩:=hrow len (Nat.le_refl _);have hmx:len≤9223372036854775807:=by unfold maxLen at hm;omega
  subst h1;exact⟨xs,⟨some a,cap,rfl,hl,rfl,hmx,fun _=>⟨a,rfl,h3⟩⟩,hmx,h2⟩
theorem opens_iso {P:Program} {t:TypeId} {α β:Type} {d:Kd α} {ok:α→Prop} (h:Opens P t d ok) (f:β→α) (g:α→β) (hfg: ∀ x,f (g x)=x):Opens P t (Kd.iso d f) (fun y=>ok (f y)):=by
 intro H enc w base spare held fuel cs x hx;obtain⟨a,hK,hok⟩:=h H enc w base spare held fuel cs x hx;exact⟨g a,by show d.K w (f (g a)) cs;rw[hfg];exact hK,by show ok (f (g a));rw[hfg];exact hok⟩
def OpensFs (P:Program) (fs:List Field) (off:Nat) {α:Type} (d:Kd α) (ok:α→Prop):Prop:=
 ∀ (H:Type) (enc:TypeId × Value→H) (w:World) (base:Nat) (spare:Nat→Bool) (held:Bool) (n:Nat) (cs:List Value),cs.length=off+d.sz→
  (∀ f∈fs, ∃ y,DataW.trod enc P w base spare held n f.type ((cs.drop f.offset).take (P.cellsOf f.type))=some y)→ ∃ a:α,d.K w a (cs.drop off)∧ok a
theorem fs_one {P:Program} {f:Field} {off:Nat} {α:Type} {d:Kd α} {ok:α→Prop} (ho:f.offset=off) (hc:P.cellsOf f.type=d.sz) (h:Opens P f.type d ok):OpensFs P [f] off d ok:=by
 intro H enc w base spare held n cs hl hf;obtain⟨y,hy⟩:=hf f (by simp);rw[ho,hc,List.take_of_length_le (by simp;omega)] at hy;exact h H enc w base spare held n _ y hy
theorem fs_cons {P:Program} {f:Field} {fs:List Field} {off:Nat} {α β:Type} {d:Kd α} {d':Kd β} {ok:α→Prop} {ok':β→Prop} (ho:f.offset=off) (hc:P.cellsOf f.type=d.sz) (h:Opens P f.type d ok)
  (hr:OpensFs P fs (off+d.sz) d' ok'):OpensFs P (f::fs) off (Kd.pair d d') (fun x=>ok x.1∧ok' x.2):=by
 intro H enc w base spare held n cs hl hf;have hsz:(Kd.pair d d').sz=d.sz+d'.sz:=rfl;rw[hsz] at hl;obtain⟨y,hy⟩:=hf f (by simp);rw[ho,hc] at hy;obtain⟨a,hK,hok⟩:=h H enc w base spare held n _ y hy;obtain⟨b,hKb,hokb⟩:=hr H enc w base spare held n cs (by omega) (fun f' hf'=>hf f' (List.mem_cons_of_mem _ hf'));refine⟨(a,b),⟨_,_,?_,hK,hKb⟩,hok,hokb⟩;rw[← List.drop_drop];exact(List.take_append_drop _ _).symm
theorem opens_struct {P:Program} {t:TypeId} {fs:Array Field} {α:Type} {d:Kd α} {ok:α→Prop} (hs:P.underlying t=some (.struct fs)) (hC:P.cellsOf t=d.sz) (h:OpensFs P fs.toList 0 d ok):Opens P t d ok:=by
 intro H enc w base spare held fuel cs x hx;obtain⟨xs,n,_,_,hl,hlen,hf⟩:=DataW.trod_struct hs hx;obtain⟨a,hK,hok⟩:=h H enc w base spare held n cs (by rw[hl,hC,Nat.zero_add]) (fun f hfm=>by
  obtain⟨j,hj⟩:=List.getElem?_of_mem hfm;have hj':fs[j]? =some f:=by rw[← hj];simp
  have hjl:j<xs.length:=by rw[hlen];exact(Array.getElem?_eq_some_iff.1 hj').1
  have h1:=hf j f hj';rw[List.getElem?_eq_getElem hjl] at h1;exact⟨_,h1⟩)
 exact⟨a,hK,hok⟩
theorem arg_struct {H:Type} {enc:TypeId × Value→H} {P:Program} {w:World} {base b0:Nat} {spare:Nat→Bool} {held:Bool} {r:Reach} {t:TypeId} {fs:Array Field} {v:Value} {dd:DataW H} {p:List MemPlace} {α:Type} {d:Kd α} {ok:α→Prop}
  (hs:P.underlying t=some (.struct fs)) (ho:Opens P t d ok) (hv:Value.okWide P w r b0 t v) (h:DataW.Trod enc P w base spare held t v dd p): ∃ a cs,v= .agg cs∧d.K w a cs.toList∧ok a:=by
 obtain⟨cs,rfl,hsz⟩:=okWide_struct hs hv;obtain⟨fuel,hf⟩:=h;obtain⟨a,hK,hok⟩:=ho H enc w base spare held fuel _ _ hf;exact⟨a,cs,rfl,by simpa [Value.cells] using hK,hok⟩
end Opn
namespace Q
open P
theorem mincutLeast_ev (n:Int) (b:Bool) (l:List S74) (s t:Int):Ev (fun _=>ebbtidelaw10_MincutLeast.f n b l s t) true:=Ev.now _
end Q
end Go.Proofs.Ytkcpanpdipmmmaa
