/- What the law's row needs of these texts, taken out of them by wip/tool/mini.py: P17 P92 P93 P147 QBfsLaw QWayLaw QDownLaw P47 P48 P46 QBfLaw QSortArr QSortLaw P21 P23 QLists QStepsLaw. -/
import Derived.Test.YtkcpanpdipmmmaaMmdjnho
import Derived.Lib.LazyBuf
import Derived.Test.YtkcpanpdipmmmaaProg
import Derived.RegionTactic
import Derived.ChangeAlike
import Derived.BigRegion
import Derived.LoopTactic
import Derived.WalkKit
import Derived.Laws.AppendOwn
set_option linter.unusedVariables false
set_option linter.unusedSimpArgs false
open Go.RowKit Go.Proofs.YtkcpanpdipmmmaaW.PrintWords Go.Proofs.YtkcpanpdipmmmaaW.PrintLast Go.Proofs.YtkcpanpdipmmmaaW.PrintMore
namespace Go.Proofs.Ytkcpanpdipmmmaa
namespace P
attribute [local go_sem] max2_int min2_int max_two min_two max_three min_three max_four min_four
def static_Asked.l0:Nat→List Int→Int→Int→Int→Bool→List (S74)→Option (Int)
 |0,_,_,_,_,_,_=>none
 |k+1,x19,x20,x21,x185000,x185001,x185002=>if x21<x20 then(if 0≤x21 then(if x21<(x19.length:Int) then(if (rd x19 x21)<0 then(some 71) else(if x21<(x185002.length:Int) then(if (rd x19 x21)>((rd_T74 x185002 x21).f2) then(some 71) else(static_Asked.l0 k x19 x20 (wrap64 (x21+1)) x185000 x185001 x185002)) else(none))) else(none)) else(none)) else(some 0)
def static_Asked.f (k:Nat) (Zb:Int) (Zc:Bool) (Za:List (S74)) (l1:List Int):Option (Int):=(netfmt_Check.f k Zb Zc Za).bind fun t185=>(if t185=0 then(if (l1.length:Int)=(Za.length:Int) then(static_Asked.l0 k l1 (l1.length:Int) 0 Zb Zc Za) else(some 71)) else(some t185))
set_option maxHeartbeats 8000000 in
set_option maxRecDepth 100000 in
theorem static_Asked.calls (k:Nat) (Zb:Int) (Zc:Bool) (Ze:Option Addr) (Zd:Nat) (Za:List (S74)) (A1:Option Addr) (c1:Nat) (l1:List Int) (r:Int) (w:World) (Zr:Kd.C k74 w Ze Za.length Za) (Zs:Za.length≤Zd) (hr1:Kd.C (Kd.int .i64) w A1 l1.length l1) (hc1:l1.length≤c1) (h:static_Asked.f k Zb Zc Za l1=some r):
  Calls Try.prog 96 #[.agg #[.int .i64 Zb, .bool Zc, .slice Ze Za.length Zd], .slice A1 l1.length c1] w fun e w'=>e= .returned (.int .i64 r)∧Below w.heap.size w w':=by
 have hu24:=Try.underlying24;have Zi:=Ya Zr;have Zn:=Ya Zs;clear Zr Zs;have HR1:=Ya hr1;have HC1:=Ya hc1;clear hr1 hc1;have HB:=Ya (Yo w.heap.size w);have H:((netfmt_Check.f k Zb Zc Za).bind fun t185=>(if t185=0 then(if (l1.length:Int)=(Za.length:Int) then(static_Asked.l0 k l1 (l1.length:Int) 0 Zb Zc Za) else(some 71)) else(some t185)))=some r:=h;clear h;replace H:=Option.bind_eq_some_iff.mp H;obtain⟨t185,A30,H⟩:=H;replace H:(if t185=0 then(if (l1.length:Int)=(Za.length:Int) then(static_Asked.l0 k l1 (l1.length:Int) 0 Zb Zc Za) else(some 71)) else(some t185))=some r:=H;have A3:=Ya A30;clear A30;by_cases c4:t185=0
 rotate_left
 ·rw[Yy c4] at H
  have c4b0:(t185 == 0)=false:=beq_eq_false_iff_ne.mpr c4;have c4b1:(t185 != 0)=true:=bne_iff_ne.mpr c4;obtain rfl:=Option.some.inj H;go_enter Try.func96,Try.ntmps96;go_wp2_with (first|((with_reducible refine gate_dst (N:=2) rfl ?_);refine Yz ?hg (N:=2) ?hd (cs:= #[.int .i64 Zb, .bool Zc, .slice Ze Za.length Zd]) (t:=24) ?hr ?_;(case hd=>rfl);(case hg=>rfl);(case hr=>first|(go_simp;done)|(go_simp;rfl));intro Wq hg w22 Zg hb;have n0_:=Ya (Yk (by repeat(first|(with_reducible first|exact HB.out|apply Ye|apply Yd|apply Yg)|exact HB.out)) hb);have n1_:=Ya (Zg);have n2_:=Ya ((by rw[hg];exact(Yi (by repeat(first|(with_reducible first|exact HB.out|apply Ye|apply Yd|apply Yg)|exact HB.out))):w.heap.size≤Wq));have n3_:=Ya ((by rw[hg];exact(Yi (by repeat(first|(with_reducible first|exact HB.out|apply Ye|apply Yd|apply Yg)|exact HB.out))):w.heap.size≤Wq));clear HB;have HB:=n0_;have Xf:=n1_;have GW184:=n2_;have GE184:=n3_;clear n0_ n1_ n2_ n3_;clear hb Zg hg;have hcz23_0:w22.cell? ⟨Wq,0,none⟩=some (.int .i64 Zb):=(Yc Xf.out 0).trans rfl;have hcz23_1:w22.cell? ⟨Wq,1,none⟩=some (.bool Zc):=(Yc Xf.out 1).trans rfl;have hcz23_2:w22.cell? ⟨Wq,2,none⟩=some (.slice Ze Za.length Zd):=(Yc Xf.out 2).trans rfl;have hfz23_0:=Yf Xf.out 0;have hfz23_1:=Yf Xf.out 1;have hfz23_2:=Yf Xf.out 2)|((with_reducible refine gate_callee (f:=127) rfl ?_);refine goesL_ (some 9) rfl rfl Try.func127 (by kernel_rfl) rfl #[.agg #[.int .i64 Zb, .bool Zc, .slice Ze Za.length Zd]] rfl (by(try simp only[List.map_toArray,List.map_cons,List.map_nil]);first|done|rfl|(simp only[List.length_drop,List.length_take];rfl)) ?_;(with_reducible refine(netfmt_Check.calls k Zb Zc _ _ Za t185 _ ?side1 ?side2 A3.out).mono ?_);(case side1=>repeat(first|exact(Yt Zi.out HB.out)|(with_reducible refine Kd.C_alloc ?_ _)|(with_reducible refine Kd.C_drewN ?_ _)|(with_reducible refine Kd.C_drew ?_)));(case side2=>exact Zn.out);rintro e w24 ⟨rfl,hb⟩;refine⟨_,rfl,?_⟩;have n0_:=Ya (Yn (g:=Wq) (o:= .cells #[.int .i64 Zb, .bool Zc, .slice Ze Za.length Zd] 24 (0,0)) (by(with_reducible repeat(first|refine Yl ?_ _|refine Ym ?_|refine Yj ?_ _));exact Xf.out) hb);have n1_:=Ya (Yk (by repeat(first|(with_reducible first|exact HB.out|apply Ye|apply Yd|apply Yg|refine Yh ?_ GE184.out)|exact HB.out)) hb);clear Xf;clear HB;have Xf:=n0_;have HB:=n1_;clear n0_ n1_;(try clear hb);(try clear hb2);(try clear hk);(try clear hi)));go_ret;exact⟨by first|rfl|(simp[errW_none,errW_some]<;>rfl)|(simp[*,errW_none,errW_some]<;>rfl),by repeat(first|(with_reducible first|exact HB.out|apply Ye|apply Yd|apply Yg|refine Yh ?_ GE184.out)|exact HB.out)⟩
 rw[Yx c4] at H;have c4b0:(t185 == 0)=true:=beq_iff_eq.mpr c4;have c4b1:(t185 != 0)=false:=bne_eq_false_iff_eq.mpr c4;clear c4;by_cases c5:(l1.length:Int)=(Za.length:Int)
 rotate_left
 ·rw[Yy c5] at H
  have c5b0:((l1.length:Int) == (Za.length:Int))=false:=beq_eq_false_iff_ne.mpr c5;have c5b1:((l1.length:Int) != (Za.length:Int))=true:=bne_iff_ne.mpr c5;have c5b2:(l1.length == Za.length)=false:=by first|simpa using c5|(simp at c5 ⊢;omega)
  obtain rfl:=Option.some.inj H;go_enter Try.func96,Try.ntmps96;go_wp2_with (first|((with_reducible refine gate_dst (N:=2) rfl ?_);refine Yz ?hg (N:=2) ?hd (cs:= #[.int .i64 Zb, .bool Zc, .slice Ze Za.length Zd]) (t:=24) ?hr ?_;(case hd=>rfl);(case hg=>rfl);(case hr=>first|(go_simp;done)|(go_simp;rfl));intro Wq hg w18 Zg hb;have n0_:=Ya (Yk (by repeat(first|(with_reducible first|exact HB.out|apply Ye|apply Yd|apply Yg)|exact HB.out)) hb);have n1_:=Ya (Zg);have n2_:=Ya ((by rw[hg];exact(Yi (by repeat(first|(with_reducible first|exact HB.out|apply Ye|apply Yd|apply Yg)|exact HB.out))):w.heap.size≤Wq));have n3_:=Ya ((by rw[hg];exact(Yi (by repeat(first|(with_reducible first|exact HB.out|apply Ye|apply Yd|apply Yg)|exact HB.out))):w.heap.size≤Wq));clear HB;have HB:=n0_;have Xf:=n1_;have GW184:=n2_;have GE184:=n3_;clear n0_ n1_ n2_ n3_;clear hb Zg hg;have hcz19_0:w18.cell? ⟨Wq,0,none⟩=some (.int .i64 Zb):=(Yc Xf.out 0).trans rfl;have hcz19_1:w18.cell? ⟨Wq,1,none⟩=some (.bool Zc):=(Yc Xf.out 1).trans rfl;have hcz19_2:w18.cell? ⟨Wq,2,none⟩=some (.slice Ze Za.length Zd):=(Yc Xf.out 2).trans rfl;have hfz19_0:=Yf Xf.out 0;have hfz19_1:=Yf Xf.out 1;have hfz19_2:=Yf Xf.out 2)|((with_reducible refine gate_callee (f:=127) rfl ?_);refine goesL_ (some 9) rfl rfl Try.func127 (by kernel_rfl) rfl #[.agg #[.int .i64 Zb, .bool Zc, .slice Ze Za.length Zd]] rfl (by(try simp only[List.map_toArray,List.map_cons,List.map_nil]);first|done|rfl|(simp only[List.length_drop,List.length_take];rfl)) ?_;(with_reducible refine(netfmt_Check.calls k Zb Zc _ _ Za t185 _ ?side1 ?side2 A3.out).mono ?_);(case side1=>repeat(first|exact(Yt Zi.out HB.out)|(with_reducible refine Kd.C_alloc ?_ _)|(with_reducible refine Kd.C_drewN ?_ _)|(with_reducible refine Kd.C_drew ?_)));(case side2=>exact Zn.out);rintro e w20 ⟨rfl,hb⟩;refine⟨_,rfl,?_⟩;have n0_:=Ya (Yn (g:=Wq) (o:= .cells #[.int .i64 Zb, .bool Zc, .slice Ze Za.length Zd] 24 (0,0)) (by(with_reducible repeat(first|refine Yl ?_ _|refine Ym ?_|refine Yj ?_ _));exact Xf.out) hb);have n1_:=Ya (Yk (by repeat(first|(with_reducible first|exact HB.out|apply Ye|apply Yd|apply Yg|refine Yh ?_ GE184.out)|exact HB.out)) hb);clear Xf;clear HB;have Xf:=n0_;have HB:=n1_;clear n0_ n1_;(try clear hb);(try clear hb2);(try clear hk);(try clear hi);have hcz21_0:w20.cell? ⟨Wq,0,none⟩=some (.int .i64 Zb):=(Yc Xf.out 0).trans rfl;have hcz21_1:w20.cell? ⟨Wq,1,none⟩=some (.bool Zc):=(Yc Xf.out 1).trans rfl;have hcz21_2:w20.cell? ⟨Wq,2,none⟩=some (.slice Ze Za.length Zd):=(Yc Xf.out 2).trans rfl;have hfz21_0:=Yf Xf.out 0;have hfz21_1:=Yf Xf.out 1;have hfz21_2:=Yf Xf.out 2));go_ret;exact⟨by first|rfl|(simp[errW_none,errW_some]<;>rfl)|(simp[*,errW_none,errW_some]<;>rfl),by repeat(first|(with_reducible first|exact HB.out|apply Ye|apply Yd|apply Yg|refine Yh ?_ GE184.out)|exact HB.out)⟩
 rw[Yx c5] at H;have c5b0:((l1.length:Int) == (Za.length:Int))=true:=beq_iff_eq.mpr c5;have c5b1:((l1.length:Int) != (Za.length:Int))=false:=bne_eq_false_iff_eq.mpr c5;have c5b2:(l1.length == Za.length)=true:=by first|simpa using c5|(simp at c5 ⊢;omega)
 clear c5;have H':=Ya H;clear H;go_enter Try.func96,Try.ntmps96;go_wp2_with (first|((with_reducible refine gate_dst (N:=2) rfl ?_);refine Yz ?hg (N:=2) ?hd (cs:= #[.int .i64 Zb, .bool Zc, .slice Ze Za.length Zd]) (t:=24) ?hr ?_;(case hd=>rfl);(case hg=>rfl);(case hr=>first|(go_simp;done)|(go_simp;rfl));intro Wq hg w6 Zg hb;have n0_:=Ya (Yk (by repeat(first|(with_reducible first|exact HB.out|apply Ye|apply Yd|apply Yg)|exact HB.out)) hb);have n1_:=Ya (Zg);have n2_:=Ya ((by rw[hg];exact(Yi (by repeat(first|(with_reducible first|exact HB.out|apply Ye|apply Yd|apply Yg)|exact HB.out))):w.heap.size≤Wq));have n3_:=Ya ((by rw[hg];exact(Yi (by repeat(first|(with_reducible first|exact HB.out|apply Ye|apply Yd|apply Yg)|exact HB.out))):w.heap.size≤Wq));clear HB;have HB:=n0_;have Xf:=n1_;have GW184:=n2_;have GE184:=n3_;clear n0_ n1_ n2_ n3_;clear hb Zg hg;have hcz7_0:w6.cell? ⟨Wq,0,none⟩=some (.int .i64 Zb):=(Yc Xf.out 0).trans rfl;have hcz7_1:w6.cell? ⟨Wq,1,none⟩=some (.bool Zc):=(Yc Xf.out 1).trans rfl;have hcz7_2:w6.cell? ⟨Wq,2,none⟩=some (.slice Ze Za.length Zd):=(Yc Xf.out 2).trans rfl;have hfz7_0:=Yf Xf.out 0;have hfz7_1:=Yf Xf.out 1;have hfz7_2:=Yf Xf.out 2)|((with_reducible refine gate_callee (f:=127) rfl ?_);refine goesL_ (some 9) rfl rfl Try.func127 (by kernel_rfl) rfl #[.agg #[.int .i64 Zb, .bool Zc, .slice Ze Za.length Zd]] rfl (by(try simp only[List.map_toArray,List.map_cons,List.map_nil]);first|done|rfl|(simp only[List.length_drop,List.length_take];rfl)) ?_;(with_reducible refine(netfmt_Check.calls k Zb Zc _ _ Za t185 _ ?side1 ?side2 A3.out).mono ?_);(case side1=>repeat(first|exact(Yt Zi.out HB.out)|(with_reducible refine Kd.C_alloc ?_ _)|(with_reducible refine Kd.C_drewN ?_ _)|(with_reducible refine Kd.C_drew ?_)));(case side2=>exact Zn.out);rintro e w8 ⟨rfl,hb⟩;refine⟨_,rfl,?_⟩;have n0_:=Ya (Yn (g:=Wq) (o:= .cells #[.int .i64 Zb, .bool Zc, .slice Ze Za.length Zd] 24 (0,0)) (by(with_reducible repeat(first|refine Yl ?_ _|refine Ym ?_|refine Yj ?_ _));exact Xf.out) hb);have n1_:=Ya (Yk (by repeat(first|(with_reducible first|exact HB.out|apply Ye|apply Yd|apply Yg|refine Yh ?_ GE184.out)|exact HB.out)) hb);clear Xf;clear HB;have Xf:=n0_;have HB:=n1_;clear n0_ n1_;(try clear hb);(try clear hb2);(try clear hk);(try clear hi);have hcz9_0:w8.cell? ⟨Wq,0,none⟩=some (.int .i64 Zb):=(Yc Xf.out 0).trans rfl;have hcz9_1:w8.cell? ⟨Wq,1,none⟩=some (.bool Zc):=(Yc Xf.out 1).trans rfl;have hcz9_2:w8.cell? ⟨Wq,2,none⟩=some (.slice Ze Za.length Zd):=(Yc Xf.out 2).trans rfl;have hfz9_0:=Yf Xf.out 0;have hfz9_1:=Yf Xf.out 1;have hfz9_2:=Yf Xf.out 2));go_loopg [21] k (fun kq v21 w'=> ∃ (Wh:Int),v21= .int .i64 Wh∧Aside0 (static_Asked.l0 kq l1 (l1.length:Int) Wh Zb Zc Za=some r)∧Aside0 (kq≤k)∧Aside0 (w'.heap[Wq]? =some (.cells #[.int .i64 Zb, .bool Zc,(.slice Ze Za.length Zd)] 24 (0,0)))∧Aside0 (Below w.heap.size w w'))
 case atStart=>exact⟨(0),(by first|rfl|(simp;done)|(simp[*];done)),H',⟨Nat.le_refl _⟩,⟨by(with_reducible repeat(first|refine Yl ?_ _|refine Ym ?_|refine Yj ?_ _));exact Xf.out⟩,⟨by repeat(first|(with_reducible first|exact HB.out|apply Ye|apply Yd|apply Yg|refine Yh ?_ GE184.out)|exact HB.out)⟩⟩
 case round=>
  clear H';try clear c1
  try clear p2
  try clear c4
  try clear c4b0
  try clear c4b1
  try clear c5
  try clear c5b0
  try clear c5b1
  try clear c5b2
  try clear c9
  try clear hcz7_0
  try clear hcz7_1
  try clear hcz7_2
  try clear hcz9_0
  try clear hcz9_1
  try clear hcz9_2
  try clear hfz7_0
  try clear hfz7_1
  try clear hfz7_2
  try clear hfz9_0
  try clear hfz9_1
  try clear hfz9_2
  obtain⟨Wh,rfl,HA,HK1,Xf,HB⟩:=hrel;cases gk with
  |zero=>exact absurd HA.out (by simp[static_Asked.l0])
  |succ k1=>
   have H:=HA.out;clear HA;simp only[static_Asked.l0] at H;by_cases c10:Wh<(l1.length:Int)
   rotate_left
   ·rw[Yy c10] at H
    have c10b0:decide (Wh<(l1.length:Int))=false:=Yw c10;clear c10;obtain rfl:=Option.some.inj H;go_wp2;go_ret;exact⟨by first|rfl|(simp[errW_none,errW_some]<;>rfl)|(simp[*,errW_none,errW_some]<;>rfl),by repeat(first|(with_reducible first|exact HB.out|apply Ye|apply Yd|apply Yg|refine Yh ?_ GE184.out)|exact HB.out)⟩
   rw[Yx c10] at H;have c10b0:decide (Wh<(l1.length:Int))=true:=Yv c10;clear c10;by_cases c11:0≤Wh
   rotate_left
   ·rw[Yy c11] at H
    exact absurd H (by simp)
   rw[Yx c11] at H;have c11b0:decide (0≤Wh)=true:=Yv c11;clear c11;by_cases c12:Wh<(l1.length:Int)
   rotate_left
   ·rw[Yy c12] at H
    exact absurd H (by simp)
   rw[Yx c12] at H;have c12b0:decide (Wh<(l1.length:Int))=true:=Yv c12;clear c12;by_cases c13:(rd l1 Wh)<0
   ·rw[Yx c13] at H
    have c13b0:decide ((rd l1 Wh)<0)=true:=Yv c13;clear c13;obtain rfl:=Option.some.inj H;have p186:0≤(Wh:Int):=Yu (by first|(with_reducible assumption)|assumption);have q186:Wh<(l1.length:Int):=Yu (by first|(with_reducible assumption)|assumption);obtain⟨ad186,e186,Ul⟩:=Kd.at_int HR1.out Wh p186 q186;cases e186;replace Ul:=(HB.out.cell (Yb w _ Ul)).trans Ul;replace p186:=eq_true p186;replace q186:=eq_true q186;go_wp2;go_ret;exact⟨by first|rfl|(simp[errW_none,errW_some]<;>rfl)|(simp[*,errW_none,errW_some]<;>rfl),by repeat(first|(with_reducible first|exact HB.out|apply Ye|apply Yd|apply Yg|refine Yh ?_ GE184.out)|exact HB.out)⟩
   rw[Yy c13] at H;have c13b0:decide ((rd l1 Wh)<0)=false:=Yw c13;clear c13;by_cases c14:Wh<(Za.length:Int)
   rotate_left
   ·rw[Yy c14] at H
    exact absurd H (by simp)
   rw[Yx c14] at H;have c14b0:decide (Wh<(Za.length:Int))=true:=Yv c14;clear c14;by_cases c15:(rd l1 Wh)>((rd_T74 Za Wh).f2)
   ·rw[Yx c15] at H
    have c15b0:decide (((rd_T74 Za Wh).f2)<(rd l1 Wh))=true:=Yv c15;clear c15;obtain rfl:=Option.some.inj H;have p186:0≤(Wh:Int):=Yu (by first|(with_reducible assumption)|assumption);have q186:Wh<(l1.length:Int):=Yu (by first|(with_reducible assumption)|assumption);obtain⟨ad186,e186,Ul⟩:=Kd.at_int HR1.out Wh p186 q186;cases e186;replace Ul:=(HB.out.cell (Yb w _ Ul)).trans Ul;replace p186:=eq_true p186;replace q186:=eq_true q186;have hcz16_0:wr.cell? ⟨Wq,0,none⟩=some (.int .i64 Zb):=(Yc Xf.out 0).trans rfl;have hcz16_1:wr.cell? ⟨Wq,1,none⟩=some (.bool Zc):=(Yc Xf.out 1).trans rfl;have hcz16_2:wr.cell? ⟨Wq,2,none⟩=some (.slice Ze Za.length Zd):=(Yc Xf.out 2).trans rfl;have hfz16_0:=Yf Xf.out 0;have hfz16_1:=Yf Xf.out 1;have hfz16_2:=Yf Xf.out 2;have p187:0≤(Wh:Int):=Yu (by first|(with_reducible assumption)|assumption);have q187:Wh<(Za.length:Int):=Yu (by first|(with_reducible assumption)|assumption);obtain⟨ad187,e187,hx187_0,hx187_1,hx187_2,hx187_3⟩:=at_T74 Zi.out Wh p187 q187;cases e187;replace hx187_0:=(HB.out.cell (Yb w _ hx187_0)).trans hx187_0;replace hx187_1:=(HB.out.cell (Yb w _ hx187_1)).trans hx187_1;replace hx187_2:=(HB.out.cell (Yb w _ hx187_2)).trans hx187_2;replace hx187_3:=(HB.out.cell (Yb w _ hx187_3)).trans hx187_3;replace p187:=eq_true p187;replace q187:=eq_true q187;go_wp2;go_ret;exact⟨by first|rfl|(simp[errW_none,errW_some]<;>rfl)|(simp[*,errW_none,errW_some]<;>rfl),by repeat(first|(with_reducible first|exact HB.out|apply Ye|apply Yd|apply Yg|refine Yh ?_ GE184.out)|exact HB.out)⟩
   rw[Yy c15] at H;have c15b0:decide (((rd_T74 Za Wh).f2)<(rd l1 Wh))=false:=Yw c15;clear c15;have H':=Ya H;clear H;have p186:0≤(Wh:Int):=Yu (by first|(with_reducible assumption)|assumption);have q186:Wh<(l1.length:Int):=Yu (by first|(with_reducible assumption)|assumption);obtain⟨ad186,e186,Ul⟩:=Kd.at_int HR1.out Wh p186 q186;cases e186;replace Ul:=(HB.out.cell (Yb w _ Ul)).trans Ul;replace p186:=eq_true p186;replace q186:=eq_true q186;have hcz17_0:wr.cell? ⟨Wq,0,none⟩=some (.int .i64 Zb):=(Yc Xf.out 0).trans rfl;have hcz17_1:wr.cell? ⟨Wq,1,none⟩=some (.bool Zc):=(Yc Xf.out 1).trans rfl;have hcz17_2:wr.cell? ⟨Wq,2,none⟩=some (.slice Ze Za.length Zd):=(Yc Xf.out 2).trans rfl;have hfz17_0:=Yf Xf.out 0;have hfz17_1:=Yf Xf.out 1;have hfz17_2:=Yf Xf.out 2;have p187:0≤(Wh:Int):=Yu (by first|(with_reducible assumption)|assumption);have q187:Wh<(Za.length:Int):=Yu (by first|(with_reducible assumption)|assumption);obtain⟨ad187,e187,hx187_0,hx187_1,hx187_2,hx187_3⟩:=at_T74 Zi.out Wh p187 q187;cases e187;replace hx187_0:=(HB.out.cell (Yb w _ hx187_0)).trans hx187_0;replace hx187_1:=(HB.out.cell (Yb w _ hx187_1)).trans hx187_1;replace hx187_2:=(HB.out.cell (Yb w _ hx187_2)).trans hx187_2;replace hx187_3:=(HB.out.cell (Yb w _ hx187_3)).trans hx187_3;replace p187:=eq_true p187;replace q187:=eq_true q187;go_wp2;go_roundg k1
   case measure=>have:=HK1.out;omega
   case rel=>exact⟨(wrap64 (Wh+1)),(by first|rfl|(simp;done)|(simp[*];done)),H',⟨by have:=HK1.out;omega⟩,⟨by(with_reducible repeat(first|refine Yl ?_ _|refine Ym ?_|refine Yj ?_ _));exact Xf.out⟩,⟨by repeat(first|(with_reducible first|exact HB.out|apply Ye|apply Yd|apply Yg|refine Yh ?_ GE184.out)|exact HB.out)⟩⟩
end P
namespace P
attribute [local go_sem] max2_int min2_int max_two min_two max_three min_three max_four min_four
def static_Balance.l0:Nat→List Int→List Int→List (S74)→Int→Int→Option (List Int × Int)
 |0,_,_,_,_,_=>none
 |k+1,x1,x7,x20,x21,x22=>if x22<x21 then(if 0≤x22 then(if x22<(x20.length:Int) then(if 0≤((rd_T74 x20 x22).f0) then(if ((rd_T74 x20 x22).f0)<(x7.length:Int) then(if x22<(x1.length:Int) then((some (x7.set (((rd_T74 x20 x22).f0):Int).toNat (wrap64 ((rd x7 ((rd_T74 x20 x22).f0))+(rd x1 x22))):List Int)).bind fun y714=>(if 0≤((rd_T74 x20 x22).f1) then(if ((rd_T74 x20 x22).f1)<(x7.length:Int) then(static_Balance.l0 k x1 (y714.set (((rd_T74 x20 x22).f1):Int).toNat (wrap64 ((rd y714 ((rd_T74 x20 x22).f1)) - (rd x1 x22)))) x20 x21 (wrap64 (x22+1))) else(none)) else(none))) else(none)) else(none)) else(none)) else(none)) else(none)) else(some (x7,0))
def static_Balance.f (k:Nat) (Zb:Int) (Zc:Bool) (Za:List (S74)) (l1:List Int):Option (List Int × Int):=(static_Asked.f k Zb Zc Za l1).bind fun t706=>(if t706=0 then(if 0≤Zb then(if (Zb:Int).toNat≤35184372088832 then(static_Balance.l0 k l1 (List.replicate (Zb:Int).toNat 0) Za (Za.length:Int) 0) else(none)) else(none)) else(some (([]:List Int),t706)))
def static_Balance.T8:Bool × List (List Nat × List Nat):=(true,[([],[]),([],[]),([1],[1]),([0,2],[0,2]),([3],[3]),([],[]),([],[]),([5,6],[5,6]),([7],[7]),([4,8],[4,8]),([0,2,0,1,2,3,4,5,6,7,8,9],[0,2]),([10,9,0,1,2,3,4,5,6,7,8,9],[9,10])])
def static_Balance.B8:List Nat:=[0,0,2,7,15,0,0,96,224,511,1023,2047]
theorem static_Balance.tab8:rtab .any (opsOf Try.f150 8)=static_Balance.T8:=by kernel_rfl
theorem static_Balance.bits8:waitsOk static_Balance.T8.2 static_Balance.B8=true:=by kernel_rfl
def static_Balance.T9:Bool × List (List Nat × List Nat):=(true,[([],[]),([],[]),([1],[1]),([0,2],[0,2]),([3],[3]),([],[]),([],[]),([5,6],[5,6]),([7],[7]),([4,8],[4,8]),([0,2,0,1,2,3,4,5,6,7,8,9],[0,2]),([10,9,0,1,2,3,4,5,6,7,8,9],[9,10])])
def static_Balance.B9:List Nat:=[0,0,2,7,15,0,0,96,224,511,1023,2047]
theorem static_Balance.tab9:rtab .any (opsOf Try.f150 9)=static_Balance.T9:=by kernel_rfl
theorem static_Balance.bits9:waitsOk static_Balance.T9.2 static_Balance.B9=true:=by kernel_rfl
set_option maxHeartbeats 8000000 in
set_option maxRecDepth 100000 in
theorem static_Balance.calls (k:Nat) (Zb:Int) (Zc:Bool) (Ze:Option Addr) (Zd:Nat) (Za:List (S74)) (A1:Option Addr) (c1:Nat) (l1:List Int) (r1:List Int) (r2:Int) (w:World) (Zr:Kd.C k74 w Ze Za.length Za) (Zs:Za.length≤Zd) (hr1:Kd.C (Kd.int .i64) w A1 l1.length l1) (hc1:l1.length≤c1) (h:static_Balance.f k Zb Zc Za l1=some (r1,r2)):
  Calls Try.prog 150 #[.agg #[.int .i64 Zb, .bool Zc, .slice Ze Za.length Zd], .slice A1 l1.length c1] w fun e w'=> ∃ v0_:Value,e= .returned (.tuple #[v0_, .int .i64 r2])∧Kd.R (Kd.int .i64) 3 w' w.heap.size (fun _=>True) v0_ r1∧Below w.heap.size w w':=by
 have hu24:=Try.underlying24;have hu74:=Try.underlying74;have Zi:=Ya Zr;have Zn:=Ya Zs;clear Zr Zs;have HR1:=Ya hr1;have HC1:=Ya hc1;clear hr1 hc1;have HB:=Ya (Yo w.heap.size w);have H:((static_Asked.f k Zb Zc Za l1).bind fun t706=>(if t706=0 then(if 0≤Zb then(if (Zb:Int).toNat≤35184372088832 then(static_Balance.l0 k l1 (List.replicate (Zb:Int).toNat 0) Za (Za.length:Int) 0) else(none)) else(none)) else(some (([]:List Int),t706))))=some (r1,r2):=h;clear h;replace H:=Option.bind_eq_some_iff.mp H;obtain⟨t706,A30,H⟩:=H;replace H:(if t706=0 then(if 0≤Zb then(if (Zb:Int).toNat≤35184372088832 then(static_Balance.l0 k l1 (List.replicate (Zb:Int).toNat 0) Za (Za.length:Int) 0) else(none)) else(none)) else(some (([]:List Int),t706)))=some (r1,r2):=H;have A3:=Ya A30;clear A30;by_cases c4:t706=0
 rotate_left
 ·rw[Yy c4] at H
  have c4b0:(t706 == 0)=false:=beq_eq_false_iff_ne.mpr c4;have c4b1:(t706 != 0)=true:=bne_iff_ne.mpr c4;simp only[Option.some.injEq,Prod.mk.injEq] at H;obtain⟨rfl,rfl⟩:=H;go_enter Try.func150,Try.ntmps150;go_wp2_with (first|((with_reducible refine gate_dst (N:=2) rfl ?_);refine Yz ?hg (N:=2) ?hd (cs:= #[.int .i64 Zb, .bool Zc, .slice Ze Za.length Zd]) (t:=24) ?hr ?_;(case hd=>rfl);(case hg=>rfl);(case hr=>first|(go_simp;done)|(go_simp;rfl));intro Wx hg w34 Zg hb;have n0_:=Ya (Yk (by repeat(first|(with_reducible first|exact HB.out|apply Ye|apply Yd|apply Yg)|exact HB.out)) hb);have n1_:=Ya (Zg);have n2_:=Ya ((by rw[hg];exact(Yi (by repeat(first|(with_reducible first|exact HB.out|apply Ye|apply Yd|apply Yg)|exact HB.out))):w.heap.size≤Wx));have n3_:=Ya ((by rw[hg];exact(Yi (by repeat(first|(with_reducible first|exact HB.out|apply Ye|apply Yd|apply Yg)|exact HB.out))):w.heap.size≤Wx));clear HB;have HB:=n0_;have Xd:=n1_;have GW705:=n2_;have GE705:=n3_;clear n0_ n1_ n2_ n3_;clear hb Zg hg;have hcz35_0:w34.cell? ⟨Wx,0,none⟩=some (.int .i64 Zb):=(Yc Xd.out 0).trans rfl;have hcz35_1:w34.cell? ⟨Wx,1,none⟩=some (.bool Zc):=(Yc Xd.out 1).trans rfl;have hcz35_2:w34.cell? ⟨Wx,2,none⟩=some (.slice Ze Za.length Zd):=(Yc Xd.out 2).trans rfl;have hfz35_0:=Yf Xd.out 0;have hfz35_1:=Yf Xd.out 1;have hfz35_2:=Yf Xd.out 2)|((with_reducible refine gate_callee (f:=96) rfl ?_);refine goesL_ (some 12) rfl rfl Try.func96 (by kernel_rfl) rfl #[.agg #[.int .i64 Zb, .bool Zc, .slice Ze Za.length Zd], .slice A1 l1.length c1] rfl (by(try simp only[List.map_toArray,List.map_cons,List.map_nil]);first|done|rfl|(simp only[List.length_drop,List.length_take];rfl)) ?_;(with_reducible refine(static_Asked.calls k Zb Zc _ _ Za _ _ l1 t706 _ ?side1 ?side2 ?side3 ?side4 A3.out).mono ?_);(case side1=>repeat(first|exact(Yt Zi.out HB.out)|(with_reducible refine Kd.C_alloc ?_ _)|(with_reducible refine Kd.C_drewN ?_ _)|(with_reducible refine Kd.C_drew ?_)));(case side2=>exact Zn.out);(case side3=>repeat(first|exact(Yt HR1.out HB.out)|(with_reducible refine Kd.C_alloc ?_ _)|(with_reducible refine Kd.C_drewN ?_ _)|(with_reducible refine Kd.C_drew ?_)));(case side4=>exact HC1.out);rintro e w36 ⟨rfl,hb⟩;refine⟨_,rfl,?_⟩;have n0_:=Ya (Yn (g:=Wx) (o:= .cells #[.int .i64 Zb, .bool Zc, .slice Ze Za.length Zd] 24 (0,0)) (by(with_reducible repeat(first|refine Yl ?_ _|refine Ym ?_|refine Yj ?_ _));exact Xd.out) hb);have n1_:=Ya (Yk (by repeat(first|(with_reducible first|exact HB.out|apply Ye|apply Yd|apply Yg|refine Yh ?_ GE705.out)|exact HB.out)) hb);clear Xd;clear HB;have Xd:=n0_;have HB:=n1_;clear n0_ n1_;(try clear hb);(try clear hb2);(try clear hk);(try clear hi)));go_ret2;exact⟨_,by first|rfl|(simp[errW_none,errW_some]<;>rfl)|(simp[*,errW_none,errW_some]<;>rfl),by first|exact Kd.R_nil _ _ _ _ _|exact Kd.N_nil _ _ _ _ _|exact Kd.V_nil _ _ _ _ _|exact Kd.Q_nil _ _ _ _ _|exact Kd.S_nil _ _ _ _ _,by repeat(first|(with_reducible first|exact HB.out|apply Ye|apply Yd|apply Yg|refine Yh ?_ GE705.out)|exact HB.out)⟩
 rw[Yx c4] at H;have c4b0:(t706 == 0)=true:=beq_iff_eq.mpr c4;have c4b1:(t706 != 0)=false:=bne_eq_false_iff_eq.mpr c4;clear c4;by_cases c5:0≤Zb
 rotate_left
 ·rw[Yy c5] at H
  exact absurd H (by simp)
 rw[Yx c5] at H;have c5b0:=eq_true c5;have c5b1:decide (0≤Zb)=true:=Yv c5;clear c5;by_cases c6:(Zb:Int).toNat≤35184372088832
 rotate_left
 ·rw[Yy c6] at H
  exact absurd H (by simp)
 rw[Yx c6] at H;have c6b0:=eq_true c6;have c6b1:decide ((Zb:Int).toNat≤35184372088832)=true:=Yv c6;clear c6;obtain⟨y707,hy707⟩: ∃ y_:List Int,y_=(List.replicate (Zb:Int).toNat 0):=⟨_,rfl⟩;replace H:(static_Balance.l0 k l1 y707 Za (Za.length:Int) 0)=some (r1,r2):=by first|(rw[hy707];with_reducible exact H)|(have H2_:=(Option.bind_some _ _).symm.trans H;rw[hy707];with_reducible exact H2_)|(have H2_:=(Option.bind_some _ _).symm.trans H;with_reducible exact H2_)|with_reducible exact H|(rw[hy707];exact H)|exact H
 have Ny707:=Ya hy707;clear hy707;have H':=Ya H;clear H;go_enter Try.func150,Try.ntmps150;go_wp2_with (first|((with_reducible refine gate_dst (N:=2) rfl ?_);refine Yz ?hg (N:=2) ?hd (cs:= #[.int .i64 Zb, .bool Zc, .slice Ze Za.length Zd]) (t:=24) ?hr ?_;(case hd=>rfl);(case hg=>rfl);(case hr=>first|(go_simp;done)|(go_simp;rfl));intro Wx hg w7 Zg hb;have n0_:=Ya (Yk (by repeat(first|(with_reducible first|exact HB.out|apply Ye|apply Yd|apply Yg)|exact HB.out)) hb);have n1_:=Ya (Zg);have n2_:=Ya ((by rw[hg];exact(Yi (by repeat(first|(with_reducible first|exact HB.out|apply Ye|apply Yd|apply Yg)|exact HB.out))):w.heap.size≤Wx));have n3_:=Ya ((by rw[hg];exact(Yi (by repeat(first|(with_reducible first|exact HB.out|apply Ye|apply Yd|apply Yg)|exact HB.out))):w.heap.size≤Wx));clear HB;have HB:=n0_;have Xd:=n1_;have GW705:=n2_;have GE705:=n3_;clear n0_ n1_ n2_ n3_;clear hb Zg hg;have Vo:w7.cell? ⟨Wx,0,none⟩=some (.int .i64 Zb):=(Yc Xd.out 0).trans rfl;have Vp:w7.cell? ⟨Wx,1,none⟩=some (.bool Zc):=(Yc Xd.out 1).trans rfl;have Vq:w7.cell? ⟨Wx,2,none⟩=some (.slice Ze Za.length Zd):=(Yc Xd.out 2).trans rfl;have Vr:=Yf Xd.out 0;have Vs:=Yf Xd.out 1;have Vt:=Yf Xd.out 2)|((with_reducible refine gate_callee (f:=96) rfl ?_);refine goesL_ (some 12) rfl rfl Try.func96 (by kernel_rfl) rfl #[.agg #[.int .i64 Zb, .bool Zc, .slice Ze Za.length Zd], .slice A1 l1.length c1] rfl (by(try simp only[List.map_toArray,List.map_cons,List.map_nil]);first|done|rfl|(simp only[List.length_drop,List.length_take];rfl)) ?_;(with_reducible refine(static_Asked.calls k Zb Zc _ _ Za _ _ l1 t706 _ ?side1 ?side2 ?side3 ?side4 A3.out).mono ?_);(case side1=>repeat(first|exact(Yt Zi.out HB.out)|(with_reducible refine Kd.C_alloc ?_ _)|(with_reducible refine Kd.C_drewN ?_ _)|(with_reducible refine Kd.C_drew ?_)));(case side2=>exact Zn.out);(case side3=>repeat(first|exact(Yt HR1.out HB.out)|(with_reducible refine Kd.C_alloc ?_ _)|(with_reducible refine Kd.C_drewN ?_ _)|(with_reducible refine Kd.C_drew ?_)));(case side4=>exact HC1.out);rintro e w9 ⟨rfl,hb⟩;refine⟨_,rfl,?_⟩;have n0_:=Ya (Yn (g:=Wx) (o:= .cells #[.int .i64 Zb, .bool Zc, .slice Ze Za.length Zd] 24 (0,0)) (by(with_reducible repeat(first|refine Yl ?_ _|refine Ym ?_|refine Yj ?_ _));exact Xd.out) hb);have n1_:=Ya (Yk (by repeat(first|(with_reducible first|exact HB.out|apply Ye|apply Yd|apply Yg|refine Yh ?_ GE705.out)|exact HB.out)) hb);clear Xd;clear HB;have Xd:=n0_;have HB:=n1_;clear n0_ n1_;(try clear hb);(try clear hb2);(try clear hk);(try clear hi);have Vd:w9.cell? ⟨Wx,0,none⟩=some (.int .i64 Zb):=(Yc Xd.out 0).trans rfl;have Ve:w9.cell? ⟨Wx,1,none⟩=some (.bool Zc):=(Yc Xd.out 1).trans rfl;have Vf:w9.cell? ⟨Wx,2,none⟩=some (.slice Ze Za.length Zd):=(Yc Xd.out 2).trans rfl;have Vg:=Yf Xd.out 0;have Vh:=Yf Xd.out 1;have Vi:=Yf Xd.out 2)|((with_reducible refine gate_dst (N:=18) rfl ?_);refine Kd.R_make (Kd.int .i64) _ 3 rfl (N:=18) rfl 25 _ _ rfl Zb rfl rfl Try.underlying25 (.int .i64 0) 8 info3 rfl (by decide) (by omega) 0 (ok:=fun _=>True) (okp:=fun _=>True) rfl (fun _ hk=>hk) trivial (Yu (by first|(with_reducible assumption)|assumption)) (Nat.le_trans (Nat.mul_le_mul_right _ (Yu (by first|(with_reducible assumption)|assumption):Zb.toNat≤35184372088832)) (by omega)) (Yo _ _) (Nat.le_refl _) ?_;intro v708 w11 ho12 hb hg_ hnew_;clear hg_ hnew_;(first|rw[← Ny707.out] at ho12|(simp only[Int.reduceToNat] at ho12;rw[← Ny707.out] at ho12));have n0_:=Ya (Kd.R_lower ho12 (Yi (by repeat(first|(with_reducible first|exact HB.out|apply Ye|apply Yd|apply Yg|refine Yh ?_ GE705.out)|exact HB.out))));have n1_:=Ya (Yn (g:=Wx) (o:= .cells #[.int .i64 Zb, .bool Zc, .slice Ze Za.length Zd] 24 (0,0)) (by(with_reducible repeat(first|refine Yl ?_ _|refine Ym ?_|refine Yj ?_ _));exact Xd.out) hb);have n2_:=Ya (Yk (by repeat(first|(with_reducible first|exact HB.out|apply Ye|apply Yd|apply Yg|refine Yh ?_ GE705.out)|exact HB.out)) hb);clear Xd;clear HB;have HO709:=n0_;have Xd:=n1_;have HB:=n2_;clear n0_ n1_ n2_;clear hb ho12;have hcz13_0:w11.cell? ⟨Wx,0,none⟩=some (.int .i64 Zb):=(Yc Xd.out 0).trans rfl;have hcz13_1:w11.cell? ⟨Wx,1,none⟩=some (.bool Zc):=(Yc Xd.out 1).trans rfl;have hcz13_2:w11.cell? ⟨Wx,2,none⟩=some (.slice Ze Za.length Zd):=(Yc Xd.out 2).trans rfl;have hfz13_0:=Yf Xd.out 0;have hfz13_1:=Yf Xd.out 1;have hfz13_2:=Yf Xd.out 2));go_loopg [22] k (fun kq v22 w'=> ∃ (Wp:List Int) (Zf:Int),v22= .int .i64 Zf∧Aside0 (static_Balance.l0 kq l1 Wp Za (Za.length:Int) Zf=some (r1,r2))∧Aside0 (kq≤k)∧Aside0 (Kd.R (Kd.int .i64) 3 w' w.heap.size (fun _=>True) v708 Wp)∧Aside0 (w'.heap[Wx]? =some (.cells #[.int .i64 Zb, .bool Zc,(.slice Ze Za.length Zd)] 24 (0,0)))∧Aside0 (Below w.heap.size w w'))
 case atStart=>exact⟨(y707),(0),(by first|rfl|(simp;done)|(simp[*];done)),H',⟨Nat.le_refl _⟩,⟨by(with_reducible repeat(first|apply Yr|apply Yq|apply Yp));exact HO709.out⟩,⟨by(with_reducible repeat(first|refine Yl ?_ _|refine Ym ?_|refine Yj ?_ _));exact Xd.out⟩,⟨by repeat(first|(with_reducible first|exact HB.out|apply Ye|apply Yd|apply Yg|refine Yh ?_ GE705.out)|exact HB.out)⟩⟩
 case round=>
  clear H';try clear c1
  try clear p2
  try clear c4
  try clear c4b0
  try clear c4b1
  try clear c5
  try clear c5b0
  try clear c5b1
  try clear c6
  try clear c6b0
  try clear c6b1
  try clear c9
  try clear Vd
  try clear Ve
  try clear Vf
  try clear hcz13_0
  try clear hcz13_1
  try clear hcz13_2
  try clear Vo
  try clear Vp
  try clear Vq
  try clear Vg
  try clear Vh
  try clear Vi
  try clear hfz13_0
  try clear hfz13_1
  try clear hfz13_2
  try clear Vr
  try clear Vs
  try clear Vt
  obtain⟨Wp,Zf,rfl,HA,HK1,HO_7,Xd,HB⟩:=hrel;cases gk with
  |zero=>exact absurd HA.out (by simp[static_Balance.l0])
  |succ k1=>
   have H:=HA.out;clear HA;simp only[static_Balance.l0] at H;by_cases c14:Zf<(Za.length:Int)
   rotate_left
   ·rw[Yy c14] at H
    have c14b0:decide (Zf<(Za.length:Int))=false:=Yw c14;clear c14;simp only[Option.some.injEq,Prod.mk.injEq] at H;obtain⟨rfl,rfl⟩:=H;go_wp2;go_ret2;exact⟨_,by first|rfl|(simp[errW_none,errW_some]<;>rfl)|(simp[*,errW_none,errW_some]<;>rfl),by(with_reducible repeat(first|apply Yr|apply Yq|apply Yp));exact HO_7.out,by repeat(first|(with_reducible first|exact HB.out|apply Ye|apply Yd|apply Yg|refine Yh ?_ GE705.out)|exact HB.out)⟩
   rw[Yx c14] at H;have c14b0:decide (Zf<(Za.length:Int))=true:=Yv c14;clear c14;by_cases c15:0≤Zf
   rotate_left
   ·rw[Yy c15] at H
    exact absurd H (by simp)
   rw[Yx c15] at H;have c15b0:decide (0≤Zf)=true:=Yv c15;clear c15;by_cases c16:Zf<(Za.length:Int)
   rotate_left
   ·rw[Yy c16] at H
    exact absurd H (by simp)
   rw[Yx c16] at H;have c16b0:decide (Zf<(Za.length:Int))=true:=Yv c16;clear c16;by_cases c17:0≤((rd_T74 Za Zf).f0)
   rotate_left
   ·rw[Yy c17] at H
    exact absurd H (by simp)
   rw[Yx c17] at H;have c17b0:decide (0≤((rd_T74 Za Zf).f0))=true:=Yv c17;clear c17;by_cases c18:((rd_T74 Za Zf).f0)<(Wp.length:Int)
   rotate_left
   ·rw[Yy c18] at H
    exact absurd H (by simp)
   rw[Yx c18] at H;have c18b0:decide (((rd_T74 Za Zf).f0)<(Wp.length:Int))=true:=Yv c18;clear c18;by_cases c19:Zf<(l1.length:Int)
   rotate_left
   ·rw[Yy c19] at H
    exact absurd H (by simp)
   rw[Yx c19] at H;have c19b0:decide (Zf<(l1.length:Int))=true:=Yv c19;clear c19;obtain⟨y714,hy714⟩: ∃ y_:List Int,y_=(Wp.set (((rd_T74 Za Zf).f0):Int).toNat (wrap64 ((rd Wp ((rd_T74 Za Zf).f0))+(rd l1 Zf)))):=⟨_,rfl⟩;replace H:(if 0≤((rd_T74 Za Zf).f1) then(if ((rd_T74 Za Zf).f1)<(Wp.length:Int) then(static_Balance.l0 k1 l1 (y714.set (((rd_T74 Za Zf).f1):Int).toNat (wrap64 ((rd y714 ((rd_T74 Za Zf).f1)) - (rd l1 Zf)))) Za (Za.length:Int) (wrap64 (Zf+1))) else(none)) else(none))=some (r1,r2):=by first|(rw[hy714];with_reducible exact H)|(have H2_:=(Option.bind_some _ _).symm.trans H;rw[hy714];with_reducible exact H2_)|(have H2_:=(Option.bind_some _ _).symm.trans H;with_reducible exact H2_)|with_reducible exact H|(rw[hy714];exact H)|exact H
   have Ny714:=Ya hy714;clear hy714;by_cases c21:0≤((rd_T74 Za Zf).f1)
   rotate_left
   ·rw[Yy c21] at H
    exact absurd H (by simp)
   rw[Yx c21] at H;have c21b0:decide (0≤((rd_T74 Za Zf).f1))=true:=Yv c21;clear c21;by_cases c22:((rd_T74 Za Zf).f1)<(Wp.length:Int)
   rotate_left
   ·rw[Yy c22] at H
    exact absurd H (by simp)
   rw[Yx c22] at H;have c22b0:decide (((rd_T74 Za Zf).f1)<(Wp.length:Int))=true:=Yv c22;clear c22;obtain⟨y717,hy717⟩: ∃ y_:List Int,y_=(y714.set (((rd_T74 Za Zf).f1):Int).toNat (wrap64 ((rd y714 ((rd_T74 Za Zf).f1)) - (rd l1 Zf)))):=⟨_,rfl⟩;replace H:(static_Balance.l0 k1 l1 y717 Za (Za.length:Int) (wrap64 (Zf+1)))=some (r1,r2):=by first|(rw[hy717];with_reducible exact H)|(have H2_:=(Option.bind_some _ _).symm.trans H;rw[hy717];with_reducible exact H2_)|(have H2_:=(Option.bind_some _ _).symm.trans H;with_reducible exact H2_)|with_reducible exact H|(rw[hy717];exact H)|exact H
   have Ny717:=Ya hy717;clear hy717;have H':=Ya H;clear H;have p710:0≤(Zf:Int):=Yu (by first|(with_reducible assumption)|assumption);have q710:Zf<(Za.length:Int):=Yu (by first|(with_reducible assumption)|assumption);obtain⟨ad710,e710,hx710_0,hx710_1,hx710_2,hx710_3⟩:=at_T74 Zi.out Zf p710 q710;cases e710;replace hx710_0:=(HB.out.cell (Yb w _ hx710_0)).trans hx710_0;replace hx710_1:=(HB.out.cell (Yb w _ hx710_1)).trans hx710_1;replace hx710_2:=(HB.out.cell (Yb w _ hx710_2)).trans hx710_2;replace hx710_3:=(HB.out.cell (Yb w _ hx710_3)).trans hx710_3;replace p710:=eq_true p710;replace q710:=eq_true q710;try go_wp2_with (first|((with_reducible refine gate_dst (N:=9) rfl ?_);refine Yz ?hg (N:=9) ?hd (cs:= #[.int .i64 0, .int .i64 0, .int .i64 0, .int .i64 0]) (t:=74) ?hr ?_;(case hd=>rfl);(case hg=>rfl);(case hr=>first|(go_simp;done)|(go_simp;rfl));intro Xz hg w24 Zg hb;have n0_:=Ya (Ys (by(with_reducible repeat(first|apply Yr|apply Yq|apply Yp));exact HO_7.out) hb);have n1_:=Ya (Yn (g:=Wx) (o:= .cells #[.int .i64 Zb, .bool Zc, .slice (some ad710) Za.length Zd] 24 (0,0)) (by(with_reducible repeat(first|refine Yl ?_ _|refine Ym ?_|refine Yj ?_ _));exact Xd.out) hb);have n2_:=Ya (Yk (by repeat(first|(with_reducible first|exact HB.out|apply Ye|apply Yd|apply Yg|refine Yh ?_ GE705.out)|exact HB.out)) hb);have n3_:=Ya (Zg);have n4_:=Ya ((by rw[hg];exact(Yi (by repeat(first|(with_reducible first|exact HB.out|apply Ye|apply Yd|apply Yg|refine Yh ?_ GE705.out)|exact HB.out))):w.heap.size≤Xz));have n5_:=Ya ((by rw[hg];exact(Yi (by repeat(first|(with_reducible first|exact HB.out|apply Ye|apply Yd|apply Yg|refine Yh ?_ GE705.out)|exact HB.out))):w.heap.size≤Xz));have n6_:=Ya ((by rw[hg];exact Nat.ne_of_lt (blk_lt (g:=Wx) (o:= .cells #[.int .i64 Zb, .bool Zc, .slice (some ad710) Za.length Zd] 24 (0,0)) (by(with_reducible repeat(first|refine Yl ?_ _|refine Ym ?_|refine Yj ?_ _));exact Xd.out)):Wx≠Xz));have n7_:=Ya ((by rw[hg];exact Nat.ne_of_gt (blk_lt (g:=Wx) (o:= .cells #[.int .i64 Zb, .bool Zc, .slice (some ad710) Za.length Zd] 24 (0,0)) (by(with_reducible repeat(first|refine Yl ?_ _|refine Ym ?_|refine Yj ?_ _));exact Xd.out)):Xz≠Wx));clear HO_7;clear Xd;clear HB;have HO_7:=n0_;have Xd:=n1_;have HB:=n2_;have Wr:=n3_;have GW711:=n4_;have GE711:=n5_;have NB705_711:=n6_;have NB711_705:=n7_;clear n0_ n1_ n2_ n3_ n4_ n5_ n6_ n7_;clear hb Zg hg;have hnb25:=NB711_705.out;have hnc25:=NB705_711.out;have hcz26_0:w24.cell? ⟨Xz,0,none⟩=some (.int .i64 0):=(Yc Wr.out 0).trans rfl;have hcz26_1:w24.cell? ⟨Xz,1,none⟩=some (.int .i64 0):=(Yc Wr.out 1).trans rfl;have hcz26_2:w24.cell? ⟨Xz,2,none⟩=some (.int .i64 0):=(Yc Wr.out 2).trans rfl;have hcz26_3:w24.cell? ⟨Xz,3,none⟩=some (.int .i64 0):=(Yc Wr.out 3).trans rfl;have hfz26_0:=Yf Wr.out 0;have hfz26_1:=Yf Wr.out 1;have hfz26_2:=Yf Wr.out 2;have hfz26_3:=Yf Wr.out 3))
   have n0_:Aside0 (Kd.R (Kd.int .i64) 3 ((((w24.setCell ⟨Xz,0,none⟩ (.int .i64 ((rd_T74 Za Zf).f0))).setCell ⟨Xz,1,none⟩ (.int .i64 ((rd_T74 Za Zf).f1))).setCell ⟨Xz,2,none⟩ (.int .i64 ((rd_T74 Za Zf).f2))).setCell ⟨Xz,3,none⟩ (.int .i64 ((rd_T74 Za Zf).f3))) w.heap.size (fun _=>True) v708 Wp):=⟨by(with_reducible repeat(first|apply Yr|apply Yq|apply Yp));exact Kd.R_mono (Kd.R_far (p:=⟨Xz,3,none⟩) (Kd.R_far (p:=⟨Xz,2,none⟩) (Kd.R_far (p:=⟨Xz,1,none⟩) (Kd.R_far (p:=⟨Xz,0,none⟩) (Kd.R_types HO_7.out Wr.out (by decide)) (fun _ hk=>hk.2) (.int .i64 ((rd_T74 Za Zf).f0))) (fun _ hk=>hk.2) (.int .i64 ((rd_T74 Za Zf).f1))) (fun _ hk=>hk.2) (.int .i64 ((rd_T74 Za Zf).f2))) (fun _ hk=>hk.2) (.int .i64 ((rd_T74 Za Zf).f3))) (fun _ hk=>trivial)⟩;have n1_:Aside0 (((((w24.setCell ⟨Xz,0,none⟩ (.int .i64 ((rd_T74 Za Zf).f0))).setCell ⟨Xz,1,none⟩ (.int .i64 ((rd_T74 Za Zf).f1))).setCell ⟨Xz,2,none⟩ (.int .i64 ((rd_T74 Za Zf).f2))).setCell ⟨Xz,3,none⟩ (.int .i64 ((rd_T74 Za Zf).f3))).heap[Wx]? =some (.cells #[.int .i64 Zb, .bool Zc, .slice (some ad710) Za.length Zd] 24 (0,0))):=⟨by(with_reducible repeat(first|refine Yl ?_ _|refine Ym ?_|refine Yj ?_ _));refine blk_far ?_ NB705_711.out _;(with_reducible repeat(first|refine Yl ?_ _|refine Ym ?_|refine Yj ?_ _));refine blk_far ?_ NB705_711.out _;(with_reducible repeat(first|refine Yl ?_ _|refine Ym ?_|refine Yj ?_ _));refine blk_far ?_ NB705_711.out _;(with_reducible repeat(first|refine Yl ?_ _|refine Ym ?_|refine Yj ?_ _));refine blk_far ?_ NB705_711.out _;(with_reducible repeat(first|refine Yl ?_ _|refine Ym ?_|refine Yj ?_ _));exact Xd.out⟩;have n2_:Aside0 (((((w24.setCell ⟨Xz,0,none⟩ (.int .i64 ((rd_T74 Za Zf).f0))).setCell ⟨Xz,1,none⟩ (.int .i64 ((rd_T74 Za Zf).f1))).setCell ⟨Xz,2,none⟩ (.int .i64 ((rd_T74 Za Zf).f2))).setCell ⟨Xz,3,none⟩ (.int .i64 ((rd_T74 Za Zf).f3))).heap[Xz]? =some (.cells #[.int .i64 ((rd_T74 Za Zf).f0), .int .i64 ((rd_T74 Za Zf).f1), .int .i64 ((rd_T74 Za Zf).f2), .int .i64 ((rd_T74 Za Zf).f3)] 74 (0,0))):=⟨by(with_reducible repeat(first|refine Yl ?_ _|refine Ym ?_|refine Yj ?_ _));refine YA (cs:= #[.int .i64 ((rd_T74 Za Zf).f0), .int .i64 ((rd_T74 Za Zf).f1), .int .i64 ((rd_T74 Za Zf).f2), .int .i64 0]) ?_ 3 _ rfl;(with_reducible repeat(first|refine Yl ?_ _|refine Ym ?_|refine Yj ?_ _));refine YA (cs:= #[.int .i64 ((rd_T74 Za Zf).f0), .int .i64 ((rd_T74 Za Zf).f1), .int .i64 0, .int .i64 0]) ?_ 2 _ rfl;(with_reducible repeat(first|refine Yl ?_ _|refine Ym ?_|refine Yj ?_ _));refine YA (cs:= #[.int .i64 ((rd_T74 Za Zf).f0), .int .i64 0, .int .i64 0, .int .i64 0]) ?_ 1 _ rfl;(with_reducible repeat(first|refine Yl ?_ _|refine Ym ?_|refine Yj ?_ _));refine YA (cs:= #[.int .i64 0, .int .i64 0, .int .i64 0, .int .i64 0]) ?_ 0 _ rfl;(with_reducible repeat(first|refine Yl ?_ _|refine Ym ?_|refine Yj ?_ _));exact Wr.out⟩;have n3_:Aside0 (Below w.heap.size w ((((w24.setCell ⟨Xz,0,none⟩ (.int .i64 ((rd_T74 Za Zf).f0))).setCell ⟨Xz,1,none⟩ (.int .i64 ((rd_T74 Za Zf).f1))).setCell ⟨Xz,2,none⟩ (.int .i64 ((rd_T74 Za Zf).f2))).setCell ⟨Xz,3,none⟩ (.int .i64 ((rd_T74 Za Zf).f3)))):=⟨by repeat(first|(with_reducible first|exact HB.out|apply Ye|apply Yd|apply Yg|refine Yh ?_ GE705.out|refine Yh ?_ GE711.out)|exact HB.out)⟩
   (try clear HO_7)
   (try clear Xd)
   (try clear Wr)
   (try clear HB)
   generalize ((((w24.setCell ⟨Xz,0,none⟩ (.int .i64 ((rd_T74 Za Zf).f0))).setCell ⟨Xz,1,none⟩ (.int .i64 ((rd_T74 Za Zf).f1))).setCell ⟨Xz,2,none⟩ (.int .i64 ((rd_T74 Za Zf).f2))).setCell ⟨Xz,3,none⟩ (.int .i64 ((rd_T74 Za Zf).f3)))=w27 at n0_ n1_ n2_ n3_ ⊢;have HO_7:=n0_;have Xd:=n1_;have Wr:=n2_;have HB:=n3_;clear n0_ n1_ n2_ n3_;have n0_:=Ya (Yp HO_7.out);have n1_:=Ya (Ym Xd.out);have n2_:=Ya (Ym Wr.out);have n3_:=Ya (Yg HB.out);clear HO_7;clear Xd;clear Wr;clear HB;have HO_7:=n0_;have Xd:=n1_;have Wr:=n2_;have HB:=n3_;clear n0_ n1_ n2_ n3_;obtain⟨Ao29,co29,eo29⟩:=Kd.R_slice HO_7.out
   (first|subst eo29|(injection eo29 with f1_ f2_ f3_;have f4_:=f1_.symm;have f5_:=f3_.symm;clear f1_ f2_ f3_;subst f4_;subst f5_))
   have p712:0≤(((rd_T74 Za Zf).f0):Int):=Yu (by first|(with_reducible assumption)|assumption);have q712:((rd_T74 Za Zf).f0)<(Wp.length:Int):=Yu (by first|(with_reducible assumption)|assumption);obtain⟨ad712,e712,hx712_0⟩:=Kd.at_int (Kd.R_reads' HO_7.out).2.2 ((rd_T74 Za Zf).f0) p712 q712;cases e712;replace p712:=eq_true p712;replace q712:=eq_true q712;have p713:0≤(Zf:Int):=Yu (by first|(with_reducible assumption)|assumption);have q713:Zf<(l1.length:Int):=Yu (by first|(with_reducible assumption)|assumption);obtain⟨ad713,e713,hx713_0⟩:=Kd.at_int HR1.out Zf p713 q713;have hw713_0:=hx713_0;cases e713;replace hx713_0:=(HB.out.cell (Yb w _ hx713_0)).trans hx713_0;replace p713:=eq_true p713;replace q713:=eq_true q713;have p20:0≤(((rd_T74 Za Zf).f0):Int):=Yu (by first|(with_reducible assumption)|assumption);have q20:(((rd_T74 Za Zf).f0):Int)<((Wp.length:Int):Int):=Yu (by first|(with_reducible assumption)|assumption);obtain⟨go20,co20,eo20,gb20,gl20,cl20,HG20⟩:=Kd.R_form HO_7.out (by omega)
   (first|cases eo20|(injection eo20 with ea_ en_ ec_;(first|subst ea_|(injection ea_ with ea_;subst ea_));subst ec_;clear en_))
   have GB20:=Ya gb20;have GG20:=Ya HG20;clear gb20 gl20 HG20
   (first|simp only[add_plain] at hx712_0|skip)
   obtain⟨hx20_0,hf20_0⟩:=Kd.R_celln 0 HO_7.out (((rd_T74 Za Zf).f0):Int) p20 q20;replace p20:=eq_true p20;replace q20:=eq_true q20;have HP30:=Kd.R_putn HO_7.out (((rd_T74 Za Zf).f0):Int) (wrap64 ((rd Wp ((rd_T74 Za Zf).f0))+(rd l1 Zf)));rw[← Ny714.out] at HP30;have HQ30:=Ya HP30;clear HP30;refine start_ (n:=12) (S:=fun w'=>w'.cell? ⟨Xz,0,none⟩=some (.int .i64 ((rd_T74 Za Zf).f0))∧w'.cell? ⟨Xz,1,none⟩=some (.int .i64 ((rd_T74 Za Zf).f1))∧w'.cell? ⟨Xz,2,none⟩=some (.int .i64 ((rd_T74 Za Zf).f2))∧w'.cell? ⟨Xz,3,none⟩=some (.int .i64 ((rd_T74 Za Zf).f3))∧w'.cell? ⟨go20,(((rd_T74 Za Zf).f0)).toNat,none⟩=some (.int .i64 (rd Wp ((rd_T74 Za Zf).f0)))∧w'.cell? (ad713.add (Zf).toNat)=some (.int .i64 (rd l1 Zf))) (ds:=[11]) #[false,false,false,false,false,false,false,false,false,false,false,false] (by kernel_rfl) rfl rfl ⟨(Yc Wr.out 0).trans rfl,(Yc Wr.out 1).trans rfl,(Yc Wr.out 2).trans rfl,(Yc Wr.out 3).trans rfl,hx712_0,((HB.out.cell (Yb w _ hw713_0)).trans hw713_0)⟩ (fun hHeld=> ?_);refine with_tabW static_Balance.tab8 static_Balance.bits8 (fun HT_ HW_=> ?_);generalize w27.drew=w28 at HO_7 Xd Wr HB GG20 HQ30 hf20_0 hx20_0 hx712_0 hx713_0 hHeld ⊢;refine pure_ (i:=0) (N:=some 27) (v:= ?_) (a':= ?_) #[true,false,false,false,false,false,false,false,false,false,false,false] rfl rfl (any_of HT_.out (by kernel_rfl)) (fun _ _ _ h=>h) (Or.inl ⟨by rfl,?_⟩) ?_ ?_
   rotate_left
   ·intro w'
    go_simp
    with_reducible rfl
   rotate_left
   ·simp only[Act.put,List.setIfInBounds_toArray,List.set_cons_zero,List.set_cons_succ,i64_w,i32_w]
    rfl
   refine pure_ (i:=1) (N:=some 28) (v:= ?_) (a':= ?_) #[true,true,false,false,false,false,false,false,false,false,false,false] rfl rfl (any_of HT_.out (by kernel_rfl)) (fun _ _ _ h=>h) (Or.inl ⟨by rfl,?_⟩) ?_ ?_
   rotate_left
   ·intro w'
    go_simp
    with_reducible rfl
   rotate_left
   ·simp only[Act.put,List.setIfInBounds_toArray,List.set_cons_zero,List.set_cons_succ,i64_w,i32_w]
    rfl
   refine pure_ (i:=5) (N:=some 32) (v:= ?_) (a':= ?_) #[true,true,false,false,false,true,false,false,false,false,false,false] rfl rfl (any_of HT_.out (by kernel_rfl)) (fun _ _ _ h=>h) (Or.inl ⟨by rfl,?_⟩) ?_ ?_
   rotate_left
   ·intro w'
    go_simp
    with_reducible rfl
   rotate_left
   ·simp only[Act.put,List.setIfInBounds_toArray,List.set_cons_zero,List.set_cons_succ,i64_w,i32_w]
    rfl
   refine pure_ (i:=6) (N:=some 33) (v:= ?_) (a':= ?_) #[true,true,false,false,false,true,true,false,false,false,false,false] rfl rfl (any_of HT_.out (by kernel_rfl)) (fun _ _ _ h=>h) (Or.inl ⟨by rfl,?_⟩) ?_ ?_
   rotate_left
   ·intro w'
    go_simp
    with_reducible rfl
   rotate_left
   ·simp only[Act.put,List.setIfInBounds_toArray,List.set_cons_zero,List.set_cons_succ,i64_w,i32_w]
    rfl
   refine pure_ (i:=7) (N:=some 34) (v:= ?_) (a':= ?_) #[true,true,false,false,false,true,true,true,false,false,false,false] rfl rfl (any_of HT_.out (by kernel_rfl)) (fun _ _ _ h=>h) (Or.inl ⟨by rfl,?_⟩) ?_ ?_
   rotate_left
   ·intro w'
    go_simp
    with_reducible rfl
   rotate_left
   ·simp only[Act.put,List.setIfInBounds_toArray,List.set_cons_zero,List.set_cons_succ,i64_w,i32_w]
    rfl
   refine take_ (i:=2) (N:=some 29) (v:= ?_) (a':= ?_) #[true,true,true,false,false,true,true,true,false,false,false,false] rfl rfl (take_ofW HT_.out HW_.out (by kernel_rfl)) (fun _ _ _ h=>h) (Or.inl ⟨by rfl,?_⟩) hHeld ?_ ?_
   rotate_left
   ·rintro w' ⟨s0,s1,s2,s3,s4,s5⟩
    go_simp
    with_reducible rfl
   rotate_left
   ·simp only[Act.put,List.setIfInBounds_toArray,List.set_cons_zero,List.set_cons_succ,i64_w,i32_w]
    rfl
   refine pure_ (i:=3) (N:=some 30) (v:= ?_) (a':= ?_) #[true,true,true,true,false,true,true,true,false,false,false,false] rfl rfl (any_of HT_.out (by kernel_rfl)) (fun _ _ _ h=>h) (Or.inl ⟨by rfl,?_⟩) ?_ ?_
   rotate_left
   ·intro w'
    go_simp
    with_reducible rfl
   rotate_left
   ·simp only[Act.put,List.setIfInBounds_toArray,List.set_cons_zero,List.set_cons_succ,i64_w,i32_w]
    rfl
   refine take_ (i:=4) (N:=some 31) (v:= ?_) (a':= ?_) #[true,true,true,true,true,true,true,true,false,false,false,false] rfl rfl (take_ofW HT_.out HW_.out (by kernel_rfl)) (fun _ _ _ h=>h) (Or.inl ⟨by rfl,?_⟩) hHeld ?_ ?_
   rotate_left
   ·rintro w' ⟨s0,s1,s2,s3,s4,s5⟩
    go_simp
    with_reducible rfl
   rotate_left
   ·simp only[Act.put,List.setIfInBounds_toArray,List.set_cons_zero,List.set_cons_succ,i64_w,i32_w]
    rfl
   refine take_ (i:=8) (N:=some 35) (v:= ?_) (a':= ?_) #[true,true,true,true,true,true,true,true,true,false,false,false] rfl rfl (take_ofW HT_.out HW_.out (by kernel_rfl)) (fun _ _ _ h=>h) (Or.inl ⟨by rfl,?_⟩) hHeld ?_ ?_
   rotate_left
   ·rintro w' ⟨s0,s1,s2,s3,s4,s5⟩
    go_simp
    with_reducible rfl
   rotate_left
   ·simp only[Act.put,List.setIfInBounds_toArray,List.set_cons_zero,List.set_cons_succ,i64_w,i32_w]
    rfl
   refine pure_ (i:=9) (N:=some 36) (v:= ?_) (a':= ?_) #[true,true,true,true,true,true,true,true,true,true,false,false] rfl rfl (any_of HT_.out (by kernel_rfl)) (fun _ _ _ h=>h) (Or.inl ⟨by rfl,?_⟩) ?_ ?_
   rotate_left
   ·intro w'
    go_simp
    with_reducible rfl
   rotate_left
   ·simp only[Act.put,List.setIfInBounds_toArray,List.set_cons_zero,List.set_cons_succ,i64_w,i32_w]
    rfl
   refine pure_ (i:=10) (N:=some 37) (v:= ?_) (a':= ?_) #[true,true,true,true,true,true,true,true,true,true,true,false] rfl rfl (any_of HT_.out (by kernel_rfl)) (fun _ _ _ h=>h) (Or.inl ⟨by rfl,?_⟩) ?_ ?_
   rotate_left
   ·intro w'
    go_simp
    with_reducible rfl
   rotate_left
   ·simp only[Act.put,List.setIfInBounds_toArray,List.set_cons_zero,List.set_cons_succ,i64_w,i32_w]
    rfl
   refine last_ (i:=11) (N:=none) #[true,true,true,true,true,true,true,true,true,true,true,true] rfl rfl (one_of HT_.out (by kernel_rfl)) (by decide) (fun K hK=> ?_);refine skip_ (w1:= ?_) (by rfl) rfl ?_ ?_
   rotate_left
   ·go_simp
    rfl
   refine hK.out _ _ ?_;clear hK K;refine done_ (done_of HT_.out (by kernel_rfl)) ?_;try go_wp2
   have n0_:Aside0 (Kd.R (Kd.int .i64) 3 (w28.setCell ⟨go20,(((rd_T74 Za Zf).f0):Int).toNat,none⟩ (.int .i64 (wrap64 ((rd Wp ((rd_T74 Za Zf).f0))+(rd l1 Zf))))) w.heap.size (fun _=>True) (.slice (some ⟨go20,0,none⟩) Wp.length co29) y714):=⟨by(with_reducible repeat(first|apply Yr|apply Yq|apply Yp));exact HQ30.out⟩;have n1_:Aside0 ((w28.setCell ⟨go20,(((rd_T74 Za Zf).f0):Int).toNat,none⟩ (.int .i64 (wrap64 ((rd Wp ((rd_T74 Za Zf).f0))+(rd l1 Zf))))).heap[Wx]? =some (.cells #[.int .i64 Zb, .bool Zc, .slice (some ad710) Za.length Zd] 24 (0,0))):=⟨by(with_reducible repeat(first|refine Yl ?_ _|refine Ym ?_|refine Yj ?_ _));refine blk_far ?_ (by have h_:=Kd.R_ne HO_7.out Xd.out (by decide);intro e_;exact h_ (by rw[e_];rfl)) _;(with_reducible repeat(first|refine Yl ?_ _|refine Ym ?_|refine Yj ?_ _));exact Xd.out⟩;have n2_:Aside0 ((w28.setCell ⟨go20,(((rd_T74 Za Zf).f0):Int).toNat,none⟩ (.int .i64 (wrap64 ((rd Wp ((rd_T74 Za Zf).f0))+(rd l1 Zf))))).heap[Xz]? =some (.cells #[.int .i64 ((rd_T74 Za Zf).f0), .int .i64 ((rd_T74 Za Zf).f1), .int .i64 ((rd_T74 Za Zf).f2), .int .i64 ((rd_T74 Za Zf).f3)] 74 (0,0))):=⟨by(with_reducible repeat(first|refine Yl ?_ _|refine Ym ?_|refine Yj ?_ _));refine blk_far ?_ (by have h_:=Kd.R_ne HO_7.out Wr.out (by decide);intro e_;exact h_ (by rw[e_];rfl)) _;(with_reducible repeat(first|refine Yl ?_ _|refine Ym ?_|refine Yj ?_ _));exact Wr.out⟩;have n3_:Aside0 (Below w.heap.size w (w28.setCell ⟨go20,(((rd_T74 Za Zf).f0):Int).toNat,none⟩ (.int .i64 (wrap64 ((rd Wp ((rd_T74 Za Zf).f0))+(rd l1 Zf)))))):=⟨by repeat(first|(with_reducible first|exact HB.out|apply Ye|apply Yd|apply Yg|refine Yh ?_ GB20.out|refine Yh ?_ GE705.out|refine Yh ?_ GE711.out)|exact HB.out)⟩
   (try clear HO_7)
   (try clear Xd)
   (try clear Wr)
   (try clear HB)
   generalize (w28.setCell ⟨go20,(((rd_T74 Za Zf).f0):Int).toNat,none⟩ (.int .i64 (wrap64 ((rd Wp ((rd_T74 Za Zf).f0))+(rd l1 Zf)))))=w31 at n0_ n1_ n2_ n3_ ⊢;have HO_7:=n0_;have Xd:=n1_;have Wr:=n2_;have HB:=n3_;clear n0_ n1_ n2_ n3_;have n0_:=Ya (Yp HO_7.out);have n1_:=Ya (Ym Xd.out);have n2_:=Ya (Ym Wr.out);have n3_:=Ya (Yg HB.out);clear HO_7;clear Xd;clear Wr;clear HB;have HO_7:=n0_;have Xd:=n1_;have Wr:=n2_;have HB:=n3_;clear n0_ n1_ n2_ n3_;have p715:0≤(((rd_T74 Za Zf).f1):Int):=Yu (by first|(with_reducible assumption)|assumption);have q715:((rd_T74 Za Zf).f1)<(y714.length:Int):=(by have h_:(((rd_T74 Za Zf).f1):Int)<((Wp.length:Int):Int):=Yu (by first|(with_reducible assumption)|assumption);first|(have e_:=(Kd.R_reads' HO_7.out).1;omega)|simpa only[Ny714.out,List.length_set] using h_);have ql715:((((rd_T74 Za Zf).f1):Int)<((Wp.length:Int):Int))=True:=eq_true (Yu (by first|(with_reducible assumption)|assumption));obtain⟨ad715,e715,hx715_0⟩:=Kd.at_int (Kd.R_reads' HO_7.out).2.2 ((rd_T74 Za Zf).f1) p715 q715;obtain rfl:(⟨go20,0,none⟩:Addr)=ad715:=(by injection e715)
   (first|simp only[add_plain] at hx715_0|simp only[add_at] at hx715_0|simp only[Addr.add,Nat.zero_add] at hx715_0|skip)
   replace p715:=eq_true p715;replace q715:=eq_true q715;have p716:0≤(Zf:Int):=Yu (by first|(with_reducible assumption)|assumption);have q716:Zf<(l1.length:Int):=Yu (by first|(with_reducible assumption)|assumption);obtain⟨ad716,e716,hx716_0⟩:=Kd.at_int HR1.out Zf p716 q716;have hw716_0:=hx716_0;obtain rfl:ad713=ad716:=(by injection e716);replace hx716_0:=(HB.out.cell (Yb w _ hx716_0)).trans hx716_0;replace p716:=eq_true p716;replace q716:=eq_true q716;have p23:0≤(((rd_T74 Za Zf).f1):Int):=Yu (by first|(with_reducible assumption)|assumption);have q23:(((rd_T74 Za Zf).f1):Int)<((Wp.length:Int):Int):=Yu (by first|(with_reducible assumption)|assumption);obtain⟨hx23_0,hf23_0⟩:=Kd.R_celln 0 HO_7.out (((rd_T74 Za Zf).f1):Int) p23 q23;replace p23:=eq_true p23;replace q23:=eq_true q23;have HP33:=Kd.R_putn HO_7.out (((rd_T74 Za Zf).f1):Int) (wrap64 ((rd y714 ((rd_T74 Za Zf).f1)) - (rd l1 Zf)));rw[← Ny717.out] at HP33;have HQ33:=Ya HP33;clear HP33;refine start_ (n:=12) (S:=fun w'=>w'.cell? ⟨Xz,0,none⟩=some (.int .i64 ((rd_T74 Za Zf).f0))∧w'.cell? ⟨Xz,1,none⟩=some (.int .i64 ((rd_T74 Za Zf).f1))∧w'.cell? ⟨Xz,2,none⟩=some (.int .i64 ((rd_T74 Za Zf).f2))∧w'.cell? ⟨Xz,3,none⟩=some (.int .i64 ((rd_T74 Za Zf).f3))∧w'.cell? ⟨go20,(((rd_T74 Za Zf).f1)).toNat,none⟩=some (.int .i64 (rd y714 ((rd_T74 Za Zf).f1)))∧w'.cell? (ad713.add (Zf).toNat)=some (.int .i64 (rd l1 Zf))) (ds:=[11]) #[false,false,false,false,false,false,false,false,false,false,false,false] (by kernel_rfl) rfl rfl ⟨(Yc Wr.out 0).trans rfl,(Yc Wr.out 1).trans rfl,(Yc Wr.out 2).trans rfl,(Yc Wr.out 3).trans rfl,hx715_0,((HB.out.cell (Yb w _ hw716_0)).trans hw716_0)⟩ (fun hHeld=> ?_);refine with_tabW static_Balance.tab9 static_Balance.bits9 (fun HT_ HW_=> ?_);generalize w31.drew=w32 at HO_7 Xd Wr HB HQ30 HQ33 hf23_0 hx23_0 hx715_0 hx716_0 hHeld ⊢;refine pure_ (i:=0) (N:=some 38) (v:= ?_) (a':= ?_) #[true,false,false,false,false,false,false,false,false,false,false,false] rfl rfl (any_of HT_.out (by kernel_rfl)) (fun _ _ _ h=>h) (Or.inl ⟨by rfl,?_⟩) ?_ ?_
   rotate_left
   ·intro w'
    go_simp
    with_reducible rfl
   rotate_left
   ·simp only[Act.put,List.setIfInBounds_toArray,List.set_cons_zero,List.set_cons_succ,i64_w,i32_w]
    rfl
   refine pure_ (i:=1) (N:=some 39) (v:= ?_) (a':= ?_) #[true,true,false,false,false,false,false,false,false,false,false,false] rfl rfl (any_of HT_.out (by kernel_rfl)) (fun _ _ _ h=>h) (Or.inl ⟨by rfl,?_⟩) ?_ ?_
   rotate_left
   ·intro w'
    go_simp
    with_reducible rfl
   rotate_left
   ·simp only[Act.put,List.setIfInBounds_toArray,List.set_cons_zero,List.set_cons_succ,i64_w,i32_w]
    rfl
   refine pure_ (i:=5) (N:=some 43) (v:= ?_) (a':= ?_) #[true,true,false,false,false,true,false,false,false,false,false,false] rfl rfl (any_of HT_.out (by kernel_rfl)) (fun _ _ _ h=>h) (Or.inl ⟨by rfl,?_⟩) ?_ ?_
   rotate_left
   ·intro w'
    go_simp
    with_reducible rfl
   rotate_left
   ·simp only[Act.put,List.setIfInBounds_toArray,List.set_cons_zero,List.set_cons_succ,i64_w,i32_w]
    rfl
   refine pure_ (i:=6) (N:=some 44) (v:= ?_) (a':= ?_) #[true,true,false,false,false,true,true,false,false,false,false,false] rfl rfl (any_of HT_.out (by kernel_rfl)) (fun _ _ _ h=>h) (Or.inl ⟨by rfl,?_⟩) ?_ ?_
   rotate_left
   ·intro w'
    go_simp
    with_reducible rfl
   rotate_left
   ·simp only[Act.put,List.setIfInBounds_toArray,List.set_cons_zero,List.set_cons_succ,i64_w,i32_w]
    rfl
   refine pure_ (i:=7) (N:=some 45) (v:= ?_) (a':= ?_) #[true,true,false,false,false,true,true,true,false,false,false,false] rfl rfl (any_of HT_.out (by kernel_rfl)) (fun _ _ _ h=>h) (Or.inl ⟨by rfl,?_⟩) ?_ ?_
   rotate_left
   ·intro w'
    go_simp
    with_reducible rfl
   rotate_left
   ·simp only[Act.put,List.setIfInBounds_toArray,List.set_cons_zero,List.set_cons_succ,i64_w,i32_w]
    rfl
   refine take_ (i:=2) (N:=some 40) (v:= ?_) (a':= ?_) #[true,true,true,false,false,true,true,true,false,false,false,false] rfl rfl (take_ofW HT_.out HW_.out (by kernel_rfl)) (fun _ _ _ h=>h) (Or.inl ⟨by rfl,?_⟩) hHeld ?_ ?_
   rotate_left
   ·rintro w' ⟨s0,s1,s2,s3,s4,s5⟩
    go_simp
    with_reducible rfl
   rotate_left
   ·simp only[Act.put,List.setIfInBounds_toArray,List.set_cons_zero,List.set_cons_succ,i64_w,i32_w]
    rfl
   refine pure_ (i:=3) (N:=some 41) (v:= ?_) (a':= ?_) #[true,true,true,true,false,true,true,true,false,false,false,false] rfl rfl (any_of HT_.out (by kernel_rfl)) (fun _ _ _ h=>h) (Or.inl ⟨by rfl,?_⟩) ?_ ?_
   rotate_left
   ·intro w'
    go_simp
    with_reducible rfl
   rotate_left
   ·simp only[Act.put,List.setIfInBounds_toArray,List.set_cons_zero,List.set_cons_succ,i64_w,i32_w]
    rfl
   refine take_ (i:=4) (N:=some 42) (v:= ?_) (a':= ?_) #[true,true,true,true,true,true,true,true,false,false,false,false] rfl rfl (take_ofW HT_.out HW_.out (by kernel_rfl)) (fun _ _ _ h=>h) (Or.inl ⟨by rfl,?_⟩) hHeld ?_ ?_
   rotate_left
   ·rintro w' ⟨s0,s1,s2,s3,s4,s5⟩
    go_simp
    with_reducible rfl
   rotate_left
   ·simp only[Act.put,List.setIfInBounds_toArray,List.set_cons_zero,List.set_cons_succ,i64_w,i32_w]
    rfl
   refine take_ (i:=8) (N:=some 46) (v:= ?_) (a':= ?_) #[true,true,true,true,true,true,true,true,true,false,false,false] rfl rfl (take_ofW HT_.out HW_.out (by kernel_rfl)) (fun _ _ _ h=>h) (Or.inl ⟨by rfl,?_⟩) hHeld ?_ ?_
   rotate_left
   ·rintro w' ⟨s0,s1,s2,s3,s4,s5⟩
    go_simp
    with_reducible rfl
   rotate_left
   ·simp only[Act.put,List.setIfInBounds_toArray,List.set_cons_zero,List.set_cons_succ,i64_w,i32_w]
    rfl
   refine pure_ (i:=9) (N:=some 47) (v:= ?_) (a':= ?_) #[true,true,true,true,true,true,true,true,true,true,false,false] rfl rfl (any_of HT_.out (by kernel_rfl)) (fun _ _ _ h=>h) (Or.inl ⟨by rfl,?_⟩) ?_ ?_
   rotate_left
   ·intro w'
    go_simp
    with_reducible rfl
   rotate_left
   ·simp only[Act.put,List.setIfInBounds_toArray,List.set_cons_zero,List.set_cons_succ,i64_w,i32_w]
    rfl
   refine pure_ (i:=10) (N:=some 48) (v:= ?_) (a':= ?_) #[true,true,true,true,true,true,true,true,true,true,true,false] rfl rfl (any_of HT_.out (by kernel_rfl)) (fun _ _ _ h=>h) (Or.inl ⟨by rfl,?_⟩) ?_ ?_
   rotate_left
   ·intro w'
    go_simp
    with_reducible rfl
   rotate_left
   ·simp only[Act.put,List.setIfInBounds_toArray,List.set_cons_zero,List.set_cons_succ,i64_w,i32_w]
    rfl
   refine last_ (i:=11) (N:=none) #[true,true,true,true,true,true,true,true,true,true,true,true] rfl rfl (one_of HT_.out (by kernel_rfl)) (by decide) (fun K hK=> ?_);refine skip_ (w1:= ?_) (by rfl) rfl ?_ ?_
   rotate_left
   ·go_simp
    rfl
   refine hK.out _ _ ?_;clear hK K;refine done_ (done_of HT_.out (by kernel_rfl)) ?_;try go_wp2
   go_roundg k1
   case measure=>have:=HK1.out;omega
   case rel=>exact⟨(y717),(wrap64 (Zf+1)),(by first|rfl|(simp;done)|(simp[*];done)),H',⟨by have:=HK1.out;omega⟩,⟨by(with_reducible repeat(first|apply Yr|apply Yq|apply Yp));exact HQ33.out⟩,⟨by(with_reducible repeat(first|refine Yl ?_ _|refine Ym ?_|refine Yj ?_ _));refine blk_far ?_ (by have h_:=Kd.R_ne HO_7.out Xd.out (by decide);intro e_;exact h_ (by rw[e_];rfl)) _;(with_reducible repeat(first|refine Yl ?_ _|refine Ym ?_|refine Yj ?_ _));exact Xd.out⟩,⟨by repeat(first|(with_reducible first|exact HB.out|apply Ye|apply Yd|apply Yg|refine Yh ?_ GB20.out|refine Yh ?_ GE705.out|refine Yh ?_ GE711.out)|exact HB.out)⟩⟩
end P
namespace P
attribute [local go_sem] max2_int min2_int max_two min_two max_three min_three max_four min_four
def static_Check.l0:Nat→Int→Int→List Int→List Int→Int→Int→Option (Int × Int)
 |0,_,_,_,_,_,_=>none
 |k+1,x1,x2,x10,x29,x30,x31=>if x31<x30 then(if 0≤x31 then(if x31<(x29.length:Int) then(if (rd x29 x31)=0 then(static_Check.l0 k x1 x2 x10 x29 x30 (wrap64 (x31+1))) else(if x31=x1 then(static_Check.l0 k x1 x2 x10 x29 x30 (wrap64 (x31+1))) else(if x31=x2 then(static_Check.l0 k x1 x2 x10 x29 x30 (wrap64 (x31+1))) else(some (0,71))))) else(none)) else(none)) else(if 0≤x1 then(if x1<(x10.length:Int) then(some (rd x10 x1,0)) else(none)) else(none))
def static_Check.f (k:Nat) (Zb:Int) (Zc:Bool) (Za:List (S74)) (a1:Int) (a2:Int) (l3:List Int):Option (Int × Int):=(static_Ends.f k Zb Zc Za a1 a2).bind fun t719=>(if t719=0 then((static_Balance.f k Zb Zc Za l3).bind fun bt720=>(if bt720.2=0 then(static_Check.l0 k a1 a2 bt720.1 bt720.1 (bt720.1.length:Int) 0) else(some (0,bt720.2)))) else(some (0,t719)))
set_option maxHeartbeats 8000000 in
set_option maxRecDepth 100000 in
theorem static_Check.calls (k:Nat) (Zb:Int) (Zc:Bool) (Ze:Option Addr) (Zd:Nat) (Za:List (S74)) (a1:Int) (a2:Int) (A3:Option Addr) (c3:Nat) (l3:List Int) (r1:Int) (r2:Int) (w:World) (Zr:Kd.C k74 w Ze Za.length Za) (Zs:Za.length≤Zd) (hr3:Kd.C (Kd.int .i64) w A3 l3.length l3) (hc3:l3.length≤c3) (h:static_Check.f k Zb Zc Za a1 a2 l3=some (r1,r2)):
  Calls Try.prog 115 #[.agg #[.int .i64 Zb, .bool Zc, .slice Ze Za.length Zd], .int .i64 a1, .int .i64 a2, .slice A3 l3.length c3] w fun e w'=>e= .returned (.tuple #[.int .i64 r1, .int .i64 r2])∧Below w.heap.size w w':=by
 have hu24:=Try.underlying24;have Zi:=Ya Zr;have Zn:=Ya Zs;clear Zr Zs;have HR3:=Ya hr3;have HC3:=Ya hc3;clear hr3 hc3;have HB:=Ya (Yo w.heap.size w);have H:((static_Ends.f k Zb Zc Za a1 a2).bind fun t719=>(if t719=0 then((static_Balance.f k Zb Zc Za l3).bind fun bt720=>(if bt720.2=0 then(static_Check.l0 k a1 a2 bt720.1 bt720.1 (bt720.1.length:Int) 0) else(some (0,bt720.2)))) else(some (0,t719))))=some (r1,r2):=h;clear h;replace H:=Option.bind_eq_some_iff.mp H;obtain⟨t719,A50,H⟩:=H;replace H:(if t719=0 then((static_Balance.f k Zb Zc Za l3).bind fun bt720=>(if bt720.2=0 then(static_Check.l0 k a1 a2 bt720.1 bt720.1 (bt720.1.length:Int) 0) else(some (0,bt720.2)))) else(some (0,t719)))=some (r1,r2):=H;have A5:=Ya A50;clear A50;by_cases c6:t719=0
 rotate_left
 ·rw[Yy c6] at H
  have c6b0:(t719 == 0)=false:=beq_eq_false_iff_ne.mpr c6;have c6b1:(t719 != 0)=true:=bne_iff_ne.mpr c6;simp only[Option.some.injEq,Prod.mk.injEq] at H;obtain⟨rfl,rfl⟩:=H;go_enter Try.func115,Try.ntmps115;go_wp2_with (first|((with_reducible refine gate_dst (N:=4) rfl ?_);refine Yz ?hg (N:=4) ?hd (cs:= #[.int .i64 Zb, .bool Zc, .slice Ze Za.length Zd]) (t:=24) ?hr ?_;(case hd=>rfl);(case hg=>rfl);(case hr=>first|(go_simp;done)|(go_simp;rfl));intro Wu hg w28 Zg hb;have n0_:=Ya (Yk (by repeat(first|(with_reducible first|exact HB.out|apply Ye|apply Yd|apply Yg)|exact HB.out)) hb);have n1_:=Ya (Zg);have n2_:=Ya ((by rw[hg];exact(Yi (by repeat(first|(with_reducible first|exact HB.out|apply Ye|apply Yd|apply Yg)|exact HB.out))):w.heap.size≤Wu));have n3_:=Ya ((by rw[hg];exact(Yi (by repeat(first|(with_reducible first|exact HB.out|apply Ye|apply Yd|apply Yg)|exact HB.out))):w.heap.size≤Wu));clear HB;have HB:=n0_;have Xj:=n1_;have GW718:=n2_;have Ux:=n3_;clear n0_ n1_ n2_ n3_;clear hb Zg hg;have hcz29_0:w28.cell? ⟨Wu,0,none⟩=some (.int .i64 Zb):=(Yc Xj.out 0).trans rfl;have hcz29_1:w28.cell? ⟨Wu,1,none⟩=some (.bool Zc):=(Yc Xj.out 1).trans rfl;have hcz29_2:w28.cell? ⟨Wu,2,none⟩=some (.slice Ze Za.length Zd):=(Yc Xj.out 2).trans rfl;have hfz29_0:=Yf Xj.out 0;have hfz29_1:=Yf Xj.out 1;have hfz29_2:=Yf Xj.out 2)|((with_reducible refine gate_callee (f:=111) rfl ?_);refine goesL_ (some 16) rfl rfl Try.func111 (by kernel_rfl) rfl #[.agg #[.int .i64 Zb, .bool Zc, .slice Ze Za.length Zd], .int .i64 a1, .int .i64 a2] rfl (by(try simp only[List.map_toArray,List.map_cons,List.map_nil]);first|done|rfl|(simp only[List.length_drop,List.length_take];rfl)) ?_;(with_reducible refine(static_Ends.calls k Zb Zc _ _ Za a1 a2 t719 _ ?side1 ?side2 A5.out).mono ?_);(case side1=>repeat(first|exact(Yt Zi.out HB.out)|(with_reducible refine Kd.C_alloc ?_ _)|(with_reducible refine Kd.C_drewN ?_ _)|(with_reducible refine Kd.C_drew ?_)));(case side2=>exact Zn.out);rintro e w30 ⟨rfl,hb⟩;refine⟨_,rfl,?_⟩;have n0_:=Ya (Yn (g:=Wu) (o:= .cells #[.int .i64 Zb, .bool Zc, .slice Ze Za.length Zd] 24 (0,0)) (by(with_reducible repeat(first|refine Yl ?_ _|refine Ym ?_|refine Yj ?_ _));exact Xj.out) hb);have n1_:=Ya (Yk (by repeat(first|(with_reducible first|exact HB.out|apply Ye|apply Yd|apply Yg|refine Yh ?_ Ux.out)|exact HB.out)) hb);clear Xj;clear HB;have Xj:=n0_;have HB:=n1_;clear n0_ n1_;(try clear hb);(try clear hb2);(try clear hk);(try clear hi)));go_ret2;exact⟨by first|rfl|(simp[errW_none,errW_some]<;>rfl)|(simp[*,errW_none,errW_some]<;>rfl),by repeat(first|(with_reducible first|exact HB.out|apply Ye|apply Yd|apply Yg|refine Yh ?_ Ux.out)|exact HB.out)⟩
 rw[Yx c6] at H;have c6b0:(t719 == 0)=true:=beq_iff_eq.mpr c6;have c6b1:(t719 != 0)=false:=bne_eq_false_iff_eq.mpr c6;clear c6;replace H:=Option.bind_eq_some_iff.mp H;obtain⟨⟨t720,t723⟩,A70,H⟩:=H;replace H:(if t723=0 then(static_Check.l0 k a1 a2 t720 t720 (t720.length:Int) 0) else(some (0,t723)))=some (r1,r2):=H;have A7:=Ya A70;clear A70;by_cases c8:t723=0
 rotate_left
 ·rw[Yy c8] at H
  have c8b0:(t723 == 0)=false:=beq_eq_false_iff_ne.mpr c8;have c8b1:(t723 != 0)=true:=bne_iff_ne.mpr c8;simp only[Option.some.injEq,Prod.mk.injEq] at H;obtain⟨rfl,rfl⟩:=H;go_enter Try.func115,Try.ntmps115;go_wp2_with (first|((with_reducible refine gate_dst (N:=4) rfl ?_);refine Yz ?hg (N:=4) ?hd (cs:= #[.int .i64 Zb, .bool Zc, .slice Ze Za.length Zd]) (t:=24) ?hr ?_;(case hd=>rfl);(case hg=>rfl);(case hr=>first|(go_simp;done)|(go_simp;rfl));intro Wu hg w23 Zg hb;have n0_:=Ya (Yk (by repeat(first|(with_reducible first|exact HB.out|apply Ye|apply Yd|apply Yg)|exact HB.out)) hb);have n1_:=Ya (Zg);have n2_:=Ya ((by rw[hg];exact(Yi (by repeat(first|(with_reducible first|exact HB.out|apply Ye|apply Yd|apply Yg)|exact HB.out))):w.heap.size≤Wu));have n3_:=Ya ((by rw[hg];exact(Yi (by repeat(first|(with_reducible first|exact HB.out|apply Ye|apply Yd|apply Yg)|exact HB.out))):w.heap.size≤Wu));clear HB;have HB:=n0_;have Xj:=n1_;have GW718:=n2_;have Ux:=n3_;clear n0_ n1_ n2_ n3_;clear hb Zg hg;have hcz24_0:w23.cell? ⟨Wu,0,none⟩=some (.int .i64 Zb):=(Yc Xj.out 0).trans rfl;have hcz24_1:w23.cell? ⟨Wu,1,none⟩=some (.bool Zc):=(Yc Xj.out 1).trans rfl;have hcz24_2:w23.cell? ⟨Wu,2,none⟩=some (.slice Ze Za.length Zd):=(Yc Xj.out 2).trans rfl;have hfz24_0:=Yf Xj.out 0;have hfz24_1:=Yf Xj.out 1;have hfz24_2:=Yf Xj.out 2)|((with_reducible refine gate_callee (f:=111) rfl ?_);refine goesL_ (some 16) rfl rfl Try.func111 (by kernel_rfl) rfl #[.agg #[.int .i64 Zb, .bool Zc, .slice Ze Za.length Zd], .int .i64 a1, .int .i64 a2] rfl (by(try simp only[List.map_toArray,List.map_cons,List.map_nil]);first|done|rfl|(simp only[List.length_drop,List.length_take];rfl)) ?_;(with_reducible refine(static_Ends.calls k Zb Zc _ _ Za a1 a2 t719 _ ?side1 ?side2 A5.out).mono ?_);(case side1=>repeat(first|exact(Yt Zi.out HB.out)|(with_reducible refine Kd.C_alloc ?_ _)|(with_reducible refine Kd.C_drewN ?_ _)|(with_reducible refine Kd.C_drew ?_)));(case side2=>exact Zn.out);rintro e w25 ⟨rfl,hb⟩;refine⟨_,rfl,?_⟩;have n0_:=Ya (Yn (g:=Wu) (o:= .cells #[.int .i64 Zb, .bool Zc, .slice Ze Za.length Zd] 24 (0,0)) (by(with_reducible repeat(first|refine Yl ?_ _|refine Ym ?_|refine Yj ?_ _));exact Xj.out) hb);have n1_:=Ya (Yk (by repeat(first|(with_reducible first|exact HB.out|apply Ye|apply Yd|apply Yg|refine Yh ?_ Ux.out)|exact HB.out)) hb);clear Xj;clear HB;have Xj:=n0_;have HB:=n1_;clear n0_ n1_;(try clear hb);(try clear hb2);(try clear hk);(try clear hi);have hcz26_0:w25.cell? ⟨Wu,0,none⟩=some (.int .i64 Zb):=(Yc Xj.out 0).trans rfl;have hcz26_1:w25.cell? ⟨Wu,1,none⟩=some (.bool Zc):=(Yc Xj.out 1).trans rfl;have hcz26_2:w25.cell? ⟨Wu,2,none⟩=some (.slice Ze Za.length Zd):=(Yc Xj.out 2).trans rfl;have hfz26_0:=Yf Xj.out 0;have hfz26_1:=Yf Xj.out 1;have hfz26_2:=Yf Xj.out 2)|((with_reducible refine gate_callee (f:=150) rfl ?_);refine goesL_ (some 23) rfl rfl Try.func150 (by kernel_rfl) rfl #[.agg #[.int .i64 Zb, .bool Zc, .slice Ze Za.length Zd], .slice A3 l3.length c3] rfl (by(try simp only[List.map_toArray,List.map_cons,List.map_nil]);first|done|rfl|(simp only[List.length_drop,List.length_take];rfl)) ?_;(with_reducible refine(static_Balance.calls k Zb Zc _ _ Za _ _ l3 t720 t723 _ ?side1 ?side2 ?side3 ?side4 A7.out).mono ?_);(case side1=>repeat(first|exact(Yt Zi.out HB.out)|(with_reducible refine Kd.C_alloc ?_ _)|(with_reducible refine Kd.C_drewN ?_ _)|(with_reducible refine Kd.C_drew ?_)));(case side2=>exact Zn.out);(case side3=>repeat(first|exact(Yt HR3.out HB.out)|(with_reducible refine Kd.C_alloc ?_ _)|(with_reducible refine Kd.C_drewN ?_ _)|(with_reducible refine Kd.C_drew ?_)));(case side4=>exact HC3.out);rintro e w27 ⟨v721,rfl,ho0,hb⟩;refine⟨_,rfl,?_⟩;have n0_:=Ya (Kd.R_lower ho0 (Yi (by repeat(first|(with_reducible first|exact HB.out|apply Ye|apply Yd|apply Yg|refine Yh ?_ Ux.out)|exact HB.out))));have n1_:=Ya (Yn (g:=Wu) (o:= .cells #[.int .i64 Zb, .bool Zc, .slice Ze Za.length Zd] 24 (0,0)) (by(with_reducible repeat(first|refine Yl ?_ _|refine Ym ?_|refine Yj ?_ _));exact Xj.out) hb);have n2_:=Ya (Yk (by repeat(first|(with_reducible first|exact HB.out|apply Ye|apply Yd|apply Yg|refine Yh ?_ Ux.out)|exact HB.out)) hb);clear Xj;clear HB;have HO722:=n0_;have Xj:=n1_;have HB:=n2_;clear n0_ n1_ n2_;(try clear hb);(try clear hb2);(try clear hk);(try clear hi);(try clear ho0)));go_ret2;exact⟨by first|rfl|(simp[errW_none,errW_some]<;>rfl)|(simp[*,errW_none,errW_some]<;>rfl),by repeat(first|(with_reducible first|exact HB.out|apply Ye|apply Yd|apply Yg|refine Yh ?_ Ux.out)|exact HB.out)⟩
 rw[Yx c8] at H;have c8b0:(t723 == 0)=true:=beq_iff_eq.mpr c8;have c8b1:(t723 != 0)=false:=bne_eq_false_iff_eq.mpr c8;clear c8;have H':=Ya H;clear H;go_enter Try.func115,Try.ntmps115;go_wp2_with (first|((with_reducible refine gate_dst (N:=4) rfl ?_);refine Yz ?hg (N:=4) ?hd (cs:= #[.int .i64 Zb, .bool Zc, .slice Ze Za.length Zd]) (t:=24) ?hr ?_;(case hd=>rfl);(case hg=>rfl);(case hr=>first|(go_simp;done)|(go_simp;rfl));intro Wu hg w9 Zg hb;have n0_:=Ya (Yk (by repeat(first|(with_reducible first|exact HB.out|apply Ye|apply Yd|apply Yg)|exact HB.out)) hb);have n1_:=Ya (Zg);have n2_:=Ya ((by rw[hg];exact(Yi (by repeat(first|(with_reducible first|exact HB.out|apply Ye|apply Yd|apply Yg)|exact HB.out))):w.heap.size≤Wu));have n3_:=Ya ((by rw[hg];exact(Yi (by repeat(first|(with_reducible first|exact HB.out|apply Ye|apply Yd|apply Yg)|exact HB.out))):w.heap.size≤Wu));clear HB;have HB:=n0_;have Xj:=n1_;have GW718:=n2_;have Ux:=n3_;clear n0_ n1_ n2_ n3_;clear hb Zg hg;have Vd:w9.cell? ⟨Wu,0,none⟩=some (.int .i64 Zb):=(Yc Xj.out 0).trans rfl;have Ve:w9.cell? ⟨Wu,1,none⟩=some (.bool Zc):=(Yc Xj.out 1).trans rfl;have Vf:w9.cell? ⟨Wu,2,none⟩=some (.slice Ze Za.length Zd):=(Yc Xj.out 2).trans rfl;have Vg:=Yf Xj.out 0;have Vh:=Yf Xj.out 1;have Vi:=Yf Xj.out 2)|((with_reducible refine gate_callee (f:=111) rfl ?_);refine goesL_ (some 16) rfl rfl Try.func111 (by kernel_rfl) rfl #[.agg #[.int .i64 Zb, .bool Zc, .slice Ze Za.length Zd], .int .i64 a1, .int .i64 a2] rfl (by(try simp only[List.map_toArray,List.map_cons,List.map_nil]);first|done|rfl|(simp only[List.length_drop,List.length_take];rfl)) ?_;(with_reducible refine(static_Ends.calls k Zb Zc _ _ Za a1 a2 t719 _ ?side1 ?side2 A5.out).mono ?_);(case side1=>repeat(first|exact(Yt Zi.out HB.out)|(with_reducible refine Kd.C_alloc ?_ _)|(with_reducible refine Kd.C_drewN ?_ _)|(with_reducible refine Kd.C_drew ?_)));(case side2=>exact Zn.out);rintro e w11 ⟨rfl,hb⟩;refine⟨_,rfl,?_⟩;have n0_:=Ya (Yn (g:=Wu) (o:= .cells #[.int .i64 Zb, .bool Zc, .slice Ze Za.length Zd] 24 (0,0)) (by(with_reducible repeat(first|refine Yl ?_ _|refine Ym ?_|refine Yj ?_ _));exact Xj.out) hb);have n1_:=Ya (Yk (by repeat(first|(with_reducible first|exact HB.out|apply Ye|apply Yd|apply Yg|refine Yh ?_ Ux.out)|exact HB.out)) hb);clear Xj;clear HB;have Xj:=n0_;have HB:=n1_;clear n0_ n1_;(try clear hb);(try clear hb2);(try clear hk);(try clear hi);have hcz12_0:w11.cell? ⟨Wu,0,none⟩=some (.int .i64 Zb):=(Yc Xj.out 0).trans rfl;have hcz12_1:w11.cell? ⟨Wu,1,none⟩=some (.bool Zc):=(Yc Xj.out 1).trans rfl;have hcz12_2:w11.cell? ⟨Wu,2,none⟩=some (.slice Ze Za.length Zd):=(Yc Xj.out 2).trans rfl;have hfz12_0:=Yf Xj.out 0;have hfz12_1:=Yf Xj.out 1;have hfz12_2:=Yf Xj.out 2)|((with_reducible refine gate_callee (f:=150) rfl ?_);refine goesL_ (some 23) rfl rfl Try.func150 (by kernel_rfl) rfl #[.agg #[.int .i64 Zb, .bool Zc, .slice Ze Za.length Zd], .slice A3 l3.length c3] rfl (by(try simp only[List.map_toArray,List.map_cons,List.map_nil]);first|done|rfl|(simp only[List.length_drop,List.length_take];rfl)) ?_;(with_reducible refine(static_Balance.calls k Zb Zc _ _ Za _ _ l3 t720 t723 _ ?side1 ?side2 ?side3 ?side4 A7.out).mono ?_);(case side1=>repeat(first|exact(Yt Zi.out HB.out)|(with_reducible refine Kd.C_alloc ?_ _)|(with_reducible refine Kd.C_drewN ?_ _)|(with_reducible refine Kd.C_drew ?_)));(case side2=>exact Zn.out);(case side3=>repeat(first|exact(Yt HR3.out HB.out)|(with_reducible refine Kd.C_alloc ?_ _)|(with_reducible refine Kd.C_drewN ?_ _)|(with_reducible refine Kd.C_drew ?_)));(case side4=>exact HC3.out);rintro e w13 ⟨v721,rfl,ho0,hb⟩;refine⟨_,rfl,?_⟩;have n0_:=Ya (Kd.R_lower ho0 (Yi (by repeat(first|(with_reducible first|exact HB.out|apply Ye|apply Yd|apply Yg|refine Yh ?_ Ux.out)|exact HB.out))));have n1_:=Ya (Yn (g:=Wu) (o:= .cells #[.int .i64 Zb, .bool Zc, .slice Ze Za.length Zd] 24 (0,0)) (by(with_reducible repeat(first|refine Yl ?_ _|refine Ym ?_|refine Yj ?_ _));exact Xj.out) hb);have n2_:=Ya (Yk (by repeat(first|(with_reducible first|exact HB.out|apply Ye|apply Yd|apply Yg|refine Yh ?_ Ux.out)|exact HB.out)) hb);clear Xj;clear HB;have HO722:=n0_;have Xj:=n1_;have HB:=n2_;clear n0_ n1_ n2_;(try clear hb);(try clear hb2);(try clear hk);(try clear hi);(try clear ho0);obtain⟨Ao14,co14,eo14⟩:=Kd.R_slice HO722.out;subst eo14));go_loopg [31] k (fun kq v31 w'=> ∃ (We:Int),v31= .int .i64 We∧Aside0 (static_Check.l0 kq a1 a2 t720 t720 (t720.length:Int) We=some (r1,r2))∧Aside0 (kq≤k)∧Aside0 (Kd.R (Kd.int .i64) 3 w' w.heap.size (fun _=>True) (.slice Ao14 t720.length co14) t720)∧Aside0 (Kd.R (Kd.int .i64) 3 w' w.heap.size (fun _=>True) (.slice Ao14 t720.length co14) t720)∧Aside0 (w'.heap[Wu]? =some (.cells #[.int .i64 Zb, .bool Zc,(.slice Ze Za.length Zd)] 24 (0,0)))∧Aside0 (Below w.heap.size w w'))
 case atStart=>exact⟨(0),(by first|rfl|(simp;done)|(simp[*];done)),H',⟨Nat.le_refl _⟩,⟨by(with_reducible repeat(first|apply Yr|apply Yq|apply Yp));exact HO722.out⟩,⟨by(with_reducible repeat(first|apply Yr|apply Yq|apply Yp));exact HO722.out⟩,⟨by(with_reducible repeat(first|refine Yl ?_ _|refine Ym ?_|refine Yj ?_ _));exact Xj.out⟩,⟨by repeat(first|(with_reducible first|exact HB.out|apply Ye|apply Yd|apply Yg|refine Yh ?_ Ux.out)|exact HB.out)⟩⟩
 case round=>
  clear H';try clear c1
  try clear p2
  try clear c3
  try clear c6
  try clear c6b0
  try clear c6b1
  try clear c8
  try clear c8b0
  try clear c8b1
  try clear c11
  try clear Vd
  try clear Ve
  try clear Vf
  try clear hcz12_0
  try clear hcz12_1
  try clear hcz12_2
  try clear Vg
  try clear Vh
  try clear Vi
  try clear hfz12_0
  try clear hfz12_1
  try clear hfz12_2
  obtain⟨We,rfl,HA,HK1,HO_10,HO_29,Xj,HB⟩:=hrel;cases gk with
  |zero=>exact absurd HA.out (by simp[static_Check.l0])
  |succ k1=>
   have H:=HA.out;clear HA;simp only[static_Check.l0] at H;by_cases c15:We<(t720.length:Int)
   rotate_left
   ·rw[Yy c15] at H
    have c15b0:decide (We<(t720.length:Int))=false:=Yw c15;clear c15;by_cases c21:0≤a1
    rotate_left
    ·rw[Yy c21] at H
     exact absurd H (by simp)
    rw[Yx c21] at H;have c21b0:decide (0≤a1)=true:=Yv c21;clear c21;by_cases c22:a1<(t720.length:Int)
    rotate_left
    ·rw[Yy c22] at H
     exact absurd H (by simp)
    rw[Yx c22] at H;have c22b0:decide (a1<(t720.length:Int))=true:=Yv c22;clear c22;simp only[Option.some.injEq,Prod.mk.injEq] at H;obtain⟨rfl,rfl⟩:=H;have p725:0≤(a1:Int):=Yu (by first|(with_reducible assumption)|assumption);have q725:a1<(t720.length:Int):=Yu (by first|(with_reducible assumption)|assumption);obtain⟨ad725,e725,hx725_0⟩:=Kd.at_int (Kd.R_reads' HO_10.out).2.2 a1 p725 q725;cases e725;replace p725:=eq_true p725;replace q725:=eq_true q725;go_wp2;go_ret2;exact⟨by first|rfl|(simp[errW_none,errW_some]<;>rfl)|(simp[*,errW_none,errW_some]<;>rfl),by repeat(first|(with_reducible first|exact HB.out|apply Ye|apply Yd|apply Yg|refine Yh ?_ Ux.out)|exact HB.out)⟩
   rw[Yx c15] at H;have c15b0:decide (We<(t720.length:Int))=true:=Yv c15;clear c15;by_cases c16:0≤We
   rotate_left
   ·rw[Yy c16] at H
    exact absurd H (by simp)
   rw[Yx c16] at H;have c16b0:decide (0≤We)=true:=Yv c16;clear c16;by_cases c17:We<(t720.length:Int)
   rotate_left
   ·rw[Yy c17] at H
    exact absurd H (by simp)
   rw[Yx c17] at H;have c17b0:decide (We<(t720.length:Int))=true:=Yv c17;clear c17;by_cases c18:(rd t720 We)=0
   ·rw[Yx c18] at H
    have c18b0:((rd t720 We) == 0)=true:=beq_iff_eq.mpr c18;have c18b1:((rd t720 We) != 0)=false:=bne_eq_false_iff_eq.mpr c18;clear c18;have H':=Ya H;clear H;have p724:0≤(We:Int):=Yu (by first|(with_reducible assumption)|assumption);have q724:We<(t720.length:Int):=Yu (by first|(with_reducible assumption)|assumption);obtain⟨ad724,e724,hx724_0⟩:=Kd.at_int (Kd.R_reads' HO_29.out).2.2 We p724 q724;cases e724;replace p724:=eq_true p724;replace q724:=eq_true q724;go_wp2;go_roundg k1
    case measure=>have:=HK1.out;omega
    case rel=>exact⟨(wrap64 (We+1)),(by first|rfl|(simp;done)|(simp[*];done)),H',⟨by have:=HK1.out;omega⟩,⟨by(with_reducible repeat(first|apply Yr|apply Yq|apply Yp));exact HO_10.out⟩,⟨by(with_reducible repeat(first|apply Yr|apply Yq|apply Yp));exact HO_29.out⟩,⟨by(with_reducible repeat(first|refine Yl ?_ _|refine Ym ?_|refine Yj ?_ _));exact Xj.out⟩,⟨by repeat(first|(with_reducible first|exact HB.out|apply Ye|apply Yd|apply Yg|refine Yh ?_ Ux.out)|exact HB.out)⟩⟩
   rw[Yy c18] at H;have c18b0:((rd t720 We) == 0)=false:=beq_eq_false_iff_ne.mpr c18;have c18b1:((rd t720 We) != 0)=true:=bne_iff_ne.mpr c18;by_cases c19:We=a1
   ·rw[Yx c19] at H
    have c19b0:(We == a1)=true:=beq_iff_eq.mpr c19;have c19b1:(We != a1)=false:=bne_eq_false_iff_eq.mpr c19;clear c19;have H':=Ya H;clear H;have p724:0≤(We:Int):=Yu (by first|(with_reducible assumption)|assumption);have q724:We<(t720.length:Int):=Yu (by first|(with_reducible assumption)|assumption);obtain⟨ad724,e724,hx724_0⟩:=Kd.at_int (Kd.R_reads' HO_29.out).2.2 We p724 q724;cases e724;replace p724:=eq_true p724;replace q724:=eq_true q724;go_wp2;go_roundg k1
    case measure=>have:=HK1.out;omega
    case rel=>exact⟨(wrap64 (We+1)),(by first|rfl|(simp;done)|(simp[*];done)),H',⟨by have:=HK1.out;omega⟩,⟨by(with_reducible repeat(first|apply Yr|apply Yq|apply Yp));exact HO_10.out⟩,⟨by(with_reducible repeat(first|apply Yr|apply Yq|apply Yp));exact HO_29.out⟩,⟨by(with_reducible repeat(first|refine Yl ?_ _|refine Ym ?_|refine Yj ?_ _));exact Xj.out⟩,⟨by repeat(first|(with_reducible first|exact HB.out|apply Ye|apply Yd|apply Yg|refine Yh ?_ Ux.out)|exact HB.out)⟩⟩
   rw[Yy c19] at H;have c19b0:(We == a1)=false:=beq_eq_false_iff_ne.mpr c19;have c19b1:(We != a1)=true:=bne_iff_ne.mpr c19;by_cases c20:We=a2
   rotate_left
   ·rw[Yy c20] at H
    have c20b0:(We == a2)=false:=beq_eq_false_iff_ne.mpr c20;have c20b1:(We != a2)=true:=bne_iff_ne.mpr c20;simp only[Option.some.injEq,Prod.mk.injEq] at H;obtain⟨rfl,rfl⟩:=H;have p724:0≤(We:Int):=Yu (by first|(with_reducible assumption)|assumption);have q724:We<(t720.length:Int):=Yu (by first|(with_reducible assumption)|assumption);obtain⟨ad724,e724,hx724_0⟩:=Kd.at_int (Kd.R_reads' HO_29.out).2.2 We p724 q724;cases e724;replace p724:=eq_true p724;replace q724:=eq_true q724;go_wp2;go_ret2;exact⟨by first|rfl|(simp[errW_none,errW_some]<;>rfl)|(simp[*,errW_none,errW_some]<;>rfl),by repeat(first|(with_reducible first|exact HB.out|apply Ye|apply Yd|apply Yg|refine Yh ?_ Ux.out)|exact HB.out)⟩
   rw[Yx c20] at H;have c20b0:(We == a2)=true:=beq_iff_eq.mpr c20;have c20b1:(We != a2)=false:=bne_eq_false_iff_eq.mpr c20;clear c20;have H':=Ya H;clear H;have p724:0≤(We:Int):=Yu (by first|(with_reducible assumption)|assumption);have q724:We<(t720.length:Int):=Yu (by first|(with_reducible assumption)|assumption);obtain⟨ad724,e724,hx724_0⟩:=Kd.at_int (Kd.R_reads' HO_29.out).2.2 We p724 q724;cases e724;replace p724:=eq_true p724;replace q724:=eq_true q724;go_wp2;go_roundg k1
   case measure=>have:=HK1.out;omega
   case rel=>exact⟨(wrap64 (We+1)),(by first|rfl|(simp;done)|(simp[*];done)),H',⟨by have:=HK1.out;omega⟩,⟨by(with_reducible repeat(first|apply Yr|apply Yq|apply Yp));exact HO_10.out⟩,⟨by(with_reducible repeat(first|apply Yr|apply Yq|apply Yp));exact HO_29.out⟩,⟨by(with_reducible repeat(first|refine Yl ?_ _|refine Ym ?_|refine Yj ?_ _));exact Xj.out⟩,⟨by repeat(first|(with_reducible first|exact HB.out|apply Ye|apply Yd|apply Yg|refine Yh ?_ Ux.out)|exact HB.out)⟩⟩
end P
namespace P
attribute [local go_sem] max2_int min2_int max_two min_two max_three min_three max_four min_four
def api_Arc.f (l0:List (S74)):Option ((List (S74))):=(some (([]:List (S74)):List (S74))).bind fun y1167=>(if y1167.length+l0.length<4398046511104 then(some (y1167 ++ l0)) else(none))
set_option maxHeartbeats 8000000 in
set_option maxRecDepth 100000 in
theorem api_Arc.calls (A0:Option Addr) (c0:Nat) (l0:List (S74)) (r:List (S74)) (w:World) (hr0:Kd.C k74 w A0 l0.length l0) (hc0:l0.length≤c0) (h:api_Arc.f l0=some r):
  Calls Try.prog 158 #[.slice A0 l0.length c0] w fun e w'=> ∃ v0_:Value,e= .returned (v0_)∧Kd.R k74 74 w' w.heap.size (fun _=>True) v0_ r∧Below w.heap.size w w':=by
 have HR0:=Ya hr0;have HC0:=Ya hc0;clear hr0 hc0;have HB:=Ya (Yo w.heap.size w);have H:((some (([]:List (S74)):List (S74))).bind fun y1167=>(if y1167.length+l0.length<4398046511104 then(some (y1167 ++ l0)) else(none)))=some r:=h;clear h;obtain⟨y1167,hy1167⟩: ∃ y_:List (S74),y_=(([]:List (S74))):=⟨_,rfl⟩;replace H:(if y1167.length+l0.length<4398046511104 then(some (y1167 ++ l0)) else(none))=some r:=by first|(rw[hy1167];with_reducible exact H)|(have H2_:=(Option.bind_some _ _).symm.trans H;rw[hy1167];with_reducible exact H2_)|(have H2_:=(Option.bind_some _ _).symm.trans H;with_reducible exact H2_)|with_reducible exact H|(rw[hy1167];exact H)|exact H
 have Ny1167:=Ya hy1167;clear hy1167;by_cases c2:y1167.length+l0.length<4398046511104
 rotate_left
 ·rw[Yy c2] at H
  exact absurd H (by simp)
 rw[Yx c2] at H;have LMc2:=Ya c2;clear c2;obtain⟨y1170,hy1170⟩: ∃ y_:List (S74),y_=(y1167 ++ l0):=⟨_,rfl⟩;replace H:(some y1170)=some r:=by first|(rw[hy1170];with_reducible exact H)|(have H2_:=(Option.bind_some _ _).symm.trans H;rw[hy1170];with_reducible exact H2_)|(have H2_:=(Option.bind_some _ _).symm.trans H;with_reducible exact H2_)|with_reducible exact H|(rw[hy1170];exact H)|exact H
 have Ny1170:=Ya hy1170;clear hy1170;obtain rfl:=Option.some.inj H;have hl0:=HC0.out;rcases A0 with _|ad0
 ·have hz:l0=[]:=by
   rcases Nat.eq_zero_or_pos l0.length with h0|h0
   ·exact List.eq_nil_of_length_eq_zero h0
   ·obtain⟨ad,he,_⟩:=HR0.out.2.2 h0
    cases he
  subst hz;have hrun: ∀ W:World,(Go.binOp .eql 22 (.slice none 0 c0) (.slice none 0 0)).run Try.prog W= .ok (.bool true) W:=fun W=>Go.run_eql_slice_nil W 22 74 none 0 c0 Try.underlying22
  have Hy:y1170=[]:=by rw[Ny1170.out,Ny1167.out];rfl
  have NHy:=Ya Hy;clear Hy;have HR0':=HR0;clear HR0 HC0 hl0;go_enter Try.func158,Try.ntmps158;go_wp2;go_ret;exact⟨_,rfl,by rw[NHy.out];exact Kd.R_nil _ _ _ _ _,by repeat(first|(with_reducible first|exact HB.out|apply Ye|apply Yd|apply Yg)|exact HB.out)⟩
 have hrun: ∀ W:World,(Go.binOp .eql 22 (.slice (some ad0) l0.length c0) (.slice none 0 0)).run Try.prog W= .ok (.bool false) W:=fun W=>Go.run_eql_slice_nil W 22 74 (some ad0) l0.length c0 Try.underlying22
 clear hl0;go_enter Try.func158,Try.ntmps158;go_wp2_with (first|((with_reducible refine gate_dst (N:=5) rfl ?_);refine Kd.R_lit k74 _ 74 ?hg (N:=5) ?hd (xs:=([]:List (S74))) (inner:=[]) (ok:=fun _=>True) (okp:=fun _=>True) ?hr ?hp (fun _ hk=>hk) trivial (Yo _ _) (Nat.le_refl _) (by simp) ?_;(case hd=>rfl);(case hg=>rfl);(case hr=>first|(go_simp;done)|(go_simp;rfl));(case hp=>exact(Reps.none _ _));intro v1168 w3 ho4 hb hg_ hnew_;clear hg_ hnew_;(first|rw[← Ny1167.out] at ho4|(simp only[Int.reduceToNat] at ho4;rw[← Ny1167.out] at ho4));have n0_:=Ya (Kd.R_lower ho4 (Yi (by repeat(first|(with_reducible first|exact HB.out|apply Ye|apply Yd|apply Yg)|exact HB.out))));have n1_:=Ya (Yk (by repeat(first|(with_reducible first|exact HB.out|apply Ye|apply Yd|apply Yg)|exact HB.out)) hb);clear HB;have HO1169:=n0_;have HB:=n1_;clear n0_ n1_;clear hb ho4)|((with_reducible refine gate_builtin (b:= .append) (xs:= #[.tmp 5, .tmp 6]) rfl ?_);at_builtin;refine Kd.R_append_rows k74 (w0:=w) w.heap.size rfl (.tmp 5) (.tmp 6) 22 74 (.agg #[(.int .i64 0),(.int .i64 0),(.int .i64 0),(.int .i64 0)]) 32 rfl Try.underlying22 info74 rfl (by decide) (by omega) v1168 y1167 l0 _ _ _ (fun _=>True) (fun _=>False) rfl rfl ?aO ?aR (fun _ _ h=>h) (fun _ h=>h.elim) ?aF ?aB ?aS ?aL ?_;(case aR=>repeat(first|exact(Yt HR0.out HB.out)|(with_reducible refine Kd.C_alloc ?_ _)|(with_reducible refine Kd.C_drewN ?_ _)|(with_reducible refine Kd.C_drew ?_)));(case aB=>exact(by repeat(first|(with_reducible first|exact HB.out|apply Ye|apply Yd|apply Yg)|exact HB.out)));(case aF=>exact(fun _ _=>trivial));(case aO=>exact(by(with_reducible repeat(first|apply Yr|apply Yq|apply Yp));exact HO1169.out));(case aS=>exact(Yi (by repeat(first|(with_reducible first|exact HB.out|apply Ye|apply Yd|apply Yg)|exact HB.out))));(case aL=>have:=LMc2.out;omega);intro v1171 w5 ho hb hg hat;rw[← Ny1170.out] at ho;have n0_:=Ya (hb);have n1_:=Ya (ho);clear HB;clear HO1169;have HB:=n0_;have HO1172:=n1_;clear n0_ n1_;clear ho hb hg hat));go_ret;exact⟨_,by first|rfl|(simp[errW_none,errW_some]<;>rfl)|(simp[*,errW_none,errW_some]<;>rfl),by(with_reducible repeat(first|apply Yr|apply Yq|apply Yp));exact HO1172.out,by repeat(first|(with_reducible first|exact HB.out|apply Ye|apply Yd|apply Yg)|exact HB.out)⟩
end P
namespace H
theorem pigeonN (n:Nat): ∀ L:List Nat,L.Nodup→(∀ x,x∈L→x<n)→L.length≤n:=by
 induction n with
 |zero=>
  intro L _ h;cases L with
  |nil=>simp
  |cons x L=>exact absurd (h x List.mem_cons_self) (Nat.not_lt_zero _)
 |succ n ih=>
  intro L hn h;by_cases hm:n∈L
  ·have h1:=ih (L.erase n) (hn.erase n) (fun x hx=>by
    have h2:=(hn.mem_erase_iff).1 hx;have:=h x h2.2;have:=h2.1;omega)
   rw[List.length_erase_of_mem hm] at h1;omega
  ·have:=ih L hn (fun x hx=>by
    have h1:=h x hx;have:x≠n:=fun e=>hm (e▸hx)
    omega)
   omega
section
variable {α:Type}
structure Fd (α:Type) where
 v:Nat
 by_:α
 lv:Nat
def nodes (st:List (Fd α)):List Nat:=st.map Fd.v
def vis (to_:α→Nat) (lv:Nat) (st:List (Fd α)) (e:α):List (Fd α):=if to_ e∈nodes st then st else st ++ [⟨to_ e,e,lv+1⟩]
def proc (to_:α→Nat) (es:Nat→List α) (st:List (Fd α)) (x:Fd α):List (Fd α):=(es x.v).foldl (vis to_ x.lv) st
def bfs (to_:α→Nat) (es:Nat→List α):Nat→Nat→List (Fd α)→List (Fd α)
 |0,_,st=>st
 |n+1,i,st=>match st[i]? with
  |none=>st
  |some x=>bfs to_ es n (i+1) (proc to_ es st x)
theorem vis_pre (to_:α→Nat) (lv:Nat) (st:List (Fd α)) (e:α): ∃ r,vis to_ lv st e=st ++ r:=by
 unfold vis;split
 ·exact⟨[],(List.append_nil _).symm⟩
 ·exact⟨_,rfl⟩
theorem fold_pre (to_:α→Nat) (lv:Nat) (l:List α) (st:List (Fd α)): ∃ r,l.foldl (vis to_ lv) st=st ++ r:=by
 induction l generalizing st with
 |nil=>exact⟨[],(List.append_nil _).symm⟩
 |cons e l ih=>
  obtain⟨r,hr⟩:=vis_pre to_ lv st e;obtain⟨q,hq⟩:=ih (vis to_ lv st e);exact⟨r ++ q,by rw[List.foldl_cons,hq,hr,List.append_assoc]⟩
theorem bfs_pre (to_:α→Nat) (es:Nat→List α) (n i:Nat) (st:List (Fd α)): ∃ r,bfs to_ es n i st=st ++ r:=by
 induction n generalizing i st with
 |zero=>exact⟨[],(List.append_nil _).symm⟩
 |succ n ih=>
  unfold bfs;cases st[i]? with
  |none=>exact⟨[],(List.append_nil _).symm⟩
  |some x=>
   obtain⟨r,hr⟩:=fold_pre to_ x.lv (es x.v) st;obtain⟨q,hq⟩:=ih (i+1) (proc to_ es st x);exact⟨r ++ q,by show bfs to_ es n (i+1) (proc to_ es st x)=_;rw[hq];unfold proc;rw[hr,List.append_assoc]⟩
structure Fds (from_ to_:α→Nat) (es:Nat→List α) (s:Nat) (st:List (Fd α)):Prop where
 nodup:(nodes st).Nodup
 head: ∃ x r,st=x::r∧x.v=s∧x.lv=0
 by_ok: ∀ (j:Nat) (x:Fd α),st[j+1]? =some x→to_ x.by_=x.v∧ ∃ (k:Nat) (y:Fd α),k≤j∧st[k]? =some y∧x.by_∈es y.v∧x.lv=y.lv+1
 up: ∀ (j:Nat) (x y:Fd α),st[j]? =some x→st[j+1]? =some y→x.lv≤y.lv
theorem mem_nodes {st:List (Fd α)} {v:Nat} :v∈nodes st↔ ∃ (j:Nat) (x:Fd α),st[j]? =some x∧x.v=v:=by
 unfold nodes;rw[List.mem_map];constructor
 ·rintro⟨x,hx,rfl⟩
  obtain⟨j,hj⟩:=List.getElem?_of_mem hx;exact⟨j,x,hj,rfl⟩
 ·rintro⟨j,x,hj,rfl⟩
  exact⟨x,List.mem_of_getElem? hj,rfl⟩
theorem Fds.vis {from_ to_:α→Nat} {es:Nat→List α} {s:Nat} {st:List (Fd α)} (h:Fds from_ to_ es s st) {i:Nat} {x:Fd α} (hx:st[i]? =some x) (hm: ∀ y,y∈st→y.lv≤x.lv+1) {e:α} (he:e∈es x.v):
  Fds from_ to_ es s (vis to_ x.lv st e)∧ ∀ y,y∈H.vis to_ x.lv st e→y.lv≤x.lv+1:=by
 unfold H.vis;split
 ·exact⟨h,hm⟩
 ·rename_i hn
  have hil:=(List.getElem?_eq_some_iff.1 hx).1;have hsm: ∀ (j:Nat) (y:Fd α),(st ++ [⟨to_ e,e,x.lv+1⟩])[j]? =some y→(j<st.length∧st[j]? =some y)∨(j=st.length∧y=⟨to_ e,e,x.lv+1⟩):=by
   intro j y hy;rcases Nat.lt_or_ge j st.length with hj|hj
   ·rw[List.getElem?_append_left hj] at hy;exact .inl ⟨hj,hy⟩
   ·rw[List.getElem?_append_right hj] at hy
    have hj0:j - st.length=0:=by
     have:=(List.getElem?_eq_some_iff.1 hy).1;simp at this;omega
    rw[hj0] at hy;injection hy with hy
    exact .inr ⟨by omega,hy.symm⟩
  refine⟨⟨?_,?_,?_,?_⟩,?_⟩
  ·show (nodes (st ++ [_])).Nodup
   unfold nodes;rw[List.map_append];refine List.nodup_append.2 ⟨h.nodup,by simp,?_⟩;intro a ha b hb;simp at hb;subst hb;intro e';subst e';exact hn ha
  ·obtain⟨y,r,hr,h1,h2⟩:=h.head
   exact⟨y,r ++ [_],by rw[hr];rfl,h1,h2⟩
  ·intro j y hy
   rcases hsm _ _ hy with ⟨hj,hy⟩|⟨hj,rfl⟩
   ·obtain⟨h1,k,z,hk,hz,h2,h3⟩:=h.by_ok j y hy
    exact⟨h1,k,z,hk,by rw[List.getElem?_append_left (by omega)];exact hz,h2,h3⟩
   ·exact⟨rfl,i,x,by omega,by rw[List.getElem?_append_left hil];exact hx,he,rfl⟩
  ·intro j y z hy hz
   rcases hsm _ _ hz with ⟨hj,hz⟩|⟨hj,rfl⟩
   ·rw[List.getElem?_append_left (by omega)] at hy
    exact h.up j y z hy hz
   ·rw[List.getElem?_append_left (by omega)] at hy
    exact hm y (List.mem_of_getElem? hy)
  ·intro y hy
   rcases List.mem_append.1 hy with hy|hy
   ·exact hm y hy
   ·rw[List.mem_singleton.1 hy]
    exact Nat.le_refl _
theorem Fds.fold {from_ to_:α→Nat} {es:Nat→List α} {s:Nat} {x:Fd α} (l:List α): ∀ {st:List (Fd α)} (h:Fds from_ to_ es s st) {i:Nat} (hx:st[i]? =some x) (hm: ∀ y,y∈st→y.lv≤x.lv+1) (he: ∀ e,e∈l→e∈es x.v),
  Fds from_ to_ es s (l.foldl (H.vis to_ x.lv) st)∧ ∀ y,y∈l.foldl (H.vis to_ x.lv) st→y.lv≤x.lv+1:=by
 induction l with
 |nil=>intro st h i hx hm he;exact⟨h,hm⟩
 |cons e l ih=>
  intro st h i hx hm he;obtain⟨h1,h2⟩:=h.vis hx hm (he e List.mem_cons_self);obtain⟨r,hr⟩:=vis_pre to_ x.lv st e;have hx':(H.vis to_ x.lv st e)[i]? =some x:=by rw[hr,List.getElem?_append_left (List.getElem?_eq_some_iff.1 hx).1];exact hx
  exact ih h1 hx' h2 (fun e he'=>he e (List.mem_cons_of_mem _ he'))
theorem fold_mem (to_:α→Nat) (lv:Nat) (l:List α) (st:List (Fd α)) {e:α} (he:e∈l):to_ e∈nodes (l.foldl (vis to_ lv) st):=by
 induction l generalizing st with
 |nil=>cases he
 |cons f l ih=>
  rcases List.mem_cons.1 he with rfl|he
  ·obtain⟨r,hr⟩:=fold_pre to_ lv l (vis to_ lv st e)
   rw[List.foldl_cons,hr];have:to_ e∈nodes (vis to_ lv st e):=by
    unfold vis;split
    ·assumption
    ·unfold nodes;rw[List.map_append];exact List.mem_append_right _ (by simp)
   unfold nodes at this ⊢;rw[List.map_append];exact List.mem_append_left _ this
  ·exact ih _ he
structure Upto (from_ to_:α→Nat) (es:Nat→List α) (s i:Nat) (st:List (Fd α)):Prop where
 fds:Fds from_ to_ es s st
 most: ∀ (x:Fd α),st[i]? =some x→ ∀ y,y∈st→y.lv≤x.lv+1
 seen: ∀ (j:Nat) (x:Fd α),j<i→st[j]? =some x→ ∀ e,e∈es x.v→ ∃ (k:Nat) (y:Fd α),st[k]? =some y∧y.v=to_ e∧y.lv≤x.lv+1
theorem upto_start (from_ to_:α→Nat) (es:Nat→List α) (s:Nat) (e0:α):Upto from_ to_ es s 0 [⟨s,e0,0⟩]:=by
 refine⟨⟨by simp[nodes],⟨_,[],rfl,rfl,rfl⟩,?_,?_⟩,?_,?_⟩
 ·intro j x h;simp at h
 ·intro j x y h1 h2;simp at h2
 ·intro x h y hy
  rw[List.mem_singleton.1 hy];exact Nat.zero_le _
 ·intro j x h;exact absurd h (Nat.not_lt_zero _)
theorem Upto.next {from_ to_:α→Nat} {es:Nat→List α} {s i:Nat} {st:List (Fd α)} (h:Upto from_ to_ es s i st) {x:Fd α} (hx:st[i]? =some x):Upto from_ to_ es s (i+1) (proc to_ es st x):=by
 obtain⟨h1,h2⟩:=Fds.fold (es x.v) h.fds hx (h.most x hx) (fun e he=>he);obtain⟨r,hr⟩:=fold_pre to_ x.lv (es x.v) st;have hil:=(List.getElem?_eq_some_iff.1 hx).1;have hx':(proc to_ es st x)[i]? =some x:=by unfold proc;rw[hr,List.getElem?_append_left hil];exact hx
 refine⟨h1,?_,?_⟩
 ·intro y hy z hz
  have h3:=h1.up i x y hx' hy;have h4:=h2 z hz;omega
 ·intro j y hj hy e he
  rcases Nat.lt_or_ge j i with hji|hji
  ·unfold proc at hy ⊢
   rw[hr,List.getElem?_append_left (by omega)] at hy;obtain⟨k,z,hk,hv,hl⟩:=h.seen j y hji hy e he;exact⟨k,z,by rw[hr,List.getElem?_append_left (List.getElem?_eq_some_iff.1 hk).1];exact hk,hv,hl⟩
  ·have hji':j=i:=by omega
   subst hji';rw[hx'] at hy;injection hy with hy
   subst hy;obtain⟨k,z,hk,hv⟩:=mem_nodes.1 (fold_mem to_ x.lv (es x.v) st he);exact⟨k,z,hk,hv,h2 z (List.mem_of_getElem? hk)⟩
theorem bfs_done {from_ to_:α→Nat} {es:Nat→List α} {s N:Nat} (hN: ∀ (u:Nat) (e:α),e∈es u→to_ e<N) (hs:s<N) (n:Nat): ∀ (i:Nat) (st:List (Fd α)),Upto from_ to_ es s i st→N≤i+n→Upto from_ to_ es s (bfs to_ es n i st).length (bfs to_ es n i st):=by
 have hlen: ∀ (st:List (Fd α)),Fds from_ to_ es s st→st.length≤N:=by
  intro st h;have:(nodes st).length≤N:=by
   refine pigeonN N _ h.nodup ?_;intro v hv;obtain⟨j,x,hj,rfl⟩:=mem_nodes.1 hv;cases j with
   |zero=>
    obtain⟨y,r,hr,h1,_⟩:=h.head;rw[hr] at hj;injection hj with hj
    rw[← hj,h1];exact hs
   |succ j=>
    obtain⟨h1,k,y,_,_,h2,_⟩:=h.by_ok j x hj;rw[← h1];exact hN _ _ h2
  unfold nodes at this;rw[List.length_map] at this;exact this
 induction n with
 |zero=>
  intro i st h hi;have hl:=hlen st h.fds;show Upto from_ to_ es s st.length st;exact⟨h.fds,fun x hx=>by have:=(List.getElem?_eq_some_iff.1 hx).1;omega,fun j x hj hx=>h.seen j x (by omega) hx⟩
 |succ n ih=>
  intro i st h hi;unfold bfs;cases hx:st[i]? with
  |none=>
   have hl:=List.getElem?_eq_none_iff.1 hx;show Upto from_ to_ es s st.length st;exact⟨h.fds,fun x hx=>by have:=(List.getElem?_eq_some_iff.1 hx).1;omega,fun j x hj hx=>h.seen j x (by omega) hx⟩
  |some x=>exact ih (i+1) _ (h.next hx) (by omega)
end
end H
namespace H
section
variable {α:Type}
def fnd (st:List (Fd α)) (v:Nat):Option (Fd α):=st.find? fun x=>x.v == v
theorem fnd_some {st:List (Fd α)} {v:Nat} {x:Fd α} (h:fnd st v=some x):x∈st∧x.v=v:=by
 have h1:=List.find?_some h;exact⟨List.mem_of_find?_eq_some h,by simpa using h1⟩
theorem fnd_none {st:List (Fd α)} {v:Nat} :fnd st v=none↔v ∉ nodes st:=by
 unfold fnd nodes;rw[List.find?_eq_none];constructor
 ·intro h hm
  obtain⟨x,hx,rfl⟩:=List.mem_map.1 hm;exact h x hx (by simp)
 ·intro h x hx e
  exact h (List.mem_map.2 ⟨x,hx,by simpa using e⟩)
theorem nodup_inj {st:List (Fd α)} (h:(nodes st).Nodup) {x y:Fd α} (hx:x∈st) (hy:y∈st) (e:x.v=y.v):x=y:=by
 induction st with
 |nil=>cases hx
 |cons z st ih=>
  have h':z.v ∉ nodes st∧(nodes st).Nodup:=List.nodup_cons.1 h;rcases List.mem_cons.1 hx with h1|h1<;>rcases List.mem_cons.1 hy with h2|h2
  ·rw[h1,h2]
  ·exact(h'.1 (List.mem_map.2 ⟨y,h2,by rw[← e,h1]⟩)).elim
  ·exact(h'.1 (List.mem_map.2 ⟨x,h1,by rw[e,h2]⟩)).elim
  ·exact ih h'.2 h1 h2
theorem fnd_of {st:List (Fd α)} (h:(nodes st).Nodup) {x:Fd α} (hx:x∈st):fnd st x.v=some x:=by
 cases hf:fnd st x.v with
 |none=>exact absurd (List.mem_map.2 ⟨x,hx,rfl⟩) (fnd_none.1 hf)
 |some y=>
  obtain⟨h1,h2⟩:=fnd_some hf;rw[nodup_inj h h1 hx h2]
theorem fnd_app {st r:List (Fd α)} {v:Nat} (h:v∈nodes st):fnd (st ++ r) v=fnd st v:=by
 unfold fnd;rw[List.find?_append];cases hf:fnd st v with
 |none=>exact absurd h (fnd_none.1 hf)
 |some x=>unfold fnd at hf;rw[hf];rfl
theorem nodes_app (st r:List (Fd α)):nodes (st ++ r)=nodes st ++ nodes r:=List.map_append
def backL (fr:α→Nat) (st:List (Fd α)) (s:Nat):Nat→Nat→List α
 |0,_=>[]
 |k+1,v=>if v=s then [] else match fnd st v with
  |none=>[]
  |some x=>x.by_::backL fr st s k (fr x.by_)
def wayL (fr:α→Nat) (st:List (Fd α)) (s v:Nat):List α:=(backL fr st s st.length v).reverse
def Leads (to_:α→Nat) (es:Nat→List α):Nat→List α→Nat→Prop
 |u,[],t=>u=t
 |u,e::L,t=>e∈es u∧Leads to_ es (to_ e) L t
theorem Leads.snoc {to_:α→Nat} {es:Nat→List α} {L:List α} {e:α} : ∀ {u v:Nat},Leads to_ es u L v→e∈es v→Leads to_ es u (L ++ [e]) (to_ e):=by
 induction L with
 |nil=>intro u v h he;cases h;exact⟨he,rfl⟩
 |cons f L ih=>intro u v h he;exact⟨h.1,ih h.2 he⟩
theorem Fds.mem_lv {fr to_:α→Nat} {es:Nat→List α} {s:Nat} {st:List (Fd α)} (h:Fds fr to_ es s st) {x:Fd α} (hx:x∈st):
  (x.v=s∧x.lv=0)∨(x.v≠s∧to_ x.by_=x.v∧ ∃ y,y∈st∧x.by_∈es y.v∧x.lv=y.lv+1):=by
 obtain⟨j,hj⟩:=List.getElem?_of_mem hx;obtain⟨z,r,hr,h1,h2⟩:=h.head;have hz:z∈st:=by rw[hr];exact List.mem_cons_self
 cases j with
 |zero=>
  rw[hr] at hj;injection hj with hj
  rw[← hj];exact .inl ⟨h1,h2⟩
 |succ j=>
  obtain⟨h3,k,y,_,hy,h4,h5⟩:=h.by_ok j x hj;refine .inr ⟨?_,h3,y,List.mem_of_getElem? hy,h4,h5⟩;intro e;have:=nodup_inj h.nodup hx hz (by rw[e,h1]);rw[this,h2] at h5;omega
theorem lv_lt {fr to_:α→Nat} {es:Nat→List α} {s:Nat} {st:List (Fd α)} (h:Fds fr to_ es s st) {x:Fd α} (hx:x∈st):x.lv<st.length:=by
 obtain⟨z,r,hr,h1,h2⟩:=h.head;have aux: ∀ (j:Nat) (y:Fd α),st[j]? =some y→y.lv≤j:=by
  intro j
  induction j using Nat.strongRecOn with
  |_ j ih=>
   intro y hy;cases j with
   |zero=>
    rw[hr] at hy;injection hy with hy
    rw[← hy,h2];exact Nat.le_refl _
   |succ j=>
    obtain⟨_,k,w,hk,hw,_,h5⟩:=h.by_ok j y hy;have:=ih k (by omega) w hw;omega
 obtain⟨j,hj⟩:=List.getElem?_of_mem hx;have:=aux j x hj;have:=(List.getElem?_eq_some_iff.1 hj).1;omega
theorem backL_spec {fr to_:α→Nat} {es:Nat→List α} {s:Nat} {st:List (Fd α)} (h:Fds fr to_ es s st) (hes: ∀ u e,e∈es u→fr e=u) (k:Nat): ∀ {x:Fd α},x∈st→x.lv≤k→
  (backL fr st s k x.v).length=x.lv∧Leads to_ es s (backL fr st s k x.v).reverse x.v:=by
 induction k with
 |zero=>
  intro x hx hk;rcases h.mem_lv hx with ⟨h1,h2⟩|⟨_,_,y,_,_,h5⟩
  ·exact⟨by rw[h2];rfl,h1.symm⟩
  ·omega
 |succ k ih=>
  intro x hx hk;unfold backL;rcases h.mem_lv hx with ⟨h1,h2⟩|⟨h1,h3,y,hy,h4,h5⟩
  ·rw[Yx h1,h2]
   exact⟨rfl,h1.symm⟩
  ·rw[Yy h1,fnd_of h.nodup hx]
   show (_::_).length=_∧Leads to_ es s (_::_).reverse _;rw[hes _ _ h4];obtain⟨i1,i2⟩:=ih hy (by omega);refine⟨by rw[List.length_cons,i1,h5],?_⟩;rw[List.reverse_cons, ← h3];exact i2.snoc h4
theorem backL_more {fr to_:α→Nat} {es:Nat→List α} {s:Nat} {st:List (Fd α)} (h:Fds fr to_ es s st) (hes: ∀ u e,e∈es u→fr e=u) (r:List (Fd α)) (k:Nat): ∀ {k':Nat} {x:Fd α},x∈st→x.lv≤k→x.lv≤k'→
  backL fr (st ++ r) s k' x.v=backL fr st s k x.v:=by
 induction k with
 |zero=>
  intro k' x hx hk hk';rcases h.mem_lv hx with ⟨h1,h2⟩|⟨_,_,y,_,_,h5⟩
  ·cases k' with
   |zero=>rfl
   |succ k'=>unfold backL;rw[Yx h1]
  ·omega
 |succ k ih=>
  intro k' x hx hk hk';rcases h.mem_lv hx with ⟨h1,h2⟩|⟨h1,h3,y,hy,h4,h5⟩
  ·cases k' with
   |zero=>unfold backL;rw[Yx h1]
   |succ k'=>unfold backL;rw[Yx h1,Yx h1]
  ·cases k' with
   |zero=>omega
   |succ k'=>
    unfold backL;rw[Yy h1,Yy h1,fnd_app (List.mem_map.2 ⟨x,hx,rfl⟩),fnd_of h.nodup hx];show _::_=_::_;rw[hes _ _ h4,ih hy (by omega) (by omega)]
def dOf (n:Nat) (st:List (Fd α)):List Int:=(List.range n).map fun v=>match fnd st v with
 |some x=>(x.lv:Int)
 |none=> -1
def bOf (z:α) (n:Nat) (st:List (Fd α)):List α:=(List.range n).map fun v=>match fnd st v with
 |some x=>x.by_
 |none=>z
theorem dOf_len (n:Nat) (st:List (Fd α)):(dOf n st).length=n:=by simp[dOf]
theorem bOf_len (z:α) (n:Nat) (st:List (Fd α)):(bOf z n st).length=n:=by simp[bOf]
theorem dOf_get {n v:Nat} (st:List (Fd α)) (d:Int) (hv:v<n):(dOf n st).getD v d=match fnd st v with
  |some x=>(x.lv:Int)
  |none=> -1:=by
 unfold dOf;rw[List.getD_eq_getElem?_getD,List.getElem?_map,List.getElem?_range hv];rfl
theorem bOf_get {n v:Nat} (z:α) (st:List (Fd α)) (d:α) (hv:v<n):(bOf z n st).getD v d=match fnd st v with
  |some x=>x.by_
  |none=>z:=by
 unfold bOf;rw[List.getD_eq_getElem?_getD,List.getElem?_map,List.getElem?_range hv];rfl
theorem dOf_neg {n v:Nat} (st:List (Fd α)) (d:Int) (hv:v<n):(dOf n st).getD v d<0↔v ∉ nodes st:=by
 rw[dOf_get st d hv, ← fnd_none];cases fnd st v with
 |none=>simp
 |some x=>simp
theorem dOf_mem {n:Nat} {st:List (Fd α)} (h:(nodes st).Nodup) {x:Fd α} (hx:x∈st) (d:Int) (hv:x.v<n):(dOf n st).getD x.v d=x.lv:=by
 rw[dOf_get st d hv,fnd_of h hx]
theorem set_map_range {β:Type} (n w:Nat) (f:Nat→β) (b:β):((List.range n).map f).set w b=(List.range n).map fun v=>if v=w then b else f v:=by
 apply List.ext_getElem?;intro i;rw[List.getElem?_set];simp only[List.length_map,List.length_range,List.getElem?_map];by_cases e:w=i
 ·subst e
  by_cases hw:w<n
  ·rw[Yx rfl,Yx hw,List.getElem?_range hw]
   simp
  ·rw[Yx rfl,Yy hw,List.getElem?_eq_none (by simp;omega)]
   rfl
 ·rw[Yy e]
  by_cases hi:i<n
  ·rw[List.getElem?_range hi]
   simp[Ne.symm e]
  ·rw[List.getElem?_eq_none (by simp;omega)]
   rfl
theorem dOf_snoc (n:Nat) {st:List (Fd α)} {x:Fd α} (h:x.v ∉ nodes st):dOf n (st ++ [x])=(dOf n st).set x.v (x.lv:Int):=by
 unfold dOf;rw[set_map_range];apply List.map_congr_left;intro v hv;by_cases e:v=x.v
 ·subst e
  rw[Yx rfl];have h1:=fnd_none.2 h;unfold fnd at h1 ⊢;rw[List.find?_append,h1];simp
 ·rw[Yy e]
  unfold fnd;rw[List.find?_append];cases hf:st.find? (fun y=>y.v == v) with
  |some y=>rfl
  |none=>simp[Ne.symm e]
theorem bOf_snoc (z:α) (n:Nat) {st:List (Fd α)} {x:Fd α} (h:x.v ∉ nodes st):bOf z n (st ++ [x])=(bOf z n st).set x.v x.by_:=by
 unfold bOf;rw[set_map_range];apply List.map_congr_left;intro v hv;by_cases e:v=x.v
 ·subst e
  rw[Yx rfl];have h1:=fnd_none.2 h;unfold fnd at h1 ⊢;rw[List.find?_append,h1];simp
 ·rw[Yy e]
  unfold fnd;rw[List.find?_append];cases hf:st.find? (fun y=>y.v == v) with
  |some y=>rfl
  |none=>simp[Ne.symm e]
theorem dOf_one (n s:Nat) (z:α):dOf n [⟨s,z,0⟩]=(List.replicate n (-1:Int)).set s 0:=by
 have h1:(List.replicate n (-1:Int))=dOf n ([]:List (Fd α)):=by
  unfold dOf;apply List.ext_getElem (by simp);intro i h1 h2;simp[fnd]
 rw[h1,show ([⟨s,z,0⟩]:List (Fd α))=[] ++ [⟨s,z,0⟩] from rfl,dOf_snoc n (by simp[nodes])];rfl
theorem bOf_one (n s:Nat) (z:α):bOf z n [⟨s,z,0⟩]=List.replicate n z:=by
 unfold bOf;apply List.ext_getElem (by simp);intro i h1 h2;simp only[List.getElem_map,List.getElem_range,List.getElem_replicate];unfold fnd;rw[List.find?_cons];cases (s == i)<;>rfl
def bfsN (to_:α→Nat) (es:Nat→List α) (z:α) (n s:Nat):List (Fd α):=bfs to_ es n 0 [⟨s,z,0⟩]
theorem bfsN_upto {fr to_:α→Nat} {es:Nat→List α} {z:α} {n s:Nat} (hN: ∀ (u:Nat) (e:α),e∈es u→to_ e<n) (hs:s<n):Upto fr to_ es s (bfsN to_ es z n s).length (bfsN to_ es z n s):=
 bfs_done hN hs n 0 _ (upto_start fr to_ es s z) (by omega)
theorem bfsN_closed {to_:α→Nat} {es:Nat→List α} {z:α} {n s:Nat} (hN: ∀ (u:Nat) (e:α),e∈es u→to_ e<n) (hs:s<n) {x:Fd α} (hx:x∈bfsN to_ es z n s) {e:α} (he:e∈es x.v):
  ∃ y,y∈bfsN to_ es z n s∧y.v=to_ e∧y.lv≤x.lv+1:=by
 obtain⟨j,hj⟩:=List.getElem?_of_mem hx;obtain⟨k,y,hk,h1,h2⟩:=(bfsN_upto (fr:=fun _=>0) (z:=z) hN hs).seen j x (List.getElem?_eq_some_iff.1 hj).1 hj e he;exact⟨y,List.mem_of_getElem? hk,h1,h2⟩
theorem fds_lt {fr to_:α→Nat} {es:Nat→List α} {n s:Nat} {st:List (Fd α)} (h:Fds fr to_ es s st) (hN: ∀ (u:Nat) (e:α),e∈es u→to_ e<n) (hs:s<n): ∀ v,v∈nodes st→v<n:=by
 intro v hv;obtain⟨x,hx,rfl⟩:=List.mem_map.1 hv;rcases h.mem_lv hx with ⟨h1,_⟩|⟨_,h3,y,_,h4,_⟩
 ·rw[h1];exact hs
 ·rw[← h3];exact hN _ _ h4
theorem fds_len {fr to_:α→Nat} {es:Nat→List α} {n s:Nat} {st:List (Fd α)} (h:Fds fr to_ es s st) (hN: ∀ (u:Nat) (e:α),e∈es u→to_ e<n) (hs:s<n):st.length≤n:=by
 have:=pigeonN n (nodes st) h.nodup (fds_lt h hN hs);unfold nodes at this
 rwa [List.length_map] at this
end
end H
namespace H
section
variable {α:Type}
structure Net_ (α:Type) where
 rows:Nat→List α
 to_:α→Nat
 fr:α→Nat
 D:Nat→Int
 ok:α→Bool
def Net_.adm (g:Net_ α) (u:Nat) (e:α):Bool:=decide (g.D (g.to_ e)=g.D u+1) && g.ok e
theorem adm_lv {g:Net_ α} {u:Nat} {e:α} (h:g.adm u e=true):g.D (g.to_ e)=g.D u+1∧g.ok e=true:=by
 unfold Net_.adm at h;rw[Bool.and_eq_true,decide_eq_true_eq] at h;exact h
end
end H
namespace P
attribute [local go_sem] max2_int min2_int max_two min_two max_three min_three max_four min_four
def static_Flowing_From.f (Zb:Int) (Zc:Bool) (Za:List (S74)) (Xc:List Int) (Zh:Int) (Xa:Bool):Option (Int):=if Xa=true then(if 0≤Zh then(if Zh<(Za.length:Int) then(some ((rd_T74 Za Zh).f1)) else(none)) else(none)) else(if 0≤Zh then(if Zh<(Za.length:Int) then(some ((rd_T74 Za Zh).f0)) else(none)) else(none))
set_option maxHeartbeats 8000000 in
set_option maxRecDepth 100000 in
theorem static_Flowing_From.calls (Zb:Int) (Zc:Bool) (Ze:Option Addr) (Zd:Nat) (Za:List (S74)) (Wi:Option Addr) (Wj:Nat) (Xc:List Int) (Zh:Int) (Xa:Bool) (r:Int) (w:World) (Zr:Kd.C k74 w Ze Za.length Za) (Zs:Za.length≤Zd) (hr0_3:Kd.C (Kd.int .i64) w Wi Xc.length Xc) (hc0_3:Xc.length≤Wj) (h:static_Flowing_From.f Zb Zc Za Xc Zh Xa=some r):
  Calls Try.prog 106 #[.agg #[.int .i64 Zb, .bool Zc, .slice Ze Za.length Zd, .slice Wi Xc.length Wj], .agg #[.int .i64 Zh, .bool Xa]] w fun e w'=>e= .returned (.int .i64 r)∧Below w.heap.size w w':=by
 have hu115:=Try.underlying115;have hu38:=Try.underlying38;have Zi:=Ya Zr;have Zn:=Ya Zs;clear Zr Zs;have HR0_3:=Ya hr0_3;have HC0_3:=Ya hc0_3;clear hr0_3 hc0_3;have HB:=Ya (Yo w.heap.size w);have H:(if Xa=true then(if 0≤Zh then(if Zh<(Za.length:Int) then(some ((rd_T74 Za Zh).f1)) else(none)) else(none)) else(if 0≤Zh then(if Zh<(Za.length:Int) then(some ((rd_T74 Za Zh).f0)) else(none)) else(none)))=some r:=h;clear h;by_cases c3:Xa=true
 ·subst c3
  have H1:(if 0≤Zh then(if Zh<(Za.length:Int) then(some ((rd_T74 Za Zh).f1)) else(none)) else(none))=some r:=by first|(rw[Yx rfl] at H;exact H)|(rw[Yx trivial] at H;exact H)
  clear H;have H:=H1;clear H1;by_cases c4:0≤Zh
  rotate_left
  ·rw[Yy c4] at H
   exact absurd H (by simp)
  rw[Yx c4] at H;have c4b0:decide (0≤Zh)=true:=Yv c4;clear c4;by_cases c5:Zh<(Za.length:Int)
  rotate_left
  ·rw[Yy c5] at H
   exact absurd H (by simp)
  rw[Yx c5] at H;have c5b0:decide (Zh<(Za.length:Int))=true:=Yv c5;clear c5;obtain rfl:=Option.some.inj H;go_enter Try.func106,Try.ntmps106;go_wp2_with (first|((with_reducible refine gate_dst (N:=2) rfl ?_);refine Yz ?hg (N:=2) ?hd (cs:= #[.int .i64 Zb, .bool Zc, .slice Ze Za.length Zd, .slice Wi Xc.length Wj]) (t:=115) ?hr ?_;(case hd=>rfl);(case hg=>rfl);(case hr=>first|(go_simp;done)|(go_simp;rfl));intro Vx hg w6 Zg hb;have n0_:=Ya (Yk (by repeat(first|(with_reducible first|exact HB.out|apply Ye|apply Yd|apply Yg)|exact HB.out)) hb);have n1_:=Ya (Zg);have n2_:=Ya ((by rw[hg];exact(Yi (by repeat(first|(with_reducible first|exact HB.out|apply Ye|apply Yd|apply Yg)|exact HB.out))):w.heap.size≤Vx));have n3_:=Ya ((by rw[hg];exact(Yi (by repeat(first|(with_reducible first|exact HB.out|apply Ye|apply Yd|apply Yg)|exact HB.out))):w.heap.size≤Vx));clear HB;have HB:=n0_;have Wz:=n1_;have GW380:=n2_;have GE380:=n3_;clear n0_ n1_ n2_ n3_;clear hb Zg hg)|((with_reducible refine gate_dst (N:=3) rfl ?_);refine Yz ?hg (N:=3) ?hd (cs:= #[.int .i64 Zh, .bool true]) (t:=38) ?hr ?_;(case hd=>rfl);(case hg=>rfl);(case hr=>first|(go_simp;done)|(go_simp;rfl));intro gb381 hg w7 Zg hb;have n0_:=Ya (Yn (g:=Vx) (o:= .cells #[.int .i64 Zb, .bool Zc, .slice Ze Za.length Zd, .slice Wi Xc.length Wj] 115 (0,0)) (by(with_reducible repeat(first|refine Yl ?_ _|refine Ym ?_|refine Yj ?_ _));exact Wz.out) hb);have n1_:=Ya (Yk (by repeat(first|(with_reducible first|exact HB.out|apply Ye|apply Yd|apply Yg|refine Yh ?_ GE380.out)|exact HB.out)) hb);have n2_:=Ya (Zg);have n3_:=Ya ((by rw[hg];exact(Yi (by repeat(first|(with_reducible first|exact HB.out|apply Ye|apply Yd|apply Yg|refine Yh ?_ GE380.out)|exact HB.out))):w.heap.size≤gb381));have n4_:=Ya ((by rw[hg];exact(Yi (by repeat(first|(with_reducible first|exact HB.out|apply Ye|apply Yd|apply Yg|refine Yh ?_ GE380.out)|exact HB.out))):w.heap.size≤gb381));have n5_:=Ya ((by rw[hg];exact Nat.ne_of_lt (blk_lt (g:=Vx) (o:= .cells #[.int .i64 Zb, .bool Zc, .slice Ze Za.length Zd, .slice Wi Xc.length Wj] 115 (0,0)) (by(with_reducible repeat(first|refine Yl ?_ _|refine Ym ?_|refine Yj ?_ _));exact Wz.out)):Vx≠gb381));have n6_:=Ya ((by rw[hg];exact Nat.ne_of_gt (blk_lt (g:=Vx) (o:= .cells #[.int .i64 Zb, .bool Zc, .slice Ze Za.length Zd, .slice Wi Xc.length Wj] 115 (0,0)) (by(with_reducible repeat(first|refine Yl ?_ _|refine Ym ?_|refine Yj ?_ _));exact Wz.out)):gb381≠Vx));clear Wz;clear HB;have Wz:=n0_;have HB:=n1_;have BK381:=n2_;have GW381:=n3_;have GE381:=n4_;have NB380_381:=n5_;have NB381_380:=n6_;clear n0_ n1_ n2_ n3_ n4_ n5_ n6_;clear hb Zg hg;have hnb8:=NB381_380.out;have hnc8:=NB380_381.out;have hcz9_0:w7.cell? ⟨gb381,0,none⟩=some (.int .i64 Zh):=(Yc BK381.out 0).trans rfl;have hcz9_1:w7.cell? ⟨gb381,1,none⟩=some (.bool true):=(Yc BK381.out 1).trans rfl;have hfz9_0:=Yf BK381.out 0;have hfz9_1:=Yf BK381.out 1;have Vd:w7.cell? ⟨Vx,0,none⟩=some (.int .i64 Zb):=(Yc Wz.out 0).trans rfl;have Ve:w7.cell? ⟨Vx,1,none⟩=some (.bool Zc):=(Yc Wz.out 1).trans rfl;have Vf:w7.cell? ⟨Vx,2,none⟩=some (.slice Ze Za.length Zd):=(Yc Wz.out 2).trans rfl;have hcz10_3:w7.cell? ⟨Vx,3,none⟩=some (.slice Wi Xc.length Wj):=(Yc Wz.out 3).trans rfl;have Vg:=Yf Wz.out 0;have Vh:=Yf Wz.out 1;have Vi:=Yf Wz.out 2;have hfz10_3:=Yf Wz.out 3;have p382:0≤(Zh:Int):=Yu (by first|(with_reducible assumption)|assumption);have q382:Zh<(Za.length:Int):=Yu (by first|(with_reducible assumption)|assumption);obtain⟨ad382,e382,hx382_0,hx382_1,hx382_2,hx382_3⟩:=at_T74 Zi.out Zh p382 q382;cases e382;replace hx382_0:=(HB.out.cell (Yb w _ hx382_0)).trans hx382_0;replace hx382_1:=(HB.out.cell (Yb w _ hx382_1)).trans hx382_1;replace hx382_2:=(HB.out.cell (Yb w _ hx382_2)).trans hx382_2;replace hx382_3:=(HB.out.cell (Yb w _ hx382_3)).trans hx382_3;replace p382:=eq_true p382;replace q382:=eq_true q382));go_ret;exact⟨by first|rfl|(simp[errW_none,errW_some]<;>rfl)|(simp[*,errW_none,errW_some]<;>rfl),by repeat(first|(with_reducible first|exact HB.out|apply Ye|apply Yd|apply Yg|refine Yh ?_ GE380.out|refine Yh ?_ GE381.out)|exact HB.out)⟩
 replace c3:=Bool.eq_false_iff.mpr c3;subst c3;have H1:(if 0≤Zh then(if Zh<(Za.length:Int) then(some ((rd_T74 Za Zh).f0)) else(none)) else(none))=some r:=by rw[Yy (show ¬ (false=true) by decide)] at H;exact H
 clear H;have H:=H1;clear H1;by_cases c11:0≤Zh
 rotate_left
 ·rw[Yy c11] at H
  exact absurd H (by simp)
 rw[Yx c11] at H;have c11b0:decide (0≤Zh)=true:=Yv c11;clear c11;by_cases c12:Zh<(Za.length:Int)
 rotate_left
 ·rw[Yy c12] at H
  exact absurd H (by simp)
 rw[Yx c12] at H;have c12b0:decide (Zh<(Za.length:Int))=true:=Yv c12;clear c12;obtain rfl:=Option.some.inj H;go_enter Try.func106,Try.ntmps106;go_wp2_with (first|((with_reducible refine gate_dst (N:=2) rfl ?_);refine Yz ?hg (N:=2) ?hd (cs:= #[.int .i64 Zb, .bool Zc, .slice Ze Za.length Zd, .slice Wi Xc.length Wj]) (t:=115) ?hr ?_;(case hd=>rfl);(case hg=>rfl);(case hr=>first|(go_simp;done)|(go_simp;rfl));intro Vx hg w13 Zg hb;have n0_:=Ya (Yk (by repeat(first|(with_reducible first|exact HB.out|apply Ye|apply Yd|apply Yg)|exact HB.out)) hb);have n1_:=Ya (Zg);have n2_:=Ya ((by rw[hg];exact(Yi (by repeat(first|(with_reducible first|exact HB.out|apply Ye|apply Yd|apply Yg)|exact HB.out))):w.heap.size≤Vx));have n3_:=Ya ((by rw[hg];exact(Yi (by repeat(first|(with_reducible first|exact HB.out|apply Ye|apply Yd|apply Yg)|exact HB.out))):w.heap.size≤Vx));clear HB;have HB:=n0_;have Wz:=n1_;have GW380:=n2_;have GE380:=n3_;clear n0_ n1_ n2_ n3_;clear hb Zg hg)|((with_reducible refine gate_dst (N:=3) rfl ?_);refine Yz ?hg (N:=3) ?hd (cs:= #[.int .i64 Zh, .bool false]) (t:=38) ?hr ?_;(case hd=>rfl);(case hg=>rfl);(case hr=>first|(go_simp;done)|(go_simp;rfl));intro gb381 hg w14 Zg hb;have n0_:=Ya (Yn (g:=Vx) (o:= .cells #[.int .i64 Zb, .bool Zc, .slice Ze Za.length Zd, .slice Wi Xc.length Wj] 115 (0,0)) (by(with_reducible repeat(first|refine Yl ?_ _|refine Ym ?_|refine Yj ?_ _));exact Wz.out) hb);have n1_:=Ya (Yk (by repeat(first|(with_reducible first|exact HB.out|apply Ye|apply Yd|apply Yg|refine Yh ?_ GE380.out)|exact HB.out)) hb);have n2_:=Ya (Zg);have n3_:=Ya ((by rw[hg];exact(Yi (by repeat(first|(with_reducible first|exact HB.out|apply Ye|apply Yd|apply Yg|refine Yh ?_ GE380.out)|exact HB.out))):w.heap.size≤gb381));have n4_:=Ya ((by rw[hg];exact(Yi (by repeat(first|(with_reducible first|exact HB.out|apply Ye|apply Yd|apply Yg|refine Yh ?_ GE380.out)|exact HB.out))):w.heap.size≤gb381));have n5_:=Ya ((by rw[hg];exact Nat.ne_of_lt (blk_lt (g:=Vx) (o:= .cells #[.int .i64 Zb, .bool Zc, .slice Ze Za.length Zd, .slice Wi Xc.length Wj] 115 (0,0)) (by(with_reducible repeat(first|refine Yl ?_ _|refine Ym ?_|refine Yj ?_ _));exact Wz.out)):Vx≠gb381));have n6_:=Ya ((by rw[hg];exact Nat.ne_of_gt (blk_lt (g:=Vx) (o:= .cells #[.int .i64 Zb, .bool Zc, .slice Ze Za.length Zd, .slice Wi Xc.length Wj] 115 (0,0)) (by(with_reducible repeat(first|refine Yl ?_ _|refine Ym ?_|refine Yj ?_ _));exact Wz.out)):gb381≠Vx));clear Wz;clear HB;have Wz:=n0_;have HB:=n1_;have BK381:=n2_;have GW381:=n3_;have GE381:=n4_;have NB380_381:=n5_;have NB381_380:=n6_;clear n0_ n1_ n2_ n3_ n4_ n5_ n6_;clear hb Zg hg;have hnb15:=NB381_380.out;have hnc15:=NB380_381.out;have hcz16_0:w14.cell? ⟨gb381,0,none⟩=some (.int .i64 Zh):=(Yc BK381.out 0).trans rfl;have hcz16_1:w14.cell? ⟨gb381,1,none⟩=some (.bool false):=(Yc BK381.out 1).trans rfl;have hfz16_0:=Yf BK381.out 0;have hfz16_1:=Yf BK381.out 1;have hcz17_0:w14.cell? ⟨Vx,0,none⟩=some (.int .i64 Zb):=(Yc Wz.out 0).trans rfl;have hcz17_1:w14.cell? ⟨Vx,1,none⟩=some (.bool Zc):=(Yc Wz.out 1).trans rfl;have hcz17_2:w14.cell? ⟨Vx,2,none⟩=some (.slice Ze Za.length Zd):=(Yc Wz.out 2).trans rfl;have hcz17_3:w14.cell? ⟨Vx,3,none⟩=some (.slice Wi Xc.length Wj):=(Yc Wz.out 3).trans rfl;have hfz17_0:=Yf Wz.out 0;have hfz17_1:=Yf Wz.out 1;have hfz17_2:=Yf Wz.out 2;have hfz17_3:=Yf Wz.out 3;have p383:0≤(Zh:Int):=Yu (by first|(with_reducible assumption)|assumption);have q383:Zh<(Za.length:Int):=Yu (by first|(with_reducible assumption)|assumption);obtain⟨ad383,e383,hx383_0,hx383_1,hx383_2,hx383_3⟩:=at_T74 Zi.out Zh p383 q383;cases e383;replace hx383_0:=(HB.out.cell (Yb w _ hx383_0)).trans hx383_0;replace hx383_1:=(HB.out.cell (Yb w _ hx383_1)).trans hx383_1;replace hx383_2:=(HB.out.cell (Yb w _ hx383_2)).trans hx383_2;replace hx383_3:=(HB.out.cell (Yb w _ hx383_3)).trans hx383_3;replace p383:=eq_true p383;replace q383:=eq_true q383));go_ret;exact⟨by first|rfl|(simp[errW_none,errW_some]<;>rfl)|(simp[*,errW_none,errW_some]<;>rfl),by repeat(first|(with_reducible first|exact HB.out|apply Ye|apply Yd|apply Yg|refine Yh ?_ GE380.out|refine Yh ?_ GE381.out)|exact HB.out)⟩
end P
namespace P
attribute [local go_sem] max2_int min2_int max_two min_two max_three min_three max_four min_four
def static_Flowing_To.f (Zb:Int) (Zc:Bool) (Za:List (S74)) (Xc:List Int) (Zh:Int) (Xa:Bool):Option (Int):=(static_Flowing_From.f Zb Zc Za Xc Zh (!Xa)).bind fun t386=>(some t386)
set_option maxHeartbeats 8000000 in
set_option maxRecDepth 100000 in
theorem static_Flowing_To.calls (Zb:Int) (Zc:Bool) (Ze:Option Addr) (Zd:Nat) (Za:List (S74)) (Wi:Option Addr) (Wj:Nat) (Xc:List Int) (Zh:Int) (Xa:Bool) (r:Int) (w:World) (Zr:Kd.C k74 w Ze Za.length Za) (Zs:Za.length≤Zd) (hr0_3:Kd.C (Kd.int .i64) w Wi Xc.length Xc) (hc0_3:Xc.length≤Wj) (h:static_Flowing_To.f Zb Zc Za Xc Zh Xa=some r):
  Calls Try.prog 105 #[.agg #[.int .i64 Zb, .bool Zc, .slice Ze Za.length Zd, .slice Wi Xc.length Wj], .agg #[.int .i64 Zh, .bool Xa]] w fun e w'=>e= .returned (.int .i64 r)∧Below w.heap.size w w':=by
 have hu115:=Try.underlying115;have hu38:=Try.underlying38;have Zi:=Ya Zr;have Zn:=Ya Zs;clear Zr Zs;have HR0_3:=Ya hr0_3;have HC0_3:=Ya hc0_3;clear hr0_3 hc0_3;have HB:=Ya (Yo w.heap.size w);have H:((static_Flowing_From.f Zb Zc Za Xc Zh (!Xa)).bind fun t386=>(some t386))=some r:=h;clear h;replace H:=Option.bind_eq_some_iff.mp H;obtain⟨t386,A30,H⟩:=H;replace H:(some t386)=some r:=H;have A3:=Ya A30;clear A30;obtain rfl:=Option.some.inj H;go_enter Try.func105,Try.ntmps105;go_wp2_with (first|((with_reducible refine gate_dst (N:=2) rfl ?_);refine Yz ?hg (N:=2) ?hd (cs:= #[.int .i64 Zb, .bool Zc, .slice Ze Za.length Zd, .slice Wi Xc.length Wj]) (t:=115) ?hr ?_;(case hd=>rfl);(case hg=>rfl);(case hr=>first|(go_simp;done)|(go_simp;rfl));intro gb384 hg w4 Zg hb;have n0_:=Ya (Yk (by repeat(first|(with_reducible first|exact HB.out|apply Ye|apply Yd|apply Yg)|exact HB.out)) hb);have n1_:=Ya (Zg);have n2_:=Ya ((by rw[hg];exact(Yi (by repeat(first|(with_reducible first|exact HB.out|apply Ye|apply Yd|apply Yg)|exact HB.out))):w.heap.size≤gb384));have n3_:=Ya ((by rw[hg];exact(Yi (by repeat(first|(with_reducible first|exact HB.out|apply Ye|apply Yd|apply Yg)|exact HB.out))):w.heap.size≤gb384));clear HB;have HB:=n0_;have Ja:=n1_;have GW384:=n2_;have GE384:=n3_;clear n0_ n1_ n2_ n3_;clear hb Zg hg)|((with_reducible refine gate_dst (N:=3) rfl ?_);refine Yz ?hg (N:=3) ?hd (cs:= #[.int .i64 Zh, .bool Xa]) (t:=38) ?hr ?_;(case hd=>rfl);(case hg=>rfl);(case hr=>first|(go_simp;done)|(go_simp;rfl));intro gb385 hg w5 Zg hb;have n0_:=Ya (Yn (g:=gb384) (o:= .cells #[.int .i64 Zb, .bool Zc, .slice Ze Za.length Zd, .slice Wi Xc.length Wj] 115 (0,0)) (by(with_reducible repeat(first|refine Yl ?_ _|refine Ym ?_|refine Yj ?_ _));exact Ja.out) hb);have n1_:=Ya (Yk (by repeat(first|(with_reducible first|exact HB.out|apply Ye|apply Yd|apply Yg|refine Yh ?_ GE384.out)|exact HB.out)) hb);have n2_:=Ya (Zg);have n3_:=Ya ((by rw[hg];exact(Yi (by repeat(first|(with_reducible first|exact HB.out|apply Ye|apply Yd|apply Yg|refine Yh ?_ GE384.out)|exact HB.out))):w.heap.size≤gb385));have n4_:=Ya ((by rw[hg];exact(Yi (by repeat(first|(with_reducible first|exact HB.out|apply Ye|apply Yd|apply Yg|refine Yh ?_ GE384.out)|exact HB.out))):w.heap.size≤gb385));have n5_:=Ya ((by rw[hg];exact Nat.ne_of_lt (blk_lt (g:=gb384) (o:= .cells #[.int .i64 Zb, .bool Zc, .slice Ze Za.length Zd, .slice Wi Xc.length Wj] 115 (0,0)) (by(with_reducible repeat(first|refine Yl ?_ _|refine Ym ?_|refine Yj ?_ _));exact Ja.out)):gb384≠gb385));have n6_:=Ya ((by rw[hg];exact Nat.ne_of_gt (blk_lt (g:=gb384) (o:= .cells #[.int .i64 Zb, .bool Zc, .slice Ze Za.length Zd, .slice Wi Xc.length Wj] 115 (0,0)) (by(with_reducible repeat(first|refine Yl ?_ _|refine Ym ?_|refine Yj ?_ _));exact Ja.out)):gb385≠gb384));clear Ja;clear HB;have Ja:=n0_;have HB:=n1_;have BK385:=n2_;have GW385:=n3_;have GE385:=n4_;have NB384_385:=n5_;have NB385_384:=n6_;clear n0_ n1_ n2_ n3_ n4_ n5_ n6_;clear hb Zg hg;have hnb6:=NB385_384.out;have hnc6:=NB384_385.out;have hcz7_0:w5.cell? ⟨gb385,0,none⟩=some (.int .i64 Zh):=(Yc BK385.out 0).trans rfl;have hcz7_1:w5.cell? ⟨gb385,1,none⟩=some (.bool Xa):=(Yc BK385.out 1).trans rfl;have hfz7_0:=Yf BK385.out 0;have hfz7_1:=Yf BK385.out 1;have Vo:w5.cell? ⟨gb384,0,none⟩=some (.int .i64 Zb):=(Yc Ja.out 0).trans rfl;have Vp:w5.cell? ⟨gb384,1,none⟩=some (.bool Zc):=(Yc Ja.out 1).trans rfl;have Vq:w5.cell? ⟨gb384,2,none⟩=some (.slice Ze Za.length Zd):=(Yc Ja.out 2).trans rfl;have hcz8_3:w5.cell? ⟨gb384,3,none⟩=some (.slice Wi Xc.length Wj):=(Yc Ja.out 3).trans rfl;have Vr:=Yf Ja.out 0;have Vs:=Yf Ja.out 1;have Vt:=Yf Ja.out 2;have hfz8_3:=Yf Ja.out 3)|((with_reducible refine gate_callee (f:=106) rfl ?_);refine goesL_ (some 11) rfl rfl Try.func106 (by kernel_rfl) rfl #[.agg #[.int .i64 Zb, .bool Zc, .slice Ze Za.length Zd, .slice Wi Xc.length Wj], .agg #[.int .i64 Zh, .bool (!Xa)]] rfl (by(try simp only[List.map_toArray,List.map_cons,List.map_nil]);first|done|rfl|(simp only[List.length_drop,List.length_take];rfl)) ?_;(with_reducible refine(static_Flowing_From.calls Zb Zc _ _ Za _ _ Xc Zh (!Xa) t386 _ ?side1 ?side2 ?side3 ?side4 A3.out).mono ?_);(case side1=>exact Yt Zi.out (by repeat(first|(with_reducible first|exact HB.out|apply Ye|apply Yd|apply Yg|refine Yh ?_ GE384.out|refine Yh ?_ GE385.out)|exact HB.out)));(case side2=>exact Zn.out);(case side3=>exact Yt HR0_3.out (by repeat(first|(with_reducible first|exact HB.out|apply Ye|apply Yd|apply Yg|refine Yh ?_ GE384.out|refine Yh ?_ GE385.out)|exact HB.out)));(case side4=>exact HC0_3.out);rintro e w9 ⟨rfl,hb⟩;refine⟨_,rfl,?_⟩;have n0_:=Ya (Yn (g:=gb384) (o:= .cells #[.int .i64 Zb, .bool Zc, .slice Ze Za.length Zd, .slice Wi Xc.length Wj] 115 (0,0)) (by(with_reducible repeat(first|refine Yl ?_ _|refine Ym ?_|refine Yj ?_ _));refine blk_far ?_ NB384_385.out _;(with_reducible repeat(first|refine Yl ?_ _|refine Ym ?_|refine Yj ?_ _));exact Ja.out) hb);have n1_:=Ya (Yn (g:=gb385) (o:= .cells #[.int .i64 Zh, .bool (!Xa)] 38 (0,0)) (by(with_reducible repeat(first|refine Yl ?_ _|refine Ym ?_|refine Yj ?_ _));refine YA (cs:= #[.int .i64 Zh, .bool Xa]) ?_ 1 _ rfl;(with_reducible repeat(first|refine Yl ?_ _|refine Ym ?_|refine Yj ?_ _));exact BK385.out) hb);have n2_:=Ya (Yk (by repeat(first|(with_reducible first|exact HB.out|apply Ye|apply Yd|apply Yg|refine Yh ?_ GE384.out|refine Yh ?_ GE385.out)|exact HB.out)) hb);clear Ja;clear BK385;clear HB;have Ja:=n0_;have BK385:=n1_;have HB:=n2_;clear n0_ n1_ n2_;(try clear hb);(try clear hb2);(try clear hk);(try clear hi)));go_ret;exact⟨by first|rfl|(simp[errW_none,errW_some]<;>rfl)|(simp[*,errW_none,errW_some]<;>rfl),by repeat(first|(with_reducible first|exact HB.out|apply Ye|apply Yd|apply Yg|refine Yh ?_ GE384.out|refine Yh ?_ GE385.out)|exact HB.out)⟩
end P
namespace P
attribute [local go_sem] max2_int min2_int max_two min_two max_three min_three max_four min_four
def static_Flowing_Room.f (Zb:Int) (Zc:Bool) (Za:List (S74)) (Xc:List Int) (Zh:Int) (Xa:Bool):Option (Int):=if Xa=true then(if 0≤Zh then(if Zh<(Xc.length:Int) then(some (rd Xc Zh)) else(none)) else(none)) else(if 0≤Zh then(if Zh<(Za.length:Int) then(if Zh<(Xc.length:Int) then(some (wrap64 (((rd_T74 Za Zh).f2) - (rd Xc Zh)))) else(none)) else(none)) else(none))
set_option maxHeartbeats 8000000 in
set_option maxRecDepth 100000 in
theorem static_Flowing_Room.calls (Zb:Int) (Zc:Bool) (Ze:Option Addr) (Zd:Nat) (Za:List (S74)) (Wi:Option Addr) (Wj:Nat) (Xc:List Int) (Zh:Int) (Xa:Bool) (r:Int) (w:World) (Zr:Kd.C k74 w Ze Za.length Za) (Zs:Za.length≤Zd) (hr0_3:Kd.C (Kd.int .i64) w Wi Xc.length Xc) (hc0_3:Xc.length≤Wj) (h:static_Flowing_Room.f Zb Zc Za Xc Zh Xa=some r):
  Calls Try.prog 104 #[.agg #[.int .i64 Zb, .bool Zc, .slice Ze Za.length Zd, .slice Wi Xc.length Wj], .agg #[.int .i64 Zh, .bool Xa]] w fun e w'=>e= .returned (.int .i64 r)∧Below w.heap.size w w':=by
 have hu115:=Try.underlying115;have hu38:=Try.underlying38;have Zi:=Ya Zr;have Zn:=Ya Zs;clear Zr Zs;have HR0_3:=Ya hr0_3;have HC0_3:=Ya hc0_3;clear hr0_3 hc0_3;have HB:=Ya (Yo w.heap.size w);have H:(if Xa=true then(if 0≤Zh then(if Zh<(Xc.length:Int) then(some (rd Xc Zh)) else(none)) else(none)) else(if 0≤Zh then(if Zh<(Za.length:Int) then(if Zh<(Xc.length:Int) then(some (wrap64 (((rd_T74 Za Zh).f2) - (rd Xc Zh)))) else(none)) else(none)) else(none)))=some r:=h;clear h;by_cases c3:Xa=true
 ·subst c3
  have H1:(if 0≤Zh then(if Zh<(Xc.length:Int) then(some (rd Xc Zh)) else(none)) else(none))=some r:=by first|(rw[Yx rfl] at H;exact H)|(rw[Yx trivial] at H;exact H)
  clear H;have H:=H1;clear H1;by_cases c4:0≤Zh
  rotate_left
  ·rw[Yy c4] at H
   exact absurd H (by simp)
  rw[Yx c4] at H;have c4b0:decide (0≤Zh)=true:=Yv c4;clear c4;by_cases c5:Zh<(Xc.length:Int)
  rotate_left
  ·rw[Yy c5] at H
   exact absurd H (by simp)
  rw[Yx c5] at H;have c5b0:decide (Zh<(Xc.length:Int))=true:=Yv c5;clear c5;obtain rfl:=Option.some.inj H;go_enter Try.func104,Try.ntmps104;go_wp2_with (first|((with_reducible refine gate_dst (N:=2) rfl ?_);refine Yz ?hg (N:=2) ?hd (cs:= #[.int .i64 Zb, .bool Zc, .slice Ze Za.length Zd, .slice Wi Xc.length Wj]) (t:=115) ?hr ?_;(case hd=>rfl);(case hg=>rfl);(case hr=>first|(go_simp;done)|(go_simp;rfl));intro Zt hg w6 Zg hb;have n0_:=Ya (Yk (by repeat(first|(with_reducible first|exact HB.out|apply Ye|apply Yd|apply Yg)|exact HB.out)) hb);have n1_:=Ya (Zg);have n2_:=Ya ((by rw[hg];exact(Yi (by repeat(first|(with_reducible first|exact HB.out|apply Ye|apply Yd|apply Yg)|exact HB.out))):w.heap.size≤Zt));have n3_:=Ya ((by rw[hg];exact(Yi (by repeat(first|(with_reducible first|exact HB.out|apply Ye|apply Yd|apply Yg)|exact HB.out))):w.heap.size≤Zt));clear HB;have HB:=n0_;have Zo:=n1_;have GW375:=n2_;have Vn:=n3_;clear n0_ n1_ n2_ n3_;clear hb Zg hg)|((with_reducible refine gate_dst (N:=3) rfl ?_);refine Yz ?hg (N:=3) ?hd (cs:= #[.int .i64 Zh, .bool true]) (t:=38) ?hr ?_;(case hd=>rfl);(case hg=>rfl);(case hr=>first|(go_simp;done)|(go_simp;rfl));intro Wa hg w7 Zg hb;have n0_:=Ya (Yn (g:=Zt) (o:= .cells #[.int .i64 Zb, .bool Zc, .slice Ze Za.length Zd, .slice Wi Xc.length Wj] 115 (0,0)) (by(with_reducible repeat(first|refine Yl ?_ _|refine Ym ?_|refine Yj ?_ _));exact Zo.out) hb);have n1_:=Ya (Yk (by repeat(first|(with_reducible first|exact HB.out|apply Ye|apply Yd|apply Yg|refine Yh ?_ Vn.out)|exact HB.out)) hb);have n2_:=Ya (Zg);have n3_:=Ya ((by rw[hg];exact(Yi (by repeat(first|(with_reducible first|exact HB.out|apply Ye|apply Yd|apply Yg|refine Yh ?_ Vn.out)|exact HB.out))):w.heap.size≤Wa));have n4_:=Ya ((by rw[hg];exact(Yi (by repeat(first|(with_reducible first|exact HB.out|apply Ye|apply Yd|apply Yg|refine Yh ?_ Vn.out)|exact HB.out))):w.heap.size≤Wa));have n5_:=Ya ((by rw[hg];exact Nat.ne_of_lt (blk_lt (g:=Zt) (o:= .cells #[.int .i64 Zb, .bool Zc, .slice Ze Za.length Zd, .slice Wi Xc.length Wj] 115 (0,0)) (by(with_reducible repeat(first|refine Yl ?_ _|refine Ym ?_|refine Yj ?_ _));exact Zo.out)):Zt≠Wa));have n6_:=Ya ((by rw[hg];exact Nat.ne_of_gt (blk_lt (g:=Zt) (o:= .cells #[.int .i64 Zb, .bool Zc, .slice Ze Za.length Zd, .slice Wi Xc.length Wj] 115 (0,0)) (by(with_reducible repeat(first|refine Yl ?_ _|refine Ym ?_|refine Yj ?_ _));exact Zo.out)):Wa≠Zt));clear Zo;clear HB;have Zo:=n0_;have HB:=n1_;have Wv:=n2_;have GW376:=n3_;have GE376:=n4_;have Va:=n5_;have Vb:=n6_;clear n0_ n1_ n2_ n3_ n4_ n5_ n6_;clear hb Zg hg;have hnb8:=Vb.out;have hnc8:=Va.out;have hcz9_0:w7.cell? ⟨Wa,0,none⟩=some (.int .i64 Zh):=(Yc Wv.out 0).trans rfl;have hcz9_1:w7.cell? ⟨Wa,1,none⟩=some (.bool true):=(Yc Wv.out 1).trans rfl;have hfz9_0:=Yf Wv.out 0;have hfz9_1:=Yf Wv.out 1;have Vd:w7.cell? ⟨Zt,0,none⟩=some (.int .i64 Zb):=(Yc Zo.out 0).trans rfl;have Ve:w7.cell? ⟨Zt,1,none⟩=some (.bool Zc):=(Yc Zo.out 1).trans rfl;have Vf:w7.cell? ⟨Zt,2,none⟩=some (.slice Ze Za.length Zd):=(Yc Zo.out 2).trans rfl;have hcz10_3:w7.cell? ⟨Zt,3,none⟩=some (.slice Wi Xc.length Wj):=(Yc Zo.out 3).trans rfl;have Vg:=Yf Zo.out 0;have Vh:=Yf Zo.out 1;have Vi:=Yf Zo.out 2;have hfz10_3:=Yf Zo.out 3;have p377:0≤(Zh:Int):=Yu (by first|(with_reducible assumption)|assumption);have q377:Zh<(Xc.length:Int):=Yu (by first|(with_reducible assumption)|assumption);obtain⟨ad377,e377,Um⟩:=Kd.at_int HR0_3.out Zh p377 q377;cases e377;replace Um:=(HB.out.cell (Yb w _ Um)).trans Um;replace p377:=eq_true p377;replace q377:=eq_true q377));repeat(go_quiet (first|((with_reducible refine gate_dst (N:=2) rfl ?_);refine Yz ?hg (N:=2) ?hd (cs:= #[.int .i64 Zb, .bool Zc, .slice Ze Za.length Zd, .slice Wi Xc.length Wj]) (t:=115) ?hr ?_;(case hd=>rfl);(case hg=>rfl);(case hr=>first|(go_simp;done)|(go_simp;rfl));intro Zt hg w6 Zg hb;have n0_:=Ya (Yk (by repeat(first|(with_reducible first|exact HB.out|apply Ye|apply Yd|apply Yg)|exact HB.out)) hb);have n1_:=Ya (Zg);have n2_:=Ya ((by rw[hg];exact(Yi (by repeat(first|(with_reducible first|exact HB.out|apply Ye|apply Yd|apply Yg)|exact HB.out))):w.heap.size≤Zt));have n3_:=Ya ((by rw[hg];exact(Yi (by repeat(first|(with_reducible first|exact HB.out|apply Ye|apply Yd|apply Yg)|exact HB.out))):w.heap.size≤Zt));clear HB;have HB:=n0_;have Zo:=n1_;have GW375:=n2_;have Vn:=n3_;clear n0_ n1_ n2_ n3_;clear hb Zg hg)|((with_reducible refine gate_dst (N:=3) rfl ?_);refine Yz ?hg (N:=3) ?hd (cs:= #[.int .i64 Zh, .bool true]) (t:=38) ?hr ?_;(case hd=>rfl);(case hg=>rfl);(case hr=>first|(go_simp;done)|(go_simp;rfl));intro Wa hg w7 Zg hb;have n0_:=Ya (Yn (g:=Zt) (o:= .cells #[.int .i64 Zb, .bool Zc, .slice Ze Za.length Zd, .slice Wi Xc.length Wj] 115 (0,0)) (by(with_reducible repeat(first|refine Yl ?_ _|refine Ym ?_|refine Yj ?_ _));exact Zo.out) hb);have n1_:=Ya (Yk (by repeat(first|(with_reducible first|exact HB.out|apply Ye|apply Yd|apply Yg|refine Yh ?_ Vn.out)|exact HB.out)) hb);have n2_:=Ya (Zg);have n3_:=Ya ((by rw[hg];exact(Yi (by repeat(first|(with_reducible first|exact HB.out|apply Ye|apply Yd|apply Yg|refine Yh ?_ Vn.out)|exact HB.out))):w.heap.size≤Wa));have n4_:=Ya ((by rw[hg];exact(Yi (by repeat(first|(with_reducible first|exact HB.out|apply Ye|apply Yd|apply Yg|refine Yh ?_ Vn.out)|exact HB.out))):w.heap.size≤Wa));have n5_:=Ya ((by rw[hg];exact Nat.ne_of_lt (blk_lt (g:=Zt) (o:= .cells #[.int .i64 Zb, .bool Zc, .slice Ze Za.length Zd, .slice Wi Xc.length Wj] 115 (0,0)) (by(with_reducible repeat(first|refine Yl ?_ _|refine Ym ?_|refine Yj ?_ _));exact Zo.out)):Zt≠Wa));have n6_:=Ya ((by rw[hg];exact Nat.ne_of_gt (blk_lt (g:=Zt) (o:= .cells #[.int .i64 Zb, .bool Zc, .slice Ze Za.length Zd, .slice Wi Xc.length Wj] 115 (0,0)) (by(with_reducible repeat(first|refine Yl ?_ _|refine Ym ?_|refine Yj ?_ _));exact Zo.out)):Wa≠Zt));clear Zo;clear HB;have Zo:=n0_;have HB:=n1_;have Wv:=n2_;have GW376:=n3_;have GE376:=n4_;have Va:=n5_;have Vb:=n6_;clear n0_ n1_ n2_ n3_ n4_ n5_ n6_;clear hb Zg hg;have hnb8:=Vb.out;have hnc8:=Va.out;have hcz9_0:w7.cell? ⟨Wa,0,none⟩=some (.int .i64 Zh):=(Yc Wv.out 0).trans rfl;have hcz9_1:w7.cell? ⟨Wa,1,none⟩=some (.bool true):=(Yc Wv.out 1).trans rfl;have hfz9_0:=Yf Wv.out 0;have hfz9_1:=Yf Wv.out 1;have Vd:w7.cell? ⟨Zt,0,none⟩=some (.int .i64 Zb):=(Yc Zo.out 0).trans rfl;have Ve:w7.cell? ⟨Zt,1,none⟩=some (.bool Zc):=(Yc Zo.out 1).trans rfl;have Vf:w7.cell? ⟨Zt,2,none⟩=some (.slice Ze Za.length Zd):=(Yc Zo.out 2).trans rfl;have hcz10_3:w7.cell? ⟨Zt,3,none⟩=some (.slice Wi Xc.length Wj):=(Yc Zo.out 3).trans rfl;have Vg:=Yf Zo.out 0;have Vh:=Yf Zo.out 1;have Vi:=Yf Zo.out 2;have hfz10_3:=Yf Zo.out 3;have p377:0≤(Zh:Int):=Yu (by first|(with_reducible assumption)|assumption);have q377:Zh<(Xc.length:Int):=Yu (by first|(with_reducible assumption)|assumption);obtain⟨ad377,e377,Um⟩:=Kd.at_int HR0_3.out Zh p377 q377;cases e377;replace Um:=(HB.out.cell (Yb w _ Um)).trans Um;replace p377:=eq_true p377;replace q377:=eq_true q377));try go_wp2_with (first|((with_reducible refine gate_dst (N:=2) rfl ?_);refine Yz ?hg (N:=2) ?hd (cs:= #[.int .i64 Zb, .bool Zc, .slice Ze Za.length Zd, .slice Wi Xc.length Wj]) (t:=115) ?hr ?_;(case hd=>rfl);(case hg=>rfl);(case hr=>first|(go_simp;done)|(go_simp;rfl));intro Zt hg w6 Zg hb;have n0_:=Ya (Yk (by repeat(first|(with_reducible first|exact HB.out|apply Ye|apply Yd|apply Yg)|exact HB.out)) hb);have n1_:=Ya (Zg);have n2_:=Ya ((by rw[hg];exact(Yi (by repeat(first|(with_reducible first|exact HB.out|apply Ye|apply Yd|apply Yg)|exact HB.out))):w.heap.size≤Zt));have n3_:=Ya ((by rw[hg];exact(Yi (by repeat(first|(with_reducible first|exact HB.out|apply Ye|apply Yd|apply Yg)|exact HB.out))):w.heap.size≤Zt));clear HB;have HB:=n0_;have Zo:=n1_;have GW375:=n2_;have Vn:=n3_;clear n0_ n1_ n2_ n3_;clear hb Zg hg)|((with_reducible refine gate_dst (N:=3) rfl ?_);refine Yz ?hg (N:=3) ?hd (cs:= #[.int .i64 Zh, .bool true]) (t:=38) ?hr ?_;(case hd=>rfl);(case hg=>rfl);(case hr=>first|(go_simp;done)|(go_simp;rfl));intro Wa hg w7 Zg hb;have n0_:=Ya (Yn (g:=Zt) (o:= .cells #[.int .i64 Zb, .bool Zc, .slice Ze Za.length Zd, .slice Wi Xc.length Wj] 115 (0,0)) (by(with_reducible repeat(first|refine Yl ?_ _|refine Ym ?_|refine Yj ?_ _));exact Zo.out) hb);have n1_:=Ya (Yk (by repeat(first|(with_reducible first|exact HB.out|apply Ye|apply Yd|apply Yg|refine Yh ?_ Vn.out)|exact HB.out)) hb);have n2_:=Ya (Zg);have n3_:=Ya ((by rw[hg];exact(Yi (by repeat(first|(with_reducible first|exact HB.out|apply Ye|apply Yd|apply Yg|refine Yh ?_ Vn.out)|exact HB.out))):w.heap.size≤Wa));have n4_:=Ya ((by rw[hg];exact(Yi (by repeat(first|(with_reducible first|exact HB.out|apply Ye|apply Yd|apply Yg|refine Yh ?_ Vn.out)|exact HB.out))):w.heap.size≤Wa));have n5_:=Ya ((by rw[hg];exact Nat.ne_of_lt (blk_lt (g:=Zt) (o:= .cells #[.int .i64 Zb, .bool Zc, .slice Ze Za.length Zd, .slice Wi Xc.length Wj] 115 (0,0)) (by(with_reducible repeat(first|refine Yl ?_ _|refine Ym ?_|refine Yj ?_ _));exact Zo.out)):Zt≠Wa));have n6_:=Ya ((by rw[hg];exact Nat.ne_of_gt (blk_lt (g:=Zt) (o:= .cells #[.int .i64 Zb, .bool Zc, .slice Ze Za.length Zd, .slice Wi Xc.length Wj] 115 (0,0)) (by(with_reducible repeat(first|refine Yl ?_ _|refine Ym ?_|refine Yj ?_ _));exact Zo.out)):Wa≠Zt));clear Zo;clear HB;have Zo:=n0_;have HB:=n1_;have Wv:=n2_;have GW376:=n3_;have GE376:=n4_;have Va:=n5_;have Vb:=n6_;clear n0_ n1_ n2_ n3_ n4_ n5_ n6_;clear hb Zg hg;have hnb8:=Vb.out;have hnc8:=Va.out;have hcz9_0:w7.cell? ⟨Wa,0,none⟩=some (.int .i64 Zh):=(Yc Wv.out 0).trans rfl;have hcz9_1:w7.cell? ⟨Wa,1,none⟩=some (.bool true):=(Yc Wv.out 1).trans rfl;have hfz9_0:=Yf Wv.out 0;have hfz9_1:=Yf Wv.out 1;have Vd:w7.cell? ⟨Zt,0,none⟩=some (.int .i64 Zb):=(Yc Zo.out 0).trans rfl;have Ve:w7.cell? ⟨Zt,1,none⟩=some (.bool Zc):=(Yc Zo.out 1).trans rfl;have Vf:w7.cell? ⟨Zt,2,none⟩=some (.slice Ze Za.length Zd):=(Yc Zo.out 2).trans rfl;have hcz10_3:w7.cell? ⟨Zt,3,none⟩=some (.slice Wi Xc.length Wj):=(Yc Zo.out 3).trans rfl;have Vg:=Yf Zo.out 0;have Vh:=Yf Zo.out 1;have Vi:=Yf Zo.out 2;have hfz10_3:=Yf Zo.out 3;have p377:0≤(Zh:Int):=Yu (by first|(with_reducible assumption)|assumption);have q377:Zh<(Xc.length:Int):=Yu (by first|(with_reducible assumption)|assumption);obtain⟨ad377,e377,Um⟩:=Kd.at_int HR0_3.out Zh p377 q377;cases e377;replace Um:=(HB.out.cell (Yb w _ Um)).trans Um;replace p377:=eq_true p377;replace q377:=eq_true q377)))
  go_ret;exact⟨by first|rfl|(simp[errW_none,errW_some]<;>rfl)|(simp[*,errW_none,errW_some]<;>rfl),by repeat(first|(with_reducible first|exact HB.out|apply Ye|apply Yd|apply Yg|refine Yh ?_ Vn.out|refine Yh ?_ GE376.out)|exact HB.out)⟩
 replace c3:=Bool.eq_false_iff.mpr c3;subst c3;have H1:(if 0≤Zh then(if Zh<(Za.length:Int) then(if Zh<(Xc.length:Int) then(some (wrap64 (((rd_T74 Za Zh).f2) - (rd Xc Zh)))) else(none)) else(none)) else(none))=some r:=by rw[Yy (show ¬ (false=true) by decide)] at H;exact H
 clear H;have H:=H1;clear H1;by_cases c11:0≤Zh
 rotate_left
 ·rw[Yy c11] at H
  exact absurd H (by simp)
 rw[Yx c11] at H;have c11b0:decide (0≤Zh)=true:=Yv c11;clear c11;by_cases c12:Zh<(Za.length:Int)
 rotate_left
 ·rw[Yy c12] at H
  exact absurd H (by simp)
 rw[Yx c12] at H;have c12b0:decide (Zh<(Za.length:Int))=true:=Yv c12;clear c12;by_cases c13:Zh<(Xc.length:Int)
 rotate_left
 ·rw[Yy c13] at H
  exact absurd H (by simp)
 rw[Yx c13] at H;have c13b0:decide (Zh<(Xc.length:Int))=true:=Yv c13;clear c13;obtain rfl:=Option.some.inj H;go_enter Try.func104,Try.ntmps104;go_wp2_with (first|((with_reducible refine gate_dst (N:=2) rfl ?_);refine Yz ?hg (N:=2) ?hd (cs:= #[.int .i64 Zb, .bool Zc, .slice Ze Za.length Zd, .slice Wi Xc.length Wj]) (t:=115) ?hr ?_;(case hd=>rfl);(case hg=>rfl);(case hr=>first|(go_simp;done)|(go_simp;rfl));intro Zt hg w14 Zg hb;have n0_:=Ya (Yk (by repeat(first|(with_reducible first|exact HB.out|apply Ye|apply Yd|apply Yg)|exact HB.out)) hb);have n1_:=Ya (Zg);have n2_:=Ya ((by rw[hg];exact(Yi (by repeat(first|(with_reducible first|exact HB.out|apply Ye|apply Yd|apply Yg)|exact HB.out))):w.heap.size≤Zt));have n3_:=Ya ((by rw[hg];exact(Yi (by repeat(first|(with_reducible first|exact HB.out|apply Ye|apply Yd|apply Yg)|exact HB.out))):w.heap.size≤Zt));clear HB;have HB:=n0_;have Zo:=n1_;have GW375:=n2_;have Vn:=n3_;clear n0_ n1_ n2_ n3_;clear hb Zg hg)|((with_reducible refine gate_dst (N:=3) rfl ?_);refine Yz ?hg (N:=3) ?hd (cs:= #[.int .i64 Zh, .bool false]) (t:=38) ?hr ?_;(case hd=>rfl);(case hg=>rfl);(case hr=>first|(go_simp;done)|(go_simp;rfl));intro Wa hg w15 Zg hb;have n0_:=Ya (Yn (g:=Zt) (o:= .cells #[.int .i64 Zb, .bool Zc, .slice Ze Za.length Zd, .slice Wi Xc.length Wj] 115 (0,0)) (by(with_reducible repeat(first|refine Yl ?_ _|refine Ym ?_|refine Yj ?_ _));exact Zo.out) hb);have n1_:=Ya (Yk (by repeat(first|(with_reducible first|exact HB.out|apply Ye|apply Yd|apply Yg|refine Yh ?_ Vn.out)|exact HB.out)) hb);have n2_:=Ya (Zg);have n3_:=Ya ((by rw[hg];exact(Yi (by repeat(first|(with_reducible first|exact HB.out|apply Ye|apply Yd|apply Yg|refine Yh ?_ Vn.out)|exact HB.out))):w.heap.size≤Wa));have n4_:=Ya ((by rw[hg];exact(Yi (by repeat(first|(with_reducible first|exact HB.out|apply Ye|apply Yd|apply Yg|refine Yh ?_ Vn.out)|exact HB.out))):w.heap.size≤Wa));have n5_:=Ya ((by rw[hg];exact Nat.ne_of_lt (blk_lt (g:=Zt) (o:= .cells #[.int .i64 Zb, .bool Zc, .slice Ze Za.length Zd, .slice Wi Xc.length Wj] 115 (0,0)) (by(with_reducible repeat(first|refine Yl ?_ _|refine Ym ?_|refine Yj ?_ _));exact Zo.out)):Zt≠Wa));have n6_:=Ya ((by rw[hg];exact Nat.ne_of_gt (blk_lt (g:=Zt) (o:= .cells #[.int .i64 Zb, .bool Zc, .slice Ze Za.length Zd, .slice Wi Xc.length Wj] 115 (0,0)) (by(with_reducible repeat(first|refine Yl ?_ _|refine Ym ?_|refine Yj ?_ _));exact Zo.out)):Wa≠Zt));clear Zo;clear HB;have Zo:=n0_;have HB:=n1_;have Wv:=n2_;have GW376:=n3_;have GE376:=n4_;have Va:=n5_;have Vb:=n6_;clear n0_ n1_ n2_ n3_ n4_ n5_ n6_;clear hb Zg hg;have hnb16:=Vb.out;have hnc16:=Va.out;have hcz17_0:w15.cell? ⟨Wa,0,none⟩=some (.int .i64 Zh):=(Yc Wv.out 0).trans rfl;have hcz17_1:w15.cell? ⟨Wa,1,none⟩=some (.bool false):=(Yc Wv.out 1).trans rfl;have hfz17_0:=Yf Wv.out 0;have hfz17_1:=Yf Wv.out 1;have Jv:w15.cell? ⟨Zt,0,none⟩=some (.int .i64 Zb):=(Yc Zo.out 0).trans rfl;have Jw:w15.cell? ⟨Zt,1,none⟩=some (.bool Zc):=(Yc Zo.out 1).trans rfl;have Jx:w15.cell? ⟨Zt,2,none⟩=some (.slice Ze Za.length Zd):=(Yc Zo.out 2).trans rfl;have hcz18_3:w15.cell? ⟨Zt,3,none⟩=some (.slice Wi Xc.length Wj):=(Yc Zo.out 3).trans rfl;have Jy:=Yf Zo.out 0;have Jz:=Yf Zo.out 1;have hfz18_2:=Yf Zo.out 2;have hfz18_3:=Yf Zo.out 3;have p378:0≤(Zh:Int):=Yu (by first|(with_reducible assumption)|assumption);have q378:Zh<(Za.length:Int):=Yu (by first|(with_reducible assumption)|assumption);obtain⟨ad378,e378,Un,Uo,Up,Uq⟩:=at_T74 Zi.out Zh p378 q378;cases e378;replace Un:=(HB.out.cell (Yb w _ Un)).trans Un;replace Uo:=(HB.out.cell (Yb w _ Uo)).trans Uo;replace Up:=(HB.out.cell (Yb w _ Up)).trans Up;replace Uq:=(HB.out.cell (Yb w _ Uq)).trans Uq;replace p378:=eq_true p378;replace q378:=eq_true q378;have p379:0≤(Zh:Int):=Yu (by first|(with_reducible assumption)|assumption);have q379:Zh<(Xc.length:Int):=Yu (by first|(with_reducible assumption)|assumption);obtain⟨ad379,e379,Ur⟩:=Kd.at_int HR0_3.out Zh p379 q379;cases e379;replace Ur:=(HB.out.cell (Yb w _ Ur)).trans Ur;replace p379:=eq_true p379;replace q379:=eq_true q379));repeat(go_quiet (first|((with_reducible refine gate_dst (N:=2) rfl ?_);refine Yz ?hg (N:=2) ?hd (cs:= #[.int .i64 Zb, .bool Zc, .slice Ze Za.length Zd, .slice Wi Xc.length Wj]) (t:=115) ?hr ?_;(case hd=>rfl);(case hg=>rfl);(case hr=>first|(go_simp;done)|(go_simp;rfl));intro Zt hg w14 Zg hb;have n0_:=Ya (Yk (by repeat(first|(with_reducible first|exact HB.out|apply Ye|apply Yd|apply Yg)|exact HB.out)) hb);have n1_:=Ya (Zg);have n2_:=Ya ((by rw[hg];exact(Yi (by repeat(first|(with_reducible first|exact HB.out|apply Ye|apply Yd|apply Yg)|exact HB.out))):w.heap.size≤Zt));have n3_:=Ya ((by rw[hg];exact(Yi (by repeat(first|(with_reducible first|exact HB.out|apply Ye|apply Yd|apply Yg)|exact HB.out))):w.heap.size≤Zt));clear HB;have HB:=n0_;have Zo:=n1_;have GW375:=n2_;have Vn:=n3_;clear n0_ n1_ n2_ n3_;clear hb Zg hg)|((with_reducible refine gate_dst (N:=3) rfl ?_);refine Yz ?hg (N:=3) ?hd (cs:= #[.int .i64 Zh, .bool false]) (t:=38) ?hr ?_;(case hd=>rfl);(case hg=>rfl);(case hr=>first|(go_simp;done)|(go_simp;rfl));intro Wa hg w15 Zg hb;have n0_:=Ya (Yn (g:=Zt) (o:= .cells #[.int .i64 Zb, .bool Zc, .slice Ze Za.length Zd, .slice Wi Xc.length Wj] 115 (0,0)) (by(with_reducible repeat(first|refine Yl ?_ _|refine Ym ?_|refine Yj ?_ _));exact Zo.out) hb);have n1_:=Ya (Yk (by repeat(first|(with_reducible first|exact HB.out|apply Ye|apply Yd|apply Yg|refine Yh ?_ Vn.out)|exact HB.out)) hb);have n2_:=Ya (Zg);have n3_:=Ya ((by rw[hg];exact(Yi (by repeat(first|(with_reducible first|exact HB.out|apply Ye|apply Yd|apply Yg|refine Yh ?_ Vn.out)|exact HB.out))):w.heap.size≤Wa));have n4_:=Ya ((by rw[hg];exact(Yi (by repeat(first|(with_reducible first|exact HB.out|apply Ye|apply Yd|apply Yg|refine Yh ?_ Vn.out)|exact HB.out))):w.heap.size≤Wa));have n5_:=Ya ((by rw[hg];exact Nat.ne_of_lt (blk_lt (g:=Zt) (o:= .cells #[.int .i64 Zb, .bool Zc, .slice Ze Za.length Zd, .slice Wi Xc.length Wj] 115 (0,0)) (by(with_reducible repeat(first|refine Yl ?_ _|refine Ym ?_|refine Yj ?_ _));exact Zo.out)):Zt≠Wa));have n6_:=Ya ((by rw[hg];exact Nat.ne_of_gt (blk_lt (g:=Zt) (o:= .cells #[.int .i64 Zb, .bool Zc, .slice Ze Za.length Zd, .slice Wi Xc.length Wj] 115 (0,0)) (by(with_reducible repeat(first|refine Yl ?_ _|refine Ym ?_|refine Yj ?_ _));exact Zo.out)):Wa≠Zt));clear Zo;clear HB;have Zo:=n0_;have HB:=n1_;have Wv:=n2_;have GW376:=n3_;have GE376:=n4_;have Va:=n5_;have Vb:=n6_;clear n0_ n1_ n2_ n3_ n4_ n5_ n6_;clear hb Zg hg;have hnb16:=Vb.out;have hnc16:=Va.out;have hcz17_0:w15.cell? ⟨Wa,0,none⟩=some (.int .i64 Zh):=(Yc Wv.out 0).trans rfl;have hcz17_1:w15.cell? ⟨Wa,1,none⟩=some (.bool false):=(Yc Wv.out 1).trans rfl;have hfz17_0:=Yf Wv.out 0;have hfz17_1:=Yf Wv.out 1;have Jv:w15.cell? ⟨Zt,0,none⟩=some (.int .i64 Zb):=(Yc Zo.out 0).trans rfl;have Jw:w15.cell? ⟨Zt,1,none⟩=some (.bool Zc):=(Yc Zo.out 1).trans rfl;have Jx:w15.cell? ⟨Zt,2,none⟩=some (.slice Ze Za.length Zd):=(Yc Zo.out 2).trans rfl;have hcz18_3:w15.cell? ⟨Zt,3,none⟩=some (.slice Wi Xc.length Wj):=(Yc Zo.out 3).trans rfl;have Jy:=Yf Zo.out 0;have Jz:=Yf Zo.out 1;have hfz18_2:=Yf Zo.out 2;have hfz18_3:=Yf Zo.out 3;have p378:0≤(Zh:Int):=Yu (by first|(with_reducible assumption)|assumption);have q378:Zh<(Za.length:Int):=Yu (by first|(with_reducible assumption)|assumption);obtain⟨ad378,e378,Un,Uo,Up,Uq⟩:=at_T74 Zi.out Zh p378 q378;cases e378;replace Un:=(HB.out.cell (Yb w _ Un)).trans Un;replace Uo:=(HB.out.cell (Yb w _ Uo)).trans Uo;replace Up:=(HB.out.cell (Yb w _ Up)).trans Up;replace Uq:=(HB.out.cell (Yb w _ Uq)).trans Uq;replace p378:=eq_true p378;replace q378:=eq_true q378;have p379:0≤(Zh:Int):=Yu (by first|(with_reducible assumption)|assumption);have q379:Zh<(Xc.length:Int):=Yu (by first|(with_reducible assumption)|assumption);obtain⟨ad379,e379,Ur⟩:=Kd.at_int HR0_3.out Zh p379 q379;cases e379;replace Ur:=(HB.out.cell (Yb w _ Ur)).trans Ur;replace p379:=eq_true p379;replace q379:=eq_true q379));try go_wp2_with (first|((with_reducible refine gate_dst (N:=2) rfl ?_);refine Yz ?hg (N:=2) ?hd (cs:= #[.int .i64 Zb, .bool Zc, .slice Ze Za.length Zd, .slice Wi Xc.length Wj]) (t:=115) ?hr ?_;(case hd=>rfl);(case hg=>rfl);(case hr=>first|(go_simp;done)|(go_simp;rfl));intro Zt hg w14 Zg hb;have n0_:=Ya (Yk (by repeat(first|(with_reducible first|exact HB.out|apply Ye|apply Yd|apply Yg)|exact HB.out)) hb);have n1_:=Ya (Zg);have n2_:=Ya ((by rw[hg];exact(Yi (by repeat(first|(with_reducible first|exact HB.out|apply Ye|apply Yd|apply Yg)|exact HB.out))):w.heap.size≤Zt));have n3_:=Ya ((by rw[hg];exact(Yi (by repeat(first|(with_reducible first|exact HB.out|apply Ye|apply Yd|apply Yg)|exact HB.out))):w.heap.size≤Zt));clear HB;have HB:=n0_;have Zo:=n1_;have GW375:=n2_;have Vn:=n3_;clear n0_ n1_ n2_ n3_;clear hb Zg hg)|((with_reducible refine gate_dst (N:=3) rfl ?_);refine Yz ?hg (N:=3) ?hd (cs:= #[.int .i64 Zh, .bool false]) (t:=38) ?hr ?_;(case hd=>rfl);(case hg=>rfl);(case hr=>first|(go_simp;done)|(go_simp;rfl));intro Wa hg w15 Zg hb;have n0_:=Ya (Yn (g:=Zt) (o:= .cells #[.int .i64 Zb, .bool Zc, .slice Ze Za.length Zd, .slice Wi Xc.length Wj] 115 (0,0)) (by(with_reducible repeat(first|refine Yl ?_ _|refine Ym ?_|refine Yj ?_ _));exact Zo.out) hb);have n1_:=Ya (Yk (by repeat(first|(with_reducible first|exact HB.out|apply Ye|apply Yd|apply Yg|refine Yh ?_ Vn.out)|exact HB.out)) hb);have n2_:=Ya (Zg);have n3_:=Ya ((by rw[hg];exact(Yi (by repeat(first|(with_reducible first|exact HB.out|apply Ye|apply Yd|apply Yg|refine Yh ?_ Vn.out)|exact HB.out))):w.heap.size≤Wa));have n4_:=Ya ((by rw[hg];exact(Yi (by repeat(first|(with_reducible first|exact HB.out|apply Ye|apply Yd|apply Yg|refine Yh ?_ Vn.out)|exact HB.out))):w.heap.size≤Wa));have n5_:=Ya ((by rw[hg];exact Nat.ne_of_lt (blk_lt (g:=Zt) (o:= .cells #[.int .i64 Zb, .bool Zc, .slice Ze Za.length Zd, .slice Wi Xc.length Wj] 115 (0,0)) (by(with_reducible repeat(first|refine Yl ?_ _|refine Ym ?_|refine Yj ?_ _));exact Zo.out)):Zt≠Wa));have n6_:=Ya ((by rw[hg];exact Nat.ne_of_gt (blk_lt (g:=Zt) (o:= .cells #[.int .i64 Zb, .bool Zc, .slice Ze Za.length Zd, .slice Wi Xc.length Wj] 115 (0,0)) (by(with_reducible repeat(first|refine Yl ?_ _|refine Ym ?_|refine Yj ?_ _));exact Zo.out)):Wa≠Zt));clear Zo;clear HB;have Zo:=n0_;have HB:=n1_;have Wv:=n2_;have GW376:=n3_;have GE376:=n4_;have Va:=n5_;have Vb:=n6_;clear n0_ n1_ n2_ n3_ n4_ n5_ n6_;clear hb Zg hg;have hnb16:=Vb.out;have hnc16:=Va.out;have hcz17_0:w15.cell? ⟨Wa,0,none⟩=some (.int .i64 Zh):=(Yc Wv.out 0).trans rfl;have hcz17_1:w15.cell? ⟨Wa,1,none⟩=some (.bool false):=(Yc Wv.out 1).trans rfl;have hfz17_0:=Yf Wv.out 0;have hfz17_1:=Yf Wv.out 1;have Jv:w15.cell? ⟨Zt,0,none⟩=some (.int .i64 Zb):=(Yc Zo.out 0).trans rfl;have Jw:w15.cell? ⟨Zt,1,none⟩=some (.bool Zc):=(Yc Zo.out 1).trans rfl;have Jx:w15.cell? ⟨Zt,2,none⟩=some (.slice Ze Za.length Zd):=(Yc Zo.out 2).trans rfl;have hcz18_3:w15.cell? ⟨Zt,3,none⟩=some (.slice Wi Xc.length Wj):=(Yc Zo.out 3).trans rfl;have Jy:=Yf Zo.out 0;have Jz:=Yf Zo.out 1;have hfz18_2:=Yf Zo.out 2;have hfz18_3:=Yf Zo.out 3;have p378:0≤(Zh:Int):=Yu (by first|(with_reducible assumption)|assumption);have q378:Zh<(Za.length:Int):=Yu (by first|(with_reducible assumption)|assumption);obtain⟨ad378,e378,Un,Uo,Up,Uq⟩:=at_T74 Zi.out Zh p378 q378;cases e378;replace Un:=(HB.out.cell (Yb w _ Un)).trans Un;replace Uo:=(HB.out.cell (Yb w _ Uo)).trans Uo;replace Up:=(HB.out.cell (Yb w _ Up)).trans Up;replace Uq:=(HB.out.cell (Yb w _ Uq)).trans Uq;replace p378:=eq_true p378;replace q378:=eq_true q378;have p379:0≤(Zh:Int):=Yu (by first|(with_reducible assumption)|assumption);have q379:Zh<(Xc.length:Int):=Yu (by first|(with_reducible assumption)|assumption);obtain⟨ad379,e379,Ur⟩:=Kd.at_int HR0_3.out Zh p379 q379;cases e379;replace Ur:=(HB.out.cell (Yb w _ Ur)).trans Ur;replace p379:=eq_true p379;replace q379:=eq_true q379)))
 go_ret;exact⟨by first|rfl|(simp[errW_none,errW_some]<;>rfl)|(simp[*,errW_none,errW_some]<;>rfl),by repeat(first|(with_reducible first|exact HB.out|apply Ye|apply Yd|apply Yg|refine Yh ?_ Vn.out|refine Yh ?_ GE376.out)|exact HB.out)⟩
end P
namespace H
abbrev Ed:=Nat × Nat × Int
abbrev Tm:=Nat→Option Int
def trig (σ:Tm) (e:Ed):Bool:=
 match σ e.1 with
 |none=>false
 |some x=>match σ e.2.1 with
  |none=>true
  |some y=>decide (x+e.2.2<y)
def relax (σ:Tm) (e:Ed):Tm:=if trig σ e then(fun v=>if v=e.2.1 then some ((σ e.1).getD 0+e.2.2) else σ v) else σ
def Bet (σ τ:Tm):Prop:= ∀ v y,τ v=some y→ ∃ x,σ v=some x∧x≤y
theorem Bet.refl (σ:Tm):Bet σ σ:=fun _ y h=>⟨y,h,Int.le_refl _⟩
theorem Bet.trans {a b c:Tm} (h1:Bet a b) (h2:Bet b c):Bet a c:=fun v y h=>by
 obtain⟨x,hx,hl⟩:=h2 v y h;obtain⟨z,hz,hm⟩:=h1 v x hx;exact⟨z,hz,Int.le_trans hm hl⟩
theorem relax_off {σ:Tm} {e:Ed} (h:trig σ e=false):relax σ e=σ:=by unfold relax;rw[h];rfl
theorem trig_some {σ:Tm} {e:Ed} (h:trig σ e=true): ∃ x,σ e.1=some x∧ ∀ y,σ e.2.1=some y→x+e.2.2<y:=by
 unfold trig at h;cases h1:σ e.1 with
 |none=>rw[h1] at h;cases h
 |some x=>
  rw[h1] at h;refine⟨x,rfl,fun y hy=> ?_⟩;rw[hy] at h;exact Yu h
theorem trig_off {σ:Tm} {e:Ed} (h:trig σ e=false) {x:Int} (hx:σ e.1=some x): ∃ y,σ e.2.1=some y∧y≤x+e.2.2:=by
 unfold trig at h;rw[hx] at h;cases h2:σ e.2.1 with
 |none=>rw[h2] at h;cases h
 |some y=>
  rw[h2] at h;have:=of_decide_eq_false h;exact⟨y,rfl,by omega⟩
theorem relax_on {σ:Tm} {e:Ed} (h:trig σ e=true) {x:Int} (hx:σ e.1=some x) (v:Nat):relax σ e v=if v=e.2.1 then some (x+e.2.2) else σ v:=by
 unfold relax;rw[Yx h,hx];rfl
theorem relax_bet (σ:Tm) (e:Ed):Bet (relax σ e) σ:=by
 cases h:trig σ e with
 |false=>rw[relax_off h];exact Bet.refl _
 |true=>
  obtain⟨x,hx,hl⟩:=trig_some h;intro v y hy;rw[relax_on h hx];by_cases hv:v=e.2.1
  ·subst hv
   rw[Yx rfl];have:=hl y hy;exact⟨_,rfl,by omega⟩
  ·rw[Yy hv]
   exact⟨y,hy,Int.le_refl _⟩
theorem relax_hits {σ:Tm} {e:Ed} {x:Int} (hx:σ e.1=some x): ∃ y,relax σ e e.2.1=some y∧y≤x+e.2.2:=by
 cases h:trig σ e with
 |false=>rw[relax_off h];exact trig_off h hx
 |true=>rw[relax_on h hx,Yx rfl];exact⟨_,rfl,Int.le_refl _⟩
def pass (E:List Ed) (σ:Tm):Tm:=E.foldl relax σ
theorem pass_bet (E:List Ed) (σ:Tm):Bet (pass E σ) σ:=by
 induction E generalizing σ with
 |nil=>exact Bet.refl _
 |cons e E ih=>exact(ih (relax σ e)).trans (relax_bet σ e)
theorem pass_hits {E:List Ed} {e:Ed} (he:e∈E) {σ:Tm} {x:Int} (hx:σ e.1=some x): ∃ y,pass E σ e.2.1=some y∧y≤x+e.2.2:=by
 induction E generalizing σ x with
 |nil=>cases he
 |cons h E ih=>
  rcases List.mem_cons.1 he with rfl|he
  ·obtain⟨y,hy,hl⟩:=relax_hits hx
   obtain⟨z,hz,hm⟩:=pass_bet E (relax σ e) _ y hy;exact⟨z,hz,by omega⟩
  ·obtain⟨x',hx',hl⟩:=relax_bet σ h _ x hx
   obtain⟨y,hy,hm⟩:=ih he hx';exact⟨y,hy,by omega⟩
def Path (E:List Ed):Nat→List Ed→Nat→Prop
 |a,[],b=>a=b
 |a,e::l,b=>e∈E∧e.1=a∧Path E e.2.1 l b
def long:List Ed→Int
 |[]=>0
 |e::l=>e.2.2+long l
theorem long_app (l m:List Ed):long (l ++ m)=long l+long m:=by
 induction l with
 |nil=>simp[long]
 |cons e l ih=>simp only[List.cons_append,long,ih];omega
def its (E:List Ed):Nat→Tm→Tm
 |0,σ=>σ
 |k+1,σ=>its E k (pass E σ)
structure NoGain (E:List Ed) (r:Nat→Prop):Prop where
 on: ∀ e,e∈E→r e.1→r e.2.1
 cyc: ∀ (a:Nat) (l:List Ed),r a→Path E a l a→0≤long l
def visits (a:Nat) (l:List Ed):List Nat:=a::l.map (fun e=>e.2.1)
theorem path_split {E:List Ed} {a b x:Nat} {l:List Ed} (h:Path E a l b) (hx:x∈visits a l): ∃ l1 l2,l=l1 ++ l2∧Path E a l1 x∧Path E x l2 b:=by
 induction l generalizing a with
 |nil=>
  rcases List.mem_cons.1 hx with rfl|hx
  ·exact⟨[],[],rfl,rfl,h⟩
  ·cases hx
 |cons e l ih=>
  rcases List.mem_cons.1 hx with rfl|hx
  ·exact⟨[],e::l,rfl,rfl,h⟩
  ·obtain⟨he,hu,hp⟩:=h
   have hx':x∈visits e.2.1 l:=by simpa [visits] using hx
   obtain⟨l1,l2,e1,h1,h2⟩:=ih hp hx';exact⟨e::l1,l2,by rw[e1];rfl,⟨he,hu,h1⟩,h2⟩
theorem cut_or {E:List Ed} {r:Nat→Prop} (ht:NoGain E r) {a b:Nat} {l:List Ed} (h:Path E a l b) (ha:r a):
  (∃ l',l'.length<l.length∧Path E a l' b∧long l'≤long l)∨(visits a l).Nodup:=by
 induction l generalizing a with
 |nil=>right;simp[visits]
 |cons e l ih=>
  obtain⟨he,hu,hp⟩:=h;have hr:=ht.on e he (hu▸ha);by_cases hm:a∈visits e.2.1 l
  ·left
   obtain⟨l1,l2,e1,h1,h2⟩:=path_split hp hm;refine⟨l2,by rw[e1];simp;omega,h2,?_⟩;have hc:=ht.cyc a (e::l1) ha ⟨he,hu,h1⟩;rw[e1];simp only[long,long_app] at hc ⊢;omega
  ·rcases ih hp hr with ⟨l',h1,h2,h3⟩|hn
   ·left
    refine⟨e::l',by simp;omega,⟨he,hu,h2⟩,?_⟩;simp only[long];omega
   ·right
    show (a::visits e.2.1 l).Nodup;exact List.nodup_cons.2 ⟨hm,hn⟩
theorem pigeon (n:Nat): ∀ L:List Nat,L.Nodup→(∀ x,x∈L→x<n)→L.length≤n:=by
 induction n with
 |zero=>
  intro L _ h;cases L with
  |nil=>simp
  |cons x L=>exact absurd (h x List.mem_cons_self) (Nat.not_lt_zero _)
 |succ n ih=>
  intro L hn h;by_cases hm:n∈L
  ·have h1:=ih (L.erase n) (hn.erase n) (fun x hx=>by
    have h2:=(hn.mem_erase_iff).1 hx;have:=h x h2.2;have:=h2.1;omega)
   rw[List.length_erase_of_mem hm] at h1;omega
  ·have:=ih L hn (fun x hx=>by
    have h1:=h x hx;have:x≠n:=fun e=>hm (e▸hx)
    omega)
   omega
theorem path_nodes {E:List Ed} {n:Nat} (hE: ∀ e,e∈E→e.1<n∧e.2.1<n) {a b:Nat} {l:List Ed} (h:Path E a l b) (ha:a<n): ∀ x,x∈visits a l→x<n:=by
 induction l generalizing a with
 |nil=>intro x hx;rcases List.mem_cons.1 hx with rfl|hx;exact ha;cases hx
 |cons e l ih=>
  intro x hx;obtain⟨he,hu,hp⟩:=h;rcases List.mem_cons.1 hx with rfl|hx
  ·exact ha
  ·exact ih hp (hE e he).2 x (by simpa [visits] using hx)
theorem short {E:List Ed} {n:Nat} (hE: ∀ e,e∈E→e.1<n∧e.2.1<n) {r:Nat→Prop} (ht:NoGain E r) {a b:Nat} (ha:r a) (han:a<n):
  ∀ (m:Nat) (l:List Ed),l.length≤m→Path E a l b→ ∃ l',l'.length<n∧Path E a l' b∧long l'≤long l:=by
 intro m
 induction m with
 |zero=>
  intro l hl h;exact⟨l,by omega,h,Int.le_refl _⟩
 |succ m ih=>
  intro l hl h;rcases cut_or ht h ha with ⟨l',h1,h2,h3⟩|hn
  ·obtain⟨l2,h4,h5,h6⟩:=ih l' (by omega) h2
   exact⟨l2,h4,h5,Int.le_trans h6 h3⟩
  ·refine⟨l,?_,h,Int.le_refl _⟩
   have:=pigeon n _ hn (path_nodes hE h han);simp[visits] at this;omega
def passT (E:List Ed) (σ:Tm) (b:Bool):Tm × Bool:=E.foldl (fun s e=>(relax s.1 e,s.2 || trig s.1 e)) (σ,b)
theorem passT_fst (E:List Ed) (σ:Tm) (b:Bool):(passT E σ b).1=pass E σ:=by
 induction E generalizing σ b with
 |nil=>rfl
 |cons e E ih=>exact ih (relax σ e) (b || trig σ e)
theorem passT_true (E:List Ed) (σ:Tm):(passT E σ true).2=true:=by
 induction E generalizing σ with
 |nil=>rfl
 |cons e E ih=>show (passT E (relax σ e) (true || trig σ e)).2=true;rw[Bool.true_or];exact ih _
theorem passT_false {E:List Ed} {σ:Tm} (h:(passT E σ false).2=false): ∀ e,e∈E→trig σ e=false:=by
 induction E with
 |nil=>intro e he;cases he
 |cons e E ih=>
  have h':(passT E (relax σ e) (false || trig σ e)).2=false:=h;rw[Bool.false_or] at h';cases ht:trig σ e with
  |true=>rw[ht,passT_true] at h';cases h'
  |false=>
   rw[ht,relax_off ht] at h';intro x hx;rcases List.mem_cons.1 hx with rfl|hx
   ·exact ht
   ·exact ih h' x hx
theorem passT_still {E:List Ed} {σ:Tm} (h: ∀ e,e∈E→trig σ e=false):passT E σ false=(σ,false):=by
 induction E with
 |nil=>rfl
 |cons e E ih=>
  have h1:=h e List.mem_cons_self;show passT E (relax σ e) (false || trig σ e)=_;rw[h1,relax_off h1];exact ih (fun e he=>h e (List.mem_cons_of_mem _ he))
theorem pass_fix {E:List Ed} {σ:Tm} (h:pass E σ=σ): ∀ e,e∈E→trig σ e=false:=by
 intro e he;cases ht:trig σ e with
 |false=>rfl
 |true=>
  obtain⟨x,hx,hl⟩:=trig_some ht;obtain⟨y,hy,hm⟩:=pass_hits he hx;rw[h] at hy;have:=hl y hy;omega
end H
namespace H
open P
def Arr (w:World) (g N:Nat) (M:Nat→S38):Prop:=
 ∃ cells:Array Value,w.heap[g]? =some (.cells cells 38 (0,0))∧ ∀ x,x<N→cells[x * 2]? =some (.int .i64 (M x).f0)∧cells[x * 2+1]? =some (.bool (M x).f1)
theorem Arr.cell0 {w:World} {g N:Nat} {M:Nat→S38} (h:Arr w g N M) {x:Nat} (hx:x<N):w.cell? ⟨g,x * 2,none⟩=some (.int .i64 (M x).f0):=by
 obtain⟨cells,hb,hc⟩:=h;simp[World.cell?,hb,(hc x hx).1]
theorem Arr.cell1 {w:World} {g N:Nat} {M:Nat→S38} (h:Arr w g N M) {x:Nat} (hx:x<N):w.cell? ⟨g,x * 2+1,none⟩=some (.bool (M x).f1):=by
 obtain⟨cells,hb,hc⟩:=h;simp[World.cell?,hb,(hc x hx).2]
theorem Arr.free {w:World} {g N:Nat} {M:Nat→S38} (h:Arr w g N M) (j:Nat):w.frozen? ⟨g,j,none⟩=false:=by
 obtain⟨cells,hb,_⟩:=h;simp[World.frozen?,hb]
theorem Arr.lt {w:World} {g N:Nat} {M:Nat→S38} (h:Arr w g N M):g<w.heap.size:=by
 obtain⟨cells,hb,_⟩:=h;exact(Array.getElem?_eq_some_iff.1 hb).1
theorem Arr.congr {w:World} {g N:Nat} {M M':Nat→S38} (h:Arr w g N M) (e: ∀ x,x<N→M' x=M x):Arr w g N M':=by
 obtain⟨cells,hb,hc⟩:=h;exact⟨cells,hb,fun x hx=>by rw[e x hx];exact hc x hx⟩
theorem Arr.same {w w':World} {g N:Nat} {M:Nat→S38} (h:Arr w g N M) (e:w'.heap[g]? =w.heap[g]?):Arr w' g N M:=by
 obtain⟨cells,hb,hc⟩:=h;exact⟨cells,e.trans hb,hc⟩
theorem Arr.below {w w':World} {g N:Nat} {M:Nat→S38} (h:Arr w g N M) (hb:Below w.heap.size w w'):Arr w' g N M:=h.same (hb.block g h.lt)
def upd (M:Nat→S38) (x:Nat) (s:S38) (y:Nat):S38:=if y=x then s else M y
theorem Arr.put {w:World} {g N:Nat} {M:Nat→S38} (h:Arr w g N M) {x:Nat} (hx:x<N) (s:S38):Arr ((w.setCell ⟨g,x * 2,none⟩ (.int .i64 s.f0)).setCell ⟨g,x * 2+1,none⟩ (.bool s.f1)) g N (upd M x s):=by
 obtain⟨cells,hb,hc⟩:=h;refine⟨_,blk_set (blk_set hb _ _) _ _,fun y hy=> ?_⟩;have hs0:=(Array.getElem?_eq_some_iff.1 (hc x hx).1).1;have hs1:=(Array.getElem?_eq_some_iff.1 (hc x hx).2).1;simp only[Array.getElem?_setIfInBounds,Array.size_setIfInBounds];unfold upd;by_cases e:y=x
 ·subst e
  constructor
  ·rw[Yy (by omega),Yx rfl,Yx hs0,Yx rfl]
  ·rw[Yx rfl,Yx hs1,Yx rfl]
 ·rw[Yy e]
  constructor
  ·rw[Yy (by omega),Yy (by omega)];exact(hc y hy).1
  ·rw[Yy (by omega),Yy (by omega)];exact(hc y hy).2
theorem Arr.drew {w:World} {g N:Nat} {M:Nat→S38} (h:Arr w g N M):Arr w.drew g N M:=h.same rfl
def Fr (w w':World) (g:Nat):Prop:=w.grownBy w' (some g)∧ ∀ cells t ro,w.heap[g]? =some (.cells cells t ro)→ ∃ cells',w'.heap[g]? =some (.cells cells' t ro)∧cells'.size=cells.size
theorem grow_set {w w':World} {g:Nat} (h:Fr w w' g) (j:Nat) (u:Value):Fr w (w'.setCell ⟨g,j,none⟩ u) g:=
 ⟨⟨h.1.os,h.1.tape,h.1.output,by simpa [World.setCell] using h.1.size,fun k hk hne=>(Below.heap_setCell w' ⟨g,j,none⟩ u k (fun e=>hne (by rw[e]))).trans (h.1.block k hk hne)⟩,
  fun cells t ro hb=>by
  obtain⟨c',h1,h2⟩:=h.2 cells t ro hb;refine⟨c'.setIfInBounds j u,?_,by simpa using h2⟩;simp[World.setCell,Array.getElem?_modify,h1]⟩
theorem grow_drew {w w':World} {g:Nat} (h:Fr w w' g):Fr w w'.drew g:=⟨⟨h.1.os,h.1.tape,h.1.output,h.1.size,h.1.block⟩,h.2⟩
theorem grow_refl (w:World) (g:Nat):Fr w w g:=⟨⟨rfl,rfl,rfl,Nat.le_refl _,fun _ _ _=>rfl⟩,fun cells t ro hb=>⟨cells,hb,rfl⟩⟩
theorem grow_trans {w w' w'':World} {g:Nat} (h:Fr w w' g) (k:Fr w' w'' g):Fr w w'' g:=
 ⟨⟨k.1.os.trans h.1.os,k.1.tape.trans h.1.tape,k.1.output.trans h.1.output,Nat.le_trans h.1.size k.1.size,fun i hi hne=>(k.1.block i (Nat.lt_of_lt_of_le hi h.1.size) hne).trans (h.1.block i hi hne)⟩,
  fun cells t ro hb=>by
  obtain⟨c',h1,h2⟩:=h.2 cells t ro hb;obtain⟨c2,h3,h4⟩:=k.2 c' t ro h1;exact⟨c2,h3,h4.trans h2⟩⟩
theorem grow_below {w w':World} {g:Nat} (h:Below w.heap.size w w'):Fr w w' g:=
 ⟨grown_of_below h _,fun cells t ro hb=>⟨cells,(h.block g (Array.getElem?_eq_some_iff.1 hb).1).trans hb,rfl⟩⟩
def swapM (M:Nat→S38) (a b n:Nat) (x:Nat):S38:=if a≤x∧x<a+n then M (x - a+b) else if b≤x∧x<b+n then M (x - b+a) else M x
set_option maxHeartbeats 2000000 in
set_option maxRecDepth 100000 in
theorem swapRange_calls (g N cap:Nat) (M:Nat→S38) (a b n:Nat) (f:Value) (w:World) (h:Arr w g N M) (hN:N≤1000000) (ha:a+n≤b) (hb:b+n≤N):
  Calls Try.prog 178 #[.slice (some ⟨g,0,none⟩) N cap, .int .i64 (a:Int), .int .i64 (b:Int), .int .i64 (n:Int),f] w fun e w'=>e= .returned (.tuple #[])∧Arr w' g N (swapM M a b n)∧Fr w w' g:=by
 have HA:=Ya h;clear h;go_enter Try.func178,Try.ntmps178;go_wp2;go_loopw [10] (fun i wr=> ∃ k:Nat,k≤n∧i= .int .i64 k∧Aside0 (Arr wr g N (swapM M a b k))∧Aside0 (Fr w wr g)) (fun i _=>n - (intOf i).toNat)
 case atStart=>exact⟨0,Nat.zero_le _,rfl,⟨HA.out.congr fun x _=>by unfold swapM;rw[Yy (by omega),Yy (by omega)]⟩,⟨grow_refl _ _⟩⟩
 case round=>
  obtain⟨k,hk,rfl,HA1,HG⟩:=hrel;by_cases hlt:k<n
  ·have c0:=HA1.out.cell0 (x:=b+k) (by omega)
   have c1:=HA1.out.cell1 (x:=b+k) (by omega);have d0:=HA1.out.cell0 (x:=a+k) (by omega);have d1:=HA1.out.cell1 (x:=a+k) (by omega);have f0:=HA1.out.free;obtain⟨s1,hs1⟩: ∃ s,swapM M a b k (b+k)=s:=⟨_,rfl⟩;obtain⟨s2,hs2⟩: ∃ s,swapM M a b k (a+k)=s:=⟨_,rfl⟩;rw[hs1] at c0 c1;rw[hs2] at d0 d1;have HE:Aside0 (∀ x,upd (upd (swapM M a b k) (a+k) s1) (b+k) s2 x=swapM M a b (k+1) x):=⟨fun x=>by
    rw[← hs1, ← hs2];unfold upd swapM;by_cases e1:x=b+k
    ·subst e1
     rw[Yx rfl,Yy (by omega),Yy (by omega),Yy (by omega),Yx (by omega)];congr 1;omega
    ·rw[Yy e1]
     by_cases e2:x=a+k
     ·subst e2
      rw[Yx rfl,Yy (by omega),Yy (by omega),Yx (by omega)];congr 1;omega
     ·rw[Yy e2]
      by_cases e3:a≤x∧x<a+k
      ·rw[Yx e3,Yx (by omega)]
      ·rw[Yy e3,Yy (show ¬ (a≤x∧x<a+(k+1)) by omega)]
       by_cases e4:b≤x∧x<b+k
       ·rw[Yx e4,Yx (by omega)]
       ·rw[Yy e4,Yy (by omega)]⟩
   clear hs1 hs2;go_wp2;go_region;have HA2:Aside0 (Arr (((((wr.setCell ⟨g,(a+k) * 2,none⟩ (.int .i64 s1.f0)).setCell ⟨g,(a+k) * 2+1,none⟩ (.bool s1.f1)).setCell ⟨g,(b+k) * 2,none⟩ (.int .i64 s2.f0)).setCell ⟨g,(b+k) * 2+1,none⟩ (.bool s2.f1)).drew) g N (swapM M a b (k+1))):=
    ⟨(((HA1.out.put (by omega) s1).put (by omega) s2).drew).congr fun x _=>(HE.out x).symm⟩
   have HG2:=Ya (grow_drew (grow_set (grow_set (grow_set (grow_set HG.out ((a+k) * 2) (.int .i64 s1.f0)) ((a+k) * 2+1) (.bool s1.f1)) ((b+k) * 2) (.int .i64 s2.f0)) ((b+k) * 2+1) (.bool s2.f1)));clear c0 c1 d0 d1 f0 HA1 HG HE;go_wp2;go_roundw
   case rel=>exact⟨k+1,by omega,by go_num,HA2,HG2⟩
   case measure=>simp[intOf];omega
  ·have e:k=n:=by omega
   subst e;go_wp2;go_end0;exact⟨rfl,HA1.out,HG.out⟩
def rotM (M:Nat→S38) (a m b:Nat) (x:Nat):S38:=if a≤x∧x<b then(if x<a+(b - m) then M (x+(m - a)) else M (x - (b - m))) else M x
def RotAt (M K:Nat→S38) (a m b i j:Nat):Prop:=
 (∀ x, ¬ (m - i≤x∧x<m+j)→K x=rotM M a m b x)∧(∀ x,m - i≤x→x<m - i+j→rotM M a m b x=K (x+i))∧(∀ x,m - i+j≤x→x<m+j→rotM M a m b x=K (x - j))
theorem rot_start (M:Nat→S38) {a m b:Nat} (h1:a≤m) (h2:m≤b):RotAt M M a m b (m - a) (b - m):=by
 refine⟨fun x hx=> ?_,fun x h3 h4=> ?_,fun x h3 h4=> ?_⟩
 ·unfold rotM;rw[Yy (by omega)]
 ·unfold rotM;rw[Yx (by omega),Yx (by omega)]
 ·unfold rotM;rw[Yx (by omega),Yy (by omega)]
theorem rot_left {M K:Nat→S38} {a m b i j:Nat} (h:RotAt M K a m b i j) (hj:0<j) (hij:j<i) (him:i≤m):RotAt M (swapM K (m - i) m j) a m b (i - j) j:=by
 obtain⟨h1,h2,h3⟩:=h;refine⟨fun x hx=> ?_,fun x h4 h5=> ?_,fun x h4 h5=> ?_⟩
 ·unfold swapM
  by_cases e:m - i≤x∧x<m - i+j
  ·rw[Yx e,h2 x e.1 e.2]
   congr 1;omega
  ·rw[Yy e,Yy (by omega)]
   exact h1 x (by omega)
 ·rw[h3 x (by omega) (by omega)]
  unfold swapM;rw[Yy (by omega),Yx (by omega)];congr 1;omega
 ·rw[h3 x (by omega) (by omega)]
  unfold swapM;rw[Yy (by omega),Yy (by omega)]
theorem rot_right {M K:Nat→S38} {a m b i j:Nat} (h:RotAt M K a m b i j) (hi:0<i) (hij:i<j) (him:i≤m):RotAt M (swapM K (m - i) (m+j - i) i) a m b i (j - i):=by
 obtain⟨h1,h2,h3⟩:=h;refine⟨fun x hx=> ?_,fun x h4 h5=> ?_,fun x h4 h5=> ?_⟩
 ·unfold swapM
  rw[Yy (by omega)];by_cases e:m+j - i≤x∧x<m+j - i+i
  ·rw[Yx e,h3 x (by omega) (by omega)]
   congr 1;omega
  ·rw[Yy e]
   exact h1 x (by omega)
 ·rw[h2 x (by omega) (by omega)]
  unfold swapM;rw[Yy (by omega),Yy (by omega)]
 ·rw[h2 x (by omega) (by omega)]
  unfold swapM;rw[Yx (by omega)];congr 1;omega
theorem rot_last {M K:Nat→S38} {a m b i:Nat} (h:RotAt M K a m b i i) (him:i≤m) (x:Nat):swapM K (m - i) m i x=rotM M a m b x:=by
 obtain⟨h1,h2,h3⟩:=h;unfold swapM;by_cases e:m - i≤x∧x<m - i+i
 ·rw[Yx e,h2 x e.1 e.2]
  congr 1;omega
 ·rw[Yy e]
  by_cases e2:m≤x∧x<m+i
  ·rw[Yx e2,h3 x (by omega) (by omega)]
   congr 1;omega
  ·rw[Yy e2]
   exact h1 x (by omega)
set_option maxHeartbeats 2000000 in
set_option maxRecDepth 100000 in
theorem rotate_calls (g N cap:Nat) (M:Nat→S38) (a m b:Nat) (f:Value) (w:World) (h:Arr w g N M) (hN:N≤1000000) (ham:a<m) (hmb:m<b) (hb:b≤N):
  Calls Try.prog 175 #[.slice (some ⟨g,0,none⟩) N cap, .int .i64 (a:Int), .int .i64 (m:Int), .int .i64 (b:Int),f] w fun e w'=>e= .returned (.tuple #[])∧Arr w' g N (rotM M a m b)∧Fr w w' g:=by
 have HA:=Ya h;clear h;go_enter Try.func175,Try.ntmps175;go_wp2;go_loopw [10,11] (fun vi vj wr=> ∃ i j:Nat,0<i∧0<j∧i≤m - a∧j≤b - m∧vi= .int .i64 i∧vj= .int .i64 j∧(∃ K,Aside0 (RotAt M K a m b i j)∧Aside0 (Arr wr g N K))∧Aside0 (Fr w wr g)) (fun vi vj _=>(intOf vi).toNat+(intOf vj).toNat)
 case atStart=>exact⟨m - a,b - m,by omega,by omega,Nat.le_refl _,Nat.le_refl _,by rw[Int.natCast_sub (by omega)],by rw[Int.natCast_sub (by omega)],⟨M,⟨rot_start M (by omega) (by omega)⟩,HA⟩,⟨grow_refl _ _⟩⟩
 case round=>
  obtain⟨i,j,hi,hj,him,hjb,rfl,rfl,⟨K,HK,HA1⟩,HG⟩:=hrel;have e0:(m:Int) - (i:Int)=((m - i:Nat):Int):=by omega
  have E0:=Ya e0;by_cases hij:i=j
  ·subst hij
   have hne:((i:Int) != (i:Int))=false:=by simp
   clear e0;go_wp2_with fail;rw[E0.out];refine(swapRange_calls g N cap K (m - i) m i f _ HA1.out hN (by omega) (by omega)).mono ?_;rintro e w1 ⟨rfl,ha1,hg1⟩;have HA2:=Ya ha1;have HG2:=Ya (grow_trans HG.out hg1);clear ha1 hg1;go_wp2_with fail;go_end0;exact⟨rfl,HA2.out.congr fun x _=>(rot_last HK.out (by omega) x).symm,HG2.out⟩
  ·have hne:((i:Int) != (j:Int))=true:=by rw[bne_iff_ne];omega
   by_cases hlt:j<i
   ·have e1:(i:Int) - (j:Int)=((i - j:Nat):Int):=by omega
    have E1:=Ya e1;clear e0 e1;go_wp2_with fail;rw[E0.out];refine(swapRange_calls g N cap K (m - i) m j f _ HA1.out hN (by omega) (by omega)).mono ?_;rintro e w1 ⟨rfl,ha1,hg1⟩;have HA2:=Ya ha1;have HG2:=Ya (grow_trans HG.out hg1);clear ha1 hg1;go_wp2_with fail;go_roundw
    case rel=>exact⟨i - j,j,by omega,hj,by omega,hjb,by rw[E1.out],rfl,⟨_,⟨rot_left HK.out hj hlt (by omega)⟩,HA2⟩,HG2⟩
    case measure=>simp[intOf];omega
   ·have e1:(j:Int) - (i:Int)=((j - i:Nat):Int):=by omega
    have E1:=Ya e1;have e2:(m:Int)+(j:Int) - (i:Int)=((m+j - i:Nat):Int):=by omega
    have E2:=Ya e2;clear e0 e1 e2;go_wp2_with fail;rw[E0.out,E2.out];refine(swapRange_calls g N cap K (m - i) (m+j - i) i f _ HA1.out hN (by omega) (by omega)).mono ?_;rintro e w1 ⟨rfl,ha1,hg1⟩;have HA2:=Ya ha1;have HG2:=Ya (grow_trans HG.out hg1);clear ha1 hg1;go_wp2_with fail;go_roundw
    case rel=>exact⟨i,j - i,hi,by omega,him,by omega,rfl,by rw[E1.out],⟨_,⟨rot_right HK.out hi (by omega) (by omega)⟩,HA2⟩,HG2⟩
    case measure=>simp[intOf];omega
end H
namespace H
open P
def Le (K:Nat→S38) (a b:Nat):Prop:= ∀ i j,a≤i→i<j→j<b→(K i).f0≤(K j).f0
def Stab (M:Nat→S38) (N:Nat):Prop:= ∀ i j,i<j→j<N→(M i).f0=(M j).f0→(M i).f1=false∧(M j).f1=true
def Small (M:Nat→S38) (N:Nat):Prop:= ∀ i,i<N→0≤(M i).f0∧(M i).f0≤1000000
def Mix (M K:Nat→S38) (a b:Nat):Prop:=
 (∀ x, ¬ (a≤x∧x<b)→K x=M x)∧(∀ x,a≤x→x<b→ ∃ y,a≤y∧y<b∧K x=M y)∧(∀ y,a≤y→y<b→ ∃ x,a≤x∧x<b∧K x=M y)
theorem mix_refl (M:Nat→S38) (a b:Nat):Mix M M a b:=⟨fun _ _=>rfl,fun x h1 h2=>⟨x,h1,h2,rfl⟩,fun x h1 h2=>⟨x,h1,h2,rfl⟩⟩
theorem mix_trans {M K L:Nat→S38} {a b:Nat} (h:Mix M K a b) (k:Mix K L a b):Mix M L a b:=by
 refine⟨fun x hx=>(k.1 x hx).trans (h.1 x hx),fun x h1 h2=> ?_,fun y h1 h2=> ?_⟩
 ·obtain⟨y,h3,h4,e⟩:=k.2.1 x h1 h2
  obtain⟨z,h5,h6,e2⟩:=h.2.1 y h3 h4;exact⟨z,h5,h6,e.trans e2⟩
 ·obtain⟨x,h3,h4,e⟩:=h.2.2 y h1 h2
  obtain⟨z,h5,h6,e2⟩:=k.2.2 x h3 h4;exact⟨z,h5,h6,e2.trans e⟩
theorem mix_wide {M K:Nat→S38} {a b a' b':Nat} (h:Mix M K a b) (ha:a'≤a) (hb:b≤b'):Mix M K a' b':=by
 refine⟨fun x hx=>h.1 x (by omega),fun x h1 h2=> ?_,fun y h1 h2=> ?_⟩
 ·by_cases e:a≤x∧x<b
  ·obtain⟨y,h3,h4,e⟩:=h.2.1 x e.1 e.2
   exact⟨y,by omega,by omega,e⟩
  ·exact⟨x,h1,h2,h.1 x e⟩
 ·by_cases e:a≤y∧y<b
  ·obtain⟨x,h3,h4,e⟩:=h.2.2 y e.1 e.2
   exact⟨x,by omega,by omega,e⟩
  ·exact⟨y,h1,h2,h.1 y e⟩
theorem mix_small {M K:Nat→S38} {a b N:Nat} (h:Mix M K a b) (hb:b≤N) (hs:Small M N):Small K N:=fun x hx=>by
 by_cases e:a≤x∧x<b
 ·obtain⟨y,h3,h4,e⟩:=h.2.1 x e.1 e.2
  rw[e];exact hs y (by omega)
 ·rw[h.1 x e];exact hs x hx
def sw (K:Nat→S38) (p x:Nat):S38:=if x=p then K (p+1) else if x=p+1 then K p else K x
theorem sw_put1 (K:Nat→S38) (p x:Nat):upd (upd K (p+1) (K p)) p (K (p+1)) x=sw K p x:=by
 unfold upd sw;rfl
theorem sw_put2 (K:Nat→S38) (p x:Nat):upd (upd K p (K (p+1))) (p+1) (K p) x=sw K p x:=by
 unfold upd sw;by_cases e:x=p
 ·subst e;rw[Yy (by omega),Yx rfl,Yx rfl]
 ·by_cases e2:x=p+1
  ·rw[Yx e2,Yy e,Yx e2]
  ·rw[Yy e2,Yy e,Yy e,Yy e2]
theorem sw_at (K:Nat→S38) (p:Nat):sw K p p=K (p+1):=Yx rfl
theorem sw_at1 (K:Nat→S38) (p:Nat):sw K p (p+1)=K p:=by unfold sw;rw[Yy (by omega),Yx rfl]
theorem sw_off (K:Nat→S38) (p x:Nat) (h:x≠p) (h1:x≠p+1):sw K p x=K x:=by unfold sw;rw[Yy h,Yy h1]
theorem sw_mix (K:Nat→S38) (p a b:Nat) (ha:a≤p) (hb:p+1<b):Mix K (sw K p) a b:=by
 refine⟨fun x hx=>sw_off K p x (by omega) (by omega),fun x h1 h2=> ?_,fun x h1 h2=> ?_⟩
 ·by_cases e:x=p
  ·subst e;exact⟨x+1,by omega,by omega,sw_at K x⟩
  ·by_cases e2:x=p+1
   ·subst e2;exact⟨p,by omega,by omega,sw_at1 K p⟩
   ·exact⟨x,h1,h2,sw_off K p x e e2⟩
 ·by_cases e:x=p
  ·subst e;exact⟨x+1,by omega,by omega,sw_at1 K x⟩
  ·by_cases e2:x=p+1
   ·subst e2;exact⟨p,by omega,by omega,sw_at K p⟩
   ·exact⟨x,h1,h2,sw_off K p x e e2⟩
theorem sw_stab {K:Nat→S38} {p N:Nat} (h:Stab K N) (hp:p+1<N) (hlt:(K (p+1)).f0<(K p).f0):Stab (sw K p) N:=by
 intro i j hij hj he;have h0: ∀ x,x=p∨x=p+1∨(x≠p∧x≠p+1):=fun x=>by omega
 rcases h0 i with rfl|rfl|⟨i1,i2⟩<;>rcases h0 j with e|e|⟨j1,j2⟩
 ·omega
 ·subst e;rw[sw_at,sw_at1] at he;omega
 ·rw[sw_at,sw_off _ _ _ j1 j2] at he ⊢;exact h _ _ (by omega) hj he
 ·omega
 ·omega
 ·rw[sw_at1,sw_off _ _ _ j1 j2] at he ⊢;exact h _ _ (by omega) hj he
 ·subst e;rw[sw_at,sw_off _ _ _ i1 i2] at he ⊢;exact h _ _ (by omega) (by omega) he
 ·subst e;rw[sw_at1,sw_off _ _ _ i1 i2] at he ⊢;exact h _ _ (by omega) (by omega) he
 ·rw[sw_off _ _ _ i1 i2,sw_off _ _ _ j1 j2] at he ⊢;exact h _ _ hij hj he
def Hole (K:Nat→S38) (a k j:Nat):Prop:=
 (∀ x y,a≤x→x<y→y≤k→x≠j→y≠j→(K x).f0≤(K y).f0)∧(∀ y,j<y→y≤k→(K j).f0≤(K y).f0)
theorem hole_start {K:Nat→S38} {a k:Nat} (h:Le K a k):Hole K a k k:=⟨fun x y h1 h2 h3 h4 h5=>h x y h1 h2 (by omega),fun y h1 h2=>by omega⟩
theorem hole_stop {K:Nat→S38} {a k j:Nat} (h:Hole K a k j) (hj:j=a∨(a<j∧(K (j - 1)).f0≤(K j).f0)):Le K a (k+1):=by
 intro x y h1 h2 h3;by_cases e1:x=j
 ·subst e1;exact h.2 y h2 (by omega)
 ·by_cases e2:y=j
  ·subst e2
   rcases hj with hj|⟨hj,hle⟩
   ·omega
   ·by_cases e3:x=y - 1
    ·subst e3;exact hle
    ·exact Int.le_trans (h.1 x (y - 1) h1 (by omega) (by omega) e1 (by omega)) hle
  ·exact h.1 x y h1 h2 (by omega) e1 e2
theorem hole_swap {K:Nat→S38} {a k p:Nat} (h:Hole K a k (p+1)) (ha:a≤p) (hk:p+1≤k) (hlt:(K (p+1)).f0<(K p).f0):Hole (sw K p) a k p:=by
 refine⟨fun x y h1 h2 h3 h4 h5=> ?_,fun y h1 h2=> ?_⟩
 ·by_cases e1:x=p+1
  ·subst e1;rw[sw_at1,sw_off _ _ _ h5 (by omega)];exact h.1 p y (by omega) (by omega) h3 (by omega) (by omega)
  ·by_cases e2:y=p+1
   ·subst e2;rw[sw_at1,sw_off _ _ _ h4 e1];exact h.1 x p h1 (by omega) (by omega) e1 (by omega)
   ·rw[sw_off _ _ _ h4 e1,sw_off _ _ _ h5 e2];exact h.1 x y h1 h2 h3 e1 e2
 ·rw[sw_at]
  by_cases e2:y=p+1
  ·subst e2;rw[sw_at1];omega
  ·rw[sw_off _ _ _ (by omega) e2];exact h.2 y (by omega) h2
def Sorted (M K:Nat→S38) (N a b:Nat):Prop:=Mix M K a b∧Stab K N∧Small K N∧Le K a b
theorem le_one (K:Nat→S38) (a b:Nat) (h:b≤a+1):Le K a b:=fun i j h1 h2 h3=>by omega
theorem rot_lo (M:Nat→S38) {s m e x:Nat} (h1:s≤x) (h2:x<s+(e - m)) (h3:m≤e) (h4:s≤m):rotM M s m e x=M (x+(m - s)):=by
 unfold rotM;rw[Yx (by omega),Yx h2]
theorem rot_hi (M:Nat→S38) {s m e x:Nat} (h1:s+(e - m)≤x) (h2:x<e) (h4:s≤m):rotM M s m e x=M (x - (e - m)):=by
 unfold rotM;rw[Yx (by omega),Yy (by omega)]
theorem rot_off (M:Nat→S38) {s m e x:Nat} (h: ¬ (s≤x∧x<e)):rotM M s m e x=M x:=by
 unfold rotM;rw[Yy h]
theorem rot_mix (M:Nat→S38) {s m e:Nat} (h1:s≤m) (h2:m≤e):Mix M (rotM M s m e) s e:=by
 refine⟨fun x hx=>rot_off M hx,fun x h3 h4=> ?_,fun x h3 h4=> ?_⟩
 ·by_cases c:x<s+(e - m)
  ·exact⟨x+(m - s),by omega,by omega,rot_lo M h3 c h2 h1⟩
  ·exact⟨x - (e - m),by omega,by omega,rot_hi M (by omega) h4 h1⟩
 ·by_cases c:x<m
  ·refine⟨x+(e - m),by omega,by omega,?_⟩
   rw[rot_hi M (by omega) (by omega) h1];congr 1;omega
  ·refine⟨x - (m - s),by omega,by omega,?_⟩
   rw[rot_lo M (by omega) (by omega) h2 h1];congr 1;omega
theorem rot_stab {M:Nat→S38} {N s m e:Nat} (h:Stab M N) (h1:s≤m) (h2:m≤e) (he:e≤N) (hc: ∀ x y,s≤x→x<m→m≤y→y<e→(M y).f0<(M x).f0):Stab (rotM M s m e) N:=by
 intro i j hij hj heq;have h0: ∀ x, ¬ (s≤x∧x<e)∨(s≤x∧x<s+(e - m))∨(s+(e - m)≤x∧x<e):=fun x=>by omega
 rcases h0 i with a1|⟨a1,a2⟩|⟨a1,a2⟩<;>rcases h0 j with b1|⟨b1,b2⟩|⟨b1,b2⟩
 ·rw[rot_off M a1,rot_off M b1] at heq ⊢;exact h _ _ hij hj heq
 ·rw[rot_off M a1,rot_lo M b1 b2 h2 h1] at heq ⊢;exact h _ _ (by omega) (by omega) heq
 ·rw[rot_off M a1,rot_hi M b1 b2 h1] at heq ⊢;exact h _ _ (by omega) (by omega) heq
 ·rw[rot_lo M a1 a2 h2 h1,rot_off M b1] at heq ⊢;exact h _ _ (by omega) (by omega) heq
 ·rw[rot_lo M a1 a2 h2 h1,rot_lo M b1 b2 h2 h1] at heq ⊢;exact h _ _ (by omega) (by omega) heq
 ·rw[rot_lo M a1 a2 h2 h1,rot_hi M b1 b2 h1] at heq;have:=hc (j - (e - m)) (i+(m - s)) (by omega) (by omega) (by omega) (by omega);omega
 ·rw[rot_hi M a1 a2 h1,rot_off M b1] at heq ⊢;exact h _ _ (by omega) (by omega) heq
 ·omega
 ·rw[rot_hi M a1 a2 h1,rot_hi M b1 b2 h1] at heq ⊢;exact h _ _ (by omega) (by omega) heq
theorem rot_none (M:Nat→S38) {s m e:Nat} (h1:s≤m) (h2:m≤e) (h:s=m∨m=e) (x:Nat):rotM M s m e x=M x:=by
 by_cases c:s≤x∧x<e
 ·rcases h with h|h
  ·subst h;rw[rot_lo M c.1 (by omega) h2 h1];congr 1;omega
  ·subst h;rw[rot_hi M (by omega) c.2 h1];congr 1;omega
 ·exact rot_off M c
theorem le_le {K:Nat→S38} {a b x y:Nat} (h:Le K a b) (h1:a≤x) (h2:x≤y) (h3:y<b):(K x).f0≤(K y).f0:=by
 by_cases e:x=y
 ·subst e;exact Int.le_refl _
 ·exact h x y h1 (by omega) h3
theorem le_join {K:Nat→S38} {a m b:Nat} (h1:Le K a m) (h2:Le K m b) (hc: ∀ x y,a≤x→x<m→m≤y→y<b→(K x).f0≤(K y).f0):Le K a b:=by
 intro i j hi hij hj;by_cases e:j<m
 ·exact h1 i j hi hij e
 ·by_cases e2:i<m
  ·exact hc i j hi e2 (by omega) hj
  ·exact h2 i j (by omega) hij hj
theorem rot_one_lo {M:Nat→S38} {a b i:Nat} (h:Le M (a+1) b) (h1:a+1≤i) (h2:i≤b) (hlt: ∀ y,a+1≤y→y<i→(M y).f0<(M a).f0) (hge: ∀ y,i≤y→y<b→(M a).f0≤(M y).f0):Le (rotM M a (a+1) i) a b:=by
 have lo: ∀ x,a≤x→x+1<i→rotM M a (a+1) i x=M (x+1):=fun x h3 h4=>by rw[rot_lo M h3 (by omega) h1 (by omega)];congr 1;omega
 have at_:rotM M a (a+1) i (i - 1)=M a:=by rw[rot_hi M (by omega) (by omega) (by omega)];congr 1;omega
 have hi: ∀ x,i≤x→rotM M a (a+1) i x=M x:=fun x h3=>rot_off M (by omega)
 intro x y h3 h4 h5;by_cases c1:x+1<i
 ·rw[lo x h3 c1]
  by_cases c2:y+1<i
  ·rw[lo y (by omega) c2];exact h _ _ (by omega) (by omega) (by omega)
  ·by_cases c3:y=i - 1
   ·subst c3;rw[at_];have:=hlt (x+1) (by omega) c1;omega
   ·rw[hi y (by omega)];exact h _ _ (by omega) (by omega) (by omega)
 ·by_cases c2:x=i - 1
  ·subst c2;rw[at_,hi y (by omega)];exact hge y (by omega) h5
  ·rw[hi x (by omega),hi y (by omega)];exact h _ _ (by omega) h4 h5
theorem rot_one_hi {M:Nat→S38} {a m i:Nat} (h:Le M a m) (h1:a≤i) (h2:i≤m) (hle: ∀ y,a≤y→y<i→(M y).f0≤(M m).f0) (hgt: ∀ y,i≤y→y<m→(M m).f0<(M y).f0):Le (rotM M i m (m+1)) a (m+1):=by
 have lo: ∀ x,x<i→rotM M i m (m+1) x=M x:=fun x h3=>rot_off M (by omega)
 have at_:rotM M i m (m+1) i=M m:=by rw[rot_lo M (Nat.le_refl _) (by omega) (by omega) h2];congr 1;omega
 have hi: ∀ x,i<x→x<m+1→rotM M i m (m+1) x=M (x - 1):=fun x h3 h4=>by rw[rot_hi M (by omega) h4 h2];congr 1;omega
 intro x y h3 h4 h5;by_cases c1:x<i
 ·rw[lo x c1]
  by_cases c2:y<i
  ·rw[lo y c2];exact h _ _ h3 h4 (by omega)
  ·by_cases c3:y=i
   ·subst c3;rw[at_];exact hle x h3 c1
   ·rw[hi y (by omega) h5];exact h _ _ h3 (by omega) (by omega)
 ·by_cases c2:x=i
  ·subst c2;rw[at_,hi y h4 h5];have:=hgt (y - 1) (by omega) (by omega);omega
  ·rw[hi x (by omega) (by omega),hi y (by omega) h5];exact h _ _ (by omega) (by omega) (by omega)
theorem sym_rot {M:Nat→S38} {a m b mid s e N:Nat} (h1:Le M a m) (h2:Le M m b) (has:a≤s) (hsm:s≤m) (hme:m≤e) (heb:e≤b) (hsum:s+e=mid+m) (hsmid:s≤mid) (hmide:mid≤e)
  (hge:a<s→e<b→(M (s - 1)).f0≤(M e).f0) (hlt:s<m→m<e→(M (e - 1)).f0<(M s).f0) (hst:Stab M N) (hb:b≤N):
  Stab (rotM M s m e) N∧Le (rotM M s m e) a s∧Le (rotM M s m e) s mid∧Le (rotM M s m e) mid e∧Le (rotM M s m e) e b∧ ∀ x y,a≤x→x<mid→mid≤y→y<b→(rotM M s m e x).f0≤(rotM M s m e y).f0:=by
 have hx: ∀ x y,s≤x→x<m→m≤y→y<e→(M y).f0<(M x).f0:=fun x y h3 h4 h5 h6=>by
  have k1:=hlt (by omega) (by omega);have k2:(M y).f0≤(M (e - 1)).f0:=le_le h2 h5 (by omega) (by omega);have k3:(M s).f0≤(M x).f0:=le_le h1 has h3 h4;omega
 have hy: ∀ x y,a≤x→x<s→e≤y→y<b→(M x).f0≤(M y).f0:=fun x y h3 h4 h5 h6=>by
  have k1:=hge (by omega) (by omega);have k2:(M x).f0≤(M (s - 1)).f0:=le_le h1 h3 (by omega) (by omega);have k3:(M e).f0≤(M y).f0:=le_le h2 hme h5 h6;omega
 have p1: ∀ x,x<s→rotM M s m e x=M x:=fun x h=>rot_off M (by omega)
 have p2: ∀ x,s≤x→x<mid→rotM M s m e x=M (x+(m - s)):=fun x h3 h4=>rot_lo M h3 (by omega) hme hsm
 have p3: ∀ x,mid≤x→x<e→rotM M s m e x=M (x - (e - m)):=fun x h3 h4=>rot_hi M (by omega) h4 hsm
 have p4: ∀ x,e≤x→rotM M s m e x=M x:=fun x h=>rot_off M (by omega)
 refine⟨rot_stab hst hsm hme (by omega) hx,?_,?_,?_,?_,?_⟩
 ·intro x y h3 h4 h5;rw[p1 x (by omega),p1 y h5];exact h1 _ _ h3 h4 (by omega)
 ·intro x y h3 h4 h5;rw[p2 x h3 (by omega),p2 y (by omega) h5];exact h2 _ _ (by omega) (by omega) (by omega)
 ·intro x y h3 h4 h5;rw[p3 x h3 (by omega),p3 y (by omega) h5];exact h1 _ _ (by omega) (by omega) (by omega)
 ·intro x y h3 h4 h5;rw[p4 x h3,p4 y (by omega)];exact h2 _ _ (by omega) h4 h5
 ·intro x y h3 h4 h5 h6
  by_cases c1:x<s
  ·rw[p1 x c1]
   by_cases c2:y<e
   ·rw[p3 y h5 c2];exact le_le h1 h3 (by omega) (by omega)
   ·rw[p4 y (by omega)];exact hy x y h3 c1 (by omega) h6
  ·rw[p2 x (by omega) h4]
   by_cases c2:y<e
   ·rw[p3 y h5 c2];exact Int.le_of_lt (hx _ _ (by omega) (by omega) (by omega) (by omega))
   ·rw[p4 y (by omega)];exact le_le h2 (by omega) (by omega) h6
theorem mix_cross {K L:Nat→S38} {a m b:Nat} (hc: ∀ x y,a≤x→x<m→m≤y→y<b→(K x).f0≤(K y).f0) (h:Mix K L a m∨Mix K L m b):
  ∀ x y,a≤x→x<m→m≤y→y<b→(L x).f0≤(L y).f0:=by
 intro x y h1 h2 h3 h4;rcases h with h|h
 ·obtain⟨z,h5,h6,e⟩:=h.2.1 x h1 h2
  rw[e,h.1 y (by omega)];exact hc z y h5 h6 h3 h4
 ·obtain⟨z,h5,h6,e⟩:=h.2.1 y h3 h4
  rw[e,h.1 x (by omega)];exact hc x z h1 h2 h5 h6
theorem mix_le {K L:Nat→S38} {a b c d:Nat} (h:Mix K L c d) (hd:b≤c∨d≤a) (hl:Le K a b):Le L a b:=fun i j h1 h2 h3=>by
 rw[h.1 i (by omega),h.1 j (by omega)];exact hl i j h1 h2 h3
theorem sw_rot_lo (M:Nat→S38) {a k:Nat} (h:a≤k) (x:Nat):sw (rotM M a (a+1) (k+1)) k x=rotM M a (a+1) (k+2) x:=by
 unfold sw rotM;by_cases e1:x=k
 ·subst e1;rw[Yx rfl,Yy (by omega),Yx (by omega),Yx (by omega)];congr 1;omega
 ·rw[Yy e1]
  by_cases e2:x=k+1
  ·subst e2;rw[Yx rfl,Yx (by omega),Yy (by omega),Yx (by omega),Yy (by omega)];congr 1;omega
  ·rw[Yy e2]
   by_cases e3:a≤x∧x<k
   ·rw[Yx (by omega),Yx (by omega),Yx (by omega),Yx (by omega)]
   ·rw[Yy (by omega),Yy (by omega)]
theorem sw_rot_hi (M:Nat→S38) {k m:Nat} (h:k<m) (x:Nat):sw (rotM M (k+1) m (m+1)) k x=rotM M k m (m+1) x:=by
 unfold sw rotM;by_cases e1:x=k
 ·subst e1;rw[Yx rfl,Yx (by omega),Yx (by omega),Yx (by omega),Yx (by omega)];congr 1;omega
 ·rw[Yy e1]
  by_cases e2:x=k+1
  ·subst e2;rw[Yx rfl,Yy (by omega),Yx (by omega),Yy (by omega)];congr 1;omega
  ·rw[Yy e2]
   by_cases e3:k≤x∧x<m+1
   ·rw[Yx (by omega),Yy (by omega),Yx (by omega),Yy (by omega)]
   ·rw[Yy (by omega),Yy (by omega)]
end H
namespace P
attribute [local go_sem] max2_int min2_int max_two min_two max_three min_three max_four min_four
def adj_from.f (Zb:Int) (Zc:Int) (a0_2:Int) (a0_3:Int):Option (Int):=some Zb
set_option maxHeartbeats 8000000 in
set_option maxRecDepth 100000 in
theorem adj_from.calls (Zb:Int) (Zc:Int) (a0_2:Int) (a0_3:Int) (r:Int) (w:World) (h:adj_from.f Zb Zc a0_2 a0_3=some r):
  Calls Try.prog 160 #[.agg #[.int .i64 Zb, .int .i64 Zc, .int .i64 a0_2, .int .i64 a0_3]] w fun e w'=>e= .returned (.int .i64 r)∧Below w.heap.size w w':=by
 have hu74:=Try.underlying74;have HB:=Ya (Yo w.heap.size w);have H:(some Zb)=some r:=h;clear h;obtain rfl:=Option.some.inj H;go_enter Try.func160,Try.ntmps160;go_wp2_with (first|((with_reducible refine gate_dst (N:=1) rfl ?_);refine Yz ?hg (N:=1) ?hd (cs:= #[.int .i64 Zb, .int .i64 Zc, .int .i64 a0_2, .int .i64 a0_3]) (t:=74) ?hr ?_;(case hd=>rfl);(case hg=>rfl);(case hr=>first|(go_simp;done)|(go_simp;rfl));intro gb192 hg w2 Zg hb;have n0_:=Ya (Yk (by repeat(first|(with_reducible first|exact HB.out|apply Ye|apply Yd|apply Yg)|exact HB.out)) hb);have n1_:=Ya (Zg);have n2_:=Ya ((by rw[hg];exact(Yi (by repeat(first|(with_reducible first|exact HB.out|apply Ye|apply Yd|apply Yg)|exact HB.out))):w.heap.size≤gb192));have n3_:=Ya ((by rw[hg];exact(Yi (by repeat(first|(with_reducible first|exact HB.out|apply Ye|apply Yd|apply Yg)|exact HB.out))):w.heap.size≤gb192));clear HB;have HB:=n0_;have BK192:=n1_;have GW192:=n2_;have GE192:=n3_;clear n0_ n1_ n2_ n3_;clear hb Zg hg;have hcz3_0:w2.cell? ⟨gb192,0,none⟩=some (.int .i64 Zb):=(Yc BK192.out 0).trans rfl;have hcz3_1:w2.cell? ⟨gb192,1,none⟩=some (.int .i64 Zc):=(Yc BK192.out 1).trans rfl;have hcz3_2:w2.cell? ⟨gb192,2,none⟩=some (.int .i64 a0_2):=(Yc BK192.out 2).trans rfl;have hcz3_3:w2.cell? ⟨gb192,3,none⟩=some (.int .i64 a0_3):=(Yc BK192.out 3).trans rfl;have hfz3_0:=Yf BK192.out 0;have hfz3_1:=Yf BK192.out 1;have hfz3_2:=Yf BK192.out 2;have hfz3_3:=Yf BK192.out 3));go_ret;exact⟨by first|rfl|(simp[errW_none,errW_some]<;>rfl)|(simp[*,errW_none,errW_some]<;>rfl),by repeat(first|(with_reducible first|exact HB.out|apply Ye|apply Yd|apply Yg|refine Yh ?_ GE192.out)|exact HB.out)⟩
end P
namespace P
attribute [local go_sem] max2_int min2_int max_two min_two max_three min_three max_four min_four
def adj_to.f (Zb:Int) (Zc:Int) (a0_2:Int) (a0_3:Int):Option (Int):=some Zc
set_option maxHeartbeats 8000000 in
set_option maxRecDepth 100000 in
theorem adj_to.calls (Zb:Int) (Zc:Int) (a0_2:Int) (a0_3:Int) (r:Int) (w:World) (h:adj_to.f Zb Zc a0_2 a0_3=some r):
  Calls Try.prog 161 #[.agg #[.int .i64 Zb, .int .i64 Zc, .int .i64 a0_2, .int .i64 a0_3]] w fun e w'=>e= .returned (.int .i64 r)∧Below w.heap.size w w':=by
 have hu74:=Try.underlying74;have HB:=Ya (Yo w.heap.size w);have H:(some Zc)=some r:=h;clear h;obtain rfl:=Option.some.inj H;go_enter Try.func161,Try.ntmps161;go_wp2_with (first|((with_reducible refine gate_dst (N:=1) rfl ?_);refine Yz ?hg (N:=1) ?hd (cs:= #[.int .i64 Zb, .int .i64 Zc, .int .i64 a0_2, .int .i64 a0_3]) (t:=74) ?hr ?_;(case hd=>rfl);(case hg=>rfl);(case hr=>first|(go_simp;done)|(go_simp;rfl));intro gb194 hg w2 Zg hb;have n0_:=Ya (Yk (by repeat(first|(with_reducible first|exact HB.out|apply Ye|apply Yd|apply Yg)|exact HB.out)) hb);have n1_:=Ya (Zg);have n2_:=Ya ((by rw[hg];exact(Yi (by repeat(first|(with_reducible first|exact HB.out|apply Ye|apply Yd|apply Yg)|exact HB.out))):w.heap.size≤gb194));have n3_:=Ya ((by rw[hg];exact(Yi (by repeat(first|(with_reducible first|exact HB.out|apply Ye|apply Yd|apply Yg)|exact HB.out))):w.heap.size≤gb194));clear HB;have HB:=n0_;have BK194:=n1_;have GW194:=n2_;have GE194:=n3_;clear n0_ n1_ n2_ n3_;clear hb Zg hg;have hcz3_0:w2.cell? ⟨gb194,0,none⟩=some (.int .i64 Zb):=(Yc BK194.out 0).trans rfl;have hcz3_1:w2.cell? ⟨gb194,1,none⟩=some (.int .i64 Zc):=(Yc BK194.out 1).trans rfl;have hcz3_2:w2.cell? ⟨gb194,2,none⟩=some (.int .i64 a0_2):=(Yc BK194.out 2).trans rfl;have hcz3_3:w2.cell? ⟨gb194,3,none⟩=some (.int .i64 a0_3):=(Yc BK194.out 3).trans rfl;have hfz3_0:=Yf BK194.out 0;have hfz3_1:=Yf BK194.out 1;have hfz3_2:=Yf BK194.out 2;have hfz3_3:=Yf BK194.out 3));go_ret;exact⟨by first|rfl|(simp[errW_none,errW_some]<;>rfl)|(simp[*,errW_none,errW_some]<;>rfl),by repeat(first|(with_reducible first|exact HB.out|apply Ye|apply Yd|apply Yg|refine Yh ?_ GE194.out)|exact HB.out)⟩
end P
namespace H
open P
theorem infoRow:(Try.prog.info? 25).map (fun i=>(i.zero,i.size,i.bytes))=some (some (.slice none 0 0),1,24):=by kernel_rfl
def eFrom (x:S74):Int:=x.f0
def eTo (x:S74):Int:=x.f1
def lsAt (E:S74→Int) (l:List S74) (n:Nat):Nat→List (List Int)
 |0=>List.replicate n []
 |k+1=>(lsAt E l n k).set (E (rd_T74 l k)).toNat (rd_L7 (lsAt E l n k) (E (rd_T74 l k)) ++ [(k:Int)])
theorem lsAt_len (E:S74→Int) (l:List S74) (n k:Nat):(lsAt E l n k).length=n:=by
 induction k with
 |zero=>exact List.length_replicate
 |succ k ih=>show (List.set _ _ _).length=n;rw[List.length_set,ih]
theorem lsAt_row (E:S74→Int) (l:List S74) (n k:Nat) (i:Int):(rd_L7 (lsAt E l n k) i).length≤k:=by
 induction k generalizing i with
 |zero=>
  unfold rd_L7 lsAt;rw[List.getD_eq_getElem?_getD,List.getElem?_replicate];split<;>simp
 |succ k ih=>
  unfold rd_L7;show ((List.set _ _ _).getD i.toNat []).length≤k+1;rw[List.getD_eq_getElem?_getD,List.getElem?_set];have hi:=ih i;unfold rd_L7 at hi;rw[List.getD_eq_getElem?_getD] at hi;split
  ·split
   ·have:=ih (E (rd_T74 l k))
    simp only[Option.getD_some,List.length_append,List.length_cons,List.length_nil];omega
   ·simp
  ·omega
set_option maxHeartbeats 4000000 in
set_option maxRecDepth 100000 in
theorem listsFrom_calls (Zb:Int) (Zc:Bool) (Ze:Option Addr) (Zd:Nat) (Za:List S74) (w:World) (Zr:Kd.C k74 w Ze Za.length Za) (Zs:Za.length≤Zd) (h0:0≤Zb) (h1:Zb≤1000000) (hl:Za.length≤1000000) (hE: ∀ k:Nat,k<Za.length→0≤eFrom (rd_T74 Za k)∧eFrom (rd_T74 Za k)<Zb):
  Calls Try.prog 159 #[.agg #[.int .i64 Zb, .bool Zc, .slice Ze Za.length Zd], .func (.func 160) #[] #[]] w fun e w'=> ∃ v0_:Value,e= .returned v0_∧Kd.S (Kd.slice 3 (Kd.int .i64)) 25 w' w.heap.size (fun _=>True) v0_ (lsAt eFrom Za Zb.toNat Za.length)∧Below w.heap.size w w':=by
 have hu24:=Try.underlying24;have hu74:=Try.underlying74;have Zi:=Ya Zr;have Zn:=Ya Zs;have HE:=Ya hE;clear Zr Zs hE;have HB:=Ya (Yo w.heap.size w);have c2b1:decide (0≤Zb)=true:=Yv h0;have c3b1:decide ((Zb:Int).toNat≤11728124029610)=true:=Yv (by omega);have c2b0:=eq_true h0;have c3b0:((Zb:Int).toNat≤11728124029610)=True:=eq_true (by omega);have HH0:=Ya h0;have HH1:=Ya h1;clear h0 h1;go_enter Try.func159,Try.ntmps159;go_wp2_with (first|((with_reducible refine gate_dst (N:=2) rfl ?_);refine Yz ?hg (N:=2) ?hd (cs:= #[.int .i64 Zb, .bool Zc, .slice Ze Za.length Zd]) (t:=24) ?hr ?_;(case hd=>rfl);(case hg=>rfl);(case hr=>first|(go_simp;done)|(go_simp;rfl));intro Xs hg w4 Zg hb;have n0_:=Ya (Yk (by repeat(first|(with_reducible first|exact HB.out|apply Ye|apply Yd|apply Yg)|exact HB.out)) hb);have n1_:=Ya (Zg);have n3_:=Ya ((by rw[hg];exact(Yi (by repeat(first|(with_reducible first|exact HB.out|apply Ye|apply Yd|apply Yg)|exact HB.out))):w.heap.size≤Xs));clear HB;have HB:=n0_;have Zm:=n1_;have Vy:=n3_;clear n0_ n1_ n3_;clear hb Zg hg;have Us:w4.cell? ⟨Xs,0,none⟩=some (.int .i64 Zb):=(Yc Zm.out 0).trans rfl;have Ut:w4.cell? ⟨Xs,1,none⟩=some (.bool Zc):=(Yc Zm.out 1).trans rfl;have Uu:w4.cell? ⟨Xs,2,none⟩=some (.slice Ze Za.length Zd):=(Yc Zm.out 2).trans rfl;have hfz5_0:=Yf Zm.out 0;have hfz5_1:=Yf Zm.out 1;have hfz5_2:=Yf Zm.out 2)|((with_reducible refine gate_dst (N:=11) rfl ?_);refine Kd.S_make (Kd.slice 3 (Kd.int .i64)) _ 25 rfl (N:=11) rfl 154 _ _ rfl Zb rfl rfl Try.underlying154 (.slice none 0 0) 24 infoRow rfl (by decide) (by omega) [] (ok:=fun _=>True) (okp:=fun _=>True) ⟨_,rfl,Kd.R_nil _ _ _ _ _⟩ (fun _ hk=>hk) trivial (Yu (by first|(with_reducible assumption)|assumption)) (Nat.le_trans (Nat.mul_le_mul_right _ (Yu (by first|(with_reducible assumption)|assumption):Zb.toNat≤11728124029610)) (by omega)) (Yo _ _) (Nat.le_refl _) ?_;intro v113 w6 ho7 hb hg_ hnew_;clear hg_ hnew_;have n0_:=Ya (Kd.S_lower ho7 (Yi (by repeat(first|(with_reducible first|exact HB.out|apply Ye|apply Yd|apply Yg|refine Yh ?_ Vy.out)|exact HB.out))));have n1_:=Ya (Yn (g:=Xs) (o:= .cells #[.int .i64 Zb, .bool Zc, .slice Ze Za.length Zd] 24 (0,0)) (by(with_reducible repeat(first|refine Yl ?_ _|refine Ym ?_|refine Yj ?_ _));exact Zm.out) hb);have n2_:=Ya (Yk (by repeat(first|(with_reducible first|exact HB.out|apply Ye|apply Yd|apply Yg|refine Yh ?_ Vy.out)|exact HB.out)) hb);clear Zm;clear HB;have HO114:=n0_;have Zm:=n1_;have HB:=n2_;clear n0_ n1_ n2_;clear hb ho7;have Vo:w6.cell? ⟨Xs,0,none⟩=some (.int .i64 Zb):=(Yc Zm.out 0).trans rfl;have Vp:w6.cell? ⟨Xs,1,none⟩=some (.bool Zc):=(Yc Zm.out 1).trans rfl;have Vq:w6.cell? ⟨Xs,2,none⟩=some (.slice Ze Za.length Zd):=(Yc Zm.out 2).trans rfl;have Vr:=Yf Zm.out 0;have Vs:=Yf Zm.out 1;have Vt:=Yf Zm.out 2));go_loopw [15] (fun v15 w'=> ∃ k:Nat,k≤Za.length∧v15= .int .i64 k∧Aside0 (Kd.S (Kd.slice 3 (Kd.int .i64)) 25 w' w.heap.size (fun _=>True) v113 (lsAt eFrom Za Zb.toNat k))∧Aside0 (w'.heap[Xs]? =some (.cells #[.int .i64 Zb, .bool Zc,(.slice Ze Za.length Zd)] 24 (0,0)))∧Aside0 (Below w.heap.size w w')) (fun v15 _=>Za.length - (intOf v15).toNat)
 case atStart=>exact⟨0,Nat.zero_le _,rfl,⟨by(with_reducible repeat(first|apply Kd.S_alloc|apply Kd.S_drewN|apply Kd.S_drew));exact HO114.out⟩,⟨by(with_reducible repeat(first|refine Yl ?_ _|refine Ym ?_|refine Yj ?_ _));exact Zm.out⟩,⟨(by repeat(first|(with_reducible first|exact HB.out|apply Ye|apply Yd|apply Yg|refine Yh ?_ Vy.out)|exact HB.out))⟩⟩
 case round=>
  try clear c2b0
  try clear c2b1
  try clear c3b0
  try clear c3b1
  try clear Us Ut Uu Vo Vp Vq hfz5_0 hfz5_1 hfz5_2 Vr Vs Vt
  clear HO114 Zm HB;obtain⟨k,hk,rfl,HO_3,Zm,HB⟩:=hrel;by_cases hlt:k<Za.length
  ·have hEk:=HE.out k hlt
   obtain⟨ex,hex0⟩: ∃ ex,eFrom (rd_T74 Za (k:Int))=ex:=⟨_,rfl⟩;have hex:=Ya hex0;have LSN:Aside0 (lsAt eFrom Za Zb.toNat (k+1)=(lsAt eFrom Za Zb.toNat k).set (ex:Int).toNat (rd_L7 (lsAt eFrom Za Zb.toNat k) ex ++ [(k:Int)])):=⟨by rw[← hex0];rfl⟩;rw[hex0] at hEk;clear hex0;have hlen:=lsAt_len eFrom Za Zb.toNat k;have c12b0:decide (0≤ex)=true:=Yv hEk.1;have c13b0:decide (ex<((lsAt eFrom Za Zb.toNat k).length:Int))=true:=Yv (by rw[hlen];have:=HH0.out;omega);have LMc14:Aside0 ((rd_L7 (lsAt eFrom Za Zb.toNat k) ex).length<17592186044416):=⟨by have:=lsAt_row eFrom Za Zb.toNat k ex;omega⟩;clear hEk hlen;have p115:0≤((k:Nat):Int):=by omega
   have q115:((k:Nat):Int)<(Za.length:Int):=by omega
   obtain⟨Jm,e115,Jf,Jg,Jh,Ji⟩:=at_T74 Zi.out (k:Int) p115 q115;simp only[Int.toNat_natCast] at Jf Jg Jh Ji;cases e115;replace Jf:=(HB.out.cell (Yb w _ Jf)).trans Jf;replace Jg:=(HB.out.cell (Yb w _ Jg)).trans Jg;replace Jh:=(HB.out.cell (Yb w _ Jh)).trans Jh;replace Ji:=(HB.out.cell (Yb w _ Ji)).trans Ji;have c9b0:decide ((k:Int)<(Za.length:Int))=true:=Yv q115;go_wp2_with (first|((with_reducible refine gate_dst (N:=7) rfl ?_);refine Yz ?hg (N:=7) ?hd (cs:= #[.int .i64 0, .int .i64 0, .int .i64 0, .int .i64 0]) (t:=74) ?hr ?_;(case hd=>rfl);(case hg=>rfl);(case hr=>first|(go_simp;done)|(go_simp;rfl));intro Wb hg w16 Zg hb;have n0_:=Ya (Kd.S_below (by(with_reducible repeat(first|apply Kd.S_alloc|apply Kd.S_drewN|apply Kd.S_drew));exact HO_3.out) hb);have n1_:=Ya (Yn (g:=Xs) (o:=(.cells #[.int .i64 Zb, .bool Zc, .slice (some Jm) Za.length Zd] 24 (0,0))) (by(with_reducible repeat(first|refine Yl ?_ _|refine Ym ?_|refine Yj ?_ _));exact Zm.out) hb);have n2_:=Ya (Yk (by repeat(first|(with_reducible first|exact HB.out|apply Ye|apply Yd|apply Yg|refine Yh ?_ Vy.out)|exact HB.out)) hb);have n3_:=Ya (Zg);have n5_:=Ya ((by rw[hg];exact(Yi (by repeat(first|(with_reducible first|exact HB.out|apply Ye|apply Yd|apply Yg|refine Yh ?_ Vy.out)|exact HB.out))):w.heap.size≤Wb));have n6_:=Ya ((by rw[hg];exact Nat.ne_of_lt (blk_lt (g:=Xs) (o:=(.cells #[.int .i64 Zb, .bool Zc, .slice (some Jm) Za.length Zd] 24 (0,0))) (by(with_reducible repeat(first|refine Yl ?_ _|refine Ym ?_|refine Yj ?_ _));exact Zm.out)):Xs≠Wb));have n7_:=Ya ((by rw[hg];exact Nat.ne_of_gt (blk_lt (g:=Xs) (o:=(.cells #[.int .i64 Zb, .bool Zc, .slice (some Jm) Za.length Zd] 24 (0,0))) (by(with_reducible repeat(first|refine Yl ?_ _|refine Ym ?_|refine Yj ?_ _));exact Zm.out)):Wb≠Xs));clear HO_3;clear Zm;clear HB;have HO_3:=n0_;have Zm:=n1_;have HB:=n2_;have Xw:=n3_;have GE116:=n5_;have Vc:=n6_;have NB116_111:=n7_;clear n0_ n1_ n2_ n3_ n5_ n6_ n7_;clear hb Zg hg;have hnb17:=NB116_111.out;have hnc17:=Vc.out;have Jv:w16.cell? ⟨Wb,0,none⟩=some (.int .i64 0):=(Yc Xw.out 0).trans rfl;have Jw:w16.cell? ⟨Wb,1,none⟩=some (.int .i64 0):=(Yc Xw.out 1).trans rfl;have Jx:w16.cell? ⟨Wb,2,none⟩=some (.int .i64 0):=(Yc Xw.out 2).trans rfl;have hcz18_3:w16.cell? ⟨Wb,3,none⟩=some (.int .i64 0):=(Yc Xw.out 3).trans rfl;have Jy:=Yf Xw.out 0;have Jz:=Yf Xw.out 1;have hfz18_2:=Yf Xw.out 2;have hfz18_3:=Yf Xw.out 3)|((with_reducible refine gate_store (t:=74) (p:=7) rfl ?_);refine store_event (t:=74) (p:=7) (v:= ?vo_w19) (w1:=((((w16.setCell ⟨Wb,0,none⟩ (.int .i64 (rd_T74 Za (k:Int)).f0)).setCell ⟨Wb,1,none⟩ (.int .i64 (rd_T74 Za (k:Int)).f1)).setCell ⟨Wb,2,none⟩ (.int .i64 (rd_T74 Za (k:Int)).f2)).setCell ⟨Wb,3,none⟩ (.int .i64 (rd_T74 Za (k:Int)).f3))) ?hg ?ho ?hn ?hr ?_;(case ho=>rfl);(case hg=>rfl);(case hn=>rfl);(case hr=>first|(go_simp;done)|(go_simp;rfl));intro w19 hw;have n0_:Aside0 (Kd.S (Kd.slice 3 (Kd.int .i64)) 25 w19 w.heap.size (fun _=>True) v113 (lsAt eFrom Za Zb.toNat k)):=⟨(by rw[hw];exact(by(with_reducible repeat(first|apply Kd.S_alloc|apply Kd.S_drewN|apply Kd.S_drew));exact Kd.S_mono (Kd.S_far (p:=⟨Wb,3,none⟩) (Kd.S_far (p:=⟨Wb,2,none⟩) (Kd.S_far (p:=⟨Wb,1,none⟩) (Kd.S_far (p:=⟨Wb,0,none⟩) (Kd.S_types HO_3.out Xw.out (by decide)) (fun _ hk=>hk.2) (.int .i64 (rd_T74 Za (k:Int)).f0)) (fun _ hk=>hk.2) (.int .i64 (rd_T74 Za (k:Int)).f1)) (fun _ hk=>hk.2) (.int .i64 (rd_T74 Za (k:Int)).f2)) (fun _ hk=>hk.2) (.int .i64 (rd_T74 Za (k:Int)).f3)) (fun _ hk=>trivial)))⟩;have n1_:Aside0 (w19.heap[Xs]? =some (.cells #[.int .i64 Zb, .bool Zc, .slice (some Jm) Za.length Zd] 24 (0,0))):=⟨(by rw[hw];exact(by(with_reducible repeat(first|refine Yl ?_ _|refine Ym ?_|refine Yj ?_ _));refine blk_far ?_ Vc.out _;(with_reducible repeat(first|refine Yl ?_ _|refine Ym ?_|refine Yj ?_ _));refine blk_far ?_ Vc.out _;(with_reducible repeat(first|refine Yl ?_ _|refine Ym ?_|refine Yj ?_ _));refine blk_far ?_ Vc.out _;(with_reducible repeat(first|refine Yl ?_ _|refine Ym ?_|refine Yj ?_ _));refine blk_far ?_ Vc.out _;(with_reducible repeat(first|refine Yl ?_ _|refine Ym ?_|refine Yj ?_ _));exact Zm.out))⟩;have n2_:Aside0 (w19.heap[Wb]? =some (.cells #[.int .i64 (rd_T74 Za (k:Int)).f0, .int .i64 (rd_T74 Za (k:Int)).f1, .int .i64 (rd_T74 Za (k:Int)).f2, .int .i64 (rd_T74 Za (k:Int)).f3] 74 (0,0))):=⟨(by rw[hw];exact(by(with_reducible repeat(first|refine Yl ?_ _|refine Ym ?_|refine Yj ?_ _));refine YA (cs:= #[.int .i64 (rd_T74 Za (k:Int)).f0, .int .i64 (rd_T74 Za (k:Int)).f1, .int .i64 (rd_T74 Za (k:Int)).f2, .int .i64 0]) ?_ 3 _ rfl;(with_reducible repeat(first|refine Yl ?_ _|refine Ym ?_|refine Yj ?_ _));refine YA (cs:= #[.int .i64 (rd_T74 Za (k:Int)).f0, .int .i64 (rd_T74 Za (k:Int)).f1, .int .i64 0, .int .i64 0]) ?_ 2 _ rfl;(with_reducible repeat(first|refine Yl ?_ _|refine Ym ?_|refine Yj ?_ _));refine YA (cs:= #[.int .i64 (rd_T74 Za (k:Int)).f0, .int .i64 0, .int .i64 0, .int .i64 0]) ?_ 1 _ rfl;(with_reducible repeat(first|refine Yl ?_ _|refine Ym ?_|refine Yj ?_ _));refine YA (cs:= #[.int .i64 0, .int .i64 0, .int .i64 0, .int .i64 0]) ?_ 0 _ rfl;(with_reducible repeat(first|refine Yl ?_ _|refine Ym ?_|refine Yj ?_ _));exact Xw.out))⟩;have n3_:Aside0 (Below w.heap.size w w19):=⟨(by rw[hw];exact(by repeat(first|(with_reducible first|exact HB.out|apply Ye|apply Yd|apply Yg|refine Yh ?_ Vy.out|refine Yh ?_ GE116.out)|exact HB.out)))⟩;clear hw;clear HO_3;clear Zm;clear Xw;clear HB;have HO_3:=n0_;have Zm:=n1_;have Xw:=n2_;have HB:=n3_;clear n0_ n1_ n2_ n3_;have hcz20_0:w19.cell? ⟨Wb,0,none⟩=some (.int .i64 (rd_T74 Za (k:Int)).f0):=(Yc Xw.out 0).trans rfl;have hcz20_1:w19.cell? ⟨Wb,1,none⟩=some (.int .i64 (rd_T74 Za (k:Int)).f1):=(Yc Xw.out 1).trans rfl;have hcz20_2:w19.cell? ⟨Wb,2,none⟩=some (.int .i64 (rd_T74 Za (k:Int)).f2):=(Yc Xw.out 2).trans rfl;have hcz20_3:w19.cell? ⟨Wb,3,none⟩=some (.int .i64 (rd_T74 Za (k:Int)).f3):=(Yc Xw.out 3).trans rfl;have hfz20_0:=Yf Xw.out 0;have hfz20_1:=Yf Xw.out 1;have hfz20_2:=Yf Xw.out 2;have hfz20_3:=Yf Xw.out 3)|(go_at_call 160;refine(adj_from.calls (rd_T74 Za (k:Int)).f0 (rd_T74 Za (k:Int)).f1 (rd_T74 Za (k:Int)).f2 (rd_T74 Za (k:Int)).f3 _ _ rfl).mono ?_;rintro e_ w20 ⟨rfl,hb⟩;rw[show (rd_T74 Za (k:Int)).f0=ex from hex.out];have n0_:=Ya (Kd.S_below (by(with_reducible repeat(first|apply Kd.S_alloc|apply Kd.S_drewN|apply Kd.S_drew));exact HO_3.out) hb);have n1_:=Ya (Yn (g:=Xs) (o:=(.cells #[.int .i64 Zb, .bool Zc, .slice (some Jm) Za.length Zd] 24 (0,0))) (by(with_reducible repeat(first|refine Yl ?_ _|refine Ym ?_|refine Yj ?_ _));exact Zm.out) hb);have n2_:=Ya (Yk (by repeat(first|(with_reducible first|exact HB.out|apply Ye|apply Yd|apply Yg|refine Yh ?_ Vy.out|refine Yh ?_ GE116.out)|exact HB.out)) hb);clear HO_3 Zm HB Xw hcz20_0 hcz20_1 hcz20_2 hcz20_3 hfz20_0 hfz20_1 hfz20_2 hfz20_3 hb;have HO_3:=n0_;have Zm:=n1_;have HB:=n2_;clear n0_ n1_ n2_;obtain⟨Ao21,co21,eo21⟩:=Kd.S_slice HO_3.out;subst eo21;have p117:0≤(ex:Int):=(Yu (by first|(with_reducible assumption)|assumption));have q117:ex<((lsAt eFrom Za Zb.toNat k).length:Int):=(Yu (by first|(with_reducible assumption)|assumption));obtain⟨ad117,A117_0,c117_0,e117,hx117_0,hl117_0,hi117_0⟩:=at_L7 (Kd.S_reads' HO_3.out).2.2 ex p117 q117;cases e117;obtain⟨ce117,hce117,hMe117,hcc117⟩:=Kd.S_get HO_3.out [] ex p117 (by first|exact q117|(have e_:=(Kd.S_reads' HO_3.out).1;omega));obtain⟨ve117_0,rfl,ge117_0⟩:=hMe117;have hv117_0:=hcc117 0 _ rfl;rw[Nat.add_zero,show ((Kd.slice 3 (Kd.int .i64))).sz=1 from rfl,Nat.mul_one] at hv117_0;replace hv117_0:=Option.some.inj (hv117_0.symm.trans hx117_0);rw[hv117_0] at ge117_0;have HL117_0:=Ya (show Kd.R (Kd.int .i64) 3 _ _ _ _ (rd_L7 (lsAt eFrom Za Zb.toNat k) ex) from ge117_0);clear hv117_0 ge117_0;have HX117_0:=Ya hx117_0;clear hcc117 hce117;have HR117_0:=Ya hi117_0;have HC117_0:=Ya hl117_0;clear hi117_0 hl117_0;replace p117:=eq_true p117;replace q117:=eq_true q117;obtain⟨go22,co22,eo22,gb22,gl22,cl22,HG22⟩:=Kd.S_form HO_3.out (by have h_:(ex:Int)<((lsAt eFrom Za Zb.toNat k).length:Int):=(Yu (by first|(with_reducible assumption)|assumption));have h2_:0≤(ex:Int):=(Yu (by first|(with_reducible assumption)|assumption));omega);(first|cases eo22|(injection eo22 with ea_ en_ ec_;(first|subst ea_|(injection ea_ with ea_;subst ea_));subst ec_;clear en_));have GB22:=Ya gb22;have GG22:=Ya HG22;clear gb22 gl22 HG22;(first|simp only[add_plain] at hx117_0|skip);obtain⟨oki22,ce22,hcl22,hM22,hcc22,_,_,hH22⟩:=Kd.S_elem HO_3.out [] (ex:Int) (Yu (by first|(with_reducible assumption)|assumption)) (by have h_:(ex:Int)<((lsAt eFrom Za Zb.toNat k).length:Int):=Yu (by first|(with_reducible assumption)|assumption);first|exact h_|(have e_:=(Kd.S_reads' HO_3.out).1;omega)|simpa using h_);obtain⟨ve22_0,rfl,ge22_0⟩:=hM22;have hv22:=hcc22 0 _ rfl;have hX22:=HX117_0.out;(try simp only[add_plain] at hX22);(try simp only[Nat.add_zero] at hv22);(try rw[show ((Kd.slice 3 (Kd.int .i64))).sz=1 from rfl,Nat.mul_one] at hv22);replace hv22:=Option.some.inj (hv22.symm.trans hX22);subst hv22;clear hX22 hcc22 hcl22;have UU22:=Ya (show Kd.R (Kd.int .i64) 3 _ w.heap.size oki22 (.slice A117_0 (rd_L7 (lsAt eFrom Za Zb.toNat k) ex).length c117_0) (rd_L7 (lsAt eFrom Za Zb.toNat k) ex) from ge22_0);have HH22:=Ya hH22;have HN22:=Ya (Kd.S_reads' HO_3.out).1;clear hH22 ge22_0)|((with_reducible refine gate_builtin (b:= .append) (xs:= #[.tmp 28, .tmp 30]) rfl ?_);at_builtin;refine Kd.R_append (Kd.int .i64) (w0:=w) w.heap.size rfl (.tmp 28) (.tmp 30) 25 3 (.int .i64 0) 8 rfl Try.underlying25 info3 rfl (by decide) (by omega) (.slice A117_0 (rd_L7 (lsAt eFrom Za Zb.toNat k) ex).length c117_0) (rd_L7 (lsAt eFrom Za Zb.toNat k) ex) (k:Int) [.int .i64 (k:Int)] (fun k_=>oki22 k_∨((fun _=>True)) k_∧w20.heap.size≤k_) (fun _=>False) rfl rfl ?aP (fun _ hk=>hk.elim) ?aF ?aO ?aB ?aS ?aL ?_;(case aP=>exact rfl);(case aB=>exact(by repeat(first|(with_reducible first|exact HB.out|apply Ye|apply Yd|apply Yg|refine Yh ?_ Vy.out)|exact HB.out)));(case aF=>exact(fun k_ hk=> .inr ⟨trivial,hk⟩));(case aO=>exact(by(with_reducible repeat(first|apply Yr|apply Yq|apply Yp));exact Kd.R_mono UU22.out (fun _ hk=> .inl hk)));(case aS=>exact(Yi (by repeat(first|(with_reducible first|exact HB.out|apply Ye|apply Yd|apply Yg|refine Yh ?_ Vy.out)|exact HB.out))));(case aL=>have:=LMc14.out;omega);intro v119 w23 ho hb hg hat;have n0_:=Ya (blk_grown (g:=Xs) (o:=(.cells #[.int .i64 Zb, .bool Zc, .slice (some Jm) Za.length Zd] 24 (0,0))) (by(with_reducible repeat(first|refine Yl ?_ _|refine Ym ?_|refine Yj ?_ _));exact Zm.out) hg (Kd.R_ne HL117_0.out Zm.out (by decide)));have n2_:=Ya (hb);have n3_:=Ya (Kd.H_grown (Kd.H_widen (by repeat(first|exact HH22.out|refine Kd.H_alloc ?_ _|refine Kd.H_drewN ?_ _|refine Kd.H_drew ?_))) hg (fun k_ e_=> .inl (UU22.out.1 k_ e_)));have n4_:=Ya (ho);clear Zm;clear HB;clear HH22;clear HO_3;clear UU22;clear HL117_0;have Zm:=n0_;have HB:=n2_;have HH22:=n3_;have HO120:=n4_;clear n0_ n2_ n3_ n4_;clear ho hb hg hat;have p15:0≤(ex:Int):=(Yu (by first|(with_reducible assumption)|assumption));have q15:(ex:Int)<((lsAt eFrom Za Zb.toNat k).length:Int):=(Yu (by first|(with_reducible assumption)|assumption));replace p15:=eq_true p15;replace q15:=eq_true q15;obtain⟨Ao26,co26,eo26⟩:=Kd.R_slice HO120.out;subst eo26;obtain⟨_,_,hraw24,_,_,hcc24,_⟩:=Kd.H_raw HH22.out (Yu (by first|(with_reducible assumption)|assumption)) (by have h_:(ex:Int)<((lsAt eFrom Za Zb.toNat k).length:Int):=Yu (by first|(with_reducible assumption)|assumption);first|exact h_|(have e_:=(HN22.out);omega)|simpa using h_);obtain⟨_,hfr24⟩:=Kd.H_at HH22.out (Yu (by first|(with_reducible assumption)|assumption)) (by have h_:(ex:Int)<((lsAt eFrom Za Zb.toNat k).length:Int):=Yu (by first|(with_reducible assumption)|assumption);first|exact h_|(have e_:=(HN22.out);omega)|simpa using h_);have hx24_0:=hcc24 0 _ rfl;have hf24_0:=hfr24 0;(try simp only[Nat.add_zero] at hx24_0 hf24_0);(try rw[show ((Kd.slice 3 (Kd.int .i64))).sz=1 from rfl,Nat.mul_one] at hx24_0);(try rw[show ((Kd.slice 3 (Kd.int .i64))).sz=1 from rfl,Nat.mul_one] at hf24_0);have HP24:=Kd.S_seg0 HH22.out (Yu (by first|(with_reducible assumption)|assumption)) (by have h_:(ex:Int)<((lsAt eFrom Za Zb.toNat k).length:Int):=Yu (by first|(with_reducible assumption)|assumption);first|exact h_|(have e_:=(HN22.out);omega)|simpa using h_) (seg:=[.slice Ao26 (rd_L7 (lsAt eFrom Za Zb.toNat k) ex ++ [(k:Int)]).length co26]) (j:=0) (show 1≤1 from by decide) (x':=rd_L7 (lsAt eFrom Za Zb.toNat k) ex ++ [(k:Int)]) (Kd.M_row HO120.out) (fun _ hk=>hk);(try simp only[show ((Kd.slice 3 (Kd.int .i64))).sz=1 from rfl,Nat.mul_one,Nat.add_zero] at HP24);clear hcc24 hfr24)|((with_reducible refine gate_store (t:=25) (p:=32) rfl ?_);refine store_event (t:=25) (p:=32) (v:= ?vo_w25) (w1:=(w23.setCell ⟨go22,(ex:Int).toNat,none⟩ (.slice Ao26 (rd_L7 (lsAt eFrom Za Zb.toNat k) ex ++ [(k:Int)]).length co26))) ?hg ?ho ?hn ?hr ?_;(case ho=>rfl);(case hg=>rfl);(case hn=>rfl);(case hr=>first|(go_simp;done)|(go_simp;rfl));intro w25 hw;have hg:w23.grownBy w25 (some go22):=(by rw[hw];exact HP24.2);have hp_:Kd.S (Kd.slice 3 (Kd.int .i64)) 25 w25 w.heap.size (fun _=>True) (.slice (some ⟨go22,0,none⟩) (lsAt eFrom Za Zb.toNat k).length co21) (lsAt eFrom Za Zb.toNat (k+1)):=(by rw[hw,LSN.out];exact HP24.1);clear HP24;have n0_:=Ya (blk_grown (g:=Xs) (o:=(.cells #[.int .i64 Zb, .bool Zc, .slice (some Jm) Za.length Zd] 24 (0,0))) (by(with_reducible repeat(first|refine Yl ?_ _|refine Ym ?_|refine Yj ?_ _));exact Zm.out) hg (Kd.R_ne hraw24 Zm.out (by decide)));have n2_:=Ya ((by rw[hw];exact Yh HB.out GB22.out:Below w.heap.size w w25));have n3_:=Ya (hp_);clear Zm;clear HB;clear HO120;clear HH22;have Zm:=n0_;have HB:=n2_;have HO_3:=n3_;clear n0_ n2_ n3_;clear hg hw hp_ hraw24));go_roundw
   case rel=>exact⟨k+1,by omega,by first|rfl|go_num,⟨by(with_reducible repeat(first|apply Kd.S_alloc|apply Kd.S_drewN|apply Kd.S_drew));exact HO_3.out⟩,⟨by(with_reducible repeat(first|refine Yl ?_ _|refine Ym ?_|refine Yj ?_ _));exact Zm.out⟩,⟨(by repeat(first|(with_reducible first|exact HB.out|apply Ye|apply Yd|apply Yg|refine Yh ?_ Vy.out)|exact HB.out))⟩⟩
   case measure=>simp[intOf]<;>omega
  ·have ek:k=Za.length:=by omega
   subst ek;have c9b0:decide ((Za.length:Int)<(Za.length:Int))=false:=Yw (by omega);go_wp2;go_ret;exact⟨_,rfl,by(with_reducible repeat(first|apply Kd.S_alloc|apply Kd.S_drewN|apply Kd.S_drew));exact HO_3.out,(by repeat(first|(with_reducible first|exact HB.out|apply Ye|apply Yd|apply Yg|refine Yh ?_ Vy.out)|exact HB.out))⟩
set_option maxHeartbeats 4000000 in
set_option maxRecDepth 100000 in
theorem listsTo_calls (Zb:Int) (Zc:Bool) (Ze:Option Addr) (Zd:Nat) (Za:List S74) (w:World) (Zr:Kd.C k74 w Ze Za.length Za) (Zs:Za.length≤Zd) (h0:0≤Zb) (h1:Zb≤1000000) (hl:Za.length≤1000000) (hE: ∀ k:Nat,k<Za.length→0≤eTo (rd_T74 Za k)∧eTo (rd_T74 Za k)<Zb):
  Calls Try.prog 159 #[.agg #[.int .i64 Zb, .bool Zc, .slice Ze Za.length Zd], .func (.func 161) #[] #[]] w fun e w'=> ∃ v0_:Value,e= .returned v0_∧Kd.S (Kd.slice 3 (Kd.int .i64)) 25 w' w.heap.size (fun _=>True) v0_ (lsAt eTo Za Zb.toNat Za.length)∧Below w.heap.size w w':=by
 have hu24:=Try.underlying24;have hu74:=Try.underlying74;have Zi:=Ya Zr;have Zn:=Ya Zs;have HE:=Ya hE;clear Zr Zs hE;have HB:=Ya (Yo w.heap.size w);have c2b1:decide (0≤Zb)=true:=Yv h0;have c3b1:decide ((Zb:Int).toNat≤11728124029610)=true:=Yv (by omega);have c2b0:=eq_true h0;have c3b0:((Zb:Int).toNat≤11728124029610)=True:=eq_true (by omega);have HH0:=Ya h0;have HH1:=Ya h1;clear h0 h1;go_enter Try.func159,Try.ntmps159;go_wp2_with (first|((with_reducible refine gate_dst (N:=2) rfl ?_);refine Yz ?hg (N:=2) ?hd (cs:= #[.int .i64 Zb, .bool Zc, .slice Ze Za.length Zd]) (t:=24) ?hr ?_;(case hd=>rfl);(case hg=>rfl);(case hr=>first|(go_simp;done)|(go_simp;rfl));intro Xs hg w4 Zg hb;have n0_:=Ya (Yk (by repeat(first|(with_reducible first|exact HB.out|apply Ye|apply Yd|apply Yg)|exact HB.out)) hb);have n1_:=Ya (Zg);have n3_:=Ya ((by rw[hg];exact(Yi (by repeat(first|(with_reducible first|exact HB.out|apply Ye|apply Yd|apply Yg)|exact HB.out))):w.heap.size≤Xs));clear HB;have HB:=n0_;have Zm:=n1_;have Vy:=n3_;clear n0_ n1_ n3_;clear hb Zg hg;have Us:w4.cell? ⟨Xs,0,none⟩=some (.int .i64 Zb):=(Yc Zm.out 0).trans rfl;have Ut:w4.cell? ⟨Xs,1,none⟩=some (.bool Zc):=(Yc Zm.out 1).trans rfl;have Uu:w4.cell? ⟨Xs,2,none⟩=some (.slice Ze Za.length Zd):=(Yc Zm.out 2).trans rfl;have hfz5_0:=Yf Zm.out 0;have hfz5_1:=Yf Zm.out 1;have hfz5_2:=Yf Zm.out 2)|((with_reducible refine gate_dst (N:=11) rfl ?_);refine Kd.S_make (Kd.slice 3 (Kd.int .i64)) _ 25 rfl (N:=11) rfl 154 _ _ rfl Zb rfl rfl Try.underlying154 (.slice none 0 0) 24 infoRow rfl (by decide) (by omega) [] (ok:=fun _=>True) (okp:=fun _=>True) ⟨_,rfl,Kd.R_nil _ _ _ _ _⟩ (fun _ hk=>hk) trivial (Yu (by first|(with_reducible assumption)|assumption)) (Nat.le_trans (Nat.mul_le_mul_right _ (Yu (by first|(with_reducible assumption)|assumption):Zb.toNat≤11728124029610)) (by omega)) (Yo _ _) (Nat.le_refl _) ?_;intro v113 w6 ho7 hb hg_ hnew_;clear hg_ hnew_;have n0_:=Ya (Kd.S_lower ho7 (Yi (by repeat(first|(with_reducible first|exact HB.out|apply Ye|apply Yd|apply Yg|refine Yh ?_ Vy.out)|exact HB.out))));have n1_:=Ya (Yn (g:=Xs) (o:= .cells #[.int .i64 Zb, .bool Zc, .slice Ze Za.length Zd] 24 (0,0)) (by(with_reducible repeat(first|refine Yl ?_ _|refine Ym ?_|refine Yj ?_ _));exact Zm.out) hb);have n2_:=Ya (Yk (by repeat(first|(with_reducible first|exact HB.out|apply Ye|apply Yd|apply Yg|refine Yh ?_ Vy.out)|exact HB.out)) hb);clear Zm;clear HB;have HO114:=n0_;have Zm:=n1_;have HB:=n2_;clear n0_ n1_ n2_;clear hb ho7;have Vo:w6.cell? ⟨Xs,0,none⟩=some (.int .i64 Zb):=(Yc Zm.out 0).trans rfl;have Vp:w6.cell? ⟨Xs,1,none⟩=some (.bool Zc):=(Yc Zm.out 1).trans rfl;have Vq:w6.cell? ⟨Xs,2,none⟩=some (.slice Ze Za.length Zd):=(Yc Zm.out 2).trans rfl;have Vr:=Yf Zm.out 0;have Vs:=Yf Zm.out 1;have Vt:=Yf Zm.out 2));go_loopw [15] (fun v15 w'=> ∃ k:Nat,k≤Za.length∧v15= .int .i64 k∧Aside0 (Kd.S (Kd.slice 3 (Kd.int .i64)) 25 w' w.heap.size (fun _=>True) v113 (lsAt eTo Za Zb.toNat k))∧Aside0 (w'.heap[Xs]? =some (.cells #[.int .i64 Zb, .bool Zc,(.slice Ze Za.length Zd)] 24 (0,0)))∧Aside0 (Below w.heap.size w w')) (fun v15 _=>Za.length - (intOf v15).toNat)
 case atStart=>exact⟨0,Nat.zero_le _,rfl,⟨by(with_reducible repeat(first|apply Kd.S_alloc|apply Kd.S_drewN|apply Kd.S_drew));exact HO114.out⟩,⟨by(with_reducible repeat(first|refine Yl ?_ _|refine Ym ?_|refine Yj ?_ _));exact Zm.out⟩,⟨(by repeat(first|(with_reducible first|exact HB.out|apply Ye|apply Yd|apply Yg|refine Yh ?_ Vy.out)|exact HB.out))⟩⟩
 case round=>
  try clear c2b0
  try clear c2b1
  try clear c3b0
  try clear c3b1
  try clear Us Ut Uu Vo Vp Vq hfz5_0 hfz5_1 hfz5_2 Vr Vs Vt
  clear HO114 Zm HB;obtain⟨k,hk,rfl,HO_3,Zm,HB⟩:=hrel;by_cases hlt:k<Za.length
  ·have hEk:=HE.out k hlt
   obtain⟨ex,hex0⟩: ∃ ex,eTo (rd_T74 Za (k:Int))=ex:=⟨_,rfl⟩;have hex:=Ya hex0;have LSN:Aside0 (lsAt eTo Za Zb.toNat (k+1)=(lsAt eTo Za Zb.toNat k).set (ex:Int).toNat (rd_L7 (lsAt eTo Za Zb.toNat k) ex ++ [(k:Int)])):=⟨by rw[← hex0];rfl⟩;rw[hex0] at hEk;clear hex0;have hlen:=lsAt_len eTo Za Zb.toNat k;have c12b0:decide (0≤ex)=true:=Yv hEk.1;have c13b0:decide (ex<((lsAt eTo Za Zb.toNat k).length:Int))=true:=Yv (by rw[hlen];have:=HH0.out;omega);have LMc14:Aside0 ((rd_L7 (lsAt eTo Za Zb.toNat k) ex).length<17592186044416):=⟨by have:=lsAt_row eTo Za Zb.toNat k ex;omega⟩;clear hEk hlen;have p115:0≤((k:Nat):Int):=by omega
   have q115:((k:Nat):Int)<(Za.length:Int):=by omega
   obtain⟨Jm,e115,Jf,Jg,Jh,Ji⟩:=at_T74 Zi.out (k:Int) p115 q115;simp only[Int.toNat_natCast] at Jf Jg Jh Ji;cases e115;replace Jf:=(HB.out.cell (Yb w _ Jf)).trans Jf;replace Jg:=(HB.out.cell (Yb w _ Jg)).trans Jg;replace Jh:=(HB.out.cell (Yb w _ Jh)).trans Jh;replace Ji:=(HB.out.cell (Yb w _ Ji)).trans Ji;have c9b0:decide ((k:Int)<(Za.length:Int))=true:=Yv q115;go_wp2_with (first|((with_reducible refine gate_dst (N:=7) rfl ?_);refine Yz ?hg (N:=7) ?hd (cs:= #[.int .i64 0, .int .i64 0, .int .i64 0, .int .i64 0]) (t:=74) ?hr ?_;(case hd=>rfl);(case hg=>rfl);(case hr=>first|(go_simp;done)|(go_simp;rfl));intro Wb hg w16 Zg hb;have n0_:=Ya (Kd.S_below (by(with_reducible repeat(first|apply Kd.S_alloc|apply Kd.S_drewN|apply Kd.S_drew));exact HO_3.out) hb);have n1_:=Ya (Yn (g:=Xs) (o:=(.cells #[.int .i64 Zb, .bool Zc, .slice (some Jm) Za.length Zd] 24 (0,0))) (by(with_reducible repeat(first|refine Yl ?_ _|refine Ym ?_|refine Yj ?_ _));exact Zm.out) hb);have n2_:=Ya (Yk (by repeat(first|(with_reducible first|exact HB.out|apply Ye|apply Yd|apply Yg|refine Yh ?_ Vy.out)|exact HB.out)) hb);have n3_:=Ya (Zg);have n5_:=Ya ((by rw[hg];exact(Yi (by repeat(first|(with_reducible first|exact HB.out|apply Ye|apply Yd|apply Yg|refine Yh ?_ Vy.out)|exact HB.out))):w.heap.size≤Wb));have n6_:=Ya ((by rw[hg];exact Nat.ne_of_lt (blk_lt (g:=Xs) (o:=(.cells #[.int .i64 Zb, .bool Zc, .slice (some Jm) Za.length Zd] 24 (0,0))) (by(with_reducible repeat(first|refine Yl ?_ _|refine Ym ?_|refine Yj ?_ _));exact Zm.out)):Xs≠Wb));have n7_:=Ya ((by rw[hg];exact Nat.ne_of_gt (blk_lt (g:=Xs) (o:=(.cells #[.int .i64 Zb, .bool Zc, .slice (some Jm) Za.length Zd] 24 (0,0))) (by(with_reducible repeat(first|refine Yl ?_ _|refine Ym ?_|refine Yj ?_ _));exact Zm.out)):Wb≠Xs));clear HO_3;clear Zm;clear HB;have HO_3:=n0_;have Zm:=n1_;have HB:=n2_;have Xw:=n3_;have GE116:=n5_;have Vc:=n6_;have NB116_111:=n7_;clear n0_ n1_ n2_ n3_ n5_ n6_ n7_;clear hb Zg hg;have hnb17:=NB116_111.out;have hnc17:=Vc.out;have Jv:w16.cell? ⟨Wb,0,none⟩=some (.int .i64 0):=(Yc Xw.out 0).trans rfl;have Jw:w16.cell? ⟨Wb,1,none⟩=some (.int .i64 0):=(Yc Xw.out 1).trans rfl;have Jx:w16.cell? ⟨Wb,2,none⟩=some (.int .i64 0):=(Yc Xw.out 2).trans rfl;have hcz18_3:w16.cell? ⟨Wb,3,none⟩=some (.int .i64 0):=(Yc Xw.out 3).trans rfl;have Jy:=Yf Xw.out 0;have Jz:=Yf Xw.out 1;have hfz18_2:=Yf Xw.out 2;have hfz18_3:=Yf Xw.out 3)|((with_reducible refine gate_store (t:=74) (p:=7) rfl ?_);refine store_event (t:=74) (p:=7) (v:= ?vo_w19) (w1:=((((w16.setCell ⟨Wb,0,none⟩ (.int .i64 (rd_T74 Za (k:Int)).f0)).setCell ⟨Wb,1,none⟩ (.int .i64 (rd_T74 Za (k:Int)).f1)).setCell ⟨Wb,2,none⟩ (.int .i64 (rd_T74 Za (k:Int)).f2)).setCell ⟨Wb,3,none⟩ (.int .i64 (rd_T74 Za (k:Int)).f3))) ?hg ?ho ?hn ?hr ?_;(case ho=>rfl);(case hg=>rfl);(case hn=>rfl);(case hr=>first|(go_simp;done)|(go_simp;rfl));intro w19 hw;have n0_:Aside0 (Kd.S (Kd.slice 3 (Kd.int .i64)) 25 w19 w.heap.size (fun _=>True) v113 (lsAt eTo Za Zb.toNat k)):=⟨(by rw[hw];exact(by(with_reducible repeat(first|apply Kd.S_alloc|apply Kd.S_drewN|apply Kd.S_drew));exact Kd.S_mono (Kd.S_far (p:=⟨Wb,3,none⟩) (Kd.S_far (p:=⟨Wb,2,none⟩) (Kd.S_far (p:=⟨Wb,1,none⟩) (Kd.S_far (p:=⟨Wb,0,none⟩) (Kd.S_types HO_3.out Xw.out (by decide)) (fun _ hk=>hk.2) (.int .i64 (rd_T74 Za (k:Int)).f0)) (fun _ hk=>hk.2) (.int .i64 (rd_T74 Za (k:Int)).f1)) (fun _ hk=>hk.2) (.int .i64 (rd_T74 Za (k:Int)).f2)) (fun _ hk=>hk.2) (.int .i64 (rd_T74 Za (k:Int)).f3)) (fun _ hk=>trivial)))⟩;have n1_:Aside0 (w19.heap[Xs]? =some (.cells #[.int .i64 Zb, .bool Zc, .slice (some Jm) Za.length Zd] 24 (0,0))):=⟨(by rw[hw];exact(by(with_reducible repeat(first|refine Yl ?_ _|refine Ym ?_|refine Yj ?_ _));refine blk_far ?_ Vc.out _;(with_reducible repeat(first|refine Yl ?_ _|refine Ym ?_|refine Yj ?_ _));refine blk_far ?_ Vc.out _;(with_reducible repeat(first|refine Yl ?_ _|refine Ym ?_|refine Yj ?_ _));refine blk_far ?_ Vc.out _;(with_reducible repeat(first|refine Yl ?_ _|refine Ym ?_|refine Yj ?_ _));refine blk_far ?_ Vc.out _;(with_reducible repeat(first|refine Yl ?_ _|refine Ym ?_|refine Yj ?_ _));exact Zm.out))⟩;have n2_:Aside0 (w19.heap[Wb]? =some (.cells #[.int .i64 (rd_T74 Za (k:Int)).f0, .int .i64 (rd_T74 Za (k:Int)).f1, .int .i64 (rd_T74 Za (k:Int)).f2, .int .i64 (rd_T74 Za (k:Int)).f3] 74 (0,0))):=⟨(by rw[hw];exact(by(with_reducible repeat(first|refine Yl ?_ _|refine Ym ?_|refine Yj ?_ _));refine YA (cs:= #[.int .i64 (rd_T74 Za (k:Int)).f0, .int .i64 (rd_T74 Za (k:Int)).f1, .int .i64 (rd_T74 Za (k:Int)).f2, .int .i64 0]) ?_ 3 _ rfl;(with_reducible repeat(first|refine Yl ?_ _|refine Ym ?_|refine Yj ?_ _));refine YA (cs:= #[.int .i64 (rd_T74 Za (k:Int)).f0, .int .i64 (rd_T74 Za (k:Int)).f1, .int .i64 0, .int .i64 0]) ?_ 2 _ rfl;(with_reducible repeat(first|refine Yl ?_ _|refine Ym ?_|refine Yj ?_ _));refine YA (cs:= #[.int .i64 (rd_T74 Za (k:Int)).f0, .int .i64 0, .int .i64 0, .int .i64 0]) ?_ 1 _ rfl;(with_reducible repeat(first|refine Yl ?_ _|refine Ym ?_|refine Yj ?_ _));refine YA (cs:= #[.int .i64 0, .int .i64 0, .int .i64 0, .int .i64 0]) ?_ 0 _ rfl;(with_reducible repeat(first|refine Yl ?_ _|refine Ym ?_|refine Yj ?_ _));exact Xw.out))⟩;have n3_:Aside0 (Below w.heap.size w w19):=⟨(by rw[hw];exact(by repeat(first|(with_reducible first|exact HB.out|apply Ye|apply Yd|apply Yg|refine Yh ?_ Vy.out|refine Yh ?_ GE116.out)|exact HB.out)))⟩;clear hw;clear HO_3;clear Zm;clear Xw;clear HB;have HO_3:=n0_;have Zm:=n1_;have Xw:=n2_;have HB:=n3_;clear n0_ n1_ n2_ n3_;have hcz20_0:w19.cell? ⟨Wb,0,none⟩=some (.int .i64 (rd_T74 Za (k:Int)).f0):=(Yc Xw.out 0).trans rfl;have hcz20_1:w19.cell? ⟨Wb,1,none⟩=some (.int .i64 (rd_T74 Za (k:Int)).f1):=(Yc Xw.out 1).trans rfl;have hcz20_2:w19.cell? ⟨Wb,2,none⟩=some (.int .i64 (rd_T74 Za (k:Int)).f2):=(Yc Xw.out 2).trans rfl;have hcz20_3:w19.cell? ⟨Wb,3,none⟩=some (.int .i64 (rd_T74 Za (k:Int)).f3):=(Yc Xw.out 3).trans rfl;have hfz20_0:=Yf Xw.out 0;have hfz20_1:=Yf Xw.out 1;have hfz20_2:=Yf Xw.out 2;have hfz20_3:=Yf Xw.out 3)|(go_at_call 161;refine(adj_to.calls (rd_T74 Za (k:Int)).f0 (rd_T74 Za (k:Int)).f1 (rd_T74 Za (k:Int)).f2 (rd_T74 Za (k:Int)).f3 _ _ rfl).mono ?_;rintro e_ w20 ⟨rfl,hb⟩;rw[show (rd_T74 Za (k:Int)).f1=ex from hex.out];have n0_:=Ya (Kd.S_below (by(with_reducible repeat(first|apply Kd.S_alloc|apply Kd.S_drewN|apply Kd.S_drew));exact HO_3.out) hb);have n1_:=Ya (Yn (g:=Xs) (o:=(.cells #[.int .i64 Zb, .bool Zc, .slice (some Jm) Za.length Zd] 24 (0,0))) (by(with_reducible repeat(first|refine Yl ?_ _|refine Ym ?_|refine Yj ?_ _));exact Zm.out) hb);have n2_:=Ya (Yk (by repeat(first|(with_reducible first|exact HB.out|apply Ye|apply Yd|apply Yg|refine Yh ?_ Vy.out|refine Yh ?_ GE116.out)|exact HB.out)) hb);clear HO_3 Zm HB Xw hcz20_0 hcz20_1 hcz20_2 hcz20_3 hfz20_0 hfz20_1 hfz20_2 hfz20_3 hb;have HO_3:=n0_;have Zm:=n1_;have HB:=n2_;clear n0_ n1_ n2_;obtain⟨Ao21,co21,eo21⟩:=Kd.S_slice HO_3.out;subst eo21;have p117:0≤(ex:Int):=(Yu (by first|(with_reducible assumption)|assumption));have q117:ex<((lsAt eTo Za Zb.toNat k).length:Int):=(Yu (by first|(with_reducible assumption)|assumption));obtain⟨ad117,A117_0,c117_0,e117,hx117_0,hl117_0,hi117_0⟩:=at_L7 (Kd.S_reads' HO_3.out).2.2 ex p117 q117;cases e117;obtain⟨ce117,hce117,hMe117,hcc117⟩:=Kd.S_get HO_3.out [] ex p117 (by first|exact q117|(have e_:=(Kd.S_reads' HO_3.out).1;omega));obtain⟨ve117_0,rfl,ge117_0⟩:=hMe117;have hv117_0:=hcc117 0 _ rfl;rw[Nat.add_zero,show ((Kd.slice 3 (Kd.int .i64))).sz=1 from rfl,Nat.mul_one] at hv117_0;replace hv117_0:=Option.some.inj (hv117_0.symm.trans hx117_0);rw[hv117_0] at ge117_0;have HL117_0:=Ya (show Kd.R (Kd.int .i64) 3 _ _ _ _ (rd_L7 (lsAt eTo Za Zb.toNat k) ex) from ge117_0);clear hv117_0 ge117_0;have HX117_0:=Ya hx117_0;clear hcc117 hce117;have HR117_0:=Ya hi117_0;have HC117_0:=Ya hl117_0;clear hi117_0 hl117_0;replace p117:=eq_true p117;replace q117:=eq_true q117;obtain⟨go22,co22,eo22,gb22,gl22,cl22,HG22⟩:=Kd.S_form HO_3.out (by have h_:(ex:Int)<((lsAt eTo Za Zb.toNat k).length:Int):=(Yu (by first|(with_reducible assumption)|assumption));have h2_:0≤(ex:Int):=(Yu (by first|(with_reducible assumption)|assumption));omega);(first|cases eo22|(injection eo22 with ea_ en_ ec_;(first|subst ea_|(injection ea_ with ea_;subst ea_));subst ec_;clear en_));have GB22:=Ya gb22;have GG22:=Ya HG22;clear gb22 gl22 HG22;(first|simp only[add_plain] at hx117_0|skip);obtain⟨oki22,ce22,hcl22,hM22,hcc22,_,_,hH22⟩:=Kd.S_elem HO_3.out [] (ex:Int) (Yu (by first|(with_reducible assumption)|assumption)) (by have h_:(ex:Int)<((lsAt eTo Za Zb.toNat k).length:Int):=Yu (by first|(with_reducible assumption)|assumption);first|exact h_|(have e_:=(Kd.S_reads' HO_3.out).1;omega)|simpa using h_);obtain⟨ve22_0,rfl,ge22_0⟩:=hM22;have hv22:=hcc22 0 _ rfl;have hX22:=HX117_0.out;(try simp only[add_plain] at hX22);(try simp only[Nat.add_zero] at hv22);(try rw[show ((Kd.slice 3 (Kd.int .i64))).sz=1 from rfl,Nat.mul_one] at hv22);replace hv22:=Option.some.inj (hv22.symm.trans hX22);subst hv22;clear hX22 hcc22 hcl22;have UU22:=Ya (show Kd.R (Kd.int .i64) 3 _ w.heap.size oki22 (.slice A117_0 (rd_L7 (lsAt eTo Za Zb.toNat k) ex).length c117_0) (rd_L7 (lsAt eTo Za Zb.toNat k) ex) from ge22_0);have HH22:=Ya hH22;have HN22:=Ya (Kd.S_reads' HO_3.out).1;clear hH22 ge22_0)|((with_reducible refine gate_builtin (b:= .append) (xs:= #[.tmp 28, .tmp 30]) rfl ?_);at_builtin;refine Kd.R_append (Kd.int .i64) (w0:=w) w.heap.size rfl (.tmp 28) (.tmp 30) 25 3 (.int .i64 0) 8 rfl Try.underlying25 info3 rfl (by decide) (by omega) (.slice A117_0 (rd_L7 (lsAt eTo Za Zb.toNat k) ex).length c117_0) (rd_L7 (lsAt eTo Za Zb.toNat k) ex) (k:Int) [.int .i64 (k:Int)] (fun k_=>oki22 k_∨((fun _=>True)) k_∧w20.heap.size≤k_) (fun _=>False) rfl rfl ?aP (fun _ hk=>hk.elim) ?aF ?aO ?aB ?aS ?aL ?_;(case aP=>exact rfl);(case aB=>exact(by repeat(first|(with_reducible first|exact HB.out|apply Ye|apply Yd|apply Yg|refine Yh ?_ Vy.out)|exact HB.out)));(case aF=>exact(fun k_ hk=> .inr ⟨trivial,hk⟩));(case aO=>exact(by(with_reducible repeat(first|apply Yr|apply Yq|apply Yp));exact Kd.R_mono UU22.out (fun _ hk=> .inl hk)));(case aS=>exact(Yi (by repeat(first|(with_reducible first|exact HB.out|apply Ye|apply Yd|apply Yg|refine Yh ?_ Vy.out)|exact HB.out))));(case aL=>have:=LMc14.out;omega);intro v119 w23 ho hb hg hat;have n0_:=Ya (blk_grown (g:=Xs) (o:=(.cells #[.int .i64 Zb, .bool Zc, .slice (some Jm) Za.length Zd] 24 (0,0))) (by(with_reducible repeat(first|refine Yl ?_ _|refine Ym ?_|refine Yj ?_ _));exact Zm.out) hg (Kd.R_ne HL117_0.out Zm.out (by decide)));have n2_:=Ya (hb);have n3_:=Ya (Kd.H_grown (Kd.H_widen (by repeat(first|exact HH22.out|refine Kd.H_alloc ?_ _|refine Kd.H_drewN ?_ _|refine Kd.H_drew ?_))) hg (fun k_ e_=> .inl (UU22.out.1 k_ e_)));have n4_:=Ya (ho);clear Zm;clear HB;clear HH22;clear HO_3;clear UU22;clear HL117_0;have Zm:=n0_;have HB:=n2_;have HH22:=n3_;have HO120:=n4_;clear n0_ n2_ n3_ n4_;clear ho hb hg hat;have p15:0≤(ex:Int):=(Yu (by first|(with_reducible assumption)|assumption));have q15:(ex:Int)<((lsAt eTo Za Zb.toNat k).length:Int):=(Yu (by first|(with_reducible assumption)|assumption));replace p15:=eq_true p15;replace q15:=eq_true q15;obtain⟨Ao26,co26,eo26⟩:=Kd.R_slice HO120.out;subst eo26;obtain⟨_,_,hraw24,_,_,hcc24,_⟩:=Kd.H_raw HH22.out (Yu (by first|(with_reducible assumption)|assumption)) (by have h_:(ex:Int)<((lsAt eTo Za Zb.toNat k).length:Int):=Yu (by first|(with_reducible assumption)|assumption);first|exact h_|(have e_:=(HN22.out);omega)|simpa using h_);obtain⟨_,hfr24⟩:=Kd.H_at HH22.out (Yu (by first|(with_reducible assumption)|assumption)) (by have h_:(ex:Int)<((lsAt eTo Za Zb.toNat k).length:Int):=Yu (by first|(with_reducible assumption)|assumption);first|exact h_|(have e_:=(HN22.out);omega)|simpa using h_);have hx24_0:=hcc24 0 _ rfl;have hf24_0:=hfr24 0;(try simp only[Nat.add_zero] at hx24_0 hf24_0);(try rw[show ((Kd.slice 3 (Kd.int .i64))).sz=1 from rfl,Nat.mul_one] at hx24_0);(try rw[show ((Kd.slice 3 (Kd.int .i64))).sz=1 from rfl,Nat.mul_one] at hf24_0);have HP24:=Kd.S_seg0 HH22.out (Yu (by first|(with_reducible assumption)|assumption)) (by have h_:(ex:Int)<((lsAt eTo Za Zb.toNat k).length:Int):=Yu (by first|(with_reducible assumption)|assumption);first|exact h_|(have e_:=(HN22.out);omega)|simpa using h_) (seg:=[.slice Ao26 (rd_L7 (lsAt eTo Za Zb.toNat k) ex ++ [(k:Int)]).length co26]) (j:=0) (show 1≤1 from by decide) (x':=rd_L7 (lsAt eTo Za Zb.toNat k) ex ++ [(k:Int)]) (Kd.M_row HO120.out) (fun _ hk=>hk);(try simp only[show ((Kd.slice 3 (Kd.int .i64))).sz=1 from rfl,Nat.mul_one,Nat.add_zero] at HP24);clear hcc24 hfr24)|((with_reducible refine gate_store (t:=25) (p:=32) rfl ?_);refine store_event (t:=25) (p:=32) (v:= ?vo_w25) (w1:=(w23.setCell ⟨go22,(ex:Int).toNat,none⟩ (.slice Ao26 (rd_L7 (lsAt eTo Za Zb.toNat k) ex ++ [(k:Int)]).length co26))) ?hg ?ho ?hn ?hr ?_;(case ho=>rfl);(case hg=>rfl);(case hn=>rfl);(case hr=>first|(go_simp;done)|(go_simp;rfl));intro w25 hw;have hg:w23.grownBy w25 (some go22):=(by rw[hw];exact HP24.2);have hp_:Kd.S (Kd.slice 3 (Kd.int .i64)) 25 w25 w.heap.size (fun _=>True) (.slice (some ⟨go22,0,none⟩) (lsAt eTo Za Zb.toNat k).length co21) (lsAt eTo Za Zb.toNat (k+1)):=(by rw[hw,LSN.out];exact HP24.1);clear HP24;have n0_:=Ya (blk_grown (g:=Xs) (o:=(.cells #[.int .i64 Zb, .bool Zc, .slice (some Jm) Za.length Zd] 24 (0,0))) (by(with_reducible repeat(first|refine Yl ?_ _|refine Ym ?_|refine Yj ?_ _));exact Zm.out) hg (Kd.R_ne hraw24 Zm.out (by decide)));have n2_:=Ya ((by rw[hw];exact Yh HB.out GB22.out:Below w.heap.size w w25));have n3_:=Ya (hp_);clear Zm;clear HB;clear HO120;clear HH22;have Zm:=n0_;have HB:=n2_;have HO_3:=n3_;clear n0_ n2_ n3_;clear hg hw hp_ hraw24));go_roundw
   case rel=>exact⟨k+1,by omega,by first|rfl|go_num,⟨by(with_reducible repeat(first|apply Kd.S_alloc|apply Kd.S_drewN|apply Kd.S_drew));exact HO_3.out⟩,⟨by(with_reducible repeat(first|refine Yl ?_ _|refine Ym ?_|refine Yj ?_ _));exact Zm.out⟩,⟨(by repeat(first|(with_reducible first|exact HB.out|apply Ye|apply Yd|apply Yg|refine Yh ?_ Vy.out)|exact HB.out))⟩⟩
   case measure=>simp[intOf]<;>omega
  ·have ek:k=Za.length:=by omega
   subst ek;have c9b0:decide ((Za.length:Int)<(Za.length:Int))=false:=Yw (by omega);go_wp2;go_ret;exact⟨_,rfl,by(with_reducible repeat(first|apply Kd.S_alloc|apply Kd.S_drewN|apply Kd.S_drew));exact HO_3.out,(by repeat(first|(with_reducible first|exact HB.out|apply Ye|apply Yd|apply Yg|refine Yh ?_ Vy.out)|exact HB.out))⟩
set_option maxHeartbeats 1000000 in
set_option maxRecDepth 100000 in
theorem leaving_calls (Zb:Int) (Zc:Bool) (Ze:Option Addr) (Zd:Nat) (Za:List S74) (w:World) (Zr:Kd.C k74 w Ze Za.length Za) (Zs:Za.length≤Zd) (h0:0≤Zb) (h1:Zb≤1000000) (hl:Za.length≤1000000) (hE: ∀ k:Nat,k<Za.length→0≤eFrom (rd_T74 Za k)∧eFrom (rd_T74 Za k)<Zb):
  Calls Try.prog 141 #[.agg #[.int .i64 Zb, .bool Zc, .slice Ze Za.length Zd]] w fun e w'=> ∃ v0_:Value,e= .returned v0_∧Kd.S (Kd.slice 3 (Kd.int .i64)) 25 w' w.heap.size (fun _=>True) v0_ (lsAt eFrom Za Zb.toNat Za.length)∧Below w.heap.size w w':=by
 have hu24:=Try.underlying24;have Zi:=Ya Zr;have Zn:=Ya Zs;have HE:=Ya hE;clear Zr Zs hE;have HB:=Ya (Yo w.heap.size w);go_enter Try.func141,Try.ntmps141;go_wp2_with (first|((with_reducible refine gate_dst (N:=1) rfl ?_);refine Yz ?hg (N:=1) ?hd (cs:= #[.int .i64 Zb, .bool Zc, .slice Ze Za.length Zd]) (t:=24) ?hr ?_;(case hd=>rfl);(case hg=>rfl);(case hr=>first|(go_simp;done)|(go_simp;rfl));intro Xs hg w4 Zg hb;have n0_:=Ya (Yk (by repeat(first|(with_reducible first|exact HB.out|apply Ye|apply Yd|apply Yg)|exact HB.out)) hb);have n1_:=Ya (Zg);have n2_:=Ya (Yt Zi.out hb);clear HB Zi;have HB:=n0_;have Zm:=n1_;have Zi:=n2_;clear n0_ n1_ n2_;clear hb Zg hg;have Us:w4.cell? ⟨Xs,0,none⟩=some (.int .i64 Zb):=(Yc Zm.out 0).trans rfl;have Ut:w4.cell? ⟨Xs,1,none⟩=some (.bool Zc):=(Yc Zm.out 1).trans rfl;have Uu:w4.cell? ⟨Xs,2,none⟩=some (.slice Ze Za.length Zd):=(Yc Zm.out 2).trans rfl)|fail);refine(listsFrom_calls Zb Zc Ze Zd Za _ Zi.out Zn.out h0 h1 hl HE.out).mono ?_;rintro e w5 ⟨v0,rfl,hS,hb⟩;have HS:=Ya (Kd.S_lower hS HB.out.size);have HB5:=Ya (Yk HB.out hb);clear hS hb Us Ut Uu Zm;go_wp2;go_ret;exact⟨_,rfl,HS.out,HB5.out⟩
set_option maxHeartbeats 1000000 in
set_option maxRecDepth 100000 in
theorem coming_calls (Zb:Int) (Zc:Bool) (Ze:Option Addr) (Zd:Nat) (Za:List S74) (w:World) (Zr:Kd.C k74 w Ze Za.length Za) (Zs:Za.length≤Zd) (h0:0≤Zb) (h1:Zb≤1000000) (hl:Za.length≤1000000) (hE: ∀ k:Nat,k<Za.length→0≤eTo (rd_T74 Za k)∧eTo (rd_T74 Za k)<Zb):
  Calls Try.prog 142 #[.agg #[.int .i64 Zb, .bool Zc, .slice Ze Za.length Zd]] w fun e w'=> ∃ v0_:Value,e= .returned v0_∧Kd.S (Kd.slice 3 (Kd.int .i64)) 25 w' w.heap.size (fun _=>True) v0_ (lsAt eTo Za Zb.toNat Za.length)∧Below w.heap.size w w':=by
 have hu24:=Try.underlying24;have Zi:=Ya Zr;have Zn:=Ya Zs;have HE:=Ya hE;clear Zr Zs hE;have HB:=Ya (Yo w.heap.size w);go_enter Try.func142,Try.ntmps142;go_wp2_with (first|((with_reducible refine gate_dst (N:=1) rfl ?_);refine Yz ?hg (N:=1) ?hd (cs:= #[.int .i64 Zb, .bool Zc, .slice Ze Za.length Zd]) (t:=24) ?hr ?_;(case hd=>rfl);(case hg=>rfl);(case hr=>first|(go_simp;done)|(go_simp;rfl));intro Xs hg w4 Zg hb;have n0_:=Ya (Yk (by repeat(first|(with_reducible first|exact HB.out|apply Ye|apply Yd|apply Yg)|exact HB.out)) hb);have n1_:=Ya (Zg);have n2_:=Ya (Yt Zi.out hb);clear HB Zi;have HB:=n0_;have Zm:=n1_;have Zi:=n2_;clear n0_ n1_ n2_;clear hb Zg hg;have Us:w4.cell? ⟨Xs,0,none⟩=some (.int .i64 Zb):=(Yc Zm.out 0).trans rfl;have Ut:w4.cell? ⟨Xs,1,none⟩=some (.bool Zc):=(Yc Zm.out 1).trans rfl;have Uu:w4.cell? ⟨Xs,2,none⟩=some (.slice Ze Za.length Zd):=(Yc Zm.out 2).trans rfl)|fail);refine(listsTo_calls Zb Zc Ze Zd Za _ Zi.out Zn.out h0 h1 hl HE.out).mono ?_;rintro e w5 ⟨v0,rfl,hS,hb⟩;have HS:=Ya (Kd.S_lower hS HB.out.size);have HB5:=Ya (Yk HB.out hb);clear hS hb Us Ut Uu Zm;go_wp2;go_ret;exact⟨_,rfl,HS.out,HB5.out⟩
end H
namespace H
open P
def stL (l:List S74) (v:Int):Nat→List S38
 |0=>[]
 |k+1=>stL l v k ++ (if eFrom (rd_T74 l k)=v then [⟨k,false⟩] else []) ++ (if eTo (rd_T74 l k)=v then [⟨k,true⟩] else [])
def ltS (x y:S38):Prop:=x.f0<y.f0∨x.f0=y.f0∧x.f1=false∧y.f1=true
def IsSt (l:List S74) (v:Int) (k:Nat) (s:S38):Prop:= ∃ i:Nat,i<k∧s.f0=i∧(s.f1=false∧eFrom (rd_T74 l i)=v∨s.f1=true∧eTo (rd_T74 l i)=v)
theorem mem_stL (l:List S74) (v:Int) (k:Nat) (s:S38):s∈stL l v k↔IsSt l v k s:=by
 induction k with
 |zero=>
  constructor
  ·intro h;cases h
  ·rintro⟨i,h,_⟩;omega
 |succ k ih=>
  unfold stL;rw[List.mem_append,List.mem_append,ih];constructor
  ·rintro((⟨i,h1,h2⟩|h)|h)
   ·exact⟨i,by omega,h2⟩
   ·split at h
    ·rename_i he
     rw[List.mem_singleton] at h;subst h;exact⟨k,by omega,rfl,Or.inl ⟨rfl,he⟩⟩
    ·cases h
   ·split at h
    ·rename_i he
     rw[List.mem_singleton] at h;subst h;exact⟨k,by omega,rfl,Or.inr ⟨rfl,he⟩⟩
    ·cases h
  ·rintro⟨i,h1,h2,h3⟩
   by_cases hi:i<k
   ·exact Or.inl (Or.inl ⟨i,hi,h2,h3⟩)
   ·have e:i=k:=by omega
    subst e;obtain⟨x,y⟩:=s;simp only at h2 h3;subst h2;rcases h3 with ⟨rfl,h4⟩|⟨rfl,h4⟩
    ·exact Or.inl (Or.inr (by rw[Yx h4];exact List.mem_singleton.2 rfl))
    ·exact Or.inr (by rw[Yx h4];exact List.mem_singleton.2 rfl)
theorem sorted_stL (l:List S74) (v:Int) (k:Nat):(stL l v k).Pairwise ltS:=by
 induction k with
 |zero=>exact List.Pairwise.nil
 |succ k ih=>
  unfold stL;rw[List.pairwise_append,List.pairwise_append];refine⟨⟨ih,by split<;>simp,fun a ha b hb=> ?_⟩,by split<;>simp,fun a ha b hb=> ?_⟩
  ·obtain⟨i,h1,h2,_⟩:=(mem_stL l v k a).1 ha
   split at hb
   ·rw[List.mem_singleton] at hb
    subst hb;exact Or.inl (by show a.f0<(k:Int);omega)
   ·cases hb
  ·split at hb
   ·rw[List.mem_singleton] at hb
    subst hb;rcases List.mem_append.1 ha with ha|ha
    ·obtain⟨i,h1,h2,_⟩:=(mem_stL l v k a).1 ha
     exact Or.inl (by show a.f0<(k:Int);omega)
    ·split at ha
     ·rw[List.mem_singleton] at ha
      subst ha;exact Or.inr ⟨rfl,rfl,rfl⟩
     ·cases ha
   ·cases hb
theorem ltS_irr (x:S38): ¬ ltS x x:=by
 rintro(h|⟨_,h1,h2⟩)
 ·omega
 ·rw[h1] at h2;cases h2
theorem ltS_trans {x y z:S38} (h:ltS x y) (k:ltS y z):ltS x z:=by
 rcases h with h|⟨h1,h2,h3⟩<;>rcases k with k|⟨k1,k2,k3⟩
 ·exact Or.inl (by omega)
 ·exact Or.inl (by omega)
 ·exact Or.inl (by omega)
 ·rw[h3] at k2;cases k2
theorem sorted_uniq: ∀ (a b:List S38),a.Pairwise ltS→b.Pairwise ltS→(∀ s,s∈a↔s∈b)→a=b
 |[],[],_,_,_=>rfl
 |[],y::b,_,_,h=>by have:=(h y).2 (List.mem_cons_self ..);cases this
 |x::a,[],_,_,h=>by have:=(h x).1 (List.mem_cons_self ..);cases this
 |x::a,y::b,ha,hb,h=>by
  rw[List.pairwise_cons] at ha hb;have e:x=y:=by
   rcases List.mem_cons.1 ((h x).1 (List.mem_cons_self ..)) with e|h1
   ·exact e
   ·rcases List.mem_cons.1 ((h y).2 (List.mem_cons_self ..)) with e|h2
    ·exact e.symm
    ·exact absurd (ltS_trans (ha.1 y h2) (hb.1 x h1)) (ltS_irr x)
  subst e;rw[sorted_uniq a b ha.2 hb.2 fun s=>⟨fun hs=> ?_,fun hs=> ?_⟩]
  ·rcases List.mem_cons.1 ((h s).1 (List.mem_cons_of_mem _ hs)) with e|h1
   ·subst e;exact absurd (ha.1 s hs) (ltS_irr s)
   ·exact h1
  ·rcases List.mem_cons.1 ((h s).2 (List.mem_cons_of_mem _ hs)) with e|h1
   ·subst e;exact absurd (hb.1 s hs) (ltS_irr s)
   ·exact h1
theorem lsAt_spec (E:S74→Int) (l:List S74) (n:Nat) (v:Int) (hv0:0≤v) (hv:v<n): ∀ k:Nat,(∀ i:Nat,i<k→0≤E (rd_T74 l i)∧E (rd_T74 l i)<n)→
  (∀ x,x∈rd_L7 (lsAt E l n k) v↔ ∃ i:Nat,i<k∧x=i∧E (rd_T74 l i)=v)∧(rd_L7 (lsAt E l n k) v).Pairwise (· < ·):=by
 intro k
 induction k with
 |zero=>
  intro _;have e:rd_L7 (lsAt E l n 0) v=[]:=by
   unfold rd_L7 lsAt;rw[List.getD_eq_getElem?_getD,List.getElem?_replicate];split<;>rfl
  rw[e];refine⟨fun x=>Iff.intro (fun h=>by cases h) ?_,List.Pairwise.nil⟩;rintro⟨i,h,_⟩;omega
 |succ k ih=>
  intro hE;obtain⟨h1,h2⟩:=ih fun i hi=>hE i (by omega)
  have hk:=hE k (by omega);by_cases c:E (rd_T74 l k)=v
  ·have e:rd_L7 (lsAt E l n (k+1)) v=rd_L7 (lsAt E l n k) v ++ [(k:Int)]:=by
    show (List.set _ _ _).getD v.toNat []=_;rw[c,List.getD_eq_getElem?_getD,List.getElem?_set_self (by rw[lsAt_len];omega)];rfl
   rw[e];refine⟨fun x=> ?_,?_⟩
   ·rw[List.mem_append,h1,List.mem_singleton]
    constructor
    ·rintro(⟨i,a,b,d⟩|rfl)
     ·exact⟨i,by omega,b,d⟩
     ·exact⟨k,by omega,rfl,c⟩
    ·rintro⟨i,a,b,d⟩
     by_cases hi:i<k
     ·exact Or.inl ⟨i,hi,b,d⟩
     ·exact Or.inr (by rw[b];congr 1;omega)
   ·rw[List.pairwise_append]
    refine⟨h2,List.pairwise_singleton _ _,fun a ha b hb=> ?_⟩;rw[List.mem_singleton] at hb;obtain⟨i,q1,q2,_⟩:=(h1 a).1 ha;omega
  ·have e:rd_L7 (lsAt E l n (k+1)) v=rd_L7 (lsAt E l n k) v:=by
    show (List.set _ _ _).getD v.toNat []=_;rw[List.getD_eq_getElem?_getD,List.getElem?_set_ne (by omega), ← List.getD_eq_getElem?_getD];rfl
   rw[e];refine⟨fun x=> ?_,h2⟩;rw[h1];constructor
   ·rintro⟨i,a,b,d⟩;exact⟨i,by omega,b,d⟩
   ·rintro⟨i,a,b,d⟩
    by_cases hi:i<k
    ·exact⟨i,hi,b,d⟩
    ·have e2:i=k:=by omega
     subst e2;exact absurd d c
def stepsU (l:List S74) (n:Nat) (v:Int):List S38:=
 (rd_L7 (lsAt eFrom l n l.length) v).map (fun i=>⟨i,false⟩) ++ (rd_L7 (lsAt eTo l n l.length) v).map (fun i=>⟨i,true⟩)
def ends (l:List S74) (n:Nat):Prop:= ∀ i:Nat,i<l.length→(0≤eFrom (rd_T74 l i)∧eFrom (rd_T74 l i)<n)∧(0≤eTo (rd_T74 l i)∧eTo (rd_T74 l i)<n)
theorem mem_stepsU (l:List S74) (n:Nat) (v:Int) (hv0:0≤v) (hv:v<n) (h:ends l n) (s:S38):s∈stepsU l n v↔IsSt l v l.length s:=by
 have hf:=(lsAt_spec eFrom l n v hv0 hv l.length fun i hi=>(h i hi).1).1;have ht:=(lsAt_spec eTo l n v hv0 hv l.length fun i hi=>(h i hi).2).1;unfold stepsU;rw[List.mem_append,List.mem_map,List.mem_map];constructor
 ·rintro(⟨x,hx,rfl⟩|⟨x,hx,rfl⟩)
  ·obtain⟨i,a,b,d⟩:=(hf x).1 hx
   exact⟨i,a,b,Or.inl ⟨rfl,d⟩⟩
  ·obtain⟨i,a,b,d⟩:=(ht x).1 hx
   exact⟨i,a,b,Or.inr ⟨rfl,d⟩⟩
 ·rintro⟨i,a,b,⟨c,d⟩|⟨c,d⟩⟩
  ·exact Or.inl ⟨s.f0,(hf _).2 ⟨i,a,b,d⟩,by obtain⟨x,y⟩:=s;simp only at c;subst c;rfl⟩
  ·exact Or.inr ⟨s.f0,(ht _).2 ⟨i,a,b,d⟩,by obtain⟨x,y⟩:=s;simp only at c;subst c;rfl⟩
theorem stab_stepsU (l:List S74) (n:Nat) (v:Int) (hv0:0≤v) (hv:v<n) (h:ends l n):(stepsU l n v).Pairwise fun x y=>x.f0=y.f0→x.f1=false∧y.f1=true:=by
 have hf:=(lsAt_spec eFrom l n v hv0 hv l.length fun i hi=>(h i hi).1).2;have ht:=(lsAt_spec eTo l n v hv0 hv l.length fun i hi=>(h i hi).2).2;unfold stepsU;rw[List.pairwise_append,List.pairwise_map,List.pairwise_map];refine⟨hf.imp fun {a b} hab e=> ?_,ht.imp fun {a b} hab e=> ?_,fun a ha b hb e=> ?_⟩
 ·simp only at e;omega
 ·simp only at e;omega
 ·obtain⟨x,_,rfl⟩:=List.mem_map.1 ha
  obtain⟨y,_,rfl⟩:=List.mem_map.1 hb;exact⟨rfl,rfl⟩
end H
end Go.Proofs.Ytkcpanpdipmmmaa
