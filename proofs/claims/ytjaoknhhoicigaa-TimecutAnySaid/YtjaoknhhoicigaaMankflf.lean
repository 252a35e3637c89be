/- What the law's row needs of these texts, taken out of them by wip/tool/mini.py: P35 QOpen QSlotsLaw QAwake18 QLMeets QPlanLaw QPlanCut QMovesLaw QPlanRef QPlanCheck QLBounds. -/
import Derived.Test.YtjaoknhhoicigaaMihklgc
import Derived.Test.YtjaoknhhoicigaaMbaomjb
import Derived.Test.YtjaoknhhoicigaaMcndhje
import Derived.Test.YtjaoknhhoicigaaVgpkfop
import Derived.Deep.Slices
import Derived.Deep.Fields
import Derived.ChangeSame
import Derived.ChangeArms
import Derived.OpenShut
set_option linter.unusedVariables false
set_option linter.unusedSimpArgs false
open Go.RowKit Go.Proofs.YtjaoknhhoicigaaW.PrintWords Go.Proofs.YtjaoknhhoicigaaW.PrintLast Go.Proofs.YtjaoknhhoicigaaW.PrintMore
namespace Go.Proofs.Ytjaoknhhoicigaa
namespace P
attribute [local go_sem] max2_int min2_int max_two min_two max_three min_three max_four min_four
def ebbtidelaw18_TimecutAny.j0:Nat→Int→Int→Int→List (S53)→List (S61)→Bool→Bool→Int→Bool→List (S73)→Option (Bool)
 |0,_,_,_,_,_,_,_,_,_,_=>none
 |k+1,x1,x2,x3,x4,x5,x13,x32,x327000,x327001,x327002=>if x32=true then(some x13) else((timecut_Check.f x327000 x327001 x327002 x1 x2 x3 x4).bind fun bt328=>((ebbtideref14_Check.f k x327000 x327001 x327002 x1 x2 x3 x5).bind fun bt330=>(if x13=true then(if bt328.2=0 then(if bt330.2=0 then(some (decide (bt330.1≤bt328.1))) else(some true)) else(some true)) else(some false))))
def ebbtidelaw18_TimecutAny.f (k:Nat) (Zb:Int) (Zc:Bool) (Za:List (S73)) (a1:Int) (a2:Int) (a3:Int) (l4:List (S53)) (l5:List (S61)):Option (Bool):=(ebbtidelaw18_awake.f k).bind fun t327=>(if t327=true then(if (l4.length:Int)>80 then(ebbtidelaw18_TimecutAny.j0 k a1 a2 a3 l4 l5 t327 true Zb Zc Za) else(if (l5.length:Int)>60 then(ebbtidelaw18_TimecutAny.j0 k a1 a2 a3 l4 l5 t327 true Zb Zc Za) else(ebbtidelaw18_TimecutAny.j0 k a1 a2 a3 l4 l5 t327 (decide (a3>20)) Zb Zc Za))) else(some false))
set_option maxHeartbeats 8000000 in
set_option maxRecDepth 100000 in
theorem ebbtidelaw18_TimecutAny.calls (k:Nat) (Zb:Int) (Zc:Bool) (Zg:Option Addr) (Zf:Nat) (Za:List (S73)) (a1:Int) (a2:Int) (a3:Int) (A4:Option Addr) (c4:Nat) (l4:List (S53)) (A5:Option Addr) (c5:Nat) (l5:List (S61)) (r:Bool) (w:World) (Xw:Kd.C k73 w Zg Za.length Za) (Xx:Za.length≤Zf) (hr4:Kd.C k53 w A4 l4.length l4) (hc4:l4.length≤c4) (hr5:Kd.C k61 w A5 l5.length l5) (hc5:l5.length≤c5) (h:ebbtidelaw18_TimecutAny.f k Zb Zc Za a1 a2 a3 l4 l5=some r) (hrT_:r=true:=by first|rfl|exact Aside0.out (by assumption)):
  Calls Try.prog 4 #[.agg #[.int .i64 Zb, .bool Zc, .slice Zg Za.length Zf], .int .i64 a1, .int .i64 a2, .int .i64 a3, .slice A4 l4.length c4, .slice A5 l5.length c5] w fun e w'=>e= .returned (.bool r)∧Below w.heap.size w w':=by
 have HRT:=Ya hrT_;clear hrT_;have hu32:=Try.underlying32;have Xa:=Ya Xw;have Xl:=Ya Xx;clear Xw Xx;have HR4:=Ya hr4;have HC4:=Ya hc4;clear hr4 hc4;have HR5:=Ya hr5;have HC5:=Ya hc5;clear hr5 hc5;have HB:=Ya (Yo w.heap.size w);have H:((ebbtidelaw18_awake.f k).bind fun t327=>(if t327=true then(if (l4.length:Int)>80 then(ebbtidelaw18_TimecutAny.j0 k a1 a2 a3 l4 l5 t327 true Zb Zc Za) else(if (l5.length:Int)>60 then(ebbtidelaw18_TimecutAny.j0 k a1 a2 a3 l4 l5 t327 true Zb Zc Za) else(ebbtidelaw18_TimecutAny.j0 k a1 a2 a3 l4 l5 t327 (decide (a3>20)) Zb Zc Za))) else(some false)))=some r:=h;clear h;replace H:=Option.bind_eq_some_iff.mp H;obtain⟨t327,A70,H⟩:=H;replace H:(if t327=true then(if (l4.length:Int)>80 then(ebbtidelaw18_TimecutAny.j0 k a1 a2 a3 l4 l5 t327 true Zb Zc Za) else(if (l5.length:Int)>60 then(ebbtidelaw18_TimecutAny.j0 k a1 a2 a3 l4 l5 t327 true Zb Zc Za) else(ebbtidelaw18_TimecutAny.j0 k a1 a2 a3 l4 l5 t327 (decide (a3>20)) Zb Zc Za))) else(some false))=some r:=H;have A7:=Ya A70;clear A70;by_cases c8:t327=true
 rotate_left
 ·replace c8:=Bool.eq_false_iff.mpr c8
  subst c8;have H1:(some false)=some r:=by rw[Yy (show ¬ (false=true) by decide)] at H;exact H
  exact absurd (Option.some.inj H1) (by rw[HRT.out];decide)
 subst c8;have H1:(if (l4.length:Int)>80 then(ebbtidelaw18_TimecutAny.j0 k a1 a2 a3 l4 l5 true true Zb Zc Za) else(if (l5.length:Int)>60 then(ebbtidelaw18_TimecutAny.j0 k a1 a2 a3 l4 l5 true true Zb Zc Za) else(ebbtidelaw18_TimecutAny.j0 k a1 a2 a3 l4 l5 true (decide (a3>20)) Zb Zc Za)))=some r:=by first|(rw[Yx rfl] at H;exact H)|(rw[Yx trivial] at H;exact H)
 clear H;have H:=H1;clear H1;have HC9:=Ya H;clear H;go_enter Try.func4,Try.ntmps4;go_upto_region 4 with (first|((with_reducible refine gate_dst (N:=6) rfl ?_);(try (refine gate_guard (by rfl) ?_;dsimp only));refine Yz ?hg (N:=6) ?hd (cs:= #[.int .i64 Zb, .bool Zc, .slice Zg Za.length Zf]) (t:=32) ?hr ?_;(case hd=>rfl);(case hg=>rfl);(case hr=>first|(go_simp;done)|(go_simp;rfl));intro Vc hg w10 Zj hb;have n0_:=Ya (Yk (by repeat(first|(with_reducible first|exact HB.out|apply Ye|apply Yd|apply Yg)|exact HB.out)) hb);have n1_:=Ya (Zj);have n2_:=Ya ((by rw[hg];exact(Yi (by repeat(first|(with_reducible first|exact HB.out|apply Ye|apply Yd|apply Yg)|exact HB.out))):w.heap.size≤Vc));have n3_:=Ya ((by rw[hg];exact(Yi (by repeat(first|(with_reducible first|exact HB.out|apply Ye|apply Yd|apply Yg)|exact HB.out))):w.heap.size≤Vc));clear HB;have HB:=n0_;have Xe:=n1_;have GW326:=n2_;have GE326:=n3_;clear n0_ n1_ n2_ n3_;clear hb Zj hg)|((with_reducible refine gate_callee (f:=7) rfl ?_);refine goesL_ (some 18) rfl rfl Try.func7 (by kernel_rfl) rfl #[] rfl (by(try simp only[List.map_toArray,List.map_cons,List.map_nil]);first|done|rfl|(simp only[List.length_drop,List.length_take];rfl)) ?_;(with_reducible refine(ebbtidelaw18_awake.calls k  true _ A7.out).mono ?_);rintro e w11 ⟨rfl,hb⟩;refine⟨_,rfl,?_⟩;have n0_:=Ya (Yn (g:=Vc) (o:= .cells #[.int .i64 Zb, .bool Zc, .slice Zg Za.length Zf] 32 (0,0)) (by(with_reducible repeat(first|refine Yl ?_ _|refine Ym ?_|refine Yj ?_ _));exact Xe.out) hb);have n1_:=Ya (Yk (by repeat(first|(with_reducible first|exact HB.out|apply Ye|apply Yd|apply Yg|refine Yh ?_ GE326.out)|exact HB.out)) hb);clear Xe;clear HB;have Xe:=n0_;have HB:=n1_;clear n0_ n1_;(try clear hb);(try clear hb2);(try clear hk);(try clear hi)))
 (try simp only[Act.put,List.setIfInBounds_toArray,List.set_cons_zero,List.set_cons_succ])
 go_cut [32] (fun v32 wc=> ∃ (kq:Nat) (x32_8:Bool),v32= .bool x32_8∧Aside0 (ebbtidelaw18_TimecutAny.j0 kq a1 a2 a3 l4 l5 true x32_8 Zb Zc Za=some r)∧Aside0 (kq≤k)∧Aside0 (wc.heap[Vc]? =some (.cells #[.int .i64 Zb, .bool Zc,(.slice Zg Za.length Zf)] 32 (0,0)))∧Aside0 (Below w.heap.size w wc))
 case first=>
  have H:=HC9.out;clear HC9;by_cases c12:(l4.length:Int)>80
  ·rw[Yx c12] at H
   have c12b0:decide (80<(l4.length:Int))=true:=Yv c12;have c12b1:decide (80<l4.length)=true:=Yv (by omega);clear c12
   (first|rw[c12b0]|(simp only[i64_w,i32_w];rw[c12b0])|skip)
   have H':=Ya H;clear H;go_wp2;go_meet
   case rel=>exact⟨_,(true),(by first|rfl|(simp;done)|(simp[*];done)),H',⟨by first|omega|exact Nat.le_refl _⟩,⟨by(with_reducible repeat(first|refine Yl ?_ _|refine Ym ?_|refine Yj ?_ _));exact Xe.out⟩,⟨by repeat(first|(with_reducible first|exact HB.out|apply Ye|apply Yd|apply Yg|refine Yh ?_ GE326.out)|exact HB.out)⟩⟩
  rw[Yy c12] at H;have c12b0:decide (80<(l4.length:Int))=false:=Yw c12;have c12b1:decide (80<l4.length)=false:=Yw (by omega);clear c12
  (first|rw[c12b0]|(simp only[i64_w,i32_w];rw[c12b0])|skip)
  by_cases c13:(l5.length:Int)>60
  rotate_left
  ·rw[Yy c13] at H
   have c13b0:decide (60<(l5.length:Int))=false:=Yw c13;have c13b1:decide (60<l5.length)=false:=Yw (by omega);clear c13;have H':=Ya H;clear H;go_wp2;go_meet
   case rel=>exact⟨_,(decide (a3>20)),(by first|rfl|(simp;done)|(simp[*];done)),H',⟨by first|omega|exact Nat.le_refl _⟩,⟨by(with_reducible repeat(first|refine Yl ?_ _|refine Ym ?_|refine Yj ?_ _));exact Xe.out⟩,⟨by repeat(first|(with_reducible first|exact HB.out|apply Ye|apply Yd|apply Yg|refine Yh ?_ GE326.out)|exact HB.out)⟩⟩
  rw[Yx c13] at H;have c13b0:decide (60<(l5.length:Int))=true:=Yv c13;have c13b1:decide (60<l5.length)=true:=Yv (by omega);clear c13;have H':=Ya H;clear H;go_wp2;go_meet
  case rel=>exact⟨_,(true),(by first|rfl|(simp;done)|(simp[*];done)),H',⟨by first|omega|exact Nat.le_refl _⟩,⟨by(with_reducible repeat(first|refine Yl ?_ _|refine Ym ?_|refine Yj ?_ _));exact Xe.out⟩,⟨by repeat(first|(with_reducible first|exact HB.out|apply Ye|apply Yd|apply Yg|refine Yh ?_ GE326.out)|exact HB.out)⟩⟩
 case rest=>
  clear HC9;try clear c1
  try clear p2
  try clear c4
  try clear c5
  try clear c7
  try clear c8
  try clear c12
  try clear c12b0
  try clear c12b1
  try clear c13
  try clear c13b0
  try clear c13b1
  obtain⟨kq,x32_8,rfl,HA,HJ8,Xe,HB⟩:=hcut;cases kq with
  |zero=>exact absurd HA.out (by simp[ebbtidelaw18_TimecutAny.j0])
  |succ kj8=>
   have H:=HA.out;clear HA;simp only[ebbtidelaw18_TimecutAny.j0] at H;by_cases c14:x32_8=true
   ·subst c14
    have H1:(some true)=some r:=by first|(rw[Yx rfl] at H;exact H)|(rw[Yx trivial] at H;exact H)
    clear H;have H:=H1;clear H1;obtain rfl:=Option.some.inj H;go_wp2;go_ret;exact⟨by first|rfl|(simp[errW_none,errW_some]<;>rfl)|(simp[*,errW_none,errW_some]<;>rfl),by repeat(first|(with_reducible first|exact HB.out|apply Ye|apply Yd|apply Yg|refine Yh ?_ GE326.out)|exact HB.out)⟩
   replace c14:=Bool.eq_false_iff.mpr c14;subst c14;have H1:((timecut_Check.f Zb Zc Za a1 a2 a3 l4).bind fun bt328=>((ebbtideref14_Check.f kj8 Zb Zc Za a1 a2 a3 l5).bind fun bt330=>(if true=true then(if bt328.2=0 then(if bt330.2=0 then(some (decide (bt330.1≤bt328.1))) else(some true)) else(some true)) else(some false))))=some r:=by rw[Yy (show ¬ (false=true) by decide)] at H;exact H
   clear H;have H:=H1;clear H1;replace H:=Option.bind_eq_some_iff.mp H;obtain⟨⟨t328,t329⟩,A150,H⟩:=H;replace H:((ebbtideref14_Check.f kj8 Zb Zc Za a1 a2 a3 l5).bind fun bt330=>(if true=true then(if t329=0 then(if bt330.2=0 then(some (decide (bt330.1≤t328))) else(some true)) else(some true)) else(some false)))=some r:=H;have A15:=Ya A150;clear A150;replace H:=Option.bind_eq_some_iff.mp H;obtain⟨⟨t330,t331⟩,A160,H⟩:=H;replace H:(if true=true then(if t329=0 then(if t331=0 then(some (decide (t330≤t328))) else(some true)) else(some true)) else(some false))=some r:=H;have A16:=Ya A160;clear A160;by_cases c17:true=true
   rotate_left
   ·exact absurd rfl c17
   clear c17;have H1:(if t329=0 then(if t331=0 then(some (decide (t330≤t328))) else(some true)) else(some true))=some r:=by first|(rw[Yx rfl] at H;exact H)|(rw[Yx trivial] at H;exact H)
   clear H;have H:=H1;clear H1;by_cases c18:t329=0
   rotate_left
   ·rw[Yy c18] at H
    have c18b0:(t329 == 0)=false:=beq_eq_false_iff_ne.mpr c18;have c18b1:(t329 != 0)=true:=bne_iff_ne.mpr c18;obtain rfl:=Option.some.inj H;have hcz28_0:wc.cell? ⟨Vc,0,none⟩=some (.int .i64 Zb):=(Yc Xe.out 0).trans rfl;have hcz28_1:wc.cell? ⟨Vc,1,none⟩=some (.bool Zc):=(Yc Xe.out 1).trans rfl;have hcz28_2:wc.cell? ⟨Vc,2,none⟩=some (.slice Zg Za.length Zf):=(Yc Xe.out 2).trans rfl;have hfz28_0:=Yf Xe.out 0;have hfz28_1:=Yf Xe.out 1;have hfz28_2:=Yf Xe.out 2;go_wp2_with (first|((with_reducible refine gate_callee (f:=10) rfl ?_);refine goesL_ (some 40) rfl rfl Try.func10 (by kernel_rfl) rfl #[.agg #[.int .i64 Zb, .bool Zc, .slice Zg Za.length Zf], .int .i64 a1, .int .i64 a2, .int .i64 a3, .slice A4 l4.length c4] rfl (by(try simp only[List.map_toArray,List.map_cons,List.map_nil]);first|done|rfl|(simp only[List.length_drop,List.length_take];rfl)) ?_;(with_reducible refine(timecut_Check.calls Zb Zc _ _ Za a1 a2 a3 _ _ l4 t328 t329 _ ?side1 ?side2 ?side3 ?side4 A15.out).mono ?_);(case side1=>repeat(first|exact(Yt Xa.out HB.out)|(with_reducible refine Kd.C_alloc ?_ _)|(with_reducible refine Kd.C_drewN ?_ _)|(with_reducible refine Kd.C_drew ?_)));(case side2=>exact Xl.out);(case side3=>repeat(first|exact(Yt HR4.out HB.out)|(with_reducible refine Kd.C_alloc ?_ _)|(with_reducible refine Kd.C_drewN ?_ _)|(with_reducible refine Kd.C_drew ?_)));(case side4=>exact HC4.out);rintro e w29 ⟨rfl,hb⟩;refine⟨_,rfl,?_⟩;have n0_:=Ya (Yn (g:=Vc) (o:= .cells #[.int .i64 Zb, .bool Zc, .slice Zg Za.length Zf] 32 (0,0)) (by(with_reducible repeat(first|refine Yl ?_ _|refine Ym ?_|refine Yj ?_ _));exact Xe.out) hb);have n1_:=Ya (Yk (by repeat(first|(with_reducible first|exact HB.out|apply Ye|apply Yd|apply Yg|refine Yh ?_ GE326.out)|exact HB.out)) hb);clear Xe;clear HB;have Xe:=n0_;have HB:=n1_;clear n0_ n1_;(try clear hb);(try clear hb2);(try clear hk);(try clear hi);have hcz30_0:w29.cell? ⟨Vc,0,none⟩=some (.int .i64 Zb):=(Yc Xe.out 0).trans rfl;have hcz30_1:w29.cell? ⟨Vc,1,none⟩=some (.bool Zc):=(Yc Xe.out 1).trans rfl;have hcz30_2:w29.cell? ⟨Vc,2,none⟩=some (.slice Zg Za.length Zf):=(Yc Xe.out 2).trans rfl;have hfz30_0:=Yf Xe.out 0;have hfz30_1:=Yf Xe.out 1;have hfz30_2:=Yf Xe.out 2)|((with_reducible refine gate_callee (f:=9) rfl ?_);refine goesL_ (some 49) rfl rfl Try.func9 (by kernel_rfl) rfl #[.agg #[.int .i64 Zb, .bool Zc, .slice Zg Za.length Zf], .int .i64 a1, .int .i64 a2, .int .i64 a3, .slice A5 l5.length c5] rfl (by(try simp only[List.map_toArray,List.map_cons,List.map_nil]);first|done|rfl|(simp only[List.length_drop,List.length_take];rfl)) ?_;(with_reducible refine(ebbtideref14_Check.calls kj8 Zb Zc _ _ Za a1 a2 a3 _ _ l5 t330 t331 _ ?side1 ?side2 ?side3 ?side4 A16.out).mono ?_);(case side1=>repeat(first|exact(Yt Xa.out HB.out)|(with_reducible refine Kd.C_alloc ?_ _)|(with_reducible refine Kd.C_drewN ?_ _)|(with_reducible refine Kd.C_drew ?_)));(case side2=>exact Xl.out);(case side3=>repeat(first|exact(Yt HR5.out HB.out)|(with_reducible refine Kd.C_alloc ?_ _)|(with_reducible refine Kd.C_drewN ?_ _)|(with_reducible refine Kd.C_drew ?_)));(case side4=>exact HC5.out);rintro e w31 ⟨rfl,hb⟩;refine⟨_,rfl,?_⟩;have n0_:=Ya (Yn (g:=Vc) (o:= .cells #[.int .i64 Zb, .bool Zc, .slice Zg Za.length Zf] 32 (0,0)) (by(with_reducible repeat(first|refine Yl ?_ _|refine Ym ?_|refine Yj ?_ _));exact Xe.out) hb);have n1_:=Ya (Yk (by repeat(first|(with_reducible first|exact HB.out|apply Ye|apply Yd|apply Yg|refine Yh ?_ GE326.out)|exact HB.out)) hb);clear Xe;clear HB;have Xe:=n0_;have HB:=n1_;clear n0_ n1_;(try clear hb);(try clear hb2);(try clear hk);(try clear hi)));go_ret;exact⟨by first|rfl|(simp[errW_none,errW_some]<;>rfl)|(simp[*,errW_none,errW_some]<;>rfl),by repeat(first|(with_reducible first|exact HB.out|apply Ye|apply Yd|apply Yg|refine Yh ?_ GE326.out)|exact HB.out)⟩
   rw[Yx c18] at H;have c18b0:(t329 == 0)=true:=beq_iff_eq.mpr c18;have c18b1:(t329 != 0)=false:=bne_eq_false_iff_eq.mpr c18;clear c18;by_cases c19:t331=0
   rotate_left
   ·rw[Yy c19] at H
    have c19b0:(t331 == 0)=false:=beq_eq_false_iff_ne.mpr c19;have c19b1:(t331 != 0)=true:=bne_iff_ne.mpr c19;obtain rfl:=Option.some.inj H;have hcz24_0:wc.cell? ⟨Vc,0,none⟩=some (.int .i64 Zb):=(Yc Xe.out 0).trans rfl;have hcz24_1:wc.cell? ⟨Vc,1,none⟩=some (.bool Zc):=(Yc Xe.out 1).trans rfl;have hcz24_2:wc.cell? ⟨Vc,2,none⟩=some (.slice Zg Za.length Zf):=(Yc Xe.out 2).trans rfl;have hfz24_0:=Yf Xe.out 0;have hfz24_1:=Yf Xe.out 1;have hfz24_2:=Yf Xe.out 2;go_wp2_with (first|((with_reducible refine gate_callee (f:=10) rfl ?_);refine goesL_ (some 40) rfl rfl Try.func10 (by kernel_rfl) rfl #[.agg #[.int .i64 Zb, .bool Zc, .slice Zg Za.length Zf], .int .i64 a1, .int .i64 a2, .int .i64 a3, .slice A4 l4.length c4] rfl (by(try simp only[List.map_toArray,List.map_cons,List.map_nil]);first|done|rfl|(simp only[List.length_drop,List.length_take];rfl)) ?_;(with_reducible refine(timecut_Check.calls Zb Zc _ _ Za a1 a2 a3 _ _ l4 t328 t329 _ ?side1 ?side2 ?side3 ?side4 A15.out).mono ?_);(case side1=>repeat(first|exact(Yt Xa.out HB.out)|(with_reducible refine Kd.C_alloc ?_ _)|(with_reducible refine Kd.C_drewN ?_ _)|(with_reducible refine Kd.C_drew ?_)));(case side2=>exact Xl.out);(case side3=>repeat(first|exact(Yt HR4.out HB.out)|(with_reducible refine Kd.C_alloc ?_ _)|(with_reducible refine Kd.C_drewN ?_ _)|(with_reducible refine Kd.C_drew ?_)));(case side4=>exact HC4.out);rintro e w25 ⟨rfl,hb⟩;refine⟨_,rfl,?_⟩;have n0_:=Ya (Yn (g:=Vc) (o:= .cells #[.int .i64 Zb, .bool Zc, .slice Zg Za.length Zf] 32 (0,0)) (by(with_reducible repeat(first|refine Yl ?_ _|refine Ym ?_|refine Yj ?_ _));exact Xe.out) hb);have n1_:=Ya (Yk (by repeat(first|(with_reducible first|exact HB.out|apply Ye|apply Yd|apply Yg|refine Yh ?_ GE326.out)|exact HB.out)) hb);clear Xe;clear HB;have Xe:=n0_;have HB:=n1_;clear n0_ n1_;(try clear hb);(try clear hb2);(try clear hk);(try clear hi);have hcz26_0:w25.cell? ⟨Vc,0,none⟩=some (.int .i64 Zb):=(Yc Xe.out 0).trans rfl;have hcz26_1:w25.cell? ⟨Vc,1,none⟩=some (.bool Zc):=(Yc Xe.out 1).trans rfl;have hcz26_2:w25.cell? ⟨Vc,2,none⟩=some (.slice Zg Za.length Zf):=(Yc Xe.out 2).trans rfl;have hfz26_0:=Yf Xe.out 0;have hfz26_1:=Yf Xe.out 1;have hfz26_2:=Yf Xe.out 2)|((with_reducible refine gate_callee (f:=9) rfl ?_);refine goesL_ (some 49) rfl rfl Try.func9 (by kernel_rfl) rfl #[.agg #[.int .i64 Zb, .bool Zc, .slice Zg Za.length Zf], .int .i64 a1, .int .i64 a2, .int .i64 a3, .slice A5 l5.length c5] rfl (by(try simp only[List.map_toArray,List.map_cons,List.map_nil]);first|done|rfl|(simp only[List.length_drop,List.length_take];rfl)) ?_;(with_reducible refine(ebbtideref14_Check.calls kj8 Zb Zc _ _ Za a1 a2 a3 _ _ l5 t330 t331 _ ?side1 ?side2 ?side3 ?side4 A16.out).mono ?_);(case side1=>repeat(first|exact(Yt Xa.out HB.out)|(with_reducible refine Kd.C_alloc ?_ _)|(with_reducible refine Kd.C_drewN ?_ _)|(with_reducible refine Kd.C_drew ?_)));(case side2=>exact Xl.out);(case side3=>repeat(first|exact(Yt HR5.out HB.out)|(with_reducible refine Kd.C_alloc ?_ _)|(with_reducible refine Kd.C_drewN ?_ _)|(with_reducible refine Kd.C_drew ?_)));(case side4=>exact HC5.out);rintro e w27 ⟨rfl,hb⟩;refine⟨_,rfl,?_⟩;have n0_:=Ya (Yn (g:=Vc) (o:= .cells #[.int .i64 Zb, .bool Zc, .slice Zg Za.length Zf] 32 (0,0)) (by(with_reducible repeat(first|refine Yl ?_ _|refine Ym ?_|refine Yj ?_ _));exact Xe.out) hb);have n1_:=Ya (Yk (by repeat(first|(with_reducible first|exact HB.out|apply Ye|apply Yd|apply Yg|refine Yh ?_ GE326.out)|exact HB.out)) hb);clear Xe;clear HB;have Xe:=n0_;have HB:=n1_;clear n0_ n1_;(try clear hb);(try clear hb2);(try clear hk);(try clear hi)));go_ret;exact⟨by first|rfl|(simp[errW_none,errW_some]<;>rfl)|(simp[*,errW_none,errW_some]<;>rfl),by repeat(first|(with_reducible first|exact HB.out|apply Ye|apply Yd|apply Yg|refine Yh ?_ GE326.out)|exact HB.out)⟩
   rw[Yx c19] at H;have c19b0:(t331 == 0)=true:=beq_iff_eq.mpr c19;have c19b1:(t331 != 0)=false:=bne_eq_false_iff_eq.mpr c19;clear c19;obtain rfl:=Option.some.inj H;have hcz20_0:wc.cell? ⟨Vc,0,none⟩=some (.int .i64 Zb):=(Yc Xe.out 0).trans rfl;have hcz20_1:wc.cell? ⟨Vc,1,none⟩=some (.bool Zc):=(Yc Xe.out 1).trans rfl;have hcz20_2:wc.cell? ⟨Vc,2,none⟩=some (.slice Zg Za.length Zf):=(Yc Xe.out 2).trans rfl;have hfz20_0:=Yf Xe.out 0;have hfz20_1:=Yf Xe.out 1;have hfz20_2:=Yf Xe.out 2;go_wp2_with (first|((with_reducible refine gate_callee (f:=10) rfl ?_);refine goesL_ (some 40) rfl rfl Try.func10 (by kernel_rfl) rfl #[.agg #[.int .i64 Zb, .bool Zc, .slice Zg Za.length Zf], .int .i64 a1, .int .i64 a2, .int .i64 a3, .slice A4 l4.length c4] rfl (by(try simp only[List.map_toArray,List.map_cons,List.map_nil]);first|done|rfl|(simp only[List.length_drop,List.length_take];rfl)) ?_;(with_reducible refine(timecut_Check.calls Zb Zc _ _ Za a1 a2 a3 _ _ l4 t328 t329 _ ?side1 ?side2 ?side3 ?side4 A15.out).mono ?_);(case side1=>repeat(first|exact(Yt Xa.out HB.out)|(with_reducible refine Kd.C_alloc ?_ _)|(with_reducible refine Kd.C_drewN ?_ _)|(with_reducible refine Kd.C_drew ?_)));(case side2=>exact Xl.out);(case side3=>repeat(first|exact(Yt HR4.out HB.out)|(with_reducible refine Kd.C_alloc ?_ _)|(with_reducible refine Kd.C_drewN ?_ _)|(with_reducible refine Kd.C_drew ?_)));(case side4=>exact HC4.out);rintro e w21 ⟨rfl,hb⟩;refine⟨_,rfl,?_⟩;have n0_:=Ya (Yn (g:=Vc) (o:= .cells #[.int .i64 Zb, .bool Zc, .slice Zg Za.length Zf] 32 (0,0)) (by(with_reducible repeat(first|refine Yl ?_ _|refine Ym ?_|refine Yj ?_ _));exact Xe.out) hb);have n1_:=Ya (Yk (by repeat(first|(with_reducible first|exact HB.out|apply Ye|apply Yd|apply Yg|refine Yh ?_ GE326.out)|exact HB.out)) hb);clear Xe;clear HB;have Xe:=n0_;have HB:=n1_;clear n0_ n1_;(try clear hb);(try clear hb2);(try clear hk);(try clear hi);have hcz22_0:w21.cell? ⟨Vc,0,none⟩=some (.int .i64 Zb):=(Yc Xe.out 0).trans rfl;have hcz22_1:w21.cell? ⟨Vc,1,none⟩=some (.bool Zc):=(Yc Xe.out 1).trans rfl;have hcz22_2:w21.cell? ⟨Vc,2,none⟩=some (.slice Zg Za.length Zf):=(Yc Xe.out 2).trans rfl;have hfz22_0:=Yf Xe.out 0;have hfz22_1:=Yf Xe.out 1;have hfz22_2:=Yf Xe.out 2)|((with_reducible refine gate_callee (f:=9) rfl ?_);refine goesL_ (some 49) rfl rfl Try.func9 (by kernel_rfl) rfl #[.agg #[.int .i64 Zb, .bool Zc, .slice Zg Za.length Zf], .int .i64 a1, .int .i64 a2, .int .i64 a3, .slice A5 l5.length c5] rfl (by(try simp only[List.map_toArray,List.map_cons,List.map_nil]);first|done|rfl|(simp only[List.length_drop,List.length_take];rfl)) ?_;(with_reducible refine(ebbtideref14_Check.calls kj8 Zb Zc _ _ Za a1 a2 a3 _ _ l5 t330 t331 _ ?side1 ?side2 ?side3 ?side4 A16.out).mono ?_);(case side1=>repeat(first|exact(Yt Xa.out HB.out)|(with_reducible refine Kd.C_alloc ?_ _)|(with_reducible refine Kd.C_drewN ?_ _)|(with_reducible refine Kd.C_drew ?_)));(case side2=>exact Xl.out);(case side3=>repeat(first|exact(Yt HR5.out HB.out)|(with_reducible refine Kd.C_alloc ?_ _)|(with_reducible refine Kd.C_drewN ?_ _)|(with_reducible refine Kd.C_drew ?_)));(case side4=>exact HC5.out);rintro e w23 ⟨rfl,hb⟩;refine⟨_,rfl,?_⟩;have n0_:=Ya (Yn (g:=Vc) (o:= .cells #[.int .i64 Zb, .bool Zc, .slice Zg Za.length Zf] 32 (0,0)) (by(with_reducible repeat(first|refine Yl ?_ _|refine Ym ?_|refine Yj ?_ _));exact Xe.out) hb);have n1_:=Ya (Yk (by repeat(first|(with_reducible first|exact HB.out|apply Ye|apply Yd|apply Yg|refine Yh ?_ GE326.out)|exact HB.out)) hb);clear Xe;clear HB;have Xe:=n0_;have HB:=n1_;clear n0_ n1_;(try clear hb);(try clear hb2);(try clear hk);(try clear hi)));go_ret;exact⟨by first|rfl|(simp[errW_none,errW_some]<;>rfl)|(simp[*,errW_none,errW_some]<;>rfl),by repeat(first|(with_reducible first|exact HB.out|apply Ye|apply Yd|apply Yg|refine Yh ?_ GE326.out)|exact HB.out)⟩
end P
namespace Opn
open Go.ChangeShapes Go.WideShapes Go.Deep 
def Opens (P:Program) (t:TypeId) {α:Type} (d:Kd α) (ok:α→Prop):Prop:=
 ∀ (H:Type) (enc:TypeId × Value→H) (w:World) (base:Nat) (spare:Nat→Bool) (held:Bool) (fuel:Nat) (cs:List Value) (x:DataW H × List MemPlace),
  DataW.trod enc P w base spare held fuel t cs=some x→ ∃ a:α,d.K w a cs∧ok a
theorem opens_int {P:Program} {t:TypeId} {k:IntKind} (ht:P.underlying t=some (.int k)):Opens P t (Kd.int k) (fun n=>(Lit.int k n).wf=true):=by
 intro H enc w base spare held fuel cs x h;obtain⟨n,rfl,_,hw⟩:=DataW.trod_int ht h;exact⟨n,rfl,hw⟩
theorem opens_bool {P:Program} {t:TypeId} (ht:P.underlying t=some .bool):Opens P t Kd.bool (fun _=>True):=by
 intro H enc w base spare held fuel cs x h;obtain⟨b,rfl,_⟩:=DataW.trod_bool ht h;exact⟨b,rfl,trivial⟩
theorem opens_slice {P:Program} {t e:TypeId} {α:Type} {d:Kd α} {ok:α→Prop} (ht:P.underlying t=some (.slice e)) (hc:P.cellsOf e=d.sz) (h:Opens P e d ok):
  Opens P t (Kd.slice e d) (fun l=>l.length≤9223372036854775807∧ ∀ x∈l,ok x):=by
 intro H enc w base spare held fuel cs x hx;rcases open_slice ht hx with ⟨rfl,_⟩|⟨a,len,cap,m,n,D,Pl,rfl,hb,hl,hm,hmm,_,hi⟩
 ·exact⟨[],⟨none,0,rfl,Nat.le_refl _,rfl,by simp,fun h=>absurd h (by simp)⟩,by simp,by simp⟩
 ·have hlm:len≤m:=by rw[hmm];split<;>omega
  have hel: ∀ i:Nat,i<len→ ∃ a':α,ok a'∧ ∃ c,c.length=d.sz∧d.K w a' c∧ ∀ j u,c[j]? =some u→w.cell? (a.add (i * d.sz+j))=some u:=by
   intro i hil;obtain⟨cs',hcs,htr⟩:=hi i (by omega);obtain⟨a',hK,hok⟩:=h H enc w base spare held n cs' _ htr;rw[hc] at hcs;obtain⟨_,hcl,hat⟩:=World.cells?_some hcs;refine⟨a',hok,cs',hcl,hK,fun j u hu=> ?_⟩;have hj:j<d.sz:=by have:=(List.getElem?_eq_some_iff.1 hu).1;omega
   have:=hat j hj;rw[← Go.Deep.add_add,this,hu]
  have hrow: ∀ k:Nat,k≤len→ ∃ xs:List α,xs.length=k∧(∀ x∈xs,ok x)∧ ∀ j p,xs[j]? =some p→ ∃ c,c.length=d.sz∧d.K w p c∧ ∀ i u,c[i]? =some u→w.cell? (a.add (j * d.sz+i))=some u:=by
   intro k
   induction k with
   |zero=>exact fun _=>⟨[],rfl,by simp,by simp⟩
   |succ k ih=>
    intro hk;obtain⟨xs,h1,h2,h3⟩:=ih (by omega);obtain⟨a',ho,c,hcl,hK,hcell⟩:=hel k (by omega);refine⟨xs ++ [a'],by simp[h1],fun x hx=> ?_,fun j p hj=> ?_⟩
    ·rcases List.mem_append.1 hx with h|h
     ·exact h2 x h
     ·rw[List.mem_singleton.1 h];exact ho
    ·by_cases hjk:j<xs.length
     ·rw[List.getElem?_append_left hjk] at hj
      exact h3 j p hj
     ·have hjl:=(List.getElem?_eq_some_iff.1 hj).1
      simp at hjl;have hje:j=k:=by omega
      subst hje;rw[← h1,List.getElem?_concat_length] at hj;obtain rfl:=Option.some.inj hj;exact⟨c,hcl,hK,hcell⟩
  obtain⟨xs,h1,h2,h3⟩:=hrow len (Nat.le_refl _);have hmx:len≤9223372036854775807:=by unfold maxLen at hm;omega
  subst h1;exact⟨xs,⟨some a,cap,rfl,hl,rfl,hmx,fun _=>⟨a,rfl,h3⟩⟩,hmx,h2⟩
theorem opens_iso {P:Program} {t:TypeId} {α β:Type} {d:Kd α} {ok:α→Prop} (h:Opens P t d ok) (f:β→α) (g:α→β) (hfg: ∀ x,f (g x)=x):Opens P t (Kd.iso d f) (fun y=>ok (f y)):=by
 intro H enc w base spare held fuel cs x hx;obtain⟨a,hK,hok⟩:=h H enc w base spare held fuel cs x hx;exact⟨g a,by show d.K w (f (g a)) cs;rw[hfg];exact hK,by show ok (f (g a));rw[hfg];exact hok⟩
def OpensFs (P:Program) (fs:List Field) (off:Nat) {α:Type} (d:Kd α) (ok:α→Prop):Prop:=
 ∀ (H:Type) (enc:TypeId × Value→H) (w:World) (base:Nat) (spare:Nat→Bool) (held:Bool) (n:Nat) (cs:List Value),cs.length=off+d.sz→
  (∀ f∈fs, ∃ y,DataW.trod enc P w base spare held n f.type ((cs.drop f.offset).take (P.cellsOf f.type))=some y)→ ∃ a:α,d.K w a (cs.drop off)∧ok a
theorem fs_one {P:Program} {f:Field} {off:Nat} {α:Type} {d:Kd α} {ok:α→Prop} (ho:f.offset=off) (hc:P.cellsOf f.type=d.sz) (h:Opens P f.type d ok):OpensFs P [f] off d ok:=by
 intro H enc w base spare held n cs hl hf;obtain⟨y,hy⟩:=hf f (by simp);rw[ho,hc,List.take_of_length_le (by simp;omega)] at hy;exact h H enc w base spare held n _ y hy
theorem fs_cons {P:Program} {f:Field} {fs:List Field} {off:Nat} {α β:Type} {d:Kd α} {d':Kd β} {ok:α→Prop} {ok':β→Prop} (ho:f.offset=off) (hc:P.cellsOf f.type=d.sz) (h:Opens P f.type d ok)
  (hr:OpensFs P fs (off+d.sz) d' ok'):OpensFs P (f::fs) off (Kd.pair d d') (fun x=>ok x.1∧ok' x.2):=by
 intro H enc w base spare held n cs hl hf;have hsz:(Kd.pair d d').sz=d.sz+d'.sz:=rfl;rw[hsz] at hl;obtain⟨y,hy⟩:=hf f (by simp);rw[ho,hc] at hy;obtain⟨a,hK,hok⟩:=h H enc w base spare held n _ y hy;obtain⟨b,hKb,hokb⟩:=hr H enc w base spare held n cs (by omega) (fun f' hf'=>hf f' (List.mem_cons_of_mem _ hf'));refine⟨(a,b),⟨_,_,?_,hK,hKb⟩,hok,hokb⟩;rw[← List.drop_drop];exact(List.take_append_drop _ _).symm
theorem opens_struct {P:Program} {t:TypeId} {fs:Array Field} {α:Type} {d:Kd α} {ok:α→Prop} (hs:P.underlying t=some (.struct fs)) (hC:P.cellsOf t=d.sz) (h:OpensFs P fs.toList 0 d ok):Opens P t d ok:=by
 intro H enc w base spare held fuel cs x hx;obtain⟨xs,n,_,_,hl,hlen,hf⟩:=DataW.trod_struct hs hx;obtain⟨a,hK,hok⟩:=h H enc w base spare held n cs (by rw[hl,hC,Nat.zero_add]) (fun f hfm=>by
  obtain⟨j,hj⟩:=List.getElem?_of_mem hfm;have hj':fs[j]? =some f:=by rw[← hj];simp
  have hjl:j<xs.length:=by rw[hlen];exact(Array.getElem?_eq_some_iff.1 hj').1
  have h1:=hf j f hj';rw[List.getElem?_eq_getElem hjl] at h1;exact⟨_,h1⟩)
 exact⟨a,hK,hok⟩
theorem arg_struct {H:Type} {enc:TypeId × Value→H} {P:Program} {w:World} {base b0:Nat} {spare:Nat→Bool} {held:Bool} {r:Reach} {t:TypeId} {fs:Array Field} {v:Value} {dd:DataW H} {p:List MemPlace} {α:Type} {d:Kd α} {ok:α→Prop}
  (hs:P.underlying t=some (.struct fs)) (ho:Opens P t d ok) (hv:Value.okWide P w r b0 t v) (h:DataW.Trod enc P w base spare held t v dd p): ∃ a cs,v= .agg cs∧d.K w a cs.toList∧ok a:=by
 obtain⟨cs,rfl,hsz⟩:=okWide_struct hs hv;obtain⟨fuel,hf⟩:=h;obtain⟨a,hK,hok⟩:=ho H enc w base spare held fuel _ _ hf;exact⟨a,cs,rfl,by simpa [Value.cells] using hK,hok⟩
theorem arg_slice {H:Type} {enc:TypeId × Value→H} {P:Program} {w:World} {base b0:Nat} {spare:Nat→Bool} {held:Bool} {r:Reach} {t e:TypeId} {v:Value} {dd:DataW H} {p:List MemPlace} {α:Type} {d:Kd α} {ok:List α→Prop}
  (hs:P.underlying t=some (.slice e)) (ho:Opens P t (Kd.slice e d) ok) (hv:Value.okWide P w r b0 t v) (h:DataW.Trod enc P w base spare held t v dd p): ∃ A c l,v= .slice A l.length c∧l.length≤c∧d.C w A l.length l∧ok l:=by
 obtain⟨A,len,cap,rfl⟩:=okWide_slice hs hv;obtain⟨fuel,hf⟩:=h;obtain⟨l,⟨A',c,he,hlc,hC⟩,hok⟩:=ho H enc w base spare held fuel _ _ hf;simp[Value.cells] at he;obtain⟨rfl,rfl,rfl⟩:=he;exact⟨A,cap,l,rfl,hlc,hC,hok⟩
end Opn
namespace Q
open P
open H
theorem mem_getD {α:Type} (d:α) (L:List α) (z:α):z∈L↔ ∃ k,k<L.length∧L.getD k d=z:=by
 constructor
 ·intro h
  obtain⟨k,hk,e⟩:=List.getElem_of_mem h;exact⟨k,hk,by rw[List.getD_eq_getElem?_getD,List.getElem?_eq_getElem hk, ← e];rfl⟩
 ·rintro⟨k,hk,rfl⟩
  exact getD_mem hk
theorem swap_mem {α:Type} (d:α) (x:List α) {i j:Nat} (hi:i<x.length) (hj:j<x.length) (hne:i≠j) (z:α):z∈(x.set i (x.getD j d)).set j (x.getD i d)↔z∈x:=by
 have hl:((x.set i (x.getD j d)).set j (x.getD i d)).length=x.length:=by rw[List.length_set,List.length_set]
 have hg: ∀ k,((x.set i (x.getD j d)).set j (x.getD i d)).getD k d=if j=k then x.getD i d else if i=k then x.getD j d else x.getD k d:=fun k=>by
  rw[getD_set _ _ _ _ _ (by rw[List.length_set];exact hj),getD_set _ _ _ _ _ hi]
 rw[mem_getD d,mem_getD d,hl];constructor
 ·rintro⟨k,hk,e⟩
  rw[hg] at e;split at e
  ·exact⟨i,hi,e⟩
  ·split at e
   ·exact⟨j,hj,e⟩
   ·exact⟨k,hk,e⟩
 ·rintro⟨k,hk,e⟩
  by_cases h1:k=i
  ·subst h1;exact⟨j,hj,by rw[hg,Yx rfl,e]⟩
  ·by_cases h2:k=j
   ·subst h2;exact⟨i,hi,by rw[hg,Yy (Ne.symm hne),Yx rfl,e]⟩
   ·exact⟨k,hk,by rw[hg,Yy (Ne.symm h2),Yy (Ne.symm h1),e]⟩
end Q
namespace Q
open P
theorem awake18_at:ebbtidelaw18_awake.f 40=some true:=by decide +kernel
theorem awake18_ev:Ev (fun k=>ebbtidelaw18_awake.f k) true:=Ev.of ebbtidelaw18_awake.mono awake18_at
end Q
namespace Q
open P
open H
theorem ends_iff {S:Int→Int→Bool} {s t:Int} : ∀ m:Nat,endsN S s t m=true↔ ∀ k:Nat,k<m→S s k=true∧S t k=false
 |0=>⟨fun _ k hk=>absurd hk (Nat.not_lt_zero _),fun _=>rfl⟩
 |m+1=>by
  unfold endsN;rw[Bool.and_eq_true,ends_iff m,Bool.and_eq_true,Bool.not_eq_true'];constructor
  ·rintro⟨h1,h2⟩ k hk
   by_cases e:k=m
   ·subst e;exact h2
   ·exact h1 k (by omega)
  ·intro h
   exact⟨fun k hk=>h k (by omega),h m (by omega)⟩
theorem rises_iff {S:Int→Int→Bool} {v:Int} : ∀ m:Nat,risesN S v m=true↔ ∀ k:Nat,k<m→S v k=true→S v (k+1)=true
 |0=>⟨fun _ k hk=>absurd hk (Nat.not_lt_zero _),fun _=>rfl⟩
 |m+1=>by
  unfold risesN;rw[Bool.and_eq_true,rises_iff m];constructor
  ·rintro⟨h1,h2⟩ k hk hS
   by_cases e:k=m
   ·subst e
    rw[hS] at h2;cases h3:S v (k+1) with
    |true=>rfl
    |false=>rw[h3] at h2;simp at h2
   ·exact h1 k (by omega) hS
  ·intro h
   refine⟨fun k hk=>h k (by omega),?_⟩;cases h3:S v m with
   |false=>rfl
   |true=>rw[h m (by omega) h3];rfl
theorem risesAll_iff {S:Int→Int→Bool} {h:Nat} : ∀ m:Nat,risesAll S h m=true↔ ∀ v:Nat,v<m→risesN S v h=true
 |0=>⟨fun _ k hk=>absurd hk (Nat.not_lt_zero _),fun _=>rfl⟩
 |m+1=>by
  unfold risesAll;rw[Bool.and_eq_true,risesAll_iff m];constructor
  ·rintro⟨h1,h2⟩ k hk
   by_cases e:k=m
   ·subst e;exact h2
   ·exact h1 k (by omega)
  ·intro h
   exact⟨fun k hk=>h k (by omega),h m (by omega)⟩
end Q
namespace Q
open P
open H
theorem sumN_le (n:Nat) {f g:Nat→Int} (h: ∀ v,v<n→f v≤g v):sumTo n f≤sumTo n g:=by
 induction n with
 |zero=>exact Int.le_refl _
 |succ n ih=>
  have h1:=ih (fun v hv=>h v (by omega));have h2:=h n (by omega);simp only[sumTo];omega
theorem sumN_zero (n:Nat) {f:Nat→Int} (h: ∀ v,v<n→f v=0):sumTo n f=0:=by
 induction n with
 |zero=>rfl
 |succ n ih=>
  simp only[sumTo];rw[ih (fun v hv=>h v (by omega)),h n (by omega)];rfl
theorem sumN_one (n:Nat) {f:Nat→Int} (a:Nat) (ha:a<n) (h: ∀ v,v<n→v≠a→f v=0):sumTo n f=f a:=by
 induction n with
 |zero=>omega
 |succ n ih=>
  simp only[sumTo];by_cases e:a=n
  ·subst e
   rw[sumN_zero a (fun v hv=>h v (by omega) (by omega))];omega
  ·rw[ih (by omega) (fun v hv hne=>h v (by omega) hne),h n (by omega) (by omega)]
   omega
theorem sumN_two (n:Nat) {f:Nat→Int} (a b:Nat) (ha:a<n) (hb:b<n) (hab:a≠b) (h: ∀ v,v<n→v≠a→v≠b→f v=0):sumTo n f=f a+f b:=by
 have h1:sumTo n f=sumTo n (fun v=>(if v=a then f v else 0)+(if v=a then 0 else f v)):=sumTo_congr n (fun v hv=>by split<;>omega);rw[h1,sumTo_add,sumN_one n a ha (fun v hv hne=>Yy hne),sumN_one n b hb (fun v hv hne=>by
  by_cases e:v=a
  ·rw[Yx e]
  ·rw[Yy e];exact h v hv e hne),Yx rfl,Yy (Ne.symm hab)]
theorem sumN_ge (n:Nat) {f:Nat→Int} (a:Nat) (ha:a<n) (h: ∀ v,v<n→v≠a→0≤f v):f a≤sumTo n f:=by
 have h1:sumTo n (fun v=>if v=a then f v else 0)=f a:=by
  rw[sumN_one n a ha (fun v hv hne=>Yy hne),Yx rfl]
 rw[← h1];refine sumN_le n fun v hv=> ?_
 by_cases e:v=a
 ·rw[Yx e];exact Int.le_refl _
 ·rw[Yy e];exact h v hv e
theorem sumN_tele (st:Int→Int): ∀ n:Nat,sumTo n (fun k=>st k - st ((k:Int) - 1))=st ((n:Int) - 1) - st (-1)
 |0=>by simp[sumTo]
 |n+1=>by
  simp only[sumTo];rw[sumN_tele st n];have e:(((n+1:Nat):Int) - 1)=(n:Int):=by omega
  rw[e];omega
theorem abel (S:Int→Bool) (st:Int→Int) (h0:st (-1)=0): ∀ n:Nat,(∀ k:Nat,k≤n→0≤st k)→(∀ k:Nat,k<n→S k=true→S ((k:Int)+1)=true)→
  sumTo (n+1) (fun k=>if S k=true then st k - st ((k:Int) - 1) else 0)≤if S n=true then st n else 0
 |0,hs,hr=>by
  simp only[sumTo];have e:((0:Nat):Int) - 1= -1:=rfl;rw[e,h0];split<;>omega
 |n+1,hs,hr=>by
  have ih:=abel S st h0 n (fun k hk=>hs k (by omega)) (fun k hk=>hr k (by omega));have e:(((n+1:Nat):Int) - 1)=(n:Int):=by omega
  have h1:=hs n (by omega);have h2:=hr n (by omega);have e2:((n:Int)+1)=((n+1:Nat):Int):=by omega
  rw[e2] at h2;rw[sumTo];simp only[e];cases c:S (n:Int) with
  |true=>
   rw[Yx c] at ih;rw[Yx (h2 c),Yx (h2 c)];omega
  |false=>
   rw[Yy (by rw[c];simp)] at ih;split<;>omega
def arcM (l:List S73) (e:S61):S73:=rd_T73 l e.f0
def stockE (l:List S73) (v k:Int) (e:S61):Int:=(if (arcM l e).f1=v∧e.f1+(arcM l e).f3≤k then e.f2 else 0) - (if (arcM l e).f0=v∧e.f1≤k then e.f2 else 0)
def sumM (f:S61→Int):List S61→Int
 |[]=>0
 |e::m=>f e+sumM f m
theorem sumM_le {f g:S61→Int} : ∀ m,(∀ e,e∈m→f e≤g e)→sumM f m≤sumM g m
 |[],_=>Int.le_refl _
 |e::m,h=>by
  have h1:=h e List.mem_cons_self;have h2:=sumM_le m (fun e he=>h e (List.mem_cons_of_mem _ he));simp only[sumM];omega
theorem sumM_congr {f g:S61→Int} : ∀ m,(∀ e,e∈m→f e=g e)→sumM f m=sumM g m
 |[],_=>rfl
 |e::m,h=>by simp only[sumM];rw[h e List.mem_cons_self,sumM_congr m (fun e he=>h e (List.mem_cons_of_mem _ he))]
theorem sumM_swap (n:Nat) (F:Nat→S61→Int): ∀ m,sumM (fun e=>sumTo n (fun v=>F v e)) m=sumTo n (fun v=>sumM (F v) m)
 |[]=>by simp only[sumM];rw[sumN_zero n (fun _ _=>rfl)]
 |e::m=>by
  simp only[sumM];rw[sumM_swap n F m,sumTo_add]
def stockL (l:List S73) (m:List S61) (v k:Int):Int:=sumM (stockE l v k) m
structure MoveOk (l:List S73) (n:Nat) (s t:Int) (h:Nat) (e:S61):Prop where
 a0:0≤e.f0
 a1:e.f0<l.length
 t0:0≤e.f1
 time:0≤(arcM l e).f3
 arr:e.f1+(arcM l e).f3≤h
 n0:0≤e.f2
 cap:e.f2≤(arcM l e).f2
 from0:0≤(arcM l e).f0
 from1:(arcM l e).f0<n
 to0:0≤(arcM l e).f1
 to1:(arcM l e).f1<n
def wgtE (S:Int→Int→Bool) (l:List S73) (v:Int) (e:S61):Int:=(if (arcM l e).f0=v∧S v e.f1=true then e.f2 else 0) - (if (arcM l e).f1=v∧S v (e.f1+(arcM l e).f3)=true then e.f2 else 0)
theorem pick (S:Int→Bool) (n:Nat) (a:Int) (N:Int) (h0:0≤a) (h1:a<n):sumTo n (fun k=>if S k=true then(if (k:Int)=a then N else 0) else 0)=if S a=true then N else 0:=by
 obtain⟨b,rfl⟩: ∃ b:Nat,a=b:=⟨a.toNat,by omega⟩;have hz: ∀ v:Nat,v<n→v≠b→(if S (v:Int)=true then(if (v:Int)=(b:Int) then N else 0) else 0)=0:=fun v hv hne=>by
  split
  ·rw[Yy (by omega)]
  ·rfl
 rw[sumN_one n b (by omega) hz,Yx rfl]
theorem wgt_sum {S:Int→Int→Bool} {l:List S73} {n:Nat} {s t:Int} {h:Nat} (v:Int) {e:S61} (he:MoveOk l n s t h e):
  wgtE S l v e= -sumTo (h+1) (fun k=>if S v k=true then stockE l v k e - stockE l v ((k:Int) - 1) e else 0):=by
 have h1:=he.t0;have h2:=he.time;have h3:=he.arr;have e1:sumTo (h+1) (fun k=>if S v k=true then stockE l v k e - stockE l v ((k:Int) - 1) e else 0)=
   sumTo (h+1) (fun k=>(if S v k=true then(if (k:Int)=e.f1+(arcM l e).f3 then(if (arcM l e).f1=v then e.f2 else 0) else 0) else 0) - (if S v k=true then(if (k:Int)=e.f1 then(if (arcM l e).f0=v then e.f2 else 0) else 0) else 0)):=by
  refine sumTo_congr _ fun k hk=> ?_
  by_cases c:S v k=true
  ·rw[Yx c,Yx c,Yx c]
   unfold stockE;by_cases c1:(arcM l e).f1=v<;>by_cases c2:(arcM l e).f0=v<;>simp only[c1,c2,true_and,false_and,if_true,if_false,and_true]<;>(repeat' split)<;>omega
  ·rw[Yy c,Yy c,Yy c];rfl
 rw[e1,sumTo_sub,pick (S v) (h+1) _ _ (by omega) (by omega),pick (S v) (h+1) _ _ (by omega) (by omega)];unfold wgtE;by_cases c1:(arcM l e).f1=v<;>by_cases c2:(arcM l e).f0=v<;>simp only[c1,c2,true_and,false_and,if_true,if_false]<;>(repeat' split)<;>omega
theorem wgt_list {S:Int→Int→Bool} {l:List S73} {n:Nat} {s t:Int} {h:Nat} (v:Int): ∀ {m:List S61},(∀ e,e∈m→MoveOk l n s t h e)→
  sumM (wgtE S l v) m= -sumTo (h+1) (fun k=>if S v k=true then stockL l m v k - stockL l m v ((k:Int) - 1) else 0)
 |[],_=>by
  rw[sumN_zero _ (fun k _=>by unfold stockL sumM;split<;>rfl)];rfl
 |e::m,hm=>by
  have ih:=wgt_list (S:=S) v (m:=m) (fun e he=>hm e (List.mem_cons_of_mem _ he));have h1:=wgt_sum (S:=S) v (hm e List.mem_cons_self);have e1:sumTo (h+1) (fun k=>if S v k=true then stockL l (e::m) v k - stockL l (e::m) v ((k:Int) - 1) else 0)=
    sumTo (h+1) (fun k=>(if S v k=true then stockE l v k e - stockE l v ((k:Int) - 1) e else 0)+(if S v k=true then stockL l m v k - stockL l m v ((k:Int) - 1) else 0)):=by
   refine sumTo_congr _ fun k hk=> ?_
   unfold stockL;simp only[sumM];split<;>omega
  rw[e1,sumTo_add];simp only[sumM];rw[ih,h1];omega
end Q
namespace Q
open P
open H
variable {S:Int→Int→Bool} {l:List S73} {n:Nat} {s t:Int} {h:Nat}
theorem sumM_zero {f:S61→Int} : ∀ m,(∀ e,e∈m→f e=0)→sumM f m=0
 |[],_=>rfl
 |e::m,hf=>by simp only[sumM];rw[hf e List.mem_cons_self,sumM_zero m (fun e he=>hf e (List.mem_cons_of_mem _ he))];rfl
theorem pickN (n:Nat) (a:Int) (N:Int) (P:Int→Prop) [∀ v,Decidable (P v)] (h0:0≤a) (h1:a<n):sumTo n (fun v=>if a=(v:Int)∧P v then N else 0)=if P a then N else 0:=by
 obtain⟨b,rfl⟩: ∃ b:Nat,a=b:=⟨a.toNat,by omega⟩;have hz: ∀ v:Nat,v<n→v≠b→(if (b:Int)=(v:Int)∧P v then N else 0)=0:=fun v hv hne=>Yy (fun hh=>hne (by omega))
 rw[sumN_one n b (by omega) hz];by_cases c:P (b:Int)
 ·rw[Yx ⟨rfl,c⟩,Yx c]
 ·rw[Yy (fun hh=>c hh.2),Yy c]
theorem total_zero {m:List S61} (hm: ∀ e,e∈m→MoveOk l n s t h e):sumTo n (fun v=>stockL l m (v:Int) h)=0:=by
 have e1:sumTo n (fun v=>stockL l m (v:Int) h)=sumM (fun e=>sumTo n (fun v=>stockE l (v:Int) h e)) m:=(sumM_swap n (fun v e=>stockE l (v:Int) h e) m).symm;rw[e1];refine sumM_zero m fun e he=> ?_
 have h1:=hm e he;have h2:=h1.arr;have h3:=h1.t0;have h4:=h1.time;unfold stockE;rw[sumTo_sub,pickN n _ _ (fun _=>e.f1+(arcM l e).f3≤h) h1.to0 h1.to1,pickN n _ _ (fun _=>e.f1≤h) h1.from0 h1.from1,Yx h2,Yx (by omega)];omega
theorem wgt_total {m:List S61} (hm: ∀ e,e∈m→MoveOk l n s t h e):sumTo n (fun v=>sumM (wgtE S l (v:Int)) m)=sumM (fun e=>(if S (arcM l e).f0 e.f1=true then e.f2 else 0) - (if S (arcM l e).f1 (e.f1+(arcM l e).f3)=true then e.f2 else 0)) m:=by
 rw[← sumM_swap n (fun v e=>wgtE S l (v:Int) e) m];refine sumM_congr m fun e he=> ?_
 have h1:=hm e he;unfold wgtE;rw[sumTo_sub,pickN n _ _ (fun v=>S v e.f1=true) h1.from0 h1.from1,pickN n _ _ (fun v=>S v (e.f1+(arcM l e).f3)=true) h1.to0 h1.to1]
theorem stock_first {m:List S61} (hm: ∀ e,e∈m→MoveOk l n s t h e) (v:Int):stockL l m v (-1)=0:=by
 unfold stockL;refine sumM_zero m fun e he=> ?_
 have h1:=hm e he;have h3:=h1.t0;have h4:=h1.time;unfold stockE;rw[Yy (fun c=>by omega),Yy (fun c=>by omega)];rfl
def outM (S:Int→Int→Bool) (l:List S73) (e:S61):Int:=if (S (arcM l e).f0 e.f1 && !S (arcM l e).f1 (e.f1+(arcM l e).f3))=true then e.f2 else 0
theorem flow_cut {m:List S61} {s0 t0:Nat} (hm: ∀ e,e∈m→MoveOk l n s t h e) (hs:s0<n) (ht:t0<n) (hst:s0≠t0) (hS: ∀ k:Nat,k<h+1→S s0 k=true∧S t0 k=false)
  (hk: ∀ v:Nat,v<n→v≠s0→v≠t0→stockL l m (v:Int) h=0∧(((∀ k:Nat,k≤h→0≤stockL l m (v:Int) k)∧ ∀ k:Nat,k<h→S v k=true→S v ((k:Int)+1)=true)∨ ∀ k:Nat,k≤h→stockL l m (v:Int) k=0)):
  stockL l m (t0:Int) h≤sumM (outM S l) m:=by
 have w0: ∀ v:Nat,sumM (wgtE S l (v:Int)) m= -sumTo (h+1) (fun k=>if S v k=true then stockL l m v k - stockL l m v ((k:Int) - 1) else 0):=fun v=>wgt_list (v:Int) hm
 have f0:=fun v=>stock_first hm v
 have ws:sumM (wgtE S l (s0:Int)) m= -stockL l m (s0:Int) h:=by
  rw[w0 s0];have e1:sumTo (h+1) (fun k=>if S s0 k=true then stockL l m s0 k - stockL l m s0 ((k:Int) - 1) else 0)=sumTo (h+1) (fun k=>stockL l m s0 k - stockL l m s0 ((k:Int) - 1)):=sumTo_congr _ fun k hk2=>Yx (hS k hk2).1
  rw[e1,sumN_tele (fun k=>stockL l m s0 k) (h+1),f0];have e2:(((h+1:Nat):Int) - 1)=(h:Int):=by omega
  rw[e2];omega
 have wt:sumM (wgtE S l (t0:Int)) m=0:=by
  rw[w0 t0,sumN_zero (h+1) (fun k hk2=>Yy (by rw[(hS k hk2).2];simp))];rfl
 have wv: ∀ v:Nat,v<n→v≠s0→0≤sumM (wgtE S l (v:Int)) m:=by
  intro v hv hne;by_cases e:v=t0
  ·subst e;rw[wt];exact Int.le_refl _
  ·obtain⟨g1,g2⟩:=hk v hv hne e
   rw[w0 v];rcases g2 with ⟨g3,g4⟩|g3
   ·have h1:=abel (S v) (fun k=>stockL l m (v:Int) k) (f0 v) h g3 g4
    simp only[g1] at h1;have h2:sumTo (h+1) (fun k=>if S v k=true then stockL l m v k - stockL l m v ((k:Int) - 1) else 0)≤0:=by
     refine Int.le_trans h1 ?_;split<;>exact Int.le_refl _
    omega
   ·rw[sumN_zero (h+1) (fun k hk2=>by
     split
     ·rw[g3 k (by omega)]
      by_cases e0:k=0
      ·subst e0
       have:=f0 (v:Int);show 0 - stockL l m (v:Int) (-1)=0;omega
      ·have e3:((k:Int) - 1)=((k - 1:Nat):Int):=by omega
       rw[e3,g3 (k - 1) (by omega)];rfl
     ·rfl)]
    exact Int.le_refl _
 have h1:=sumN_ge n (f:=fun v=>sumM (wgtE S l (v:Int)) m) s0 hs wv;rw[wgt_total hm,ws] at h1;have h2:=total_zero hm;rw[sumN_two n s0 t0 hs ht hst (fun v hv a b=>(hk v hv a b).1)] at h2;have h3:sumM (fun e=>(if S (arcM l e).f0 e.f1=true then e.f2 else 0) - (if S (arcM l e).f1 (e.f1+(arcM l e).f3)=true then e.f2 else 0)) m≤sumM (outM S l) m:=by
  refine sumM_le m fun e he=> ?_
  have:=(hm e he).n0;unfold outM;cases S (arcM l e).f0 e.f1<;>cases S (arcM l e).f1 (e.f1+(arcM l e).f3)<;>simp<;>omega
 omega
theorem takes_sum (S:Int→Int→Bool) (h:Int): ∀ l:List S73,takesL S h l=sumTo l.length (fun j=>takesA S h (rd_T73 l (j:Int)))
 |[]=>rfl
 |a::l=>by
  have e: ∀ k:Nat,sumTo (k+1) (fun j=>takesA S h (rd_T73 (a::l) (j:Int)))=takesA S h a+sumTo k (fun j=>takesA S h (rd_T73 l (j:Int))):=by
   intro k
   induction k with
   |zero=>
    simp only[sumTo];have e2:rd_T73 (a::l) ((0:Nat):Int)=a:=by rw[rdArc_nat];rfl
    rw[e2];omega
   |succ k ih=>
    rw[sumTo,ih];have e2:rd_T73 (a::l) ((k+1:Nat):Int)=rd_T73 l (k:Int):=by rw[rdArc_nat,rdArc_nat];rfl
    rw[e2];simp only[sumTo];omega
  show takesA S h a+takesL S h l=_;rw[takes_sum S h l];exact(e l.length).symm
def Apart (m:List S61):Prop:=m.Pairwise fun a b=> ¬ (a.f0=b.f0∧a.f1=b.f1)
theorem key_le {j k:Int} {c:Int} (hc:0≤c) (f:S61→Int): ∀ m:List S61,Apart m→(∀ e,e∈m→e.f0=j→e.f1=k→f e≤c)→sumM (fun e=>if e.f0=j∧e.f1=k then f e else 0) m≤c
 |[],_,_=>hc
 |e::m,hp,hf=>by
  unfold Apart at hp;rw[List.pairwise_cons] at hp;simp only[sumM];by_cases g:e.f0=j∧e.f1=k
  ·rw[Yx g,sumM_zero m (fun e' he'=>Yy (fun g'=>hp.1 e' he' ⟨g.1.trans g'.1.symm,g.2.trans g'.2.symm⟩))]
   have:=hf e List.mem_cons_self g.1 g.2;omega
  ·rw[Yy g]
   have:=key_le (j:=j) (k:=k) hc f m hp.2 (fun e' he'=>hf e' (List.mem_cons_of_mem _ he'));omega
theorem out_le {m:List S61} (hm: ∀ e,e∈m→MoveOk l n s t h e) (hp:Apart m) (hcap: ∀ a,a∈l→0≤a.f2):sumM (outM S l) m≤takesL S h l:=by
 rw[takes_sum S h l];have e1:sumM (outM S l) m=sumM (fun e=>sumTo l.length (fun j=>sumTo (times h (rd_T73 l (j:Int))) (fun k=>if e.f0=(j:Int)∧e.f1=(k:Int) then outM S l e else 0))) m:=by
  refine sumM_congr m fun e he=> ?_
  have h1:=hm e he;have h2:=h1.arr;have h3:=h1.t0;have h4:=h1.time;have h5:=h1.a0;have h6:=h1.a1;obtain⟨j0,hj⟩: ∃ j0:Nat,e.f0=j0:=⟨e.f0.toNat,by omega⟩;obtain⟨k0,hk⟩: ∃ k0:Nat,e.f1=k0:=⟨e.f1.toNat,by omega⟩;have hA:arcM l e=rd_T73 l (j0:Int):=by unfold arcM;rw[hj]
  have hT:k0<times h (rd_T73 l (j0:Int)):=by
   unfold times;rw[← hA];omega
  have hz: ∀ j:Nat,j<l.length→j≠j0→sumTo (times h (rd_T73 l (j:Int))) (fun k=>if e.f0=(j:Int)∧e.f1=(k:Int) then outM S l e else 0)=0:=fun j _ hne=>sumN_zero _ fun k _=>Yy (fun g=>hne (by omega))
  have hz2: ∀ k:Nat,k<times h (rd_T73 l (j0:Int))→k≠k0→(if e.f0=(j0:Int)∧e.f1=(k:Int) then outM S l e else 0)=0:=fun k _ hne=>Yy (fun g=>hne (by omega))
  rw[sumN_one l.length j0 (by omega) hz,sumN_one _ k0 hT hz2,Yx ⟨hj,hk⟩]
 rw[e1,sumM_swap];refine sumN_le l.length fun j hj=> ?_
 rw[sumM_swap];unfold takesA;refine sumN_le _ fun k hk=> ?_
 have hmem:rd_T73 l (j:Int)∈l:=by rw[rdArc_nat];exact getD_mem hj
 have hc0:0≤takeAt S (rd_T73 l (j:Int)) k:=by
  unfold takeAt;split
  ·exact hcap _ hmem
  ·exact Int.le_refl _
 refine key_le hc0 (outM S l) m hp fun e he g1 g2=> ?_
 have h1:=hm e he;have hA:arcM l e=rd_T73 l (j:Int):=by unfold arcM;rw[g1]
 have h2:=h1.cap;unfold outM takeAt;rw[hA] at h2 ⊢;rw[g2];split
 ·exact h2
 ·exact Int.le_refl _
theorem plan_cut {m:List S61} {s0 t0:Nat} (hm: ∀ e,e∈m→MoveOk l n s t h e) (hp:Apart m) (hcap: ∀ a,a∈l→0≤a.f2) (hs:s0<n) (ht:t0<n) (hst:s0≠t0) (hS: ∀ k:Nat,k<h+1→S s0 k=true∧S t0 k=false)
  (hk: ∀ v:Nat,v<n→v≠s0→v≠t0→stockL l m (v:Int) h=0∧(((∀ k:Nat,k≤h→0≤stockL l m (v:Int) k)∧ ∀ k:Nat,k<h→S v k=true→S v ((k:Int)+1)=true)∨ ∀ k:Nat,k≤h→stockL l m (v:Int) k=0)):
  stockL l m (t0:Int) h≤takesL S h l:=Int.le_trans (flow_cut hm hs ht hst hS hk) (out_le hm hp hcap)
end Q
namespace Q
open P
open H
theorem rdMove_nat (l:List S61) (i:Nat):rd_T61 l (i:Int)=l.getD i z61:=by unfold rd_T61;rw[Int.toNat_natCast]
theorem sum_l0 (xs:List Int) (hx:xs.length≤1000) (d:Nat): ∀ (i:Nat) (a b:Int),i+d=xs.length→ ∃ r,Ev (fun k=>ebbtideref01_Sum.l0 k xs a b (i:Int)) r:=by
 induction d with
 |zero=>
  intro i a b hi;by_cases c1:wrap64 (a+b / 4294967296)< -2147483648
  ·refine⟨(0,false),?_⟩
   refine Ev.succ ?_;simp only[ebbtideref01_Sum.l0];exact Ev.neg (by omega) (Ev.pos c1 (Ev.now _))
  ·by_cases c2:wrap64 (a+b / 4294967296)≥2147483648
   ·refine⟨(0,false),?_⟩
    refine Ev.succ ?_;simp only[ebbtideref01_Sum.l0];exact Ev.neg (by omega) (Ev.neg c1 (Ev.pos c2 (Ev.now _)))
   ·refine⟨(wrap64 (wrap64 (wrap64 (a+b / 4294967296) * 4294967296)+Go.bits .and .i64 b 4294967295),true),?_⟩
    refine Ev.succ ?_;simp only[ebbtideref01_Sum.l0];exact Ev.neg (by omega) (Ev.neg c1 (Ev.neg c2 (Ev.now _)))
 |succ d ih=>
  intro i a b hi;obtain⟨r,h⟩:=ih (i+1) (wrap64 (a+rd xs (i:Int) / 4294967296)) (wrap64 (b+Go.bits .and .i64 (rd xs (i:Int)) 4294967295)) (by omega);refine⟨r,?_⟩;refine Ev.succ ?_;simp only[ebbtideref01_Sum.l0];refine Ev.pos (by omega) (Ev.pos (by omega) ?_);rw[wrap_succ (n:=xs.length) (by omega) (by omega)];exact h
theorem sum_ev (xs:List Int) (hx:xs.length≤1000): ∃ r,Ev (fun k=>ebbtideref01_Sum.f k xs) r:=sum_l0 xs hx xs.length 0 0 0 (by omega)
def SameK (a b:S61):Prop:=a.f0=b.f0∧a.f1=b.f1
def KeyA (x:List S61):Prop:= ∀ i j:Nat,i<x.length→j<x.length→i≠j→ ¬ SameK (x.getD i z61) (x.getD j z61)
theorem keyA_apart {x:List S61} (h:KeyA x):Apart x:=by
 unfold Apart;rw[List.pairwise_iff_getElem];intro i j hi hj hij hk;refine h i j hi hj (by omega) ?_;unfold SameK;rw[List.getD_eq_getElem?_getD,List.getD_eq_getElem?_getD,List.getElem?_eq_getElem hi,List.getElem?_eq_getElem hj];exact hk
theorem keyA_swap {x:List S61} (h:KeyA x) {i j:Nat} (hi:i<x.length) (hj:j<x.length) (hne:i≠j):KeyA ((x.set i (x.getD j z61)).set j (x.getD i z61)):=by
 have hl:((x.set i (x.getD j z61)).set j (x.getD i z61)).length=x.length:=by rw[List.length_set,List.length_set]
 have hg: ∀ k,((x.set i (x.getD j z61)).set j (x.getD i z61)).getD k z61=x.getD (if j=k then i else if i=k then j else k) z61:=fun k=>by
  rw[getD_set _ _ _ _ _ (by rw[List.length_set];exact hj),getD_set _ _ _ _ _ hi];by_cases e1:j=k
  ·rw[Yx e1,Yx e1]
  ·rw[Yy e1,Yy e1]
   by_cases e2:i=k
   ·rw[Yx e2,Yx e2]
   ·rw[Yy e2,Yy e2]
 intro a b ha hb hab;rw[hl] at ha hb;rw[hg,hg];refine h _ _ ?_ ?_ ?_
 ·split
  ·exact hi
  ·split
   ·exact hj
   ·exact ha
 ·split
  ·exact hi
  ·split
   ·exact hj
   ·exact hb
 ·split<;>split<;>(try split)<;>(try split)<;>omega
theorem keyA_snoc {x:List S61} (h:KeyA x) {e:S61} (hf: ∀ y,y∈x→ ¬ SameK y e):KeyA (x ++ [e]):=by
 have hg: ∀ k,k<(x ++ [e]).length→(x ++ [e]).getD k z61=if k<x.length then x.getD k z61 else e:=fun k hk=>by
  rw[List.length_append,List.length_singleton] at hk;by_cases c:k<x.length
  ·rw[Yx c,List.getD_eq_getElem?_getD,List.getElem?_append_left c,List.getD_eq_getElem?_getD]
  ·rw[Yy c,List.getD_eq_getElem?_getD,List.getElem?_append_right (by omega),show k - x.length=0 by omega];rfl
 intro a b ha hb hab;rw[hg a ha,hg b hb];rw[List.length_append,List.length_singleton] at ha hb;by_cases c1:a<x.length
 ·by_cases c2:b<x.length
  ·rw[Yx c1,Yx c2];exact h a b c1 c2 hab
  ·rw[Yx c1,Yy c2];exact hf _ (getD_mem c1)
 ·by_cases c2:b<x.length
  ·rw[Yy c1,Yx c2]
   exact fun hk=>hf _ (getD_mem c2) ⟨hk.1.symm,hk.2.symm⟩
  ·omega
theorem moves_l3 (x0:List S61) (h0:x0.length≤1000) (n:Nat) (hn:n<x0.length): ∀ (i:Nat) (x:List S61),i<x.length→x.length≤1000→KeyA x→
  ∃ y,(∀ z,z∈y↔z∈x)∧y.length=x.length∧KeyA y∧ ∀ R,Ev (fun k=>ebbtideref03_Moves.l0 k x0 y ((n+1:Nat):Int)) R→Ev (fun k=>ebbtideref03_Moves.l3 k x0 x (n:Int) (i:Int)) R
 |0,x,hi,hx,hK=>⟨x,fun z=>Iff.rfl,rfl,hK,fun R h=>by
  refine Ev.succ ?_;simp only[ebbtideref03_Moves.l3];refine Ev.neg (by omega) ?_;rw[wrap_succ (n:=x0.length) hn (by omega)];exact h⟩
 |i+1,x,hi,hx,hK=>by
  have hw:wrap64 (((i+1:Nat):Int) - 1)=(i:Int):=by rw[wrap_id (by omega) (by omega)];omega
  have r1:rd_T61 x ((i+1:Nat):Int)=x.getD (i+1) z61:=rdMove_nat x (i+1);have r0:rd_T61 x (i:Int)=x.getD i z61:=rdMove_nat x i;have hsm:=fun z=>swap_mem z61 x (i:=i+1) (j:=i) hi (by omega) (by omega) z
  obtain⟨y,y1,y2,y4,y3⟩:=moves_l3 x0 h0 n hn i ((x.set (i+1) (x.getD i z61)).set i (x.getD (i+1) z61)) (by rw[List.length_set,List.length_set];omega) (by rw[List.length_set,List.length_set];omega) (keyA_swap hK hi (by omega) (by omega));by_cases c1:(x.getD (i+1) z61).f1<(x.getD i z61).f1
  ·refine⟨y,fun z=>(y1 z).trans (hsm z),by rw[y2,List.length_set,List.length_set],y4,fun R h=> ?_⟩
   have h3:=y3 R h;refine Ev.succ ?_;simp only[ebbtideref03_Moves.l3];rw[hw,r1,r0];refine Ev.pos (by omega) (Ev.pos (by omega) (Ev.pos (by omega) (Ev.pos (by omega) (Ev.pos (by omega) (Ev.pos c1 ?_)))));rw[Int.toNat_natCast,Int.toNat_natCast];exact h3
  ·by_cases c2:(x.getD (i+1) z61).f1=(x.getD i z61).f1∧(x.getD (i+1) z61).f0<(x.getD i z61).f0
   ·refine⟨y,fun z=>(y1 z).trans (hsm z),by rw[y2,List.length_set,List.length_set],y4,fun R h=> ?_⟩
    have h3:=y3 R h;refine Ev.succ ?_;simp only[ebbtideref03_Moves.l3];rw[hw,r1,r0];refine Ev.pos (by omega) (Ev.pos (by omega) (Ev.pos (by omega) (Ev.pos (by omega) (Ev.pos (by omega) (Ev.neg c1 (Ev.pos c2.1 (Ev.pos c2.2 ?_)))))));rw[Int.toNat_natCast,Int.toNat_natCast];exact h3
   ·refine⟨x,fun z=>Iff.rfl,rfl,hK,fun R h=> ?_⟩
    refine Ev.succ ?_;simp only[ebbtideref03_Moves.l3];rw[hw,r1,r0,wrap_succ (n:=x0.length) hn (by omega)];refine Ev.pos (by omega) (Ev.pos (by omega) (Ev.pos (by omega) (Ev.pos (by omega) (Ev.pos (by omega) (Ev.neg c1 ?_)))));by_cases c3:(x.getD (i+1) z61).f1=(x.getD i z61).f1
    ·exact Ev.pos c3 (Ev.neg (fun c4=>c2 ⟨c3,c4⟩) h)
    ·exact Ev.neg c3 h
theorem moves_l2 (x0:List S61) (h0:x0.length≤500) (n:Nat) (hn:n<x0.length) (x:List S61) (hx:x.length≤500) (d:Nat): ∀ (i:Nat) (acc:List Int),i+d=x0.length→acc.length≤i→
  ∃ (s:Int) (b:Bool), ∀ R,(b=true→s=0→Ev (fun k=>ebbtideref03_Moves.l0 k x0 x ((n+1:Nat):Int)) R)→(b=true→s≠0→Ev (fun k=>ebbtideref03_Moves.l3 k x0 (x ++ [⟨(x0.getD n z61).f0,(x0.getD n z61).f1,s⟩]) (n:Int) (x.length:Int)) R)→(b=false→R=([],10))→
   Ev (fun k=>ebbtideref03_Moves.l2 k x0 x (n:Int) acc (i:Int)) R:=by
 have rn:rd_T61 x0 (n:Int)=x0.getD n z61:=rdMove_nat x0 n
 induction d with
 |zero=>
  intro i acc hi ha;obtain⟨⟨s,b⟩,hs⟩:=sum_ev acc (by omega);refine⟨s,b,fun R h1 h2 h3=> ?_⟩;refine Ev.succ ?_;simp only[ebbtideref03_Moves.l2];refine Ev.neg (by omega) (Ev.bind hs ?_);rw[wrap_succ (n:=x0.length) hn (by omega),rn];by_cases cb:b=true
  ·refine Ev.pos cb ?_
   by_cases c:s=0
   ·exact Ev.pos c (h1 cb c)
   ·refine Ev.neg c (Ev.pos (by omega) (Ev.pos (by omega) (Ev.pos (by omega) (Ev.let_ ?_))))
    have h:=h2 cb c;have hw:wrap64 (((x ++ [(⟨(x0.getD n z61).f0,(x0.getD n z61).f1,s⟩:S61)]).length:Int) - 1)=(x.length:Int):=by
     rw[List.length_append,List.length_singleton,wrap_id (by omega) (by omega)];omega
    show Ev (fun k=>ebbtideref03_Moves.l3 k x0 (x ++ [(⟨(x0.getD n z61).f0,(x0.getD n z61).f1,s⟩:S61)]) (n:Int) (wrap64 (((x ++ [(⟨(x0.getD n z61).f0,(x0.getD n z61).f1,s⟩:S61)]).length:Int) - 1))) R;rw[hw];exact h
  ·refine Ev.neg cb ?_
   rw[h3 (by cases b<;>simp_all)];exact Ev.now _
 |succ d ih=>
  intro i acc hi ha;have hil:i<x0.length:=by omega
  by_cases c1:(rd_T61 x0 (i:Int)).f0=(rd_T61 x0 (n:Int)).f0
  ·by_cases c2:(rd_T61 x0 (i:Int)).f1=(rd_T61 x0 (n:Int)).f1
   ·obtain⟨s,b,h⟩:=ih (i+1) (acc ++ [(rd_T61 x0 (i:Int)).f2]) (by omega) (by simp;omega)
    refine⟨s,b,fun R h1 h2 h3=> ?_⟩;have h:=h R h1 h2 h3;refine Ev.succ ?_;simp only[ebbtideref03_Moves.l2];rw[wrap_succ (n:=x0.length) hil (by omega)];exact Ev.pos (by omega) (Ev.pos (by omega) (Ev.pos (by omega) (Ev.pos (by omega) (Ev.pos c1 (Ev.pos c2 (Ev.pos (by omega) h))))))
   ·obtain⟨s,b,h⟩:=ih (i+1) acc (by omega) (by omega)
    refine⟨s,b,fun R h1 h2 h3=> ?_⟩;have h:=h R h1 h2 h3;refine Ev.succ ?_;simp only[ebbtideref03_Moves.l2];rw[wrap_succ (n:=x0.length) hil (by omega)];exact Ev.pos (by omega) (Ev.pos (by omega) (Ev.pos (by omega) (Ev.pos (by omega) (Ev.pos c1 (Ev.neg c2 h)))))
  ·obtain⟨s,b,h⟩:=ih (i+1) acc (by omega) (by omega)
   refine⟨s,b,fun R h1 h2 h3=> ?_⟩;have h:=h R h1 h2 h3;refine Ev.succ ?_;simp only[ebbtideref03_Moves.l2];rw[wrap_succ (n:=x0.length) hil (by omega)];exact Ev.pos (by omega) (Ev.pos (by omega) (Ev.pos (by omega) (Ev.pos (by omega) (Ev.neg c1 h))))
theorem moves_l1 (x0:List S61) (h0:x0.length≤500) (n:Nat) (hn:n<x0.length) (x:List S61) (R:List S61 × Int)
  (hyes:(∀ j:Nat,j<n→ ¬ SameK (x0.getD j z61) (x0.getD n z61))→Ev (fun k=>ebbtideref03_Moves.l2 k x0 x (n:Int) [] (n:Int)) R) (hno:(¬ ∀ j:Nat,j<n→ ¬ SameK (x0.getD j z61) (x0.getD n z61))→Ev (fun k=>ebbtideref03_Moves.l0 k x0 x ((n+1:Nat):Int)) R) (d:Nat):
  ∀ (i:Nat) (b:Bool),i+d=n→(b=true↔ ∀ j:Nat,j<i→ ¬ SameK (x0.getD j z61) (x0.getD n z61))→Ev (fun k=>ebbtideref03_Moves.l1 k x0 x (n:Int) b (i:Int)) R:=by
 have rn:rd_T61 x0 (n:Int)=x0.getD n z61:=rdMove_nat x0 n
 induction d with
 |zero=>
  intro i b hi hb;refine Ev.succ ?_;simp only[ebbtideref03_Moves.l1];refine Ev.neg (by omega) ?_;rw[wrap_succ (n:=x0.length) hn (by omega)];by_cases c:b=true
  ·exact Ev.pos c (hyes fun j hj=>hb.1 c j (by omega))
  ·exact Ev.neg c (hno fun h=>c (hb.2 fun j hj=>h j (by omega)))
 |succ d ih=>
  intro i b hi hb;have hil:i<x0.length:=by omega
  refine Ev.succ ?_;simp only[ebbtideref03_Moves.l1];refine Ev.pos (by omega) ?_;rw[wrap_succ (n:=x0.length) hil (by omega),rn,rdMove_nat];by_cases c:b=true
  ·refine Ev.pos c (Ev.pos (by omega) (Ev.pos (by omega) (Ev.pos (by omega) (Ev.pos (by omega) ?_))))
   have hnext: ∀ b2:Bool,(b2=true↔ ¬ SameK (x0.getD i z61) (x0.getD n z61))→(b2=true↔ ∀ j:Nat,j<i+1→ ¬ SameK (x0.getD j z61) (x0.getD n z61)):=fun b2 hb2=>by
    rw[hb2];constructor
    ·intro h j hj
     by_cases e:j=i
     ·subst e;exact h
     ·exact hb.1 c j (by omega)
    ·intro h;exact h i (by omega)
   by_cases c1:(x0.getD i z61).f0=(x0.getD n z61).f0
   ·refine Ev.pos c1 (ih (i+1) _ (by omega) (hnext _ ?_))
    rw[bne_iff_ne];exact⟨fun h hk=>h hk.2,fun h hk=>h ⟨c1,hk⟩⟩
   ·exact Ev.neg c1 (ih (i+1) true (by omega) (hnext _ ⟨fun _ hk=>c1 hk.1,fun _=>rfl⟩))
  ·exact Ev.neg c (ih (i+1) false (by omega) ⟨fun h=>(by cases h),fun h=>absurd (hb.2 fun j hj=>h j (by omega)) c⟩)
theorem moves_l0 (x0:List S61) (h0:x0.length≤500) (d:Nat): ∀ (n:Nat) (x:List S61),n+d=x0.length→x.length≤n→KeyA x→(∀ e,e∈x→ ∃ j:Nat,j<n∧SameK e (x0.getD j z61))→
  ∃ r,Ev (fun k=>ebbtideref03_Moves.l0 k x0 x (n:Int)) r∧KeyA r.1∧r.1.length≤x0.length:=by
 induction d with
 |zero=>
  intro n x hn hx hK _;refine⟨(x,0),?_,hK,by show x.length≤_;omega⟩;refine Ev.succ ?_;simp only[ebbtideref03_Moves.l0];exact Ev.neg (by omega) (Ev.now _)
 |succ d ih=>
  intro n x hn hx hK hE;have hnl:n<x0.length:=by omega
  have hEn: ∀ e,e∈x→ ∃ j:Nat,j<n+1∧SameK e (x0.getD j z61):=fun e he=>by
   obtain⟨j,h1,h2⟩:=hE e he;exact⟨j,by omega,h2⟩
  by_cases hfirst: ∀ j:Nat,j<n→ ¬ SameK (x0.getD j z61) (x0.getD n z61)
  ·obtain⟨s,b,hl2⟩:=moves_l2 x0 h0 n hnl x (by omega) (x0.length - n) n [] (by omega) (by simp)
   obtain⟨r0,e0,k0,n0⟩:=ih (n+1) x (by omega) (by omega) hK hEn;by_cases cb:b=true
   ·by_cases cs:s=0
    ·refine⟨r0,?_,k0,n0⟩
     refine Ev.succ ?_;simp only[ebbtideref03_Moves.l0];exact Ev.pos (by omega) (moves_l1 x0 h0 n hnl x r0 (fun _=>hl2 r0 (fun _ _=>e0) (fun _ hs=>absurd cs hs) (fun hb=>by rw[cb] at hb;cases hb)) (fun h=>absurd hfirst h) n 0 true (by omega) ⟨fun _ j hj=>by omega,fun _=>rfl⟩)
    ·have hK1:KeyA (x ++ [(⟨(x0.getD n z61).f0,(x0.getD n z61).f1,s⟩:S61)]):=keyA_snoc hK fun y hy hk=>by
      obtain⟨j,h1,h2⟩:=hE y hy;exact hfirst j h1 ⟨h2.1.symm.trans hk.1,h2.2.symm.trans hk.2⟩
     obtain⟨y,y1,y2,y4,y3⟩:=moves_l3 x0 (by omega) n hnl x.length (x ++ [(⟨(x0.getD n z61).f0,(x0.getD n z61).f1,s⟩:S61)]) (by simp) (by simp;omega) hK1;obtain⟨r1,e1,k1,n1⟩:=ih (n+1) y (by omega) (by rw[y2];simp;omega) y4 fun e he=>by
      rcases List.mem_append.1 ((y1 e).1 he) with g|g
      ·exact hEn e g
      ·rw[List.mem_singleton.1 g]
       exact⟨n,by omega,rfl,rfl⟩
     refine⟨r1,?_,k1,n1⟩;refine Ev.succ ?_;simp only[ebbtideref03_Moves.l0];refine Ev.pos (by omega) (moves_l1 x0 h0 n hnl x r1 (fun _=>hl2 r1 (fun _ hs=>absurd hs cs) (fun _ _=>y3 r1 e1) (fun hb=>by rw[cb] at hb;cases hb)) (fun h=>absurd hfirst h) n 0 true (by omega) ⟨fun _ j hj=>by omega,fun _=>rfl⟩)
   ·refine⟨([],10),?_,fun i j hi _ _=>absurd hi (Nat.not_lt_zero _),Nat.zero_le _⟩
    refine Ev.succ ?_;simp only[ebbtideref03_Moves.l0];exact Ev.pos (by omega) (moves_l1 x0 h0 n hnl x ([],10) (fun _=>hl2 ([],10) (fun hb=>absurd hb cb) (fun hb=>absurd hb cb) (fun _=>rfl)) (fun h=>absurd hfirst h) n 0 true (by omega) ⟨fun _ j hj=>by omega,fun _=>rfl⟩)
  ·obtain⟨r0,e0,k0,n0⟩:=ih (n+1) x (by omega) (by omega) hK hEn
   refine⟨r0,?_,k0,n0⟩;refine Ev.succ ?_;simp only[ebbtideref03_Moves.l0];exact Ev.pos (by omega) (moves_l1 x0 h0 n hnl x r0 (fun h=>absurd h hfirst) (fun _=>e0) n 0 true (by omega) ⟨fun _ j hj=>by omega,fun _=>rfl⟩)
theorem moves_ev (x:List S61) (hx:x.length≤500): ∃ r,Ev (fun k=>ebbtideref03_Moves.f k x) r∧KeyA r.1∧r.1.length≤x.length:=
 moves_l0 x hx x.length 0 [] (by omega) (by simp) (fun i j hi _ _=>absurd hi (Nat.not_lt_zero _)) (fun e he=>by cases he)
end Q
namespace Q
open P
open H
def moveB (l:List S73) (s t h:Int) (e:S61):Bool:=
 decide (0≤e.f0∧e.f0<(l.length:Int)∧0≤e.f1∧e.f1≤h∧e.f1+(rd_T73 l e.f0).f3≤h∧0≤e.f2∧e.f2≤(rd_T73 l e.f0).f2∧(rd_T73 l e.f0).f1≠s∧(rd_T73 l e.f0).f0≠t)
theorem arc_at {n:Int} {l:List S73} (hn:NetOk n l) {i:Int} (h0:0≤i) (h1:i<l.length):ArcOk n (rd_T73 l i):=by
 refine hn.arcs _ ?_;unfold rd_T73;exact getD_mem (by omega)
theorem move_eq {n:Int} (b:Bool) {l:List S73} (hn:NetOk n l) (s t:Int) {h:Int} (h0:0≤h) (h1:h≤1024) (e:S61):ebbtideref14_Move.f n b l s t h e.f0 e.f1 e.f2=some (moveB l s t h e):=by
 unfold ebbtideref14_Move.f moveB;by_cases c1:e.f0<0
 ·rw[Yx c1,Yw (by omega)]
 rw[Yy c1];by_cases c2:e.f0≥(l.length:Int)
 ·rw[Yx c2,Yw (by omega)]
 rw[Yy c2];by_cases c3:e.f1<0
 ·rw[Yx c3,Yw (by omega)]
 rw[Yy c3];by_cases c4:e.f1>h
 ·rw[Yx c4,Yw (by omega)]
 have hA:=arc_at hn (i:=e.f0) (by omega) (by omega);have a3:=hA.f3;have b3:=hA.h3;rw[Yy c4,Yx (by omega),Yx (by omega),wrap_id (by omega) (by omega)];by_cases c5:e.f1+(rd_T73 l e.f0).f3≤h
 ·rw[Yx c5]
  by_cases c6:e.f2≥0
  ·rw[Yx c6]
   by_cases c7:e.f2≤(rd_T73 l e.f0).f2
   ·rw[Yx c7]
    by_cases c8:(rd_T73 l e.f0).f1=s
    ·rw[Yx c8,Yw (by intro hh;exact hh.2.2.2.2.2.2.2.1 c8)]
    ·rw[Yy c8]
     congr 1;rw[Bool.eq_iff_iff,bne_iff_ne,decide_eq_true_eq];exact⟨fun g=>⟨by omega,by omega,by omega,by omega,c5,c6,c7,c8,g⟩,fun g=>g.2.2.2.2.2.2.2.2⟩
   ·rw[Yy c7,Yw (by intro hh;exact c7 hh.2.2.2.2.2.2.1)]
  ·rw[Yy c6,Yw (by intro hh;exact c6 hh.2.2.2.2.2.1)]
 ·rw[Yy c5,Yw (by intro hh;exact c5 hh.2.2.2.2.1)]
theorem moveB_ok {n0:Nat} {l:List S73} (hn:NetOk n0 l) {s t:Int} {h:Nat} {e:S61} (hb:moveB l s t h e=true):MoveOk l n0 s t h e:=by
 unfold moveB at hb;rw[decide_eq_true_eq] at hb;obtain⟨g1,g2,g3,g4,g5,g6,g7,g8,g9⟩:=hb;have hA:=arc_at hn g1 g2;exact⟨g1,g2,g3,hA.f3,g5,g6,g7,hA.f0,hA.h0,hA.f1,hA.h1⟩
theorem merged_l0 {n:Int} (b:Bool) {l:List S73} (hn:NetOk n l) (s t:Int) {h:Int} (h0:0≤h) (h1:h≤1024) (m:List S61) (hm:m.length≤500) (d:Nat): ∀ i:Nat,i+d=m.length→(∀ j:Nat,j<i→moveB l s t h (m.getD j z61)=true)→
  Ev (fun k=>ebbtideref14_Merged.l0 k s t h m (i:Int) n b l) (if (m.all (moveB l s t h))=true then(m,0) else([],140)):=by
 induction d with
 |zero=>
  intro i hi hg;have hall:m.all (moveB l s t h)=true:=by
   rw[List.all_eq_true];intro e he;obtain⟨j,hj,rfl⟩:=List.getElem_of_mem he;have:=hg j (by omega);rw[List.getD_eq_getElem?_getD,List.getElem?_eq_getElem hj] at this;exact this
  rw[Yx hall];refine Ev.succ ?_;simp only[ebbtideref14_Merged.l0];exact Ev.neg (by omega) (Ev.now _)
 |succ d ih=>
  intro i hi hg;have hil:i<m.length:=by omega
  refine Ev.succ ?_;simp only[ebbtideref14_Merged.l0];refine Ev.pos (by omega) (Ev.pos (by omega) (Ev.call (move_eq b hn s t h0 h1 _) ?_));rw[wrap_succ (n:=m.length) hil (by omega),rdMove_nat];by_cases c:moveB l s t h (m.getD i z61)=true
  ·exact Ev.pos c (ih (i+1) (by omega) fun j hj=>by
    by_cases e:j=i
    ·subst e;exact c
    ·exact hg j (by omega))
  ·refine Ev.neg c ?_
   rw[Yy (fun hall=>c (List.all_eq_true.1 hall _ (getD_mem hil)))];exact Ev.now _
theorem merged_ev (n:Int) (b:Bool) (l:List S73) (s t h:Int) (x:List S61) (hx:x.length≤500): ∃ r,Ev (fun k=>ebbtideref14_Merged.f k n b l s t h x) r∧(r.2=0→spanErr n l s t h=0∧Apart r.1∧(∀ e,e∈r.1→moveB l s t h e=true)∧r.1.length≤500):=by
 by_cases c:spanErr n l s t h=0
 ·obtain⟨hn,he,h0,h1⟩:=spanErr_ok c
  obtain⟨⟨m,e⟩,em,km,lm⟩:=moves_ev x hx;by_cases ce:e=0
  ·have h2:=merged_l0 b hn s t h0 h1 m (by show m.length≤500;simp only at lm;omega) m.length 0 (by omega) (fun j hj=>by omega)
   refine⟨if (m.all (moveB l s t h))=true then(m,0) else([],140),?_,?_⟩
   ·unfold ebbtideref14_Merged.f
    exact Ev.bind (ref_span_asked_ev n b l s t h) (Ev.pos c (Ev.bind em (Ev.pos ce h2)))
   ·intro hr
    by_cases ca:m.all (moveB l s t h)=true
    ·rw[Yx ca]
     exact⟨c,keyA_apart km,fun e he=>List.all_eq_true.1 ca e he,by simp only at lm ⊢;omega⟩
    ·rw[Yy ca] at hr
     cases hr
  ·refine⟨([],e),?_,fun hr=>absurd hr ce⟩
   unfold ebbtideref14_Merged.f;exact Ev.bind (ref_span_asked_ev n b l s t h) (Ev.pos c (Ev.bind em (Ev.neg ce (Ev.now _))))
 ·refine⟨([],spanErr n l s t h),?_,fun hr=>absurd hr c⟩
  unfold ebbtideref14_Merged.f;exact Ev.bind (ref_span_asked_ev n b l s t h) (Ev.neg c (Ev.now _))
theorem stockE_small {l:List S73} {n:Nat} {s t:Int} {h:Nat} {e:S61} (hn:NetOk n l) (he:MoveOk l n s t h e) (v k:Int): -1048576≤stockE l v k e∧stockE l v k e≤1048576:=by
 have h1:=he.n0;have h2:=he.cap;have hA:=arc_at hn he.a0 he.a1;have h3:(arcM l e).f2≤1048576:=hA.h2;unfold stockE;split<;>split<;>omega
theorem stock_l0 {n:Nat} (b:Bool) {l:List S73} (hn:NetOk n l) {s t:Int} {h:Nat} (h1:h≤1024) (m:List S61) (hm:m.length≤500) (hok: ∀ e,e∈m→MoveOk l n s t h e) (v k:Int) (d:Nat): ∀ (i:Nat) (acc:Int),i+d=m.length→ -((i:Int) * 1048576)≤acc→acc≤(i:Int) * 1048576→
  Ev (fun f=>ebbtideref14_Stock.l0 f m v k acc (i:Int) n b l) (acc+sumM (stockE l v k) (m.drop i)):=by
 induction d with
 |zero=>
  intro i acc hi _ _;rw[List.drop_of_length_le (by omega)];refine Ev.succ ?_;simp only[ebbtideref14_Stock.l0];exact Ev.neg (by omega) (Ev.done (by simp[sumM]))
 |succ d ih=>
  intro i acc hi ha hb;have hil:i<m.length:=by omega
  have he:=hok _ (getD_mem (d:=z61) hil);have hd:=drop_getD m i z61 hil;obtain⟨e,hee⟩: ∃ e,e=m.getD i z61:=⟨_,rfl⟩;rw[← hee] at he hd;have hsm:=stockE_small hn he v k;have g1:=he.a0;have g2:=he.a1;have g3:=he.t0;have g4:=he.time;have g5:=he.arr;have g6:=he.n0;have g7:=he.cap;have hA:=arc_at hn he.a0 he.a1;have g8:=hA.h2;have g9:=hA.h3;have hnext:=ih (i+1) (acc+stockE l v k e) (by omega) (by omega) (by omega);rw[hd];simp only[sumM];have eacc:acc+stockE l v k e+sumM (stockE l v k) (m.drop (i+1))=acc+(stockE l v k e+sumM (stockE l v k) (m.drop (i+1))):=by omega
  rw[eacc] at hnext;have rm:rd_T61 m (i:Int)=e:=by rw[rdMove_nat,hee]
  unfold arcM at g4 g5 g7;have pi_:(0:Int)≤(i:Int):=Int.natCast_nonneg i;have qi_:(i:Int)<(m.length:Int):=Int.ofNat_lt.2 hil;have w1:wrap64 (acc+e.f2)=acc+e.f2:=wrap_id (by omega) (by omega);have w2:wrap64 (acc - e.f2)=acc - e.f2:=wrap_id (by omega) (by omega);have w3:wrap64 (acc+e.f2 - e.f2)=acc:=by rw[Int.add_sub_cancel];exact wrap_id (by omega) (by omega)
  have w4:wrap64 (e.f1+(rd_T73 l e.f0).f3)=e.f1+(rd_T73 l e.f0).f3:=wrap_id (by omega) (by omega);have hw:=wrap_succ (n:=m.length) hil (by omega);have le4:e.f1+(rd_T73 l e.f0).f3≤k→e.f1≤k:=fun c=>by clear hnext eacc hsm ha hb g5 g6 g7 g8 g9 w1 w2 w3 w4 hw;omega
  have z0:stockE l v k e=0→Ev (fun f=>ebbtideref14_Stock.l0 f m v k acc ((i+1:Nat):Int) n b l) (acc+(stockE l v k e+sumM (stockE l v k) (m.drop (i+1)))):=fun es=>by rw[es,Int.add_zero] at hnext;rw[es];exact hnext
  have z1:stockE l v k e=e.f2→Ev (fun f=>ebbtideref14_Stock.l0 f m v k (acc+e.f2) ((i+1:Nat):Int) n b l) (acc+(stockE l v k e+sumM (stockE l v k) (m.drop (i+1)))):=fun es=>by rw[es] at hnext ⊢;exact hnext
  have z2:stockE l v k e= -e.f2→Ev (fun f=>ebbtideref14_Stock.l0 f m v k (acc - e.f2) ((i+1:Nat):Int) n b l) (acc+(stockE l v k e+sumM (stockE l v k) (m.drop (i+1)))):=fun es=>by rw[es, ← Int.sub_eq_add_neg] at hnext;rw[es];exact hnext
  clear hnext eacc hsm ha hb g3 g4 g5 g6 g7 g8 g9 hA he hok ih;refine Ev.succ ?_;simp only[ebbtideref14_Stock.l0];rw[rm];refine Ev.pos qi_ (Ev.pos pi_ (Ev.pos g1 (Ev.pos g2 ?_)));by_cases c1:(rd_T73 l e.f0).f1=v
  ·refine Ev.pos c1 ?_
   rw[w4];refine Ev.succ ?_;simp only[ebbtideref14_Stock.j1];rw[rm,hw,w1,w3,w2];by_cases c2:e.f1+(rd_T73 l e.f0).f3≤k
   ·refine Ev.pos (Yv c2) (Ev.pos pi_ (Ev.pos qi_ ?_))
    by_cases c3:(rd_T73 l e.f0).f0=v
    ·have c4:=le4 c2
     refine Ev.pos c3 (Ev.pos c4 (z0 ?_));unfold stockE arcM;rw[Yx ⟨c1,c2⟩,Yx ⟨c3,c4⟩,Int.sub_self]
    ·refine Ev.neg c3 (z1 ?_)
     unfold stockE arcM;rw[Yx ⟨c1,c2⟩,Yy (fun g=>c3 g.1),Int.sub_zero]
   ·refine Ev.neg (by rw[Yw c2];simp) ?_
    by_cases c3:(rd_T73 l e.f0).f0=v
    ·refine Ev.pos c3 (Ev.pos pi_ (Ev.pos qi_ ?_))
     by_cases c4:e.f1≤k
     ·refine Ev.pos c4 (z2 ?_)
      unfold stockE arcM;rw[Yy (fun g=>c2 g.2),Yx ⟨c3,c4⟩,Int.zero_sub]
     ·refine Ev.neg c4 (z0 ?_)
      unfold stockE arcM;rw[Yy (fun g=>c2 g.2),Yy (fun g=>c4 g.2),Int.sub_self]
    ·refine Ev.neg c3 (z0 ?_)
     unfold stockE arcM;rw[Yy (fun g=>c2 g.2),Yy (fun g=>c3 g.1),Int.sub_self]
  ·refine Ev.neg c1 ?_
   refine Ev.succ ?_;simp only[ebbtideref14_Stock.j1];rw[rm,hw,w1,w3,w2];refine Ev.neg (by simp) ?_;by_cases c3:(rd_T73 l e.f0).f0=v
   ·refine Ev.pos c3 (Ev.pos pi_ (Ev.pos qi_ ?_))
    by_cases c4:e.f1≤k
    ·refine Ev.pos c4 (z2 ?_)
     unfold stockE arcM;rw[Yy (fun g=>c1 g.1),Yx ⟨c3,c4⟩,Int.zero_sub]
    ·refine Ev.neg c4 (z0 ?_)
     unfold stockE arcM;rw[Yy (fun g=>c1 g.1),Yy (fun g=>c4 g.2),Int.sub_self]
   ·refine Ev.neg c3 (z0 ?_)
    unfold stockE arcM;rw[Yy (fun g=>c1 g.1),Yy (fun g=>c3 g.1),Int.sub_self]
theorem stock_ev {n:Nat} (b:Bool) {l:List S73} (hn:NetOk n l) {s t:Int} {h:Nat} (h1:h≤1024) (m:List S61) (hm:m.length≤500) (hok: ∀ e,e∈m→MoveOk l n s t h e) (v k:Int):Ev (fun f=>ebbtideref14_Stock.f f n b l m v k) (stockL l m v k):=by
 unfold ebbtideref14_Stock.f;exact Ev.eq (stock_l0 b hn h1 m hm hok v k m.length 0 0 (by omega) (by omega) (by omega)) (by rw[List.drop_zero];unfold stockL;omega)
end Q
namespace Q
open P
open H
def rowAt (l:List S73) (m:List S61) (n a:Nat):List Int:=(List.range n).map fun v:Nat=>stockL l m (v:Int) (a:Int)
theorem rowAt_len (l:List S73) (m:List S61) (n a:Nat):(rowAt l m n a).length=n:=by unfold rowAt;rw[List.length_map,List.length_range]
theorem rowAt_rd {l:List S73} {m:List S61} {n a v:Nat} (h:v<n):rd (rowAt l m n a) (v:Int)=stockL l m (v:Int) (a:Int):=by
 rw[rd_nat];unfold rowAt;rw[List.getD_eq_getElem?_getD,List.getElem?_map,List.getElem?_range h];rfl
def rowsTo (l:List S73) (m:List S61) (n a:Nat):List (List Int):=(List.range a).map (rowAt l m n)
theorem rowsTo_len (l:List S73) (m:List S61) (n a:Nat):(rowsTo l m n a).length=a:=by unfold rowsTo;rw[List.length_map,List.length_range]
theorem rowsTo_rd {l:List S73} {m:List S61} {n a k:Nat} (h:k<a):rd_L7 (rowsTo l m n a) (k:Int)=rowAt l m n k:=by
 unfold rd_L7;rw[Int.toNat_natCast];unfold rowsTo;rw[List.getD_eq_getElem?_getD,List.getElem?_map,List.getElem?_range h];rfl
theorem rowsTo_succ (l:List S73) (m:List S61) (n a:Nat):rowsTo l m n (a+1)=rowsTo l m n a ++ [rowAt l m n a]:=by unfold rowsTo;rw[List.range_succ,List.map_append];rfl
theorem stocks_l1 {n:Nat} (b:Bool) {l:List S73} (hn:NetOk n l) {s t:Int} {h:Nat} (h1:h≤1024) (m:List S61) (hm:m.length≤500) (hok: ∀ e,e∈m→MoveOk l n s t h e) (X:List (List Int)) (hX:X.length≤2000) (a:Nat) (ha:a≤h) (R:List (List Int) × Int)
  (hR:Ev (fun k=>ebbtideref14_Stocks.l0 k (h:Int) m (X ++ [rowAt l m n a]) ((a+1:Nat):Int) (n:Int) b l) R) (d:Nat): ∀ i:Nat,i+d=n→Ev (fun k=>ebbtideref14_Stocks.l1 k (h:Int) m X (a:Int) ((List.range i).map fun v:Nat=>stockL l m (v:Int) (a:Int)) (i:Int) (n:Int) b l) R:=by
 have hn50:=hn.hi
 induction d with
 |zero=>
  intro i hi;have e:i=n:=by omega
  subst e;refine Ev.succ ?_;simp only[ebbtideref14_Stocks.l1];refine Ev.neg (by omega) (Ev.pos (by omega) ?_);rw[wrap_succ (n:=h+1) (by omega) (by omega)];exact hR
 |succ d ih=>
  intro i hi;have hnext:=ih (i+1) (by omega);rw[List.range_succ,List.map_append] at hnext;refine Ev.succ ?_;simp only[ebbtideref14_Stocks.l1];refine Ev.pos (by omega) (Ev.bind (stock_ev b hn h1 m hm hok (i:Int) (a:Int)) ?_);refine Ev.pos (by rw[List.length_map,List.length_range];omega) ?_;rw[wrap_succ (n:=n) (by omega) (by omega)];exact hnext
theorem stocks_l0 {n:Nat} (b:Bool) {l:List S73} (hn:NetOk n l) {s t:Int} {h:Nat} (h1:h≤1024) (m:List S61) (hm:m.length≤500) (hok: ∀ e,e∈m→MoveOk l n s t h e) (d:Nat): ∀ a:Nat,a+d=h+1→Ev (fun k=>ebbtideref14_Stocks.l0 k (h:Int) m (rowsTo l m n a) (a:Int) (n:Int) b l) (rowsTo l m n (h+1),0):=by
 induction d with
 |zero=>
  intro a ha;have e:a=h+1:=by omega
  subst e;refine Ev.succ ?_;simp only[ebbtideref14_Stocks.l0];exact Ev.neg (by omega) (Ev.now _)
 |succ d ih=>
  intro a ha;have hnext:=ih (a+1) (by omega);rw[rowsTo_succ] at hnext;refine Ev.succ ?_;simp only[ebbtideref14_Stocks.l0];refine Ev.pos (by omega) ?_;have h2:=stocks_l1 b hn h1 m hm hok (rowsTo l m n a) (by rw[rowsTo_len];omega) a (by omega) _ hnext n 0 (by omega);exact h2
def goodAt (b:Bool) (l:List S73) (m:List S61) (h v k:Nat):Prop:=0≤stockL l m (v:Int) (k:Int)∧(0<stockL l m (v:Int) (k:Int)→b=true∧k≠h)
theorem plc_l1 {n:Nat} (b:Bool) (l:List S73) (s t:Int) {h:Nat} (h1:h≤1024) (m:List S61) (v:Nat) (hv:v<n) (hn50:n≤50) (hs:(v:Int)≠s) (ht:(v:Int)≠t) (d:Nat): ∀ a:Nat,a+d=h+1→
  ((∀ k:Nat,a≤k→k≤h→goodAt b l m h v k)∧ ∀ R,Ev (fun k=>ebbtideref14_Check.l0 k s t (h:Int) (rowsTo l m n (h+1)) ((v+1:Nat):Int) (n:Int) b l) R→Ev (fun k=>ebbtideref14_Check.l1 k s t (h:Int) (rowsTo l m n (h+1)) (v:Int) (a:Int) (n:Int) b l) R)∨
  Ev (fun k=>ebbtideref14_Check.l1 k s t (h:Int) (rowsTo l m n (h+1)) (v:Int) (a:Int) (n:Int) b l) (0,141):=by
 have hw:=wrap_succ (n:=n) hv (by omega);have hxl:=rowsTo_len l m n (h+1)
 induction d with
 |zero=>
  intro a ha;refine Or.inl ⟨fun k h2 h3=>by omega,fun R hR=> ?_⟩;refine Ev.succ ?_;simp only[ebbtideref14_Check.l1];refine Ev.neg (by omega) ?_;refine Ev.succ ?_;simp only[ebbtideref14_Check.j2];rw[hw];exact Ev.neg (by simp) hR
 |succ d ih=>
  intro a ha;have hal:a≤h:=by omega
  have hrow:=rowsTo_rd (l:=l) (m:=m) (n:=n) (a:=h+1) (k:=a) (by omega);have hcell:=rowAt_rd (l:=l) (m:=m) (a:=a) hv;have hrl:=rowAt_len l m n a;have hwa:=wrap_succ (n:=h+1) (i:=a) (by omega) (by omega);have hbne:((v:Int) != t)=true:=by rw[bne_iff_ne];exact ht
  have p0:(0:Int)≤(a:Int):=Int.natCast_nonneg a;have p1:(a:Int)<((rowsTo l m n (h+1)).length:Int):=by rw[hxl];omega
  have p2:(0:Int)≤(v:Int):=Int.natCast_nonneg v;have p3:(v:Int)<((rowAt l m n a).length:Int):=by rw[hrl];omega
  have p4:(a:Int)≤(h:Int):=by omega
  -- one step: what stands there
  have step: ∀ R,Ev (fun k=>if stockL l m (v:Int) (a:Int)<0 then some ((0:Int),(141:Int)) else if stockL l m (v:Int) (a:Int)>0 then(if b=true then(if (a:Int)=(h:Int) then some (0,141) else ebbtideref14_Check.l1 k s t (h:Int) (rowsTo l m n (h+1)) (v:Int) ((a+1:Nat):Int) (n:Int) b l) else some (0,141)) else ebbtideref14_Check.l1 k s t (h:Int) (rowsTo l m n (h+1)) (v:Int) ((a+1:Nat):Int) (n:Int) b l) R→
    Ev (fun k=>ebbtideref14_Check.l1 k s t (h:Int) (rowsTo l m n (h+1)) (v:Int) (a:Int) (n:Int) b l) R:=fun R hR=>by
   refine Ev.succ ?_;simp only[ebbtideref14_Check.l1];refine Ev.pos p4 (Ev.neg hs ?_);rw[hbne];refine Ev.succ ?_;simp only[ebbtideref14_Check.j2];rw[hrow,hcell,hwa];exact Ev.pos trivial (Ev.pos p0 (Ev.pos p1 (Ev.pos p2 (Ev.pos p3 hR))))
  by_cases c1:stockL l m (v:Int) (a:Int)<0
  ·exact Or.inr (step _ (Ev.pos c1 (Ev.now _)))
  ·by_cases c2:stockL l m (v:Int) (a:Int)>0
   ·by_cases c3:b=true
    ·by_cases c4:(a:Int)=(h:Int)
     ·exact Or.inr (step _ (Ev.neg c1 (Ev.pos c2 (Ev.pos c3 (Ev.pos c4 (Ev.now _))))))
     ·rcases ih (a+1) (by omega) with ⟨g1,g2⟩|g
      ·refine Or.inl ⟨fun k h2 h3=> ?_,fun R hR=>step R (Ev.neg c1 (Ev.pos c2 (Ev.pos c3 (Ev.neg c4 (g2 R hR)))))⟩
       by_cases e:k=a
       ·subst e;exact⟨Int.not_lt.1 c1,fun _=>⟨c3,fun g=>c4 (congrArg Nat.cast g)⟩⟩
       ·exact g1 k (Nat.lt_of_le_of_ne h2 (Ne.symm e)) h3
      ·exact Or.inr (step _ (Ev.neg c1 (Ev.pos c2 (Ev.pos c3 (Ev.neg c4 g)))))
    ·exact Or.inr (step _ (Ev.neg c1 (Ev.pos c2 (Ev.neg c3 (Ev.now _)))))
   ·rcases ih (a+1) (by omega) with ⟨g1,g2⟩|g
    ·refine Or.inl ⟨fun k h2 h3=> ?_,fun R hR=>step R (Ev.neg c1 (Ev.neg c2 (g2 R hR)))⟩
     by_cases e:k=a
     ·subst e;exact⟨Int.not_lt.1 c1,fun hp=>absurd hp c2⟩
     ·exact g1 k (Nat.lt_of_le_of_ne h2 (Ne.symm e)) h3
    ·exact Or.inr (step _ (Ev.neg c1 (Ev.neg c2 g)))
theorem plc_l0 {n:Nat} (b:Bool) (l:List S73) (s:Int) (t0:Nat) (ht0:t0<n) {h:Nat} (h1:h≤1024) (m:List S61) (hn50:n≤50) (d:Nat): ∀ v:Nat,v+d=n→
  ((∀ u:Nat,v≤u→u<n→(u:Int)≠s→(u:Int)≠(t0:Int)→ ∀ k:Nat,k≤h→goodAt b l m h u k)∧Ev (fun k=>ebbtideref14_Check.l0 k s (t0:Int) (h:Int) (rowsTo l m n (h+1)) (v:Int) (n:Int) b l) (stockL l m (t0:Int) (h:Int),0))∨
  Ev (fun k=>ebbtideref14_Check.l0 k s (t0:Int) (h:Int) (rowsTo l m n (h+1)) (v:Int) (n:Int) b l) (0,141):=by
 have hxl:=rowsTo_len l m n (h+1)
 induction d with
 |zero=>
  intro v hv;refine Or.inl ⟨fun u g1 g2=>by omega,?_⟩;have hrow:=rowsTo_rd (l:=l) (m:=m) (n:=n) (a:=h+1) (k:=h) (by omega);have hcell:=rowAt_rd (l:=l) (m:=m) (a:=h) ht0;have hrl:=rowAt_len l m n h;refine Ev.succ ?_;simp only[ebbtideref14_Check.l0];rw[hrow,hcell];exact Ev.neg (by omega) (Ev.pos (by omega) (Ev.pos (by rw[hxl];omega) (Ev.pos (by omega) (Ev.pos (by rw[hrl];omega) (Ev.now _)))))
 |succ d ih=>
  intro v hv;have hvn:v<n:=by omega
  have p0:(v:Int)<(n:Int):=by omega
  have skip:(v:Int)=s∨(v:Int)=(t0:Int)→ ∀ R,Ev (fun k=>ebbtideref14_Check.l0 k s (t0:Int) (h:Int) (rowsTo l m n (h+1)) ((v+1:Nat):Int) (n:Int) b l) R→Ev (fun k=>ebbtideref14_Check.l0 k s (t0:Int) (h:Int) (rowsTo l m n (h+1)) (v:Int) (n:Int) b l) R:=fun hst R hR=>by
   have hw:=wrap_succ (n:=n) hvn (by omega);refine Ev.succ ?_;simp only[ebbtideref14_Check.l0];refine Ev.pos p0 ?_;refine Ev.succ ?_;simp only[ebbtideref14_Check.l1];refine Ev.pos (by omega) ?_;by_cases c:(v:Int)=s
   ·refine Ev.pos c ?_
    refine Ev.succ ?_;simp only[ebbtideref14_Check.j2];rw[hw];exact Ev.neg (by simp) hR
   ·refine Ev.neg c ?_
    have hb:((v:Int) != (t0:Int))=false:=by
     rcases hst with g|g
     ·exact absurd g c
     ·rw[g];simp
    rw[hb];refine Ev.succ ?_;simp only[ebbtideref14_Check.j2];rw[hw];exact Ev.neg (by simp) hR
  by_cases c:(v:Int)=s∨(v:Int)=(t0:Int)
  ·rcases ih (v+1) (by omega) with ⟨g1,g2⟩|g
   ·refine Or.inl ⟨fun u h2 h3 h4 h5=> ?_,skip c _ g2⟩
    by_cases e:u=v
    ·subst e;exact absurd c (fun hh=>hh.elim h4 h5)
    ·exact g1 u (by omega) h3 h4 h5
   ·exact Or.inr (skip c _ g)
  ·have cs:(v:Int)≠s:=fun g=>c (Or.inl g)
   have ct:(v:Int)≠(t0:Int):=fun g=>c (Or.inr g)
   have enter: ∀ R,Ev (fun k=>ebbtideref14_Check.l1 k s (t0:Int) (h:Int) (rowsTo l m n (h+1)) (v:Int) ((0:Nat):Int) (n:Int) b l) R→Ev (fun k=>ebbtideref14_Check.l0 k s (t0:Int) (h:Int) (rowsTo l m n (h+1)) (v:Int) (n:Int) b l) R:=fun R hR=>by
    refine Ev.succ ?_;simp only[ebbtideref14_Check.l0];exact Ev.pos p0 hR
   rcases plc_l1 b l s (t0:Int) h1 m v hvn hn50 cs ct (h+1) 0 (by omega) with ⟨g1,g2⟩|g
   ·rcases ih (v+1) (by omega) with ⟨k1,k2⟩|k
    ·refine Or.inl ⟨fun u h2 h3 h4 h5=> ?_,enter _ (g2 _ k2)⟩
     by_cases e:u=v
     ·subst e;exact fun k hk=>g1 k (by omega) hk
     ·exact k1 u (by omega) h3 h4 h5
    ·exact Or.inr (enter _ (g2 _ k))
   ·exact Or.inr (enter _ g)
theorem plan_ev (n:Int) (b:Bool) (l:List S73) (s t h:Int) (x:List S61) (hx:x.length≤500): ∃ r,Ev (fun k=>ebbtideref14_Check.f k n b l s t h x) r∧(r.2=0→spanErr n l s t h=0∧
  ∃ (n0 s0 t0 h0:Nat) (m:List S61),n=n0∧s=s0∧t=t0∧h=h0∧s0<n0∧t0<n0∧s0≠t0∧(∀ e,e∈m→MoveOk l n0 s t h0 e)∧Apart m∧(∀ u:Nat,u<n0→u≠s0→u≠t0→ ∀ k:Nat,k≤h0→goodAt b l m h0 u k)∧r.1=stockL l m (t0:Int) (h0:Int)):=by
 obtain⟨⟨m,e⟩,em,fm⟩:=merged_ev n b l s t h x hx;by_cases ce:e=0
 ·obtain⟨c,ha,hb,hl⟩:=fm ce
  obtain⟨hn,hE,g0,g1⟩:=spanErr_ok c;have e1:=hE.s0;have e2:=hE.sn;have e3:=hE.t0;have e4:=hE.tn;have e5:=hE.ne;obtain⟨n0,rfl⟩: ∃ n0:Nat,n=n0:=⟨n.toNat,by omega⟩;obtain⟨s0,rfl⟩: ∃ n0:Nat,s=n0:=⟨s.toNat,by omega⟩;obtain⟨t0,rfl⟩: ∃ n0:Nat,t=n0:=⟨t.toNat,by omega⟩;obtain⟨h0,rfl⟩: ∃ n0:Nat,h=n0:=⟨h.toNat,by omega⟩;have hok: ∀ e,e∈m→MoveOk l n0 s0 t0 h0 e:=fun e he=>moveB_ok hn (hb e he)
  have hs:=stocks_l0 b hn (s:=s0) (t:=t0) (h:=h0) (by omega) m hl hok (h0+1) 0 (by omega);have hS:Ev (fun k=>ebbtideref14_Stocks.f k n0 b l s0 t0 h0 x) (rowsTo l m n0 (h0+1),0):=by
   unfold ebbtideref14_Stocks.f;exact Ev.bind em (Ev.pos ce hs)
  have h50:=hn.hi;rcases plc_l0 (n:=n0) b l (s0:Int) t0 (by omega) (h:=h0) (by omega) m (by omega) n0 0 (by omega) with ⟨k1,k2⟩|k
  ·refine⟨(stockL l m (t0:Int) (h0:Int),0),?_,fun _=>⟨c,n0,s0,t0,h0,m,rfl,rfl,rfl,rfl,by omega,by omega,by omega,hok,ha,fun u a1 a2 a3=>k1 u (by omega) a1 (by omega) (by omega),rfl⟩⟩
   unfold ebbtideref14_Check.f;exact Ev.bind hS (Ev.pos rfl k2)
  ·refine⟨(0,141),?_,fun hr=>by cases hr⟩
   unfold ebbtideref14_Check.f;exact Ev.bind hS (Ev.pos rfl k)
 ·refine⟨(0,e),?_,fun hr=>absurd hr ce⟩
  have hS:Ev (fun k=>ebbtideref14_Stocks.f k n b l s t h x) ([],e):=by
   unfold ebbtideref14_Stocks.f;exact Ev.bind em (Ev.neg ce (Ev.now _))
  unfold ebbtideref14_Check.f;exact Ev.bind hS (Ev.neg ce (Ev.now _))
end Q
namespace Q
open P
open H
theorem tc_ok {n:Int} {p:Bool} {l:List S73} {s t h:Int} {x:List S53} (hr:(tcRes n p l s t h x).2=0):endsN (hasL x) s t (h.toNat+1)=true∧(p=true→risesAll (hasL x) h.toNat n.toNat=true)∧(tcRes n p l s t h x).1=takesL (hasL x) h l:=by
 unfold tcRes at hr ⊢;by_cases c1:spanErr n l s t h=0
 ·rw[Yx c1] at hr ⊢
  by_cases c2:x.all (slotOkB n h)=true
  ·rw[Yx c2] at hr ⊢
   by_cases c3:endsN (hasL x) s t (h.toNat+1)=true
   ·rw[Yx c3] at hr ⊢
    by_cases c4:p=true∧ ¬ risesAll (hasL x) h.toNat n.toNat=true
    ·rw[Yx c4] at hr;simp at hr
    ·rw[Yy c4]
     refine⟨c3,fun hp=> ?_,rfl⟩;cases g:risesAll (hasL x) h.toNat n.toNat with
     |true=>rfl
     |false=>exact absurd ⟨hp,by rw[g];simp⟩ c4
   ·rw[Yy c3] at hr;simp at hr
  ·rw[Yy c2] at hr;simp at hr
 ·rw[Yy c1] at hr;exact absurd hr c1
theorem plan_below (n:Int) (b:Bool) (l:List S73) (s t h:Int) (x:List S61) (hx:x.length≤500): ∃ r,Ev (fun k=>ebbtideref14_Check.f k n b l s t h x) r∧ ∀ y:List S53,r.2=0→(tcRes n b l s t h y).2=0→r.1≤(tcRes n b l s t h y).1:=by
 obtain⟨r,hr,hr2⟩:=plan_ev n b l s t h x hx;refine⟨r,hr,fun y h0 hy=> ?_⟩;obtain⟨c,n0,s0,t0,h0',m,rfl,rfl,rfl,rfl,hs,ht,hst,hok,hap,hg,hv⟩:=hr2 h0;obtain⟨hE,hR,hT⟩:=tc_ok hy;obtain⟨hn,_,_,_⟩:=spanErr_ok c;rw[hv,hT];rw[Int.toNat_natCast] at hE hR;refine plan_cut hok hap (fun a ha=>(arc_sm (hn.arcs a ha) hn.hi).f2) hs ht hst ((ends_iff _).1 hE) fun v hvn hvs hvt=> ?_
 have g:=hg v hvn hvs hvt;have g0:stockL l m (v:Int) h0'=0:=by
  have g1:=g h0' (Nat.le_refl _);have g2:=g1.1;rcases Int.lt_or_eq_of_le g2 with g3|g3
  ·exact absurd rfl (g1.2 g3).2
  ·exact g3.symm
 refine⟨g0,?_⟩;cases hb:b with
 |true=>
  have h2:=(risesAll_iff _).1 (hR hb);rw[Int.toNat_natCast] at h2;exact Or.inl ⟨fun k hk=>(g k hk).1,(rises_iff _).1 (h2 v hvn)⟩
 |false=>
  refine Or.inr fun k hk=> ?_
  have g1:=g k hk;rcases Int.lt_or_eq_of_le g1.1 with g3|g3
  ·have g4:=(g1.2 g3).1
   rw[hb] at g4;cases g4
  ·exact g3.symm
theorem timecutAny_ev (n:Int) (b:Bool) (l:List S73) (s t h:Int) (y:List S53) (x:List S61):Ev (fun k=>ebbtidelaw18_TimecutAny.f k n b l s t h y x) true:=by
 unfold ebbtidelaw18_TimecutAny.f;refine Ev.bind awake18_ev (Ev.pos rfl ?_);have hj: ∀ q:Bool,(q=false→x.length≤60)→Ev (fun k=>ebbtidelaw18_TimecutAny.j0 k s t h y x true q n b l) true:=fun q hq=>by
  refine Ev.succ ?_;simp only[ebbtidelaw18_TimecutAny.j0];cases q with
  |true=>exact Ev.pos rfl (Ev.now _)
  |false=>
   have hx:=hq rfl;obtain⟨r,hr,hle⟩:=plan_below n b l s t h x (by omega);have e1:timecut_Check.f n b l s t h y=some (tcRes n b l s t h y):=by unfold timecut_Check.f;rfl
   rw[e1];refine Ev.neg (by simp) (Ev.bind (Ev.now _) (Ev.bind hr (Ev.pos trivial ?_)));by_cases c1:(tcRes n b l s t h y).2=0
   ·refine Ev.pos c1 ?_
    by_cases c2:r.2=0
    ·refine Ev.pos c2 ?_
     rw[Yv (hle y c2 c1)];exact Ev.now _
    ·exact Ev.neg c2 (Ev.now _)
   ·exact Ev.neg c1 (Ev.now _)
 by_cases c1:(y.length:Int)>80
 ·exact Ev.pos c1 (hj true (fun g=>by cases g))
 ·refine Ev.neg c1 ?_
  by_cases c2:(x.length:Int)>60
  ·exact Ev.pos c2 (hj true (fun g=>by cases g))
  ·exact Ev.neg c2 (hj _ (fun _=>by omega))
end Q
end Go.Proofs.Ytjaoknhhoicigaa
