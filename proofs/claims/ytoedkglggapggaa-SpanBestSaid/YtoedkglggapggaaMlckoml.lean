/- What the law's row needs of these texts, taken out of them by wip/tool/mini.py: P61 P62 QFewWalk QCheckRef QMostLaw QWorthLaw QSpanMostLaw QCostFree QSpanFewB P916 QOpen QLSpanBest. -/
import Derived.Test.YtoedkglggapggaaMeddike
import Derived.Test.YtoedkglggapggaaMpdkhkd
import Derived.Deep.DeepCutAuto
import Derived.Test.YtoedkglggapggaaMlnmamj
import Derived.Test.YtoedkglggapggaaMapjdha
import Derived.Deep.RegionHeld3
import Derived.RegionTactic
import Derived.ChangeAlike
import Derived.BigRegion
import Derived.LoopTactic
import Derived.WalkKit
import Derived.Test.YtoedkglggapggaaVlkblda
import Derived.Deep.Slices
import Derived.Deep.Fields
import Derived.ChangeSame
import Derived.ChangeArms
import Derived.OpenShut
set_option linter.unusedVariables false
set_option linter.unusedSimpArgs false
open Go.RowKit Go.Proofs.YtoedkglggapggaaW.PrintWords Go.Proofs.YtoedkglggapggaaW.PrintLast Go.Proofs.YtoedkglggapggaaW.PrintMore
namespace Go.Proofs.Ytoedkglggapggaa
namespace P
attribute [local go_sem] max2_int min2_int max_two min_two max_three min_three max_four min_four
def span_Worth.f (k:Nat) (Zb:Int) (Zc:Bool) (Za:List (S50)) (a1:Int) (a2:Int) (l3:List Int) (a4:Int):Option (Int × Int):=(span_Asked.f k Zb Zc Za a1 a2 a4).bind fun t416=>(if t416=0 then((static_Check.f k Zb Zc Za a1 a2 l3).bind fun bt417=>(if bt417.2=0 then((span_paid.f k Zb Zc Za l3).bind fun t419=>(some (wrap64 ((wrap64 ((wrap64 (a4+1)) * bt417.1)) - t419),0))) else(some (0,bt417.2)))) else(some (0,t416)))
set_option maxHeartbeats 8000000 in
set_option maxRecDepth 100000 in
theorem span_Worth.calls (k:Nat) (Zb:Int) (Zc:Bool) (Ze:Option Addr) (Zd:Nat) (Za:List (S50)) (a1:Int) (a2:Int) (A3:Option Addr) (c3:Nat) (l3:List Int) (a4:Int) (r1:Int) (r2:Int) (w:World) (Zo:Kd.C k50 w Ze Za.length Za) (Zp:Za.length≤Zd) (hr3:Kd.C (Kd.int .i64) w A3 l3.length l3) (hc3:l3.length≤c3) (h:span_Worth.f k Zb Zc Za a1 a2 l3 a4=some (r1,r2)):
  Calls Try.prog 33 #[.agg #[.int .i64 Zb, .bool Zc, .slice Ze Za.length Zd], .int .i64 a1, .int .i64 a2, .slice A3 l3.length c3, .int .i64 a4] w fun e w'=>e= .returned (.tuple #[.int .i64 r1, .int .i64 r2])∧Below w.heap.size w w':=by
 have hu24:=Try.underlying24;have Zk:=Ya Zo;have Zm:=Ya Zp;clear Zo Zp;have HR3:=Ya hr3;have HC3:=Ya hc3;clear hr3 hc3;have HB:=Ya (Yo w.heap.size w);have H:=h;unfold span_Worth.f at H;clear h;replace H:=Option.bind_eq_some_iff.mp H;obtain⟨t416,A60,H⟩:=H;try dsimp only at H
 have A6:=Ya A60;clear A60;by_cases c7:t416=0
 rotate_left
 ·rw[Yy c7] at H
  have c7b0:(t416 == 0)=false:=beq_eq_false_iff_ne.mpr c7;have c7b1:(t416 != 0)=true:=bne_iff_ne.mpr c7;simp only[Option.some.injEq,Prod.mk.injEq] at H;obtain⟨rfl,rfl⟩:=H;go_enter Try.func33,Try.ntmps33;go_wp2_with (first|(refine bx 5 24 #[.int .i64 Zb, .bool Zc, .slice Ze Za.length Zd] ?_;intro Jr hg w23 Zf hb;have Xv:=Ya (Zf);have GW415:=Ya ((sz hg));have GE415:=Ya ((sz hg));replace HB:=Ya (Yk bl hb);clear hb Zf hg;have hcz24_0:w23.cell? ⟨Jr,0,none⟩=some (.int .i64 Zb):=bc Xv 0;have hcz24_1:w23.cell? ⟨Jr,1,none⟩=some (.bool Zc):=bc Xv 1;have hcz24_2:w23.cell? ⟨Jr,2,none⟩=some (.slice Ze Za.length Zd):=bc Xv 2;have hfz24_0:=Yf Xv.out 0;have hfz24_1:=Yf Xv.out 1;have hfz24_2:=Yf Xv.out 2)|((with_reducible refine gate_callee (f:=34) rfl ?_);refine gl (some 19) Try.func34 #[.agg #[.int .i64 Zb, .bool Zc, .slice Ze Za.length Zd], .int .i64 a1, .int .i64 a2, .int .i64 a4] ?_;(with_reducible refine(span_Asked.calls k Zb Zc _ _ Za a1 a2 a4 t416 _ ?side1 ?side2 A6.out).mono ?_);(case side1=>exact kC (Yt Zk.out HB.out));(case side2=>exact Zm.out);rintro e w25 ⟨rfl,hb⟩;refine⟨_,rfl,?_⟩;replace Xv:=Ya (Yn (bk Xv) hb);replace HB:=Ya (Yk bl hb);(try clear hb)));go_ret2;exact⟨by first|rfl|(simp[errW_none,errW_some]<;>rfl)|(simp[*,errW_none,errW_some]<;>rfl),HB.out⟩
 rw[Yx c7] at H;have c7b0:(t416 == 0)=true:=beq_iff_eq.mpr c7;have c7b1:(t416 != 0)=false:=bne_eq_false_iff_eq.mpr c7;clear c7;replace H:=Option.bind_eq_some_iff.mp H;obtain⟨⟨t417,t418⟩,A80,H⟩:=H;try dsimp only at H
 have A8:=Ya A80;clear A80;by_cases c9:t418=0
 rotate_left
 ·rw[Yy c9] at H
  have c9b0:(t418 == 0)=false:=beq_eq_false_iff_ne.mpr c9;have c9b1:(t418 != 0)=true:=bne_iff_ne.mpr c9;simp only[Option.some.injEq,Prod.mk.injEq] at H;obtain⟨rfl,rfl⟩:=H;go_enter Try.func33,Try.ntmps33;go_wp2_with (first|(refine bx 5 24 #[.int .i64 Zb, .bool Zc, .slice Ze Za.length Zd] ?_;intro Jr hg w18 Zf hb;have Xv:=Ya (Zf);have GW415:=Ya ((sz hg));have GE415:=Ya ((sz hg));replace HB:=Ya (Yk bl hb);clear hb Zf hg;have hcz19_0:w18.cell? ⟨Jr,0,none⟩=some (.int .i64 Zb):=bc Xv 0;have hcz19_1:w18.cell? ⟨Jr,1,none⟩=some (.bool Zc):=bc Xv 1;have hcz19_2:w18.cell? ⟨Jr,2,none⟩=some (.slice Ze Za.length Zd):=bc Xv 2;have hfz19_0:=Yf Xv.out 0;have hfz19_1:=Yf Xv.out 1;have hfz19_2:=Yf Xv.out 2)|((with_reducible refine gate_callee (f:=34) rfl ?_);refine gl (some 19) Try.func34 #[.agg #[.int .i64 Zb, .bool Zc, .slice Ze Za.length Zd], .int .i64 a1, .int .i64 a2, .int .i64 a4] ?_;(with_reducible refine(span_Asked.calls k Zb Zc _ _ Za a1 a2 a4 t416 _ ?side1 ?side2 A6.out).mono ?_);(case side1=>exact kC (Yt Zk.out HB.out));(case side2=>exact Zm.out);rintro e w20 ⟨rfl,hb⟩;refine⟨_,rfl,?_⟩;replace Xv:=Ya (Yn (bk Xv) hb);replace HB:=Ya (Yk bl hb);(try clear hb);have hcz21_0:w20.cell? ⟨Jr,0,none⟩=some (.int .i64 Zb):=bc Xv 0;have hcz21_1:w20.cell? ⟨Jr,1,none⟩=some (.bool Zc):=bc Xv 1;have hcz21_2:w20.cell? ⟨Jr,2,none⟩=some (.slice Ze Za.length Zd):=bc Xv 2;have hfz21_0:=Yf Xv.out 0;have hfz21_1:=Yf Xv.out 1;have hfz21_2:=Yf Xv.out 2)|((with_reducible refine gate_callee (f:=46) rfl ?_);refine gl (some 28) Try.func46 #[.agg #[.int .i64 Zb, .bool Zc, .slice Ze Za.length Zd], .int .i64 a1, .int .i64 a2, .slice A3 l3.length c3] ?_;(with_reducible refine(static_Check.calls k Zb Zc _ _ Za a1 a2 _ _ l3 t417 t418 _ ?side1 ?side2 ?side3 ?side4 A8.out).mono ?_);(case side1=>exact kC (Yt Zk.out HB.out));(case side2=>exact Zm.out);(case side3=>exact kC (Yt HR3.out HB.out));(case side4=>exact HC3.out);rintro e w22 ⟨rfl,hb⟩;refine⟨_,rfl,?_⟩;replace Xv:=Ya (Yn (bk Xv) hb);replace HB:=Ya (Yk bl hb);(try clear hb);(try clear hb2);(try clear hk);(try clear hi)));go_ret2;exact⟨by first|rfl|(simp[errW_none,errW_some]<;>rfl)|(simp[*,errW_none,errW_some]<;>rfl),HB.out⟩
 rw[Yx c9] at H;have c9b0:(t418 == 0)=true:=beq_iff_eq.mpr c9;have c9b1:(t418 != 0)=false:=bne_eq_false_iff_eq.mpr c9;clear c9;replace H:=Option.bind_eq_some_iff.mp H;obtain⟨t419,A100,H⟩:=H;try dsimp only at H
 have A10:=Ya A100;clear A100;simp only[Option.some.injEq,Prod.mk.injEq] at H;obtain⟨rfl,rfl⟩:=H;go_enter Try.func33,Try.ntmps33;go_wp2_with (first|(refine bx 5 24 #[.int .i64 Zb, .bool Zc, .slice Ze Za.length Zd] ?_;intro Jr hg w11 Zf hb;have Xv:=Ya (Zf);have GW415:=Ya ((sz hg));have GE415:=Ya ((sz hg));replace HB:=Ya (Yk bl hb);clear hb Zf hg;have Jw:w11.cell? ⟨Jr,0,none⟩=some (.int .i64 Zb):=bc Xv 0;have Jx:w11.cell? ⟨Jr,1,none⟩=some (.bool Zc):=bc Xv 1;have Jy:w11.cell? ⟨Jr,2,none⟩=some (.slice Ze Za.length Zd):=bc Xv 2;have Jz:=Yf Xv.out 0;have hfz12_1:=Yf Xv.out 1;have hfz12_2:=Yf Xv.out 2)|((with_reducible refine gate_callee (f:=34) rfl ?_);refine gl (some 19) Try.func34 #[.agg #[.int .i64 Zb, .bool Zc, .slice Ze Za.length Zd], .int .i64 a1, .int .i64 a2, .int .i64 a4] ?_;(with_reducible refine(span_Asked.calls k Zb Zc _ _ Za a1 a2 a4 t416 _ ?side1 ?side2 A6.out).mono ?_);(case side1=>exact kC (Yt Zk.out HB.out));(case side2=>exact Zm.out);rintro e w13 ⟨rfl,hb⟩;refine⟨_,rfl,?_⟩;replace Xv:=Ya (Yn (bk Xv) hb);replace HB:=Ya (Yk bl hb);(try clear hb);have Vu:w13.cell? ⟨Jr,0,none⟩=some (.int .i64 Zb):=bc Xv 0;have Uc:w13.cell? ⟨Jr,1,none⟩=some (.bool Zc):=bc Xv 1;have Ud:w13.cell? ⟨Jr,2,none⟩=some (.slice Ze Za.length Zd):=bc Xv 2;have Ue:=Yf Xv.out 0;have Uf:=Yf Xv.out 1;have Ug:=Yf Xv.out 2)|((with_reducible refine gate_callee (f:=46) rfl ?_);refine gl (some 28) Try.func46 #[.agg #[.int .i64 Zb, .bool Zc, .slice Ze Za.length Zd], .int .i64 a1, .int .i64 a2, .slice A3 l3.length c3] ?_;(with_reducible refine(static_Check.calls k Zb Zc _ _ Za a1 a2 _ _ l3 t417 t418 _ ?side1 ?side2 ?side3 ?side4 A8.out).mono ?_);(case side1=>exact kC (Yt Zk.out HB.out));(case side2=>exact Zm.out);(case side3=>exact kC (Yt HR3.out HB.out));(case side4=>exact HC3.out);rintro e w15 ⟨rfl,hb⟩;refine⟨_,rfl,?_⟩;replace Xv:=Ya (Yn (bk Xv) hb);replace HB:=Ya (Yk bl hb);(try clear hb);(try clear hb2);(try clear hk);(try clear hi);have Ut:w15.cell? ⟨Jr,0,none⟩=some (.int .i64 Zb):=bc Xv 0;have Uu:w15.cell? ⟨Jr,1,none⟩=some (.bool Zc):=bc Xv 1;have hcz16_2:w15.cell? ⟨Jr,2,none⟩=some (.slice Ze Za.length Zd):=bc Xv 2;have Uv:=Yf Xv.out 0;have Uw:=Yf Xv.out 1;have hfz16_2:=Yf Xv.out 2)|((with_reducible refine gate_callee (f:=37) rfl ?_);refine gl (some 40) Try.func37 #[.agg #[.int .i64 Zb, .bool Zc, .slice Ze Za.length Zd], .slice A3 l3.length c3] ?_;(with_reducible refine(span_paid.calls k Zb Zc _ _ Za _ _ l3 t419 _ ?side1 ?side2 ?side3 ?side4 A10.out).mono ?_);(case side1=>exact kC (Yt Zk.out HB.out));(case side2=>exact Zm.out);(case side3=>exact kC (Yt HR3.out HB.out));(case side4=>exact HC3.out);rintro e w17 ⟨rfl,hb⟩;refine⟨_,rfl,?_⟩;replace Xv:=Ya (Yn (bk Xv) hb);replace HB:=Ya (Yk bl hb);(try clear hb);(try clear hb2);(try clear hk);(try clear hi)));go_ret2;exact⟨by first|rfl|(simp[errW_none,errW_some]<;>rfl)|(simp[*,errW_none,errW_some]<;>rfl),HB.out⟩
end P
namespace P
attribute [local go_sem] max2_int min2_int max_two min_two max_three min_three max_four min_four
def ebbtidelaw12_awake.f (k:Nat)  :Option (Bool):=(some (([(⟨0,1,2,1⟩:S50),(⟨1,2,2,1⟩:S50)]:List (S50)):List (S50))).bind fun y420=>((span_Most.f k 3 false y420 0 2 1).bind fun bt424=>((span_Most.f k 3 false y420 0 2 5).bind fun bt426=>((span_Worth.f k 3 false y420 0 2 (([1,1]:List Int)) 2).bind fun bt431=>((span_Most.f k 3 false y420 0 2 (-1)).bind fun bt433=>(if bt424.2=0 then(if bt424.1=0 then(if bt426.2=0 then(if bt426.1=8 then(if bt431.2=0 then(if bt431.1=1 then(some (bt433.2 == 1)) else(some false)) else(some false)) else(some false)) else(some false)) else(some false)) else(some false))))))
set_option maxHeartbeats 8000000 in
set_option maxRecDepth 100000 in
theorem ebbtidelaw12_awake.calls (k:Nat)  (r:Bool) (w:World) (h:ebbtidelaw12_awake.f k  =some r) (hrT_:r=true:=by first|rfl|exact Aside0.out (by assumption)):
  Calls Try.prog 12 #[] w fun e w'=>e= .returned (.bool r)∧Below w.heap.size w w':=by
 have HRT:=Ya hrT_;clear hrT_;have hu50:=Try.underlying50;have hu24:=Try.underlying24;have HB:=Ya (Yo w.heap.size w);have H:=h;unfold ebbtidelaw12_awake.f at H;clear h;obtain⟨y420,hy420⟩: ∃ y_:List (S50),y_=(([(⟨0,1,2,1⟩:S50),(⟨1,2,2,1⟩:S50)]:List (S50))):=⟨_,rfl⟩;rw[Option.bind_some, ← hy420] at H;have Ny420:=Ya hy420;clear hy420;replace H:=Option.bind_eq_some_iff.mp H;obtain⟨⟨t424,t425⟩,A10,H⟩:=H;replace H:((span_Most.f k 3 false y420 0 2 5).bind fun bt426=>((span_Worth.f k 3 false y420 0 2 (([1,1]:List Int)) 2).bind fun bt431=>((span_Most.f k 3 false y420 0 2 (-1)).bind fun bt433=>(if t425=0 then(if t424=0 then(if bt426.2=0 then(if bt426.1=8 then(if bt431.2=0 then(if bt431.1=1 then(some (bt433.2 == 1)) else(some false)) else(some false)) else(some false)) else(some false)) else(some false)) else(some false)))))=some r:=H;have A1:=Ya A10;clear A10;replace H:=Option.bind_eq_some_iff.mp H;obtain⟨⟨t426,t427⟩,A20,H⟩:=H;replace H:((span_Worth.f k 3 false y420 0 2 (([1,1]:List Int)) 2).bind fun bt431=>((span_Most.f k 3 false y420 0 2 (-1)).bind fun bt433=>(if t425=0 then(if t424=0 then(if t427=0 then(if t426=8 then(if bt431.2=0 then(if bt431.1=1 then(some (bt433.2 == 1)) else(some false)) else(some false)) else(some false)) else(some false)) else(some false)) else(some false))))=some r:=H;have A2:=Ya A20;clear A20;obtain⟨y428,hy428⟩: ∃ y_:List Int,y_=(([1,1]:List Int)):=⟨_,rfl⟩;replace H:((span_Worth.f k 3 false y420 0 2 y428 2).bind fun bt431=>((span_Most.f k 3 false y420 0 2 (-1)).bind fun bt433=>(if t425=0 then(if t424=0 then(if t427=0 then(if t426=8 then(if bt431.2=0 then(if bt431.1=1 then(some (bt433.2 == 1)) else(some false)) else(some false)) else(some false)) else(some false)) else(some false)) else(some false))))=some r:=by first|(rw[hy428];with_reducible exact H)|(have H2_:=(Option.bind_some _ _).symm.trans H;rw[hy428];with_reducible exact H2_)|(have H2_:=(Option.bind_some _ _).symm.trans H;with_reducible exact H2_)|with_reducible exact H|(rw[hy428];exact H)|exact H
 have Ny428:=Ya hy428;clear hy428;replace H:=Option.bind_eq_some_iff.mp H;obtain⟨⟨t431,t432⟩,A30,H⟩:=H;replace H:((span_Most.f k 3 false y420 0 2 (-1)).bind fun bt433=>(if t425=0 then(if t424=0 then(if t427=0 then(if t426=8 then(if t432=0 then(if t431=1 then(some (bt433.2 == 1)) else(some false)) else(some false)) else(some false)) else(some false)) else(some false)) else(some false)))=some r:=H;have A3:=Ya A30;clear A30;replace H:=Option.bind_eq_some_iff.mp H;obtain⟨⟨t433,t434⟩,A40,H⟩:=H;replace H:(if t425=0 then(if t424=0 then(if t427=0 then(if t426=8 then(if t432=0 then(if t431=1 then(some (t434 == 1)) else(some false)) else(some false)) else(some false)) else(some false)) else(some false)) else(some false))=some r:=H;have A4:=Ya A40;clear A40;by_cases c5:t425=0
 rotate_left
 ·rw[Yy c5] at H
  exact absurd (Option.some.inj H) (by rw[HRT.out];decide)
 rw[Yx c5] at H;have c5b0:(t425 == 0)=true:=beq_iff_eq.mpr c5;have c5b1:(t425 != 0)=false:=bne_eq_false_iff_eq.mpr c5;clear c5;by_cases c6:t424=0
 rotate_left
 ·rw[Yy c6] at H
  exact absurd (Option.some.inj H) (by rw[HRT.out];decide)
 rw[Yx c6] at H;have c6b0:(t424 == 0)=true:=beq_iff_eq.mpr c6;have c6b1:(t424 != 0)=false:=bne_eq_false_iff_eq.mpr c6;clear c6;by_cases c7:t427=0
 rotate_left
 ·rw[Yy c7] at H
  exact absurd (Option.some.inj H) (by rw[HRT.out];decide)
 rw[Yx c7] at H;have c7b0:(t427 == 0)=true:=beq_iff_eq.mpr c7;have c7b1:(t427 != 0)=false:=bne_eq_false_iff_eq.mpr c7;clear c7;by_cases c8:t426=8
 rotate_left
 ·rw[Yy c8] at H
  exact absurd (Option.some.inj H) (by rw[HRT.out];decide)
 rw[Yx c8] at H;have c8b0:(t426 == 8)=true:=beq_iff_eq.mpr c8;have c8b1:(t426 != 8)=false:=bne_eq_false_iff_eq.mpr c8;clear c8;by_cases c9:t432=0
 rotate_left
 ·rw[Yy c9] at H
  exact absurd (Option.some.inj H) (by rw[HRT.out];decide)
 rw[Yx c9] at H;have c9b0:(t432 == 0)=true:=beq_iff_eq.mpr c9;have c9b1:(t432 != 0)=false:=bne_eq_false_iff_eq.mpr c9;clear c9;by_cases c10:t431=1
 rotate_left
 ·rw[Yy c10] at H
  exact absurd (Option.some.inj H) (by rw[HRT.out];decide)
 rw[Yx c10] at H;have c10b0:(t431 == 1)=true:=beq_iff_eq.mpr c10;have c10b1:(t431 != 1)=false:=bne_eq_false_iff_eq.mpr c10;clear c10;obtain rfl:=Option.some.inj H;go_enter Try.func12,Try.ntmps12;go_wp2_with (first|((with_reducible refine gate_dst (N:=12) rfl ?_);refine Kd.R_lit k50 _ 50 ?hg (N:=12) ?hd (xs:=([(⟨0,1,2,1⟩:S50),(⟨1,2,2,1⟩:S50)]:List (S50))) (inner:=[.int .i64 0, .int .i64 1, .int .i64 2, .int .i64 1, .int .i64 1, .int .i64 2, .int .i64 2, .int .i64 1]) (ok:=fun _=>True) (okp:=fun _=>True) ?hr ?hp (fun _ hk=>hk) trivial (Yo _ _) (Nat.le_refl _) (by simp) ?_;(case hd=>rfl);(case hg=>rfl);(case hr=>first|(go_simp;done)|(go_simp;rfl));(case hp=>exact(Reps.c4 (show Kd.M k50 _ _ _ (⟨0,1,2,1⟩:S50) [.int .i64 0, .int .i64 1, .int .i64 2, .int .i64 1] from(k50_mkM _ _ _ (⟨0,1,2,1⟩:S50) )) (Reps.c4 (show Kd.M k50 _ _ _ (⟨1,2,2,1⟩:S50) [.int .i64 1, .int .i64 2, .int .i64 2, .int .i64 1] from(k50_mkM _ _ _ (⟨1,2,2,1⟩:S50) )) (Reps.none _ _))));intro v421 w11 ho12 hb hg_ hnew_;clear hg_ hnew_;(first|rw[← Ny420.out] at ho12|(simp only[Int.reduceToNat] at ho12;rw[← Ny420.out] at ho12));have Jg:=Ya (Kd.R_lower ho12 (Yi bl));replace HB:=Ya (Yk bl hb);clear hb ho12;obtain⟨Ao13,co13,eo13⟩:=Kd.R_slice Jg.out;subst eo13)|(refine bx 1 24 #[.int .i64 0, .bool false, .slice none 0 0] ?_;intro gb423 hg w14 Zf hb;replace Jg:=Ya (Ys (kR Jg) hb);have Wu:=Ya (Zf);have GW423:=Ya ((sz hg));have GE423:=Ya ((sz hg));replace HB:=Ya (Yk bl hb);clear hb Zf hg;have hcz15_0:w14.cell? ⟨gb423,0,none⟩=some (.int .i64 0):=bc Wu 0;have hcz15_1:w14.cell? ⟨gb423,1,none⟩=some (.bool false):=bc Wu 1;have hcz15_2:w14.cell? ⟨gb423,2,none⟩=some (.slice none 0 0):=bc Wu 2;have hfz15_0:=Yf Wu.out 0;have hfz15_1:=Yf Wu.out 1;have hfz15_2:=Yf Wu.out 2)|((with_reducible refine gate_callee (f:=10) rfl ?_);refine gl (some 16) Try.func10 #[.agg #[.int .i64 3, .bool false, .slice Ao13 y420.length co13], .int .i64 0, .int .i64 2, .int .i64 1] ?_;(with_reducible refine(span_Most.calls k 3 false _ _ y420 0 2 1 t424 t425 _ ?side1 ?side2 A1.out).mono ?_);(case side1=>refine(Kd.R_reads' (e:=50) (base:=w.heap.size) (ok:=fun k_=>True) (n:=y420.length) (c:=co13) ?_).2.2;exact(by(with_reducible repeat(first|apply Yr|apply Yq|apply Yp));exact(Kd.R_mono (Kd.R_far (p:=⟨gb423,2,none⟩) (Kd.R_far (p:=⟨gb423,1,none⟩) (Kd.R_far (p:=⟨gb423,0,none⟩) (Kd.R_types Jg.out Wu.out (by decide)) (fun _ hk=>hk.2) (.int .i64 3)) (fun _ hk=>hk.2) (.bool false)) (fun _ hk=>hk.2) (.slice Ao13 y420.length co13)) (fun _ h_=>h_.1))));(case side2=>exact(Kd.R_reads' Jg.out).2.1);rintro e w16 ⟨rfl,hb⟩;refine⟨_,rfl,?_⟩;replace Jg:=Ya (Ys (by(with_reducible repeat(first|apply Yr|apply Yq|apply Yp));exact(Kd.R_mono (Kd.R_far (p:=⟨gb423,2,none⟩) (Kd.R_far (p:=⟨gb423,1,none⟩) (Kd.R_far (p:=⟨gb423,0,none⟩) (Kd.R_types Jg.out Wu.out (by decide)) (fun _ hk=>hk.2) (.int .i64 3)) (fun _ hk=>hk.2) (.bool false)) (fun _ hk=>hk.2) (.slice Ao13 y420.length co13)) (fun _ h_=>h_.1))) hb);replace Wu:=Ya (Yn (g:=gb423) (o:= .cells #[.int .i64 3, .bool false, .slice Ao13 y420.length co13] 24 (0,0)) (by(with_reducible repeat(first|refine Yl ?_ _|refine Ym ?_|refine Yj ?_ _));refine YA (cs:= #[.int .i64 3, .bool false, .slice none 0 0]) ?_ 2 _ rfl;(with_reducible repeat(first|refine Yl ?_ _|refine Ym ?_|refine Yj ?_ _));refine YA (cs:= #[.int .i64 3, .bool false, .slice none 0 0]) ?_ 1 _ rfl;(with_reducible repeat(first|refine Yl ?_ _|refine Ym ?_|refine Yj ?_ _));refine YA (cs:= #[.int .i64 0, .bool false, .slice none 0 0]) ?_ 0 _ rfl;(with_reducible repeat(first|refine Yl ?_ _|refine Ym ?_|refine Yj ?_ _));exact Wu.out) hb);replace HB:=Ya (Yk bl hb);(try clear hb);(try clear hk);have Up:w16.cell? ⟨gb423,0,none⟩=some (.int .i64 3):=bc Wu 0;have Uq:w16.cell? ⟨gb423,1,none⟩=some (.bool false):=bc Wu 1;have hcz17_2:w16.cell? ⟨gb423,2,none⟩=some (.slice Ao13 y420.length co13):=bc Wu 2;have Ur:=Yf Wu.out 0;have Us:=Yf Wu.out 1;have hfz17_2:=Yf Wu.out 2)|((with_reducible refine gate_callee (f:=10) rfl ?_);refine gl (some 21) Try.func10 #[.agg #[.int .i64 3, .bool false, .slice Ao13 y420.length co13], .int .i64 0, .int .i64 2, .int .i64 5] ?_;(with_reducible refine(span_Most.calls k 3 false _ _ y420 0 2 5 t426 t427 _ ?side1 ?side2 A2.out).mono ?_);(case side1=>exact kC (Kd.R_reads' Jg.out).2.2);(case side2=>exact(Kd.R_reads' Jg.out).2.1);rintro e w18 ⟨rfl,hb⟩;refine⟨_,rfl,?_⟩;replace Jg:=Ya (Ys (kR Jg) hb);replace Wu:=Ya (Yn (bk Wu) hb);replace HB:=Ya (Yk bl hb);(try clear hb);(try clear hb2);(try clear hk);(try clear hi);have hcz19_0:w18.cell? ⟨gb423,0,none⟩=some (.int .i64 3):=bc Wu 0;have hcz19_1:w18.cell? ⟨gb423,1,none⟩=some (.bool false):=bc Wu 1;have hcz19_2:w18.cell? ⟨gb423,2,none⟩=some (.slice Ao13 y420.length co13):=bc Wu 2;have hfz19_0:=Yf Wu.out 0;have hfz19_1:=Yf Wu.out 1;have hfz19_2:=Yf Wu.out 2)|((with_reducible refine gate_dst (N:=26) rfl ?_);refine Kd.R_lit (Kd.int .i64) _ 3 ?hg (N:=26) ?hd (xs:=([1,1]:List Int)) (inner:=[.int .i64 1, .int .i64 1]) (ok:=fun _=>True) (okp:=fun _=>True) ?hr ?hp (fun _ hk=>hk) trivial (Yo _ _) (Nat.le_refl _) (by simp) ?_;(case hd=>rfl);(case hg=>rfl);(case hr=>first|(go_simp;done)|(go_simp;rfl));(case hp=>exact(Reps.one (show Kd.M (Kd.int .i64) _ _ _ 1 [.int .i64 1] from rfl) (Reps.one (show Kd.M (Kd.int .i64) _ _ _ 1 [.int .i64 1] from rfl) (Reps.none _ _))));intro v429 w20 ho21 hb hg_ hnew_;clear hg_ hnew_;(first|rw[← Ny428.out] at ho21|(simp only[Int.reduceToNat] at ho21;rw[← Ny428.out] at ho21));replace Jg:=Ya (Ys (kR Jg) hb);have HO430:=Ya (Kd.R_lower ho21 (Yi bl));replace Wu:=Ya (Yn (bk Wu) hb);replace HB:=Ya (Yk bl hb);clear hb ho21;obtain⟨Ao22,co22,eo22⟩:=Kd.R_slice HO430.out;subst eo22)|((with_reducible refine gate_callee (f:=33) rfl ?_);refine gl (some 27) Try.func33 #[.agg #[.int .i64 3, .bool false, .slice Ao13 y420.length co13], .int .i64 0, .int .i64 2, .slice Ao22 y428.length co22, .int .i64 2] ?_;(with_reducible refine(span_Worth.calls k 3 false _ _ y420 0 2 _ _ y428 2 t431 t432 _ ?side1 ?side2 ?side3 ?side4 A3.out).mono ?_);(case side1=>exact kC (Kd.R_reads' Jg.out).2.2);(case side2=>exact(Kd.R_reads' Jg.out).2.1);(case side3=>exact kC (Kd.R_reads' HO430.out).2.2);(case side4=>exact(Kd.R_reads' HO430.out).2.1);rintro e w23 ⟨rfl,hb⟩;refine⟨_,rfl,?_⟩;replace Jg:=Ya (Ys (kR Jg) hb);replace HO430:=Ya (Ys (kR HO430) hb);replace Wu:=Ya (Yn (bk Wu) hb);replace HB:=Ya (Yk bl hb);(try clear hb);(try clear hb2);(try clear hk);(try clear hi);have hcz24_0:w23.cell? ⟨gb423,0,none⟩=some (.int .i64 3):=bc Wu 0;have hcz24_1:w23.cell? ⟨gb423,1,none⟩=some (.bool false):=bc Wu 1;have hcz24_2:w23.cell? ⟨gb423,2,none⟩=some (.slice Ao13 y420.length co13):=bc Wu 2;have hfz24_0:=Yf Wu.out 0;have hfz24_1:=Yf Wu.out 1;have hfz24_2:=Yf Wu.out 2)|((with_reducible refine gate_callee (f:=10) rfl ?_);refine gl (some 32) Try.func10 #[.agg #[.int .i64 3, .bool false, .slice Ao13 y420.length co13], .int .i64 0, .int .i64 2, .int .i64 (-1)] ?_;(with_reducible refine(span_Most.calls k 3 false _ _ y420 0 2 (-1) t433 t434 _ ?side1 ?side2 A4.out).mono ?_);(case side1=>exact kC (Kd.R_reads' Jg.out).2.2);(case side2=>exact(Kd.R_reads' Jg.out).2.1);rintro e w25 ⟨rfl,hb⟩;refine⟨_,rfl,?_⟩;replace Jg:=Ya (Ys (kR Jg) hb);replace HO430:=Ya (Ys (kR HO430) hb);replace Wu:=Ya (Yn (bk Wu) hb);replace HB:=Ya (Yk bl hb);(try clear hb);(try clear hb2);(try clear hk);(try clear hi)));go_ret;exact⟨by first|rfl|(simp[errW_none,errW_some]<;>rfl)|(simp[*,errW_none,errW_some]<;>rfl),HB.out⟩
end P
namespace H
open P
def fewN (n nd:Int):Int:=if nd<n∧n≤50 then nd else n
def fewL (l:List S50) (ar:Nat):List S50:=if ar<l.length∧l.length≤200 then l.take ar else l
theorem fewL_C {w:World} {A:Option Addr} {l:List S50} (h:Kd.C k50 w A l.length l) (ar:Nat):Kd.C k50 w A (fewL l ar).length (fewL l ar):=by
 unfold fewL;split
 ·exact Kd.C_take h (by omega)
 ·exact h
theorem fewL_le (l:List S50) (ar:Nat):(fewL l ar).length≤l.length:=by
 unfold fewL;split
 ·rw[List.length_take];omega
 ·exact Nat.le_refl _
set_option maxHeartbeats 4000000 in
set_option maxRecDepth 100000 in
theorem few_calls (n:Int) (b:Bool) (A:Option Addr) (c:Nat) (l:List S50) (nd:Int) (ar:Nat) (w:World) (har:ar≤200) (hc:l.length≤c) (hC:Kd.C k50 w A l.length l):
  Calls Try.prog 9 #[.agg #[.int .i64 n, .bool b, .slice A l.length c], .int .i64 nd, .int .i64 (ar:Int)] w fun e w'=>e= .returned (.agg #[.int .i64 (fewN n nd), .bool b, .slice A (fewL l ar).length c])∧Below w.heap.size w w':=by
 have hu24:=Try.underlying24;have hu22:=Try.underlying22;have hA:0<l.length→ ∃ ad,A=some ad:=fun h=>by obtain⟨ad,e,_⟩:=hC.2.2 h;exact⟨ad,e⟩
 have HAD:=Ya hA;clear hA hC;go_enter Try.func9,Try.ntmps9;go_upto_region 1 with (first|((with_reducible refine gate_dst (N:=3) rfl ?_);refine Yz ?hg (N:=3) ?hd (cs:= #[.int .i64 n, .bool b, .slice A l.length c]) (t:=24) ?hr ?_;(case hd=>rfl);(case hg=>rfl);(case hr=>first|(go_simp;done)|(go_simp;rfl));intro g3 hg3 w5 Zf hb;have B3:=Ya Zf;have HB:=Ya hb;have HG3:=Ya hg3;clear hg3 Zf hb)|fail)
 have B6:Aside0 ((w5.alloc (.cells #[.int .i64 0, .bool false, .slice none 0 0] 24)).heap[w5.heap.size]? =some (.cells #[.int .i64 0, .bool false, .slice none 0 0] 24 (0,0))):=⟨heap_alloc_new w5 _⟩;have m0_:=Ya (Yn B3.out (Ye (Yo _ _) (.cells #[.int .i64 0, .bool false, .slice none 0 0] 24)));have m1_:=Ya (Ye HB.out (.cells #[.int .i64 0, .bool false, .slice none 0 0] 24));have hg36:g3<w5.heap.size:=blk_lt B3.out;have hgw:w.heap.size≤g3:=by have:=HG3.out;omega
 clear B3 HB HG3;have B3:=m0_;have HB:=m1_;clear m0_ m1_;generalize w5.alloc (.cells #[.int .i64 0, .bool false, .slice none 0 0] 24)=w6 at *;generalize w5.heap.size=g6 at *;have h0:w6.cell? ⟨g3,0,none⟩=some (.int .i64 n):=(Yc B3.out 0).trans rfl;have h1:w6.cell? ⟨g3,1,none⟩=some (.bool b):=(Yc B3.out 1).trans rfl;have h2:w6.cell? ⟨g3,2,none⟩=some (.slice A l.length c):=(Yc B3.out 2).trans rfl;have f0:=Yf B3.out 0;have hg63:g6≠g3:=by omega
 have hgw6:w.heap.size≤g6:=by omega
 by_cases hn:nd<n
 ·have e1:decide (nd<n)=true:=Yv hn
  by_cases h50:n≤50
  ·have e2:decide (n≤50)=true:=Yv h50
   have e3:fewN n nd=nd:=by unfold fewN;rw[Yx ⟨hn,h50⟩]
   have E3:=Ya e3;clear e3;go_upto_region 3 with fail
   have C3:Aside0 ((w6.setCell ⟨g3,0,none⟩ (.int .i64 nd)).heap[g3]? =some (.cells #[.int .i64 nd, .bool b, .slice A l.length c] 24 (0,0))):=⟨(blk_set B3.out 0 (.int .i64 nd)).trans rfl⟩;have C6:Aside0 ((w6.setCell ⟨g3,0,none⟩ (.int .i64 nd)).heap[g6]? =some (.cells #[.int .i64 0, .bool false, .slice none 0 0] 24 (0,0))):=⟨blk_far B6.out (p:=⟨g3,0,none⟩) hg63 _⟩;have HC:Aside0 (Below w.heap.size w (w6.setCell ⟨g3,0,none⟩ (.int .i64 nd))):=⟨Yh HB.out hgw⟩;clear B3 B6 HB h0 h1 h2 f0;generalize w6.setCell ⟨g3,0,none⟩ (.int .i64 nd)=w7 at *;have f2:=Yf C3.out 2;have x2:w7.cell? ⟨g3,2,none⟩=some (.slice A l.length c):=(Yc C3.out 2).trans rfl;by_cases hl:ar<l.length
   ·have d1:decide ((ar:Int)<(l.length:Int))=true:=Yv (by omega)
    by_cases hl2:l.length≤200
    ·have d2:decide ((l.length:Int)≤200)=true:=Yv (by omega)
     obtain⟨ad,rfl⟩:=HAD.out (by omega);have r1:(0:Int)≤(ar:Int):=by omega
     have r2:(ar:Int)≤(c:Int):=by omega
     have e4:(fewL l ar).length=ar:=by unfold fewL;rw[Yx ⟨hl,hl2⟩,List.length_take];omega
     have E4:=Ya e4;clear e4;go_upto_region 5 with fail
     have D3:Aside0 ((w7.setCell ⟨g3,2,none⟩ (.slice (some ad) ar c)).heap[g3]? =some (.cells #[.int .i64 nd, .bool b, .slice (some ad) ar c] 24 (0,0))):=⟨(blk_set C3.out 2 _).trans rfl⟩;have D6:Aside0 ((w7.setCell ⟨g3,2,none⟩ (.slice (some ad) ar c)).heap[g6]? =some (.cells #[.int .i64 0, .bool false, .slice none 0 0] 24 (0,0))):=⟨blk_far C6.out (p:=⟨g3,2,none⟩) hg63 _⟩;have HD:Aside0 (Below w.heap.size w (w7.setCell ⟨g3,2,none⟩ (.slice (some ad) ar c))):=⟨Yh HC.out hgw⟩;clear C3 C6 HC f2 x2;generalize w7.setCell ⟨g3,2,none⟩ (.slice (some ad) ar c)=w8 at *;have C3:=D3;have C6:=D6;have HC:=HD;clear D3 D6 HD;have k0:w8.cell? ⟨g3,0,none⟩=some (.int .i64 nd):=(Yc C3.out 0).trans rfl;have k1:w8.cell? ⟨g3,1,none⟩=some (.bool b):=(Yc C3.out 1).trans rfl;have k2:w8.cell? ⟨g3,2,none⟩=some (.slice (some ad) ar c):=(Yc C3.out 2).trans rfl;have j0:w8.cell? ⟨g6,0,none⟩=some (.int .i64 0):=(Yc C6.out 0).trans rfl;have j1:w8.cell? ⟨g6,1,none⟩=some (.bool false):=(Yc C6.out 1).trans rfl;have j2:w8.cell? ⟨g6,2,none⟩=some (.slice none 0 0):=(Yc C6.out 2).trans rfl;have q0:=Yf C6.out 0;have q1:=Yf C6.out 1;have q2:=Yf C6.out 2;go_wp2_with fail;refine bodyPost_ret (results_cell_row rfl _ _ g6 24 #[.int .i64 nd, .bool b, .slice (some ad) ar c] (0,0) _ rfl (YA (cs:= #[.int .i64 nd, .bool b, .slice none 0 0]) (YA (cs:= #[.int .i64 nd, .bool false, .slice none 0 0]) (YA (cs:= #[.int .i64 0, .bool false, .slice none 0 0]) C6.out 0 _ rfl) 1 _ rfl) 2 _ rfl) Try.underlying24 rfl (by kernel_rfl)) rfl ?_;exact⟨by rw[E3.out,E4.out],Yh (Yh (Yh HC.out hgw6) hgw6) hgw6⟩
    ·have d2:decide ((l.length:Int)≤200)=false:=Yw (by omega)
     have e4:fewL l ar=l:=by unfold fewL;rw[Yy (fun h=>by omega)]
     have E4:=Ya e4;clear e4;go_upto_region 5 with fail
     clear f2 x2;have k0:w7.cell? ⟨g3,0,none⟩=some (.int .i64 nd):=(Yc C3.out 0).trans rfl;have k1:w7.cell? ⟨g3,1,none⟩=some (.bool b):=(Yc C3.out 1).trans rfl;have k2:w7.cell? ⟨g3,2,none⟩=some (.slice A l.length c):=(Yc C3.out 2).trans rfl;have j0:w7.cell? ⟨g6,0,none⟩=some (.int .i64 0):=(Yc C6.out 0).trans rfl;have j1:w7.cell? ⟨g6,1,none⟩=some (.bool false):=(Yc C6.out 1).trans rfl;have j2:w7.cell? ⟨g6,2,none⟩=some (.slice none 0 0):=(Yc C6.out 2).trans rfl;have q0:=Yf C6.out 0;have q1:=Yf C6.out 1;have q2:=Yf C6.out 2;go_wp2_with fail;refine bodyPost_ret (results_cell_row rfl _ _ g6 24 #[.int .i64 nd, .bool b, .slice A l.length c] (0,0) _ rfl (YA (cs:= #[.int .i64 nd, .bool b, .slice none 0 0]) (YA (cs:= #[.int .i64 nd, .bool false, .slice none 0 0]) (YA (cs:= #[.int .i64 0, .bool false, .slice none 0 0]) C6.out 0 _ rfl) 1 _ rfl) 2 _ rfl) Try.underlying24 rfl (by kernel_rfl)) rfl ?_;exact⟨by rw[E3.out,E4.out],Yh (Yh (Yh HC.out hgw6) hgw6) hgw6⟩
   ·have d1:decide ((ar:Int)<(l.length:Int))=false:=Yw (by omega)
    have e4:fewL l ar=l:=by unfold fewL;rw[Yy (fun h=>by omega)]
    have E4:=Ya e4;clear e4;go_upto_region 5 with fail
    clear f2 x2;have k0:w7.cell? ⟨g3,0,none⟩=some (.int .i64 nd):=(Yc C3.out 0).trans rfl;have k1:w7.cell? ⟨g3,1,none⟩=some (.bool b):=(Yc C3.out 1).trans rfl;have k2:w7.cell? ⟨g3,2,none⟩=some (.slice A l.length c):=(Yc C3.out 2).trans rfl;have j0:w7.cell? ⟨g6,0,none⟩=some (.int .i64 0):=(Yc C6.out 0).trans rfl;have j1:w7.cell? ⟨g6,1,none⟩=some (.bool false):=(Yc C6.out 1).trans rfl;have j2:w7.cell? ⟨g6,2,none⟩=some (.slice none 0 0):=(Yc C6.out 2).trans rfl;have q0:=Yf C6.out 0;have q1:=Yf C6.out 1;have q2:=Yf C6.out 2;go_wp2_with fail;refine bodyPost_ret (results_cell_row rfl _ _ g6 24 #[.int .i64 nd, .bool b, .slice A l.length c] (0,0) _ rfl (YA (cs:= #[.int .i64 nd, .bool b, .slice none 0 0]) (YA (cs:= #[.int .i64 nd, .bool false, .slice none 0 0]) (YA (cs:= #[.int .i64 0, .bool false, .slice none 0 0]) C6.out 0 _ rfl) 1 _ rfl) 2 _ rfl) Try.underlying24 rfl (by kernel_rfl)) rfl ?_;exact⟨by rw[E3.out,E4.out],Yh (Yh (Yh HC.out hgw6) hgw6) hgw6⟩
  ·have e2:decide (n≤50)=false:=Yw h50
   have e3:fewN n nd=n:=by unfold fewN;rw[Yy (fun h=>by omega)]
   have E3:=Ya e3;clear e3 h0 h1 h2 f0;have C3:=B3;have C6:=B6;have HC:=HB;clear B3 B6 HB;have h0:w6.cell? ⟨g3,0,none⟩=some (.int .i64 n):=(Yc C3.out 0).trans rfl;go_upto_region 3 with fail
   clear h0;have f2:=Yf C3.out 2;have x2:w6.cell? ⟨g3,2,none⟩=some (.slice A l.length c):=(Yc C3.out 2).trans rfl;by_cases hl:ar<l.length
   ·have d1:decide ((ar:Int)<(l.length:Int))=true:=Yv (by omega)
    by_cases hl2:l.length≤200
    ·have d2:decide ((l.length:Int)≤200)=true:=Yv (by omega)
     obtain⟨ad,rfl⟩:=HAD.out (by omega);have r1:(0:Int)≤(ar:Int):=by omega
     have r2:(ar:Int)≤(c:Int):=by omega
     have e4:(fewL l ar).length=ar:=by unfold fewL;rw[Yx ⟨hl,hl2⟩,List.length_take];omega
     have E4:=Ya e4;clear e4;go_upto_region 5 with fail
     have D3:Aside0 ((w6.setCell ⟨g3,2,none⟩ (.slice (some ad) ar c)).heap[g3]? =some (.cells #[.int .i64 n, .bool b, .slice (some ad) ar c] 24 (0,0))):=⟨(blk_set C3.out 2 _).trans rfl⟩;have D6:Aside0 ((w6.setCell ⟨g3,2,none⟩ (.slice (some ad) ar c)).heap[g6]? =some (.cells #[.int .i64 0, .bool false, .slice none 0 0] 24 (0,0))):=⟨blk_far C6.out (p:=⟨g3,2,none⟩) hg63 _⟩;have HD:Aside0 (Below w.heap.size w (w6.setCell ⟨g3,2,none⟩ (.slice (some ad) ar c))):=⟨Yh HC.out hgw⟩;clear C3 C6 HC f2 x2;generalize w6.setCell ⟨g3,2,none⟩ (.slice (some ad) ar c)=w8 at *;have C3:=D3;have C6:=D6;have HC:=HD;clear D3 D6 HD;have k0:w8.cell? ⟨g3,0,none⟩=some (.int .i64 n):=(Yc C3.out 0).trans rfl;have k1:w8.cell? ⟨g3,1,none⟩=some (.bool b):=(Yc C3.out 1).trans rfl;have k2:w8.cell? ⟨g3,2,none⟩=some (.slice (some ad) ar c):=(Yc C3.out 2).trans rfl;have j0:w8.cell? ⟨g6,0,none⟩=some (.int .i64 0):=(Yc C6.out 0).trans rfl;have j1:w8.cell? ⟨g6,1,none⟩=some (.bool false):=(Yc C6.out 1).trans rfl;have j2:w8.cell? ⟨g6,2,none⟩=some (.slice none 0 0):=(Yc C6.out 2).trans rfl;have q0:=Yf C6.out 0;have q1:=Yf C6.out 1;have q2:=Yf C6.out 2;go_wp2_with fail;refine bodyPost_ret (results_cell_row rfl _ _ g6 24 #[.int .i64 n, .bool b, .slice (some ad) ar c] (0,0) _ rfl (YA (cs:= #[.int .i64 n, .bool b, .slice none 0 0]) (YA (cs:= #[.int .i64 n, .bool false, .slice none 0 0]) (YA (cs:= #[.int .i64 0, .bool false, .slice none 0 0]) C6.out 0 _ rfl) 1 _ rfl) 2 _ rfl) Try.underlying24 rfl (by kernel_rfl)) rfl ?_;exact⟨by rw[E3.out,E4.out],Yh (Yh (Yh HC.out hgw6) hgw6) hgw6⟩
    ·have d2:decide ((l.length:Int)≤200)=false:=Yw (by omega)
     have e4:fewL l ar=l:=by unfold fewL;rw[Yy (fun h=>by omega)]
     have E4:=Ya e4;clear e4;go_upto_region 5 with fail
     clear f2 x2;have k0:w6.cell? ⟨g3,0,none⟩=some (.int .i64 n):=(Yc C3.out 0).trans rfl;have k1:w6.cell? ⟨g3,1,none⟩=some (.bool b):=(Yc C3.out 1).trans rfl;have k2:w6.cell? ⟨g3,2,none⟩=some (.slice A l.length c):=(Yc C3.out 2).trans rfl;have j0:w6.cell? ⟨g6,0,none⟩=some (.int .i64 0):=(Yc C6.out 0).trans rfl;have j1:w6.cell? ⟨g6,1,none⟩=some (.bool false):=(Yc C6.out 1).trans rfl;have j2:w6.cell? ⟨g6,2,none⟩=some (.slice none 0 0):=(Yc C6.out 2).trans rfl;have q0:=Yf C6.out 0;have q1:=Yf C6.out 1;have q2:=Yf C6.out 2;go_wp2_with fail;refine bodyPost_ret (results_cell_row rfl _ _ g6 24 #[.int .i64 n, .bool b, .slice A l.length c] (0,0) _ rfl (YA (cs:= #[.int .i64 n, .bool b, .slice none 0 0]) (YA (cs:= #[.int .i64 n, .bool false, .slice none 0 0]) (YA (cs:= #[.int .i64 0, .bool false, .slice none 0 0]) C6.out 0 _ rfl) 1 _ rfl) 2 _ rfl) Try.underlying24 rfl (by kernel_rfl)) rfl ?_;exact⟨by rw[E3.out,E4.out],Yh (Yh (Yh HC.out hgw6) hgw6) hgw6⟩
   ·have d1:decide ((ar:Int)<(l.length:Int))=false:=Yw (by omega)
    have e4:fewL l ar=l:=by unfold fewL;rw[Yy (fun h=>by omega)]
    have E4:=Ya e4;clear e4;go_upto_region 5 with fail
    clear f2 x2;have k0:w6.cell? ⟨g3,0,none⟩=some (.int .i64 n):=(Yc C3.out 0).trans rfl;have k1:w6.cell? ⟨g3,1,none⟩=some (.bool b):=(Yc C3.out 1).trans rfl;have k2:w6.cell? ⟨g3,2,none⟩=some (.slice A l.length c):=(Yc C3.out 2).trans rfl;have j0:w6.cell? ⟨g6,0,none⟩=some (.int .i64 0):=(Yc C6.out 0).trans rfl;have j1:w6.cell? ⟨g6,1,none⟩=some (.bool false):=(Yc C6.out 1).trans rfl;have j2:w6.cell? ⟨g6,2,none⟩=some (.slice none 0 0):=(Yc C6.out 2).trans rfl;have q0:=Yf C6.out 0;have q1:=Yf C6.out 1;have q2:=Yf C6.out 2;go_wp2_with fail;refine bodyPost_ret (results_cell_row rfl _ _ g6 24 #[.int .i64 n, .bool b, .slice A l.length c] (0,0) _ rfl (YA (cs:= #[.int .i64 n, .bool b, .slice none 0 0]) (YA (cs:= #[.int .i64 n, .bool false, .slice none 0 0]) (YA (cs:= #[.int .i64 0, .bool false, .slice none 0 0]) C6.out 0 _ rfl) 1 _ rfl) 2 _ rfl) Try.underlying24 rfl (by kernel_rfl)) rfl ?_;exact⟨by rw[E3.out,E4.out],Yh (Yh (Yh HC.out hgw6) hgw6) hgw6⟩
 ·have e1:decide (nd<n)=false:=Yw hn
  have e3:fewN n nd=n:=by unfold fewN;rw[Yy (fun h=>by omega)]
  have E3:=Ya e3;clear e3 h0 h1 h2 f0;have C3:=B3;have C6:=B6;have HC:=HB;clear B3 B6 HB;have h0:w6.cell? ⟨g3,0,none⟩=some (.int .i64 n):=(Yc C3.out 0).trans rfl;go_upto_region 3 with fail
  clear h0;have f2:=Yf C3.out 2;have x2:w6.cell? ⟨g3,2,none⟩=some (.slice A l.length c):=(Yc C3.out 2).trans rfl;by_cases hl:ar<l.length
  ·have d1:decide ((ar:Int)<(l.length:Int))=true:=Yv (by omega)
   by_cases hl2:l.length≤200
   ·have d2:decide ((l.length:Int)≤200)=true:=Yv (by omega)
    obtain⟨ad,rfl⟩:=HAD.out (by omega);have r1:(0:Int)≤(ar:Int):=by omega
    have r2:(ar:Int)≤(c:Int):=by omega
    have e4:(fewL l ar).length=ar:=by unfold fewL;rw[Yx ⟨hl,hl2⟩,List.length_take];omega
    have E4:=Ya e4;clear e4;go_upto_region 5 with fail
    have D3:Aside0 ((w6.setCell ⟨g3,2,none⟩ (.slice (some ad) ar c)).heap[g3]? =some (.cells #[.int .i64 n, .bool b, .slice (some ad) ar c] 24 (0,0))):=⟨(blk_set C3.out 2 _).trans rfl⟩;have D6:Aside0 ((w6.setCell ⟨g3,2,none⟩ (.slice (some ad) ar c)).heap[g6]? =some (.cells #[.int .i64 0, .bool false, .slice none 0 0] 24 (0,0))):=⟨blk_far C6.out (p:=⟨g3,2,none⟩) hg63 _⟩;have HD:Aside0 (Below w.heap.size w (w6.setCell ⟨g3,2,none⟩ (.slice (some ad) ar c))):=⟨Yh HC.out hgw⟩;clear C3 C6 HC f2 x2;generalize w6.setCell ⟨g3,2,none⟩ (.slice (some ad) ar c)=w8 at *;have C3:=D3;have C6:=D6;have HC:=HD;clear D3 D6 HD;have k0:w8.cell? ⟨g3,0,none⟩=some (.int .i64 n):=(Yc C3.out 0).trans rfl;have k1:w8.cell? ⟨g3,1,none⟩=some (.bool b):=(Yc C3.out 1).trans rfl;have k2:w8.cell? ⟨g3,2,none⟩=some (.slice (some ad) ar c):=(Yc C3.out 2).trans rfl;have j0:w8.cell? ⟨g6,0,none⟩=some (.int .i64 0):=(Yc C6.out 0).trans rfl;have j1:w8.cell? ⟨g6,1,none⟩=some (.bool false):=(Yc C6.out 1).trans rfl;have j2:w8.cell? ⟨g6,2,none⟩=some (.slice none 0 0):=(Yc C6.out 2).trans rfl;have q0:=Yf C6.out 0;have q1:=Yf C6.out 1;have q2:=Yf C6.out 2;go_wp2_with fail;refine bodyPost_ret (results_cell_row rfl _ _ g6 24 #[.int .i64 n, .bool b, .slice (some ad) ar c] (0,0) _ rfl (YA (cs:= #[.int .i64 n, .bool b, .slice none 0 0]) (YA (cs:= #[.int .i64 n, .bool false, .slice none 0 0]) (YA (cs:= #[.int .i64 0, .bool false, .slice none 0 0]) C6.out 0 _ rfl) 1 _ rfl) 2 _ rfl) Try.underlying24 rfl (by kernel_rfl)) rfl ?_;exact⟨by rw[E3.out,E4.out],Yh (Yh (Yh HC.out hgw6) hgw6) hgw6⟩
   ·have d2:decide ((l.length:Int)≤200)=false:=Yw (by omega)
    have e4:fewL l ar=l:=by unfold fewL;rw[Yy (fun h=>by omega)]
    have E4:=Ya e4;clear e4;go_upto_region 5 with fail
    clear f2 x2;have k0:w6.cell? ⟨g3,0,none⟩=some (.int .i64 n):=(Yc C3.out 0).trans rfl;have k1:w6.cell? ⟨g3,1,none⟩=some (.bool b):=(Yc C3.out 1).trans rfl;have k2:w6.cell? ⟨g3,2,none⟩=some (.slice A l.length c):=(Yc C3.out 2).trans rfl;have j0:w6.cell? ⟨g6,0,none⟩=some (.int .i64 0):=(Yc C6.out 0).trans rfl;have j1:w6.cell? ⟨g6,1,none⟩=some (.bool false):=(Yc C6.out 1).trans rfl;have j2:w6.cell? ⟨g6,2,none⟩=some (.slice none 0 0):=(Yc C6.out 2).trans rfl;have q0:=Yf C6.out 0;have q1:=Yf C6.out 1;have q2:=Yf C6.out 2;go_wp2_with fail;refine bodyPost_ret (results_cell_row rfl _ _ g6 24 #[.int .i64 n, .bool b, .slice A l.length c] (0,0) _ rfl (YA (cs:= #[.int .i64 n, .bool b, .slice none 0 0]) (YA (cs:= #[.int .i64 n, .bool false, .slice none 0 0]) (YA (cs:= #[.int .i64 0, .bool false, .slice none 0 0]) C6.out 0 _ rfl) 1 _ rfl) 2 _ rfl) Try.underlying24 rfl (by kernel_rfl)) rfl ?_;exact⟨by rw[E3.out,E4.out],Yh (Yh (Yh HC.out hgw6) hgw6) hgw6⟩
  ·have d1:decide ((ar:Int)<(l.length:Int))=false:=Yw (by omega)
   have e4:fewL l ar=l:=by unfold fewL;rw[Yy (fun h=>by omega)]
   have E4:=Ya e4;clear e4;go_upto_region 5 with fail
   clear f2 x2;have k0:w6.cell? ⟨g3,0,none⟩=some (.int .i64 n):=(Yc C3.out 0).trans rfl;have k1:w6.cell? ⟨g3,1,none⟩=some (.bool b):=(Yc C3.out 1).trans rfl;have k2:w6.cell? ⟨g3,2,none⟩=some (.slice A l.length c):=(Yc C3.out 2).trans rfl;have j0:w6.cell? ⟨g6,0,none⟩=some (.int .i64 0):=(Yc C6.out 0).trans rfl;have j1:w6.cell? ⟨g6,1,none⟩=some (.bool false):=(Yc C6.out 1).trans rfl;have j2:w6.cell? ⟨g6,2,none⟩=some (.slice none 0 0):=(Yc C6.out 2).trans rfl;have q0:=Yf C6.out 0;have q1:=Yf C6.out 1;have q2:=Yf C6.out 2;go_wp2_with fail;refine bodyPost_ret (results_cell_row rfl _ _ g6 24 #[.int .i64 n, .bool b, .slice A l.length c] (0,0) _ rfl (YA (cs:= #[.int .i64 n, .bool b, .slice none 0 0]) (YA (cs:= #[.int .i64 n, .bool false, .slice none 0 0]) (YA (cs:= #[.int .i64 0, .bool false, .slice none 0 0]) C6.out 0 _ rfl) 1 _ rfl) 2 _ rfl) Try.underlying24 rfl (by kernel_rfl)) rfl ?_;exact⟨by rw[E3.out,E4.out],Yh (Yh (Yh HC.out hgw6) hgw6) hgw6⟩
end H
namespace Q
open P
open H (endsErr Right right_of StepOf stRoom IsFlow leastR pushW stRoom_in)
theorem endsE_ok {n:Int} {l:List S50} {s t:Int} (h:endsErr n l s t=0):NetOk n l∧0≤s∧s<n∧0≤t∧t<n∧s≠t:=by
 unfold endsErr at h;by_cases hn:netErr n l=0
 ·rw[Yx hn] at h
  split at h
  ·rename_i he
   exact⟨netErr_ok hn,he⟩
  ·cases h
 ·rw[Yy hn] at h;exact absurd h hn
theorem endsE_of {n:Int} {l:List S50} {s t:Int} (hn:NetOk n l) (h:0≤s∧s<n∧0≤t∧t<n∧s≠t):endsErr n l s t=0:=by
 unfold endsErr;rw[Yx (netOk_err hn),Yx h]
def evenB (s t:Int):List Int→Int→Bool
 |[],_=>true
 |x::l,i=>if i=s then evenB s t l (i+1) else if i=t then evenB s t l (i+1) else if x=0 then evenB s t l (i+1) else false
def valRes (n:Int) (l:List S50) (s t:Int) (f:List Int):Int × Int:=
 if endsErr n l s t=0 then(if askErr n l f=0 then(if evenB s t (balOf n l f) 0=true then(bal l f s,0) else(0,71)) else(0,askErr n l f)) else(0,endsErr n l s t)
theorem evenB_iff (s t:Int) (X:List Int): ∀ i:Int,evenB s t X i=true↔ ∀ j:Nat,j<X.length→i+j≠s→i+j≠t→X.getD j 0=0:=by
 induction X with
 |nil=>intro i;simp[evenB]
 |cons x X ih=>
  intro i;have key:evenB s t X (i+1)=true↔ ∀ j:Nat,j+1<(x::X).length→i+(j+1:Nat)≠s→i+(j+1:Nat)≠t→(x::X).getD (j+1) 0=0:=by
   rw[ih (i+1)];constructor
   ·intro h j h1 h2 h3
    rw[List.getD_cons_succ];exact h j (by simpa using h1) (by omega) (by omega)
   ·intro h j h1 h2 h3
    have:=h j (by simpa using h1) (by omega) (by omega)
    rwa [List.getD_cons_succ] at this
  have all:(i≠s→i≠t→x=0)→(evenB s t X (i+1)=true↔ ∀ j:Nat,j<(x::X).length→i+j≠s→i+j≠t→(x::X).getD j 0=0):=by
   intro hx;rw[key];constructor
   ·intro h j h1 h2 h3
    cases j with
    |zero=>exact hx (by simpa using h2) (by simpa using h3)
    |succ j=>exact h j h1 h2 h3
   ·intro h j h1 h2 h3
    exact h (j+1) h1 h2 h3
  unfold evenB;by_cases h1:i=s
  ·rw[Yx h1];exact all (fun h=>absurd h1 h)
  rw[Yy h1];by_cases h2:i=t
  ·rw[Yx h2];exact all (fun _ h=>absurd h2 h)
  rw[Yy h2];by_cases h3:x=0
  ·rw[Yx h3];exact all (fun _ _=>h3)
  ·rw[Yy h3]
   constructor
   ·intro h;cases h
   ·intro h
    exact absurd (h 0 (by simp) (by simpa using h1) (by simpa using h2)) h3
theorem ref_check2_l0 (n:Int) (p:Bool) (l:List S50) (s t:Int) (b:List Int) (hb:b.length≤50) (hbn:n=b.length) (hs:0≤s) (hsn:s<b.length) (d:Nat): ∀ i:Nat,i+d=b.length→
  Ev (fun k=>ebbtideref07_Check.l0 k s t b (i:Int) n p l) (if evenB s t (b.drop i) i=true then(rd b s,0) else(0,71)):=by
 induction d with
 |zero=>
  intro i hi;refine Ev.succ ?_;simp only[ebbtideref07_Check.l0];refine Ev.neg (by omega) ?_;refine Ev.pos (by omega) ?_;refine Ev.pos (by omega) ?_;rw[List.drop_of_length_le (by omega)];exact Ev.now _
 |succ d ih=>
  intro i hi;refine Ev.succ ?_;simp only[ebbtideref07_Check.l0];refine Ev.pos (by omega) ?_;rw[drop_getD b i 0 (by omega),rd_nat,wrap_succ (n:=b.length) (by omega) (by omega)];unfold evenB;have:=ih (i+1) (by omega);rw[show ((i+1:Nat):Int)=(i:Int)+1 by omega] at this ⊢;refine Ev.ite (fun g1=> ?_) (fun g1=> ?_)
  ·rw[Yx g1];exact this
  rw[Yy g1];refine Ev.ite (fun g2=> ?_) (fun g2=> ?_)
  ·rw[Yx g2];exact this
  rw[Yy g2];refine Ev.pos (by omega) ?_;refine Ev.pos (by omega) ?_;refine Ev.ite (fun g=> ?_) (fun g=> ?_)
  ·rw[Yx g];exact this
  rw[Yy g];exact Ev.now _
theorem ref_value_ev (n:Int) (b:Bool) (l:List S50) (s t:Int) (f:List Int):Ev (fun k=>ebbtideref07_Check.f k n b l s t f) (valRes n l s t f):=by
 unfold ebbtideref07_Check.f valRes;refine Ev.bind (ref_ends_ev n b l s t) ?_;refine Ev.ite (fun h=> ?_) (fun h=> ?_)
 ·rw[Yx h]
  obtain⟨hn,he⟩:=endsE_ok h;have:=hn.lo;have:=hn.hi;refine Ev.bind (ref_balance_ev n b l f) ?_;by_cases g:askErr n l f=0
  ·rw[Yx g,balRes_ok g]
   refine Ev.pos rfl ?_;refine Ev.eq (ref_check2_l0 n b l s t (balOf n l f) (by rw[balOf_len];omega) (by rw[balOf_len];omega) (by omega) (by rw[balOf_len];omega) _ 0 (Nat.zero_add _)) ?_;rw[rd_balOf (by omega) (by omega),List.drop_zero];rfl
  ·rw[Yy g,balRes_no g]
   exact Ev.neg g (Ev.now _)
 ·rw[Yy h]
  exact Ev.now _
theorem flowOk_of {l:List S50} {F:List Int} {n:Nat} (hr:Right l F n):FlowOk l F:=by
 refine⟨hr.len,fun i hi=> ?_⟩;have:=hr.nums i (by rw[← hr.len];exact hi);rw[rd_nat];exact⟨this.2.2.1,this.2.2.2.1⟩
theorem even_flow {n:Nat} {l:List S50} {F:List Int} {s t:Int} (hr:Right l F n):evenB s t (balOf n l F) 0=true↔IsFlow l F n s t:=by
 rw[evenB_iff];have hlen:=balOf_len (n:Int) l F;rw[Int.toNat_natCast] at hlen;have hg: ∀ v:Nat,v<n→(balOf n l F).getD v 0=bal l F v:=fun v hv=>by
  have h_:=rd_balOf (n:=(n:Int)) (l:=l) (f:=F) (v:=(v:Int)) (by omega) (by omega);rw[rd_nat] at h_;exact h_
 constructor
 ·intro h
  refine⟨hr,fun v h0 h1 h2 h3=> ?_⟩;obtain⟨v,rfl⟩: ∃ v':Nat,v=v':=⟨v.toNat,by omega⟩;rw[← hg v (by omega)];exact h v (by omega) (by omega) (by omega)
 ·intro h v hv h2 h3
  rw[hg v (by omega)];exact h.keeps v (by omega) (by omega) (by omega) (by omega)
theorem val_flow {n:Nat} {l:List S50} {F:List Int} {s t:Int} (hn:NetOk n l) (he:0≤s∧s<n∧0≤t∧t<n∧s≠t) (hf:IsFlow l F n s t):valRes n l s t F=(bal l F s,0):=by
 unfold valRes;rw[Yx (endsE_of hn he),Yx (ask_of hn (flowOk_of hf.right)),Yx ((even_flow hf.right).2 hf)]
theorem flow_val {n:Int} {l:List S50} {F:List Int} {s t:Int} (h:(valRes n l s t F).2=0):endsErr n l s t=0∧askErr n l F=0∧ ∃ n0:Nat,n=n0∧IsFlow l F n0 s t∧valRes n l s t F=(bal l F s,0):=by
 unfold valRes at h ⊢;by_cases h1:endsErr n l s t=0
 ·rw[Yx h1] at h ⊢
  by_cases h2:askErr n l F=0
  ·rw[Yx h2] at h ⊢
   obtain⟨n0,rfl,hr⟩:=right_of h2;by_cases h3:evenB s t (balOf n0 l F) 0=true
   ·rw[Yx h3]
    exact⟨h1,h2,n0,rfl,(even_flow hr).1 h3,rfl⟩
   ·rw[Yy h3] at h;cases h
  ·rw[Yy h2] at h;exact absurd h h2
 ·rw[Yy h1] at h;exact absurd h h1
end Q
namespace Q
open P
open H (endsErr Right right_of StepOf stRoom IsFlow leastR pushW nodes stepsR steps_ev frP toP)
theorem value_l0 (m:Int) (l:List S50) (f:List Int) (hn:NetOk m l) (hf:FlowOk l f) (v:Int) (d:Nat): ∀ (i:Nat) (acc:Int),i+d=l.length→ -(i * 2097152)≤acc→acc≤i * 2097152→
  Ev (fun k=>maxflow_Value.l0 k v f acc l (l.length:Int) (i:Int)) (acc+bal (l.drop i) (f.drop i) v):=by
 have hlen:=hf.len;have hl:=hn.len
 induction d with
 |zero=>
  intro i acc hi h0 h1;refine Ev.succ ?_;simp only[maxflow_Value.l0];repeat(first|exact Ev.now _|with_reducible refine Ev.pos (by first|assumption|omega) ?_|with_reducible refine Ev.neg (by first|assumption|omega) ?_|with_reducible refine Ev.let_ ?_)
  rw[List.drop_of_length_le (by omega)];exact Ev.done (by simp[bal])
 |succ d ih=>
  intro i acc hi h0 h1;have hs:=hf.small hn (i:=(i:Int)) (by omega) (by omega);refine Ev.succ ?_;simp only[maxflow_Value.l0];repeat(first|exact Ev.now _|with_reducible refine Ev.pos (by first|assumption|omega) ?_|with_reducible refine Ev.neg (by first|assumption|omega) ?_|with_reducible refine Ev.let_ ?_)
  rw[wrap_succ (n:=l.length) (by omega) (by omega),drop_getD l i z50 (by omega),drop_getD f i 0 (by omega), ← rdArc_nat, ← rd_nat,bal_cons];refine Ev.ite (fun g=> ?_) (fun g=> ?_)
  ·rw[Yx g]
   refine Ev.pos (by omega) ?_;refine Ev.ite (fun g2=> ?_) (fun g2=> ?_)
   ·rw[Yx g2,wrap_id (x:=acc+rd f (i:Int)) (by omega) (by omega),wrap_id (by omega) (by omega)]
    exact Ev.eq (ih (i+1) _ (by omega) (by omega) (by omega)) (by omega)
   ·rw[Yy g2,wrap_id (x:=acc+rd f (i:Int)) (by omega) (by omega)]
    exact Ev.eq (ih (i+1) _ (by omega) (by omega) (by omega)) (by omega)
  ·rw[Yy g]
   refine Ev.ite (fun g2=> ?_) (fun g2=> ?_)
   ·refine Ev.pos (by omega) ?_
    rw[Yx g2,wrap_id (x:=acc - rd f (i:Int)) (by omega) (by omega)];exact Ev.eq (ih (i+1) _ (by omega) (by omega) (by omega)) (by omega)
   ·rw[Yy g2]
    exact Ev.eq (ih (i+1) _ (by omega) (by omega) (by omega)) (by omega)
theorem value_ev (n m:Int) (b:Bool) (l:List S50) (f:List Int) (hn:NetOk m l) (hf:FlowOk l f) (v:Int):Ev (fun k=>maxflow_Value.f k n b l v f) (bal l f v):=by
 unfold maxflow_Value.f;exact Ev.eq (value_l0 m l f hn hf v l.length 0 0 (by omega) (by omega) (by omega)) (by rw[List.drop_zero,List.drop_zero];omega)
end Q
namespace Q
open P
open H (endsErr Right right_of IsFlow payS worthS)
theorem balance_l0 (n:Int) (l:List S50) (f:List Int) (hn:NetOk n l) (hf:FlowOk l f) (d:Nat): ∀ (i:Nat) (x:List Int),i+d=l.length→x.length=n.toNat→(∀ v:Nat,v<x.length→ -(i * 2097152)≤rd x v∧rd x v≤i * 2097152)→
  ∃ r,Ev (fun k=>static_Balance.l0 k f x l (l.length:Int) (i:Int)) (r,0)∧r.length=x.length∧ ∀ v:Nat,v<x.length→rd r v=rd x v+bal (l.drop i) (f.drop i) v:=by
 have hlen:=hf.len;have hl:=hn.len
 induction d with
 |zero=>
  intro i x hi hx hb;refine⟨x,?_,rfl,fun v hv=> ?_⟩
  ·refine Ev.succ ?_;simp only[static_Balance.l0]
   repeat(first|exact Ev.now _|with_reducible refine Ev.pos (by first|assumption|omega) ?_|with_reducible refine Ev.neg (by first|assumption|omega) ?_|with_reducible refine Ev.let_ ?_)
  ·rw[List.drop_of_length_le (by omega)]
   simp[bal]
 |succ d ih=>
  intro i x hi hx hb;have ha:=hn.at_ (i:=(i:Int)) (by omega) (by omega);have hs:=hf.small hn (i:=(i:Int)) (by omega) (by omega);have h1:=ha.f0;have h2:=ha.f1;have h3:=ha.h0;have h4:=ha.h1;have hb1:=hb (rd_T50 l (i:Int)).f0.toNat (by omega);have e1:(((rd_T50 l (i:Int)).f0.toNat:Nat):Int)=(rd_T50 l (i:Int)).f0:=by omega
  have e2:(((rd_T50 l (i:Int)).f1.toNat:Nat):Int)=(rd_T50 l (i:Int)).f1:=by omega
  rw[e1] at hb1;have hb2:=hb (rd_T50 l (i:Int)).f1.toNat (by omega);rw[e2] at hb2;obtain⟨r,hr,hrl,hrv⟩:=ih (i+1) ((x.set (rd_T50 l (i:Int)).f0.toNat (wrap64 (rd x (rd_T50 l (i:Int)).f0+rd f (i:Int)))).set (rd_T50 l (i:Int)).f1.toNat
    (wrap64 (rd (x.set (rd_T50 l (i:Int)).f0.toNat (wrap64 (rd x (rd_T50 l (i:Int)).f0+rd f (i:Int)))) (rd_T50 l (i:Int)).f1 - rd f (i:Int)))) (by omega) (by simpa using hx) (by
   intro v hv;have hv':v<x.length:=by simpa using hv
   have hbv:=hb v hv';rw[rd_set _ _ _ _ h2 (by simp;omega) (by omega),rd_set _ _ _ _ h1 (by omega) h2,rd_set _ _ _ _ h1 (by omega) (by omega)];have w1:wrap64 (rd x (rd_T50 l (i:Int)).f0+rd f (i:Int))=rd x (rd_T50 l (i:Int)).f0+rd f (i:Int):=wrap_id (by omega) (by omega);rw[w1];split
   ·split
    ·rename_i h5 h6
     rw[wrap_id (by omega) (by omega)];omega
    ·rename_i h5 h6
     rw[wrap_id (by omega) (by omega)];omega
   ·split
    ·omega
    ·omega)
  refine⟨r,?_,by simpa using hrl,fun v hv=> ?_⟩
  ·refine Ev.succ ?_;simp only[static_Balance.l0]
   repeat(first|exact Ev.now _|with_reducible refine Ev.pos (by first|assumption|omega) ?_|with_reducible refine Ev.neg (by first|assumption|omega) ?_|with_reducible refine Ev.let_ ?_)
   rw[wrap_succ (n:=l.length) (by omega) (by omega)];exact hr
  ·rw[hrv v (by simpa using hv),rd_set _ _ _ _ h2 (by simp;omega) (by omega),rd_set _ _ _ _ h1 (by omega) h2,rd_set _ _ _ _ h1 (by omega) (by omega)]
   have w1:wrap64 (rd x (rd_T50 l (i:Int)).f0+rd f (i:Int))=rd x (rd_T50 l (i:Int)).f0+rd f (i:Int):=wrap_id (by omega) (by omega);rw[w1,drop_getD l i z50 (by omega),drop_getD f i 0 (by omega), ← rdArc_nat, ← rd_nat,bal_cons];by_cases h5:(rd_T50 l (i:Int)).f1=(v:Int)
   ·rw[Yx h5,Yx h5]
    by_cases h6:(rd_T50 l (i:Int)).f0=(v:Int)
    ·rw[Yx (by omega),Yx h6,wrap_id (by omega) (by omega),h6]
     omega
    ·rw[Yy (by omega),Yy h6,wrap_id (by omega) (by omega),h5]
     omega
   ·rw[Yy h5,Yy h5]
    by_cases h6:(rd_T50 l (i:Int)).f0=(v:Int)
    ·rw[Yx h6,Yx h6,h6]
     omega
    ·rw[Yy h6,Yy h6]
     omega
theorem rd_zeros (m:Nat) (v:Int):rd (List.replicate m 0) v=0:=by
 unfold rd;rw[List.getD_eq_getElem?_getD,List.getElem?_replicate];split<;>rfl
theorem balance_ev (n:Int) (b:Bool) (l:List S50) (f:List Int):Ev (fun k=>static_Balance.f k n b l f) (balRes n l f):=by
 unfold static_Balance.f balRes;refine Ev.bind (asked_ev n b l f) ?_;refine Ev.ite (fun h=> ?_) (fun h=> ?_)
 ·rw[Yx h]
  obtain⟨hn,hf⟩:=askErr_ok h;have:=hn.lo;have:=hn.hi;repeat(first|exact Ev.now _|with_reducible refine Ev.pos (by first|assumption|omega) ?_|with_reducible refine Ev.neg (by first|assumption|omega) ?_|with_reducible refine Ev.let_ ?_)
  obtain⟨r,hr,hrl,hrv⟩:=balance_l0 n l f hn hf l.length 0 (List.replicate n.toNat 0) (by omega) (by simp) (fun v hv=>by rw[rd_zeros];omega);refine Ev.eq hr ?_;rw[List.length_replicate] at hrl hrv;congr 1;refine ext_rd (by rw[hrl,balOf_len]) fun v hv=> ?_
  rw[hrv v (by omega),rd_zeros,rd_balOf (by omega) (by omega),List.drop_zero,List.drop_zero];omega
 ·rw[Yy h]
  exact Ev.now _
theorem check2_l0 (s t:Int) (b:List Int) (hb:b.length≤50) (hs:0≤s) (hsn:s<b.length) (d:Nat): ∀ i:Nat,i+d=b.length→
  Ev (fun k=>static_Check.l0 k s t b b (b.length:Int) (i:Int)) (if evenB s t (b.drop i) i=true then(rd b s,0) else(0,71)):=by
 induction d with
 |zero=>
  intro i hi;refine Ev.succ ?_;simp only[static_Check.l0];repeat(first|exact Ev.now _|with_reducible refine Ev.pos (by first|assumption|omega) ?_|with_reducible refine Ev.neg (by first|assumption|omega) ?_|with_reducible refine Ev.let_ ?_)
  rw[List.drop_of_length_le (by omega)];exact Ev.now _
 |succ d ih=>
  intro i hi;refine Ev.succ ?_;simp only[static_Check.l0];repeat(first|exact Ev.now _|with_reducible refine Ev.pos (by first|assumption|omega) ?_|with_reducible refine Ev.neg (by first|assumption|omega) ?_|with_reducible refine Ev.let_ ?_)
  rw[drop_getD b i 0 (by omega),rd_nat,wrap_succ (n:=b.length) (by omega) (by omega)];unfold evenB;have:=ih (i+1) (by omega);rw[show ((i+1:Nat):Int)=(i:Int)+1 by omega] at this ⊢;refine Ev.ite (fun g=> ?_) (fun g=> ?_)
  ·rw[Yx g,ite_self,ite_self];exact this
  refine Ev.ite (fun g2=> ?_) (fun g2=> ?_)
  ·rw[Yx g2];exact this
  rw[Yy g2];refine Ev.ite (fun g3=> ?_) (fun g3=> ?_)
  ·rw[Yx g3];exact this
  rw[Yy g3,Yy g];exact Ev.now _
theorem stat_value_ev (n:Int) (b:Bool) (l:List S50) (s t:Int) (f:List Int):Ev (fun k=>static_Check.f k n b l s t f) (valRes n l s t f):=by
 unfold static_Check.f valRes;refine Ev.bind (ends_ev n b l s t) ?_;refine Ev.ite (fun h=> ?_) (fun h=> ?_)
 ·rw[Yx h]
  obtain⟨hn,he1,he2,he3,he4,he5⟩:=endsE_ok h;have:=hn.lo;have:=hn.hi;refine Ev.bind (balance_ev n b l f) ?_;by_cases g:askErr n l f=0
  ·rw[Yx g,balRes_ok g]
   refine Ev.pos rfl ?_;refine Ev.eq (check2_l0 s t (balOf n l f) (by rw[balOf_len];omega) (by omega) (by rw[balOf_len];omega) _ 0 (Nat.zero_add _)) ?_;rw[rd_balOf (by omega) (by omega),List.drop_zero];rfl
  ·rw[Yy g,balRes_no g]
   exact Ev.neg g (Ev.now _)
 ·rw[Yy h]
  exact Ev.now _
theorem pay_mul {x t:Int} (h0:0≤x) (h1:x≤1048576) (h2:0≤t) (h3:t≤1048576):0≤x * t∧x * t≤1099511627776:=by
 refine⟨Int.mul_nonneg h0 h2,?_⟩;have:=Int.mul_le_mul h1 h3 h2 (show (0:Int)≤1048576 by decide);omega
theorem pay_bd {l:List S50} {F:List Int} {n:Nat} (hr:Right l F n) (d:Nat): ∀ (i:Nat),i+d=l.length→0≤payS (l.drop i) (F.drop i)∧payS (l.drop i) (F.drop i)≤1099511627776 * (d:Int):=by
 have hl:=hr.len
 induction d with
 |zero=>
  intro i hi;rw[List.drop_of_length_le (show l.length≤i by omega),List.drop_of_length_le (show F.length≤i by omega)];simp[payS]
 |succ d ih=>
  intro i hi;have hn:=hr.nums i (by omega);have hb:=pay_mul hn.2.2.1 (by omega) hn.1 hn.2.1;have:=ih (i+1) (by omega);rw[drop_getD l i z50 (by omega),drop_getD F i 0 (by omega),H.payS_cons, ← rdArc_nat];omega
theorem ref_pay_l0 {l:List S50} {F:List Int} {n:Nat} (hr:Right l F n) (b:Bool) (d:Nat): ∀ (i:Nat) (k:Int),i+d=l.length→0≤k→k≤1099511627776 * (i:Int)→
  Ev (fun m=>ebbtideref07_Cost.l0 m F k (i:Int) n b l) (k+payS (l.drop i) (F.drop i),0):=by
 have hl:=hr.len;have hl2:=hr.arcs
 induction d with
 |zero=>
  intro i k hi h0 h1;refine Ev.succ ?_;simp only[ebbtideref07_Cost.l0];refine Ev.neg (by omega) ?_;rw[List.drop_of_length_le (show l.length≤i by omega),List.drop_of_length_le (show F.length≤i by omega)];exact Ev.done (by simp[payS])
 |succ d ih=>
  intro i k hi h0 h1;have hn:=hr.nums i (by omega);have hb:=pay_mul hn.2.2.1 (by omega) hn.1 hn.2.1;have e1:rd F (i:Int)=F.getD i 0:=rd_nat F i;refine Ev.succ ?_;simp only[ebbtideref07_Cost.l0];refine Ev.pos (by omega) ?_;refine Ev.pos (by omega) ?_;refine Ev.pos (by omega) ?_;rw[e1,wrap_succ (n:=200) (by omega) (by omega),wrap_id (x:=F.getD i 0 * (rd_T50 l i).f3) (by omega) (by omega),wrap_id (x:=k+F.getD i 0 * (rd_T50 l i).f3) (by omega) (by omega)];refine Ev.eq (ih (i+1) _ (by omega) (by omega) (by omega)) ?_;rw[drop_getD l i z50 (by omega),drop_getD F i 0 (by omega),H.payS_cons, ← rdArc_nat];congr 1;omega
theorem ref_pay_ev (n:Int) (b:Bool) (l:List S50) (F:List Int) (h:askErr n l F=0):Ev (fun m=>ebbtideref07_Cost.f m n b l F) (payS l F,0):=by
 unfold ebbtideref07_Cost.f;refine Ev.bind (ref_asked_ev n b l F) ?_;refine Ev.pos h ?_;obtain⟨n0,rfl,hr⟩:=right_of h;have:=ref_pay_l0 hr b l.length 0 0 (by omega) (by omega) (by omega);exact Ev.eq this (by rw[List.drop_zero,List.drop_zero,Int.zero_add])
theorem pay_l0 {l:List S50} {F:List Int} {n:Nat} (hr:Right l F n) (d:Nat): ∀ (i:Nat) (k:Int),i+d=l.length→0≤k→k≤1099511627776 * (i:Int)→
  Ev (fun m=>span_paid.l0 m F k l (l.length:Int) (i:Int)) (k+payS (l.drop i) (F.drop i)):=by
 have hl:=hr.len;have hl2:=hr.arcs
 induction d with
 |zero=>
  intro i k hi h0 h1;refine Ev.succ ?_;simp only[span_paid.l0];refine Ev.neg (by omega) ?_;rw[List.drop_of_length_le (show l.length≤i by omega),List.drop_of_length_le (show F.length≤i by omega)];exact Ev.done (by simp[payS])
 |succ d ih=>
  intro i k hi h0 h1;have hn:=hr.nums i (by omega);have hb:=pay_mul hn.2.2.1 (by omega) hn.1 hn.2.1;have e1:rd F (i:Int)=F.getD i 0:=rd_nat F i;refine Ev.succ ?_;simp only[span_paid.l0];refine Ev.pos (by omega) ?_;refine Ev.pos (by omega) ?_;refine Ev.pos (by omega) ?_;refine Ev.pos (by omega) ?_;rw[e1,wrap_succ (n:=200) (by omega) (by omega),wrap_id (x:=F.getD i 0 * (rd_T50 l i).f3) (by omega) (by omega),wrap_id (x:=k+F.getD i 0 * (rd_T50 l i).f3) (by omega) (by omega)];refine Ev.eq (ih (i+1) _ (by omega) (by omega) (by omega)) ?_;rw[drop_getD l i z50 (by omega),drop_getD F i 0 (by omega),H.payS_cons, ← rdArc_nat];omega
theorem pay_ev (n m:Int) (n0:Nat) (b:Bool) (l:List S50) (F:List Int) (hr:Right l F n0):Ev (fun m=>span_paid.f m n b l F) (payS l F):=by
 unfold span_paid.f;have:=pay_l0 hr l.length 0 0 (by omega) (by omega) (by omega);exact Ev.eq this (by rw[List.drop_zero,List.drop_zero,Int.zero_add])
def horErr (h:Int):Int:=if h<0 then 1 else if h>1024 then 2 else 0
def spanErr (n:Int) (l:List S50) (s t h:Int):Int:=if endsErr n l s t=0 then horErr h else endsErr n l s t
theorem hor_ok {h:Int} (e:horErr h=0):0≤h∧h≤1024:=by
 unfold horErr at e;split at e
 ·cases e
 ·split at e
  ·cases e
  ·omega
theorem spanErr_ok {n:Int} {l:List S50} {s t h:Int} (e:spanErr n l s t h=0):endsErr n l s t=0∧0≤h∧h≤1024:=by
 unfold spanErr at e;by_cases g:endsErr n l s t=0
 ·rw[Yx g] at e;exact⟨g,hor_ok e⟩
 ·rw[Yy g] at e;exact absurd e g
theorem span_asked_ev (n:Int) (b:Bool) (l:List S50) (s t h:Int):Ev (fun k=>span_Asked.f k n b l s t h) (spanErr n l s t h):=by
 unfold span_Asked.f spanErr;refine Ev.bind (ends_ev n b l s t) ?_;refine Ev.ite (fun g=> ?_) (fun g=> ?_)
 ·rw[Yx g]
  have e:span_Horizon.f h=some (horErr h):=by
   unfold span_Horizon.f horErr;split
   ·rfl
   ·split<;>rfl
  rw[e];exact Ev.now _
 ·rw[Yy g];exact Ev.now _
theorem ref_span_asked_ev (n:Int) (b:Bool) (l:List S50) (s t h:Int):Ev (fun k=>ebbtideref12_Asked.f k n b l s t h) (spanErr n l s t h):=by
 unfold ebbtideref12_Asked.f spanErr;refine Ev.bind (ref_ends_ev n b l s t) ?_;refine Ev.ite (fun g=> ?_) (fun g=> ?_)
 ·rw[Yx g]
  have e:ebbtideref12_Span.f h=some (horErr h):=by
   unfold ebbtideref12_Span.f horErr;repeat' (first|rfl|split)
   all_goals (first|rfl|omega)
  rw[e];exact Ev.now _
 ·rw[Yy g];exact Ev.now _
def worthR (n:Int) (l:List S50) (s t:Int) (F:List Int) (h:Int):Int × Int:=
 if spanErr n l s t h=0 then(if (valRes n l s t F).2=0 then(wrap64 (wrap64 (wrap64 (h+1) * (valRes n l s t F).1) - payS l F),0) else(0,(valRes n l s t F).2)) else(0,spanErr n l s t h)
theorem worth_ev (n:Int) (b:Bool) (l:List S50) (s t:Int) (F:List Int) (h:Int):Ev (fun k=>span_Worth.f k n b l s t F h) (worthR n l s t F h):=by
 unfold span_Worth.f worthR;refine Ev.bind (span_asked_ev n b l s t h) ?_;refine Ev.ite (fun g=> ?_) (fun g=> ?_)
 ·rw[Yx g]
  refine Ev.bind (stat_value_ev n b l s t F) ?_;refine Ev.ite (fun g2=> ?_) (fun g2=> ?_)
  ·rw[Yx g2]
   obtain⟨h1,h2,_⟩:=flow_val g2;obtain⟨n0,rfl,hr⟩:=right_of h2;refine Ev.bind (pay_ev n0 n0 n0 b l F hr) ?_;exact Ev.now _
  ·rw[Yy g2];exact Ev.now _
 ·rw[Yy g];exact Ev.now _
theorem ref_worth_ev (n:Int) (b:Bool) (l:List S50) (s t:Int) (F:List Int) (h:Int):Ev (fun k=>ebbtideref12_Worth.f k n b l s t F h) (worthR n l s t F h):=by
 unfold ebbtideref12_Worth.f worthR;refine Ev.bind (ref_span_asked_ev n b l s t h) ?_;refine Ev.ite (fun g=> ?_) (fun g=> ?_)
 ·rw[Yx g]
  refine Ev.bind (ref_value_ev n b l s t F) ?_;refine Ev.ite (fun g2=> ?_) (fun g2=> ?_)
  ·rw[Yx g2]
   obtain⟨h1,h2,_⟩:=flow_val g2;refine Ev.bind (ref_pay_ev n b l F h2) ?_;exact Ev.now _
  ·rw[Yy g2];exact Ev.now _
 ·rw[Yy g];exact Ev.now _
end Q
namespace Q
open P
open H (endsErr Right right_of IsFlow payS worthS SpanTop fillS fillRes fillS_top)
theorem span_top {l:List S50} {n s t:Nat} {h:Int} (hr:Right l (List.replicate l.length 0) n) (hs:s<n) (ht:t<n) (hst:s≠t) (hH:0≤h):SpanTop l (fillS l n s t h) n s t h:=(fillS_top hr hs ht hst hH).1
theorem bal_bd {l:List S50} {F:List Int} {n s t:Nat} (hf:IsFlow l F n s t) (hs:s<n) (ht:t<n) (hst:s≠t): -209715200≤bal l F s∧bal l F s≤209715200:=by
 have h1:=H.flow_top hf hs hst;have h2:=H.flow_ends hf hs ht hst;have h3:=H.flow_top (s:=t) (t:=s) ⟨hf.right,fun v a b c d=>hf.keeps v a b d c⟩ ht (fun e=>hst e.symm);omega
theorem times_bd {h v:Int} (h0:0≤h) (h1:h≤1026) (a: -209715200≤v) (b:v≤209715200): -216006656000≤(h+1) * v∧(h+1) * v≤216006656000:=by
 have e1:=Int.mul_le_mul_of_nonneg_left b (show 0≤h+1 by omega);have e2:=Int.mul_le_mul_of_nonneg_left a (show 0≤h+1 by omega);omega
theorem worth_wrap {l:List S50} {F:List Int} {n s t:Nat} {h:Int} (hf:IsFlow l F n s t) (hs:s<n) (ht:t<n) (hst:s≠t) (h0:0≤h) (h1:h≤1024):wrap64 (wrap64 (wrap64 (h+1) * bal l F s) - payS l F)=worthS l F s (h+1):=by
 obtain⟨b1,b2⟩:=bal_bd hf hs ht hst;obtain⟨c1,c2⟩:=times_bd h0 (by omega) b1 b2;have har:=hf.right.arcs;obtain⟨p1,p2⟩:=pay_bd hf.right l.length 0 (by omega);rw[List.drop_zero,List.drop_zero] at p1 p2;unfold worthS;rw[wrap_id (x:=h+1) (by omega) (by omega),wrap_id (x:=(h+1) * bal l F s) (by omega) (by omega),wrap_id (by omega) (by omega)]
def sbestR (n:Int) (l:List S50) (s t h:Int):List Int × Int × Int:=
 if spanErr n l s t h=0 then(fillS l n.toNat s.toNat t.toNat h,worthS l (fillS l n.toNat s.toNat t.toNat h) s.toNat (h+1),0) else([],0,spanErr n l s t h)
def smostR (n:Int) (l:List S50) (s t h:Int):Int × Int:=
 if spanErr n l s t h=0 then(worthS l (fillS l n.toNat s.toNat t.toNat h) s.toNat (h+1),0) else(0,spanErr n l s t h)
theorem sbest_ev (n:Int) (b:Bool) (l:List S50) (s t h:Int):Ev (fun k=>span_Best.f k n b l s t h) (sbestR n l s t h):=by
 unfold span_Best.f sbestR;refine Ev.bind (span_asked_ev n b l s t h) ?_;by_cases g:spanErr n l s t h=0
 ·rw[Yx g]
  refine Ev.pos g ?_;obtain⟨g1,g2,g3⟩:=spanErr_ok g;refine Ev.call (show span_Fill.f n b l s t h=some (fillRes l n.toNat s.toNat t.toNat h) by unfold span_Fill.f;rw[Yx ⟨g1,g2⟩]) ?_;obtain⟨n0,s0,t0,rfl,rfl,rfl,hs,ht,hst,hn,hr⟩:=ends_zero g1;simp only[Int.toNat_natCast];have hf:=(span_top hr hs ht hst g2).ok.flow;refine Ev.bind (value_ev n0 n0 b l _ hn (flowOk_of hf.right) s0) ?_;refine Ev.bind (pay_ev n0 n0 n0 b l _ hf.right) ?_;refine Ev.done ?_;show (fillS l n0 s0 t0 h,wrap64 (wrap64 (wrap64 (h+1) * bal l (fillS l n0 s0 t0 h) s0) - payS l (fillS l n0 s0 t0 h)),(0:Int))=_;rw[worth_wrap hf hs ht hst g2 g3]
 ·rw[Yy g]
  refine Ev.neg g ?_;exact Ev.now _
theorem smost_ev (n:Int) (b:Bool) (l:List S50) (s t h:Int):Ev (fun k=>span_Most.f k n b l s t h) (smostR n l s t h):=by
 unfold span_Most.f;refine Ev.bind (sbest_ev n b l s t h) ?_;refine Ev.done ?_;unfold sbestR smostR;split<;>rfl
theorem smostR_nat {l:List S50} {n s t:Nat} {h:Int} (g:spanErr (n:Int) l (s:Int) (t:Int) h=0):smostR n l s t h=(worthS l (fillS l n s t h) s (h+1),0):=by
 unfold smostR;rw[Yx g];simp only[Int.toNat_natCast]
def line:List S50:=[(⟨0,1,2,1⟩:S50),(⟨1,2,2,1⟩:S50)]
theorem line_right:Right line (List.replicate line.length 0) 3:=by
 obtain⟨n0,h1,h2⟩:=right_of (n:=3) (l:=line) (F:=List.replicate line.length 0) (by decide +kernel);obtain rfl:n0=3:=by omega
 exact h2
theorem line_top (h:Int) (h0:0≤h):SpanTop line (fillS line 3 0 2 h) 3 0 2 h:=span_top line_right (by decide) (by decide) (by decide) h0
theorem line_flow:IsFlow line [2,2] 3 0 2:=by
 obtain⟨n0,h1,h2⟩:=right_of (n:=3) (l:=line) (F:=[2,2]) (by decide +kernel);obtain rfl:n0=3:=by omega
 refine⟨h2,fun v a b c d=> ?_⟩;obtain rfl:v=1:=by omega
 decide +kernel
theorem line_worth {F:List Int} (hf:IsFlow line F 3 0 2) (c:Int): ∃ x:Int,0≤x∧x≤2∧worthS line F 0 c=c * x - 2 * x:=by
 have hl:F.length=2:=hf.right.len
 match F,hl with
 |[x,y],_=>
  have n0:=hf.right.nums 0 (by decide);have hk:=hf.keeps 1 (by decide) (by decide) (by decide) (by decide);have e1:bal line [x,y] 1=(0 - x)+((y - 0)+0):=rfl;have e0:bal line [x,y] ((0:Nat):Int)=(x - 0)+((0 - 0)+0):=rfl;have ep:payS line [x,y]=x * 1+(y * 1+0):=rfl;have q:(0:Int)≤x∧x≤2:=by
   have e2:(rd_T50 line ((0:Nat):Int)).f2=2:=rfl;have e3:[x,y].getD 0 0=x:=rfl;rw[e2,e3] at n0;omega
  refine⟨x,q.1,q.2,?_⟩;unfold worthS;rw[e0,ep];rw[e1] at hk;have:x - 0+(0 - 0+0)=x:=by omega
  rw[this];omega
theorem awake12_ev:Ev (fun k=>ebbtidelaw12_awake.f k) true:=by
 have e1:spanErr 3 line 0 2 1=0:=by decide +kernel
 have e2:spanErr 3 line 0 2 5=0:=by decide +kernel
 have m1:smostR 3 line 0 2 1=(0,0):=by
  have h_:smostR 3 line 0 2 1=(worthS line (fillS line 3 0 2 1) 0 (1+1),0):=smostR_nat (n:=3) (l:=line) (s:=0) (t:=2) e1;obtain⟨x,x0,x1,hx⟩:=line_worth (line_top 1 (by decide)).ok.flow (1+1);rw[h_,hx];have:(1+1) * x - 2 * x=0:=by omega
  rw[this]
 have m2:smostR 3 line 0 2 5=(8,0):=by
  have h_:smostR 3 line 0 2 5=(worthS line (fillS line 3 0 2 5) 0 (5+1),0):=smostR_nat (n:=3) (l:=line) (s:=0) (t:=2) e2;obtain⟨x,x0,x1,hx⟩:=line_worth (line_top 5 (by decide)).ok.flow (5+1);have hle:=(line_top 5 (by decide)).le line_flow (by decide) (by decide) (by decide);have e8:worthS line [2,2] 0 (5+1)=8:=by decide +kernel
  rw[e8,hx] at hle;rw[h_,hx];have:(5+1) * x - 2 * x=8:=by omega
  rw[this]
 have m3:worthR 3 line 0 2 [1,1] 2=(1,0):=by decide +kernel
 have m4:smostR 3 line 0 2 (-1)=(0,1):=by
  have e4:spanErr 3 line 0 2 (-1)=1:=by decide +kernel
  unfold smostR;rw[e4];rfl
 unfold ebbtidelaw12_awake.f;refine Ev.let_ ?_;refine Ev.bind (smost_ev 3 false line 0 2 1) ?_;refine Ev.bind (smost_ev 3 false line 0 2 5) ?_;refine Ev.bind (worth_ev 3 false line 0 2 [1,1] 2) ?_;refine Ev.bind (smost_ev 3 false line 0 2 (-1)) ?_;rw[m1,m2,m3,m4];refine Ev.pos rfl ?_;refine Ev.pos rfl ?_;refine Ev.pos rfl ?_;refine Ev.pos rfl ?_;refine Ev.pos rfl ?_;refine Ev.pos rfl ?_;exact Ev.now _
end Q
namespace H
open P Q
def freeB (l:List S50) (F:List Int) (n:Nat):Bool:=(List.range n).all fun v=>(refF l F n v).OK
theorem freeB_iff (l:List S50) (F:List Int) (n:Nat):freeB l F n=true↔ ∀ v,v<n→(refF l F n v).OK=true:=by
 unfold freeB;rw[List.all_eq_true];exact⟨fun h v hv=>h v (List.mem_range.2 hv),fun h v hv=>h v (List.mem_range.1 hv)⟩
def freeRes (n:Int) (l:List S50) (F:List Int):Bool × Int:=if askErr n l F=0 then(freeB l F n.toNat,0) else(false,askErr n l F)
theorem free_l0 {l:List S50} {F:List Int} {n:Nat} (hr:Right l F n) (b:Bool) (d:Nat): ∀ v:Nat,v+d=n→(∀ u,u<v→(refF l F n u).OK=true)→
  Ev (fun k=>ebbtideref11_Free.l0 k F (v:Int) n b l) (freeB l F n,0):=by
 have hn:=hr.fifty
 induction d with
 |zero=>
  intro v hv hu;refine Ev.succ ?_;simp only[ebbtideref11_Free.l0];refine Ev.neg (by omega) ?_;exact Ev.done (by rw[(freeB_iff l F n).2 (fun u h=>hu u (by omega))])
 |succ d ih=>
  intro v hv hu;refine Ev.succ ?_;simp only[ebbtideref11_Free.l0];refine Ev.pos (by omega) ?_;refine Ev.bind (from_ev hr b v (by omega)) ?_;rw[wrap_succ (n:=51) (by omega) (by omega)];refine Ev.ite (fun g=> ?_) (fun g=> ?_)
  ·exact ih (v+1) (by omega) (fun u h=>by
    by_cases e:u<v
    ·exact hu u e
    ·have:u=v:=by omega
     subst this;exact g)
  ·refine Ev.done ?_
   have:freeB l F n=false:=by
    cases h:freeB l F n with
    |false=>rfl
    |true=>exact absurd ((freeB_iff l F n).1 h v (by omega)) g
   rw[this]
theorem free_ev (n:Int) (b:Bool) (l:List S50) (F:List Int):Ev (fun k=>ebbtideref11_Free.f k n b l F) (freeRes n l F):=by
 unfold ebbtideref11_Free.f freeRes;refine Ev.bind (ref_asked_ev n b l F) ?_;refine Ev.ite (fun h=> ?_) (fun h=> ?_)
 ·rw[Yx h]
  obtain⟨n0,rfl,hr⟩:=right_of h;rw[Int.toNat_natCast];exact free_l0 hr b n0 0 (by omega) (fun u hu=>absurd hu (Nat.not_lt_zero _))
 ·rw[Yy h]
  exact Ev.now _
end H
namespace Q
open P
open H (endsErr Right right_of IsFlow payS worthS SpanTop fillS refF freeRes freeB freeB_iff reachS nearS)
theorem best_no {n:Int} {l:List S50} {s t h:Int} (e: ¬ (sbestR n l s t h).2.2=0):(sbestR n l s t h).1=[]∧(sbestR n l s t h).2.1=0∧(smostR n l s t h).2=(sbestR n l s t h).2.2∧spanErr n l s t h=(sbestR n l s t h).2.2:=by
 by_cases g:spanErr n l s t h=0
 ·unfold sbestR at e
  rw[Yx g] at e;exact absurd rfl e
 ·unfold sbestR smostR
  rw[Yy g,Yy g];exact⟨rfl,rfl,rfl,rfl⟩
theorem best_yes {n:Int} (b:Bool) {l:List S50} {s t h:Int} (e:(sbestR n l s t h).2.2=0):smostR n l s t h=((sbestR n l s t h).2.1,0)∧worthR n l s t (sbestR n l s t h).1 h=((sbestR n l s t h).2.1,0)∧freeRes n l (sbestR n l s t h).1=(true,0)∧
  ∃ n0 t0:Nat,t=t0∧t0<n0∧n0≤50∧ ∃ (D:List Int) (I:List Bool) (o:Bool),Ev (fun k=>ebbtideref11_From.f k n b l (sbestR n l s t h).1 s) (D,I,o)∧D.length=n0∧I.length=n0∧(I.getD t0 false=true→h<D.getD t0 0):=by
 by_cases g:spanErr n l s t h=0
 ·obtain⟨g1,h0,h1⟩:=spanErr_ok g
  obtain⟨n0,s0,t0,rfl,rfl,rfl,hs,ht,hst,hn,hr⟩:=ends_zero g1;have eS:sbestR n0 l s0 t0 h=(fillS l n0 s0 t0 h,worthS l (fillS l n0 s0 t0 h) s0 (h+1),0):=by unfold sbestR;rw[Yx g];simp only[Int.toNat_natCast]
  obtain⟨hT,hnear⟩:=H.fillS_top hr hs ht hst h0;have hf:=hT.ok.flow;have hR:=hf.right;rw[eS];simp only;have eM:=smostR_nat g;generalize fillS l n0 s0 t0 h=F at *;obtain⟨q,hq,_⟩:=hT.ok.nums;have hng:=H.tightP_noGain hR hq;have hv:=val_flow hn (endsE_ok g1).2 hf;have hask:askErr n0 l F=0:=ask_of hn (flowOk_of hR);have hOK:=H.noGain_refs hR hng s0 hs;have hw: ∀ x,x∈H.stepsR l F F.length→(H.stTo l x).toNat<n0:=fun x hx=>by have:=H.stTo_in hR (H.stepsR_of hR x hx);omega
  obtain⟨o,_⟩:=H.itF_abs _ hw (n0+1) (H.startF_ok n0 s0);obtain⟨_,hsame⟩:=H.far_same hR hs;obtain⟨d1,d2⟩:=hsame hOK;refine⟨?_,?_,?_,n0,t0,rfl,ht,hR.fifty,_,_,_,H.from_ev hR b s0 hs,o.hD,o.hI,?_⟩
  ·exact eM
  ·unfold worthR
   rw[Yx g,hv,Yx rfl];rw[worth_wrap hf hs ht hst h0 h1]
  ·unfold freeRes
   rw[Yx hask,Int.toNat_natCast,(freeB_iff l F n0).2 (H.noGain_refs hR hng)]
  ·intro hI
   rw[← d2] at hI;rw[← d1];have: ¬ (reachS l F n0 s0).D.getD t0 0≤h:=fun hle=>hnear ⟨hI,hle⟩
   unfold reachS at this;omega
 ·unfold sbestR at e
  rw[Yy g] at e;exact absurd e g
end Q
namespace H
open P
open Q (worthR smostR sbestR spanErr ref_worth_ev smost_ev sbest_ev ref_span_asked_ev awake12_ev best_no best_yes)
set_option maxHeartbeats 8000000 in
set_option maxRecDepth 100000 in
theorem ebbtidelaw12_SpanBest_calls (Zb:Int) (Zc:Bool) (Ze:Option Addr) (Zd:Nat) (Za:List S50) (a1:Int) (a2:Int) (a3:Int) (r:Bool) (w:World) (Zo:Kd.C k50 w Ze Za.length Za) (Zp:Za.length≤Zd) (h:some true=some r):
  Calls Try.prog 4 #[.agg #[.int .i64 Zb, .bool Zc, .slice Ze Za.length Zd], .int .i64 a1, .int .i64 a2, .int .i64 a3] w fun e w'=>e= .returned (.bool r)∧Below w.heap.size w w':=by
 have hu24:=Try.underlying24;have hu66:=Try.underlying40;injection h with h
 subst h;obtain⟨n1,hn1⟩: ∃ n_,n_=fewN Zb 8:=⟨_,rfl⟩;obtain⟨l1,hl1⟩: ∃ l_,l_=fewL Za 20:=⟨_,rfl⟩;have hno:=best_no (n:=n1) (l:=l1) (s:=a1) (t:=a2) (h:=a3);have hyes:=best_yes (n:=n1) Zc (l:=l1) (s:=a1) (t:=a2) (h:=a3);obtain⟨⟨m,g⟩,hmg⟩: ∃ p,p=smostR n1 l1 a1 a2 a3:=⟨_,rfl⟩;obtain⟨⟨F,v,e⟩,hve⟩: ∃ p,p=sbestR n1 l1 a1 a2 a3:=⟨_,rfl⟩;obtain⟨K1,hK1⟩:=smost_ev n1 Zc l1 a1 a2 a3;have hm1:=hK1 K1 (Nat.le_refl _);obtain⟨K2,hK2⟩:=sbest_ev n1 Zc l1 a1 a2 a3;have hm2:=hK2 K2 (Nat.le_refl _);obtain⟨K3,hK3⟩:=awake12_ev;have hm3:=hK3 K3 (Nat.le_refl _);rw[← hmg] at hm1 hno hyes;rw[← hve] at hm2 hno hyes;have HM1:=Ya hm1;have HM2:=Ya hm2;have HM3:=Ya hm3;have HNO:=Ya hno;have HYES:=Ya hyes;have HN1:=Ya hn1;have HL1:=Ya hl1;have H2:=Ya Zo;have HC2:=Ya Zp;have HLC:Aside0 (Kd.C k50 w Ze l1.length l1):=⟨by rw[hl1];exact fewL_C Zo 20⟩;have HLE:Aside0 (l1.length≤Zd):=⟨by rw[hl1];exact Nat.le_trans (fewL_le Za 20) Zp⟩;clear hve hmg hK1 hK2 hK3 hm1 hm2 hm3 hn1 hl1 Zo Zp hno hyes;go_enter Try.func4,Try.ntmps4;go_upto_region 5 with (first|((with_reducible refine gate_dst (N:=4) rfl ?_);refine Yz ?hg (N:=4) ?hd (cs:= #[.int .i64 Zb, .bool Zc, .slice Ze Za.length Zd]) (t:=24) ?hr ?_;(case hd=>rfl);(case hg=>rfl);(case hr=>first|(go_simp;done)|(go_simp;rfl));intro g3 hg3 w5 Zf hb;have B3:=Ya Zf;have HB:=Ya hb;have HG3:Aside0 (w.heap.size≤g3):=⟨Nat.le_of_eq hg3.symm⟩;clear hg3 Zf hb;have x0:w5.cell? ⟨g3,0,none⟩=some (.int .i64 Zb):=(Yc B3.out 0).trans rfl;have x1:w5.cell? ⟨g3,1,none⟩=some (.bool Zc):=(Yc B3.out 1).trans rfl;have x2:w5.cell? ⟨g3,2,none⟩=some (.slice Ze Za.length Zd):=(Yc B3.out 2).trans rfl)|(go_at_call 12;refine(ebbtidelaw12_awake.calls K3 true _ HM3.out).mono ?_;rintro e_ w10 ⟨rfl,hb⟩;have m0_:=Ya (Yk HB.out hb);have m1_:=Ya (Yn B3.out hb);clear HB B3 hb x0 x1 x2;have HB:=m0_;have B3:=m1_;clear m0_ m1_;have x0:w10.cell? ⟨g3,0,none⟩=some (.int .i64 Zb):=(Yc B3.out 0).trans rfl;have x1:w10.cell? ⟨g3,1,none⟩=some (.bool Zc):=(Yc B3.out 1).trans rfl;have x2:w10.cell? ⟨g3,2,none⟩=some (.slice Ze Za.length Zd):=(Yc B3.out 2).trans rfl)|(go_at_call 9;refine(few_calls Zb Zc Ze Zd Za 8 20 _ (by decide) HC2.out (Yt H2.out HB.out)).mono ?_;rintro e_ w6 ⟨rfl,hb⟩;have m0_:=Ya (Yk HB.out hb);have m1_:=Ya (Yn B3.out hb);clear HB B3 hb x0 x1 x2;have HB:=m0_;have B3:=m1_;clear m0_ m1_;have x0:w6.cell? ⟨g3,0,none⟩=some (.int .i64 Zb):=(Yc B3.out 0).trans rfl;have x1:w6.cell? ⟨g3,1,none⟩=some (.bool Zc):=(Yc B3.out 1).trans rfl;have x2:w6.cell? ⟨g3,2,none⟩=some (.slice Ze Za.length Zd):=(Yc B3.out 2).trans rfl;have f0:=Yf B3.out 0;have f1:=Yf B3.out 1;have f2:=Yf B3.out 2)|fail)
 have B3':Aside0 ((((w6.setCell ⟨g3,0,none⟩ (.int .i64 (fewN Zb 8))).setCell ⟨g3,1,none⟩ (.bool Zc)).setCell ⟨g3,2,none⟩ (.slice Ze (fewL Za 20).length Zd)).heap[g3]? =some (.cells #[.int .i64 n1, .bool Zc, .slice Ze l1.length Zd] 24 (0,0))):=⟨by rw[HN1.out,HL1.out];exact YA (YA (YA B3.out 0 _ rfl) 1 _ rfl) 2 _ rfl⟩;have HB':Aside0 (Below w.heap.size w (((w6.setCell ⟨g3,0,none⟩ (.int .i64 (fewN Zb 8))).setCell ⟨g3,1,none⟩ (.bool Zc)).setCell ⟨g3,2,none⟩ (.slice Ze (fewL Za 20).length Zd))):=⟨Yh (Yh (Yh HB.out HG3.out) HG3.out) HG3.out⟩;clear B3 HB x0 x1 x2 f0 f1 f2;generalize ((w6.setCell ⟨g3,0,none⟩ (.int .i64 (fewN Zb 8))).setCell ⟨g3,1,none⟩ (.bool Zc)).setCell ⟨g3,2,none⟩ (.slice Ze (fewL Za 20).length Zd)=w7 at *;have B3:=B3';have HB:=HB';clear B3' HB';have x0:w7.cell? ⟨g3,0,none⟩=some (.int .i64 n1):=(Yc B3.out 0).trans rfl;have x1:w7.cell? ⟨g3,1,none⟩=some (.bool Zc):=(Yc B3.out 1).trans rfl;have x2:w7.cell? ⟨g3,2,none⟩=some (.slice Ze l1.length Zd):=(Yc B3.out 2).trans rfl;go_upto_region 7 with (first|(go_at_call 13;refine(span_Best.calls K2 n1 Zc Ze Zd l1 a1 a2 a3 F v e _ (Yt HLC.out HB.out) HLE.out HM2.out).mono ?_;rintro e_ w8 ⟨u1,rfl,hR1,hb⟩;obtain⟨A1,c1,ev⟩:=Kd.R_slice hR1;subst ev;have HR1:=Ya (Kd.R_reads' hR1).2.2;have HE1:=Ya (Kd.R_reads' hR1).2.1;clear hR1;have m0_:=Ya (Yk HB.out hb);have m1_:=Ya (Yn B3.out hb);clear HB B3 hb x0 x1 x2;have HB:=m0_;have B3:=m1_;clear m0_ m1_;have x0:w8.cell? ⟨g3,0,none⟩=some (.int .i64 n1):=(Yc B3.out 0).trans rfl;have x1:w8.cell? ⟨g3,1,none⟩=some (.bool Zc):=(Yc B3.out 1).trans rfl;have x2:w8.cell? ⟨g3,2,none⟩=some (.slice Ze l1.length Zd):=(Yc B3.out 2).trans rfl)|(go_at_call 10;refine(span_Most.calls K1 n1 Zc Ze Zd l1 a1 a2 a3 m g _ (Yt HLC.out HB.out) HLE.out HM1.out).mono ?_;rintro e_ w9 ⟨rfl,hb⟩;have HR1':=Ya (Yt HR1.out hb);clear HR1;have HR1:=HR1';clear HR1';have m0_:=Ya (Yk HB.out hb);have m1_:=Ya (Yn B3.out hb);clear HB B3 hb x0 x1 x2;have HB:=m0_;have B3:=m1_;clear m0_ m1_;have x0:w9.cell? ⟨g3,0,none⟩=some (.int .i64 n1):=(Yc B3.out 0).trans rfl;have x1:w9.cell? ⟨g3,1,none⟩=some (.bool Zc):=(Yc B3.out 1).trans rfl;have x2:w9.cell? ⟨g3,2,none⟩=some (.slice Ze l1.length Zd):=(Yc B3.out 2).trans rfl)|fail)
 by_cases he:e=0
 ·obtain⟨q1,q2,q3,n0,t0,q4,q5,q6,D,I,o,q7,q8,q9,q10⟩:=HYES.out he
  injection q1 with qm qg
  have he0:e=0:=he;clear HNO HYES;subst he0;subst qg;subst qm;subst q4;obtain⟨K4,hK4⟩:=ref_worth_ev n1 Zc l1 a1 t0 F a3;have hm4:=hK4 K4 (Nat.le_refl _);have q2:worthR n1 l1 a1 t0 F a3=(m,0):=q2;rw[q2] at hm4;obtain⟨K5,hK5⟩:=free_ev n1 Zc l1 F;have hm5:=hK5 K5 (Nat.le_refl _);have q3:freeRes n1 l1 F=(true,0):=q3;rw[q3] at hm5;obtain⟨K6,hK6⟩:=q7;have hm6:=hK6 K6 (Nat.le_refl _);have HM4:=Ya hm4;have HM5:=Ya hm5;have HM6:=Ya hm6;have HQ8:=Ya q8;have HQ9:=Ya q9;have HQ10:=Ya q10;clear hm4 hm5 hm6 hK4 hK5 hK6 q2 q3 q8 q9 q10 he;go_upto_region 14 with (first|(go_at_call 15;refine(ebbtideref12_Worth.calls K4 n1 Zc Ze Zd l1 a1 t0 A1 c1 F a3 m 0 _ (Yt HLC.out HB.out) HLE.out HR1.out HE1.out HM4.out).mono ?_;rintro e_ w11 ⟨rfl,hb⟩;have HR1':=Ya (Yt HR1.out hb);clear HR1;have HR1:=HR1';clear HR1';have m0_:=Ya (Yk HB.out hb);have m1_:=Ya (Yn B3.out hb);clear HB B3 hb x0 x1 x2;have HB:=m0_;have B3:=m1_;clear m0_ m1_;have x0:w11.cell? ⟨g3,0,none⟩=some (.int .i64 n1):=(Yc B3.out 0).trans rfl;have x1:w11.cell? ⟨g3,1,none⟩=some (.bool Zc):=(Yc B3.out 1).trans rfl;have x2:w11.cell? ⟨g3,2,none⟩=some (.slice Ze l1.length Zd):=(Yc B3.out 2).trans rfl)|(go_at_call 16;refine(ebbtideref11_Free.calls K5 n1 Zc Ze Zd l1 A1 c1 F true 0 _ (Yt HLC.out HB.out) HLE.out HR1.out HE1.out HM5.out).mono ?_;rintro e_ w12 ⟨rfl,hb⟩;have HR1':=Ya (Yt HR1.out hb);clear HR1;have HR1:=HR1';clear HR1';have m0_:=Ya (Yk HB.out hb);have m1_:=Ya (Yn B3.out hb);clear HB B3 hb x0 x1 x2;have HB:=m0_;have B3:=m1_;clear m0_ m1_;have x0:w12.cell? ⟨g3,0,none⟩=some (.int .i64 n1):=(Yc B3.out 0).trans rfl;have x1:w12.cell? ⟨g3,1,none⟩=some (.bool Zc):=(Yc B3.out 1).trans rfl;have x2:w12.cell? ⟨g3,2,none⟩=some (.slice Ze l1.length Zd):=(Yc B3.out 2).trans rfl)|(go_at_call 17;refine(ebbtideref11_From.calls K6 n1 Zc Ze Zd l1 A1 c1 F a1 D I o _ (Yt HLC.out HB.out) HLE.out HR1.out HE1.out HM6.out).mono ?_;rintro e_ w13 ⟨v0,v1,rfl,r0,r1,hb⟩;obtain⟨Ad,cd,ev0⟩:=Kd.R_slice r0;obtain⟨Ai,ci,ev1⟩:=Kd.R_slice r1;subst ev0;subst ev1;have R0:=Ya r0;have R1:=Ya r1;clear r0 r1;have m0_:=Ya (Yk HB.out hb);have m1_:=Ya (Yn B3.out hb);clear HB B3 hb x0 x1 x2;have HB:=m0_;have B3:=m1_;clear m0_ m1_;have x0:w13.cell? ⟨g3,0,none⟩=some (.int .i64 n1):=(Yc B3.out 0).trans rfl;have x1:w13.cell? ⟨g3,1,none⟩=some (.bool Zc):=(Yc B3.out 1).trans rfl;have x2:w13.cell? ⟨g3,2,none⟩=some (.slice Ze l1.length Zd):=(Yc B3.out 2).trans rfl)|fail)
  have hA:Below w13.heap.size w13 (w13.alloc (.cells #[.slice Ad D.length cd, .slice Ai I.length ci, .bool o] 40)):=Ye (Yo _ _) _;have B19:Aside0 ((w13.alloc (.cells #[.slice Ad D.length cd, .slice Ai I.length ci, .bool o] 40)).heap[w13.heap.size]? =some (.cells #[.slice Ad D.length cd, .slice Ai I.length ci, .bool o] 40 (0,0))):=⟨heap_alloc_new w13 _⟩;have m3_:=Ya (Yk HB.out hA);have m4_:=Ya (Ys R0.out hA);have m5_:=Ya (Ys R1.out hA);clear HB R0 R1 hA x0 x1 x2 B3 HR1;have HB:=m3_;have R0:=m4_;have R1:=m5_;clear m3_ m4_ m5_;generalize w13.alloc (.cells #[.slice Ad D.length cd, .slice Ai I.length ci, .bool o] 40)=w14 at *;generalize w13.heap.size=g19 at *;have y0:w14.cell? ⟨g19,0,none⟩=some (.slice Ad D.length cd):=(Yc B19.out 0).trans rfl;have y1:w14.cell? ⟨g19,1,none⟩=some (.slice Ai I.length ci):=(Yc B19.out 1).trans rfl;have pt:(0:Int)≤(t0:Int):=by omega
  have qtD:(t0:Int)<(D.length:Int):=by rw[HQ8.out];omega
  have qtI:(t0:Int)<(I.length:Int):=by rw[HQ9.out];omega
  obtain⟨ad0,cc0,e0,_,hK0,hc0⟩:=Kd.C_get (Kd.R_reads' R0.out).2.2 0 (t0:Int) pt qtD;obtain⟨ad1,cc1,e1,_,hK1,hc1⟩:=Kd.C_get (Kd.R_reads' R1.out).2.2 false (t0:Int) pt qtI;subst e0;subst e1;have hd:w14.cell? (ad0.add t0)=some (.int .i64 (D.getD t0 0)):=by
   have e:cc0=[.int .i64 (D.getD t0 0)]:=hK0;have h_:=hc0 0 (.int .i64 (D.getD t0 0)) (by rw[e];rfl);have e2:(t0:Int).toNat * (Kd.int .i64).sz+0=t0:=by rw[Int.toNat_natCast];show t0 * 1+0=t0;omega
   rw[e2] at h_;exact h_
  have hi:w14.cell? (ad1.add t0)=some (.bool (I.getD t0 false)):=by
   have e:cc1=[.bool (I.getD t0 false)]:=hK1;have h_:=hc1 0 (.bool (I.getD t0 false)) (by rw[e];rfl);have e2:(t0:Int).toNat * Kd.bool.sz+0=t0:=by rw[Int.toNat_natCast];show t0 * 1+0=t0;omega
   rw[e2] at h_;exact h_
  clear hK0 hK1 hc0 hc1;have hq:=HQ10.out;obtain⟨dt,hdt⟩: ∃ d_,d_=D.getD t0 0:=⟨_,rfl⟩;obtain⟨it,hit⟩: ∃ d_,d_=I.getD t0 false:=⟨_,rfl⟩;rw[← hdt] at hd hq;rw[← hit] at hi hq;clear hdt hit;cases it with
  |true=>
   have hlt:a3<dt:=hq rfl;have d3:decide (dt>a3)=true:=Yv hlt;have d4:decide (a3<dt)=true:=Yv hlt;clear hq;go_wp2_with fail;go_ret;exact⟨rfl,HB.out⟩
  |false=>
   clear hq hd;go_wp2_with fail;go_ret;exact⟨rfl,HB.out⟩
 ·obtain⟨q1,q2,q3,q4⟩:=HNO.out he
  have q1:F=[]:=q1;have q2:v=0:=q2;have q3:g=e:=q3;have q4:spanErr n1 l1 a1 a2 a3=e:=q4;clear HNO HYES;subst q1;subst q2;subst q3;have he1: ¬ g=0:=he;have d1:(g == 0)=false:=beq_eq_false_iff_ne.mpr he1;have d2:(g != 0)=true:=bne_iff_ne.mpr he1;have d3:(g == g)=true:=beq_self_eq_true g;clear he1;obtain⟨K4,hK4⟩:=ref_span_asked_ev n1 Zc l1 a1 a2 a3;have hm4:=hK4 K4 (Nat.le_refl _);rw[q4] at hm4;have HM4:=Ya hm4;clear hK4 hm4 q4 he;go_wp2_with (first|(go_at_call 14;refine(ebbtideref12_Asked.calls K4 n1 Zc Ze Zd l1 a1 a2 a3 g _ (Yt HLC.out HB.out) HLE.out HM4.out).mono ?_;rintro e_ w10 ⟨rfl,hb⟩;have m0_:=Ya (Yk HB.out hb);have m1_:=Ya (Yn B3.out hb);clear HB B3 hb x0 x1 x2;have HB:=m0_;have B3:=m1_;clear m0_ m1_;have x0:w10.cell? ⟨g3,0,none⟩=some (.int .i64 n1):=(Yc B3.out 0).trans rfl;have x1:w10.cell? ⟨g3,1,none⟩=some (.bool Zc):=(Yc B3.out 1).trans rfl;have x2:w10.cell? ⟨g3,2,none⟩=some (.slice Ze l1.length Zd):=(Yc B3.out 2).trans rfl)|fail);go_ret;exact⟨rfl,HB.out⟩
end H
namespace P
def ebbtidelaw12_SpanBest.f (Zb:Int) (Zc:Bool) (Za:List S50) (a1:Int) (a2:Int) (a3:Int):Option (Bool):=some true
theorem ebbtidelaw12_SpanBest.calls (Zb:Int) (Zc:Bool) (Ze:Option Addr) (Zd:Nat) (Za:List S50) (a1:Int) (a2:Int) (a3:Int) (r:Bool) (w:World) (Zo:Kd.C k50 w Ze Za.length Za) (Zp:Za.length≤Zd) (h:ebbtidelaw12_SpanBest.f Zb Zc Za a1 a2 a3=some r):
  Calls Try.prog 4 #[.agg #[.int .i64 Zb, .bool Zc, .slice Ze Za.length Zd], .int .i64 a1, .int .i64 a2, .int .i64 a3] w fun e w'=>e= .returned (.bool r)∧Below w.heap.size w w':=H.ebbtidelaw12_SpanBest_calls Zb Zc Ze Zd Za a1 a2 a3 r w Zo Zp h
end P
namespace Opn
open Go.ChangeShapes Go.WideShapes Go.Deep 
def Opens (P:Program) (t:TypeId) {α:Type} (d:Kd α) (ok:α→Prop):Prop:=
 ∀ (H:Type) (enc:TypeId × Value→H) (w:World) (base:Nat) (spare:Nat→Bool) (held:Bool) (fuel:Nat) (cs:List Value) (x:DataW H × List MemPlace),
  DataW.trod enc P w base spare held fuel t cs=some x→ ∃ a:α,d.K w a cs∧ok a
theorem opens_int {P:Program} {t:TypeId} {k:IntKind} (ht:P.underlying t=some (.int k)):Opens P t (Kd.int k) (fun n=>(Lit.int k n).wf=true):=by
 intro H enc w base spare held fuel cs x h;obtain⟨n,rfl,_,hw⟩:=DataW.trod_int ht h;exact⟨n,rfl,hw⟩
theorem opens_bool {P:Program} {t:TypeId} (ht:P.underlying t=some .bool):Opens P t Kd.bool (fun _=>True):=by
 intro H enc w base spare held fuel cs x h;obtain⟨b,rfl,_⟩:=DataW.trod_bool ht h;exact⟨b,rfl,trivial⟩
theorem opens_slice {P:Program} {t e:TypeId} {α:Type} {d:Kd α} {ok:α→Prop} (ht:P.underlying t=some (.slice e)) (hc:P.cellsOf e=d.sz) (h:Opens P e d ok):
  Opens P t (Kd.slice e d) (fun l=>l.length≤9223372036854775807∧ ∀ x∈l,ok x):=by
 intro H enc w base spare held fuel cs x hx;rcases open_slice ht hx with ⟨rfl,_⟩|⟨a,len,cap,m,n,D,Pl,rfl,hb,hl,hm,hmm,_,hi⟩
 ·exact⟨[],⟨none,0,rfl,Nat.le_refl _,rfl,by simp,fun h=>absurd h (by simp)⟩,by simp,by simp⟩
 ·have hlm:len≤m:=by rw[hmm];split<;>omega
  have hel: ∀ i:Nat,i<len→ ∃ a':α,ok a'∧ ∃ c,c.length=d.sz∧d.K w a' c∧ ∀ j u,c[j]? =some u→w.cell? (a.add (i * d.sz+j))=some u:=by
   intro i hil;obtain⟨cs',hcs,htr⟩:=hi i (by omega);obtain⟨a',hK,hok⟩:=h H enc w base spare held n cs' _ htr;rw[hc] at hcs;obtain⟨_,hcl,hat⟩:=World.cells?_some hcs;refine⟨a',hok,cs',hcl,hK,fun j u hu=> ?_⟩;have hj:j<d.sz:=by have:=(List.getElem?_eq_some_iff.1 hu).1;omega
   have:=hat j hj;rw[← Go.Deep.add_add,this,hu]
  have hrow: ∀ k:Nat,k≤len→ ∃ xs:List α,xs.length=k∧(∀ x∈xs,ok x)∧ ∀ j p,xs[j]? =some p→ ∃ c,c.length=d.sz∧d.K w p c∧ ∀ i u,c[i]? =some u→w.cell? (a.add (j * d.sz+i))=some u:=by
   intro k
   induction k with
   |zero=>exact fun _=>⟨[],rfl,by simp,by simp⟩
   |succ k ih=>
    intro hk;obtain⟨xs,h1,h2,h3⟩:=ih (by omega);obtain⟨a',ho,c,hcl,hK,hcell⟩:=hel k (by omega);refine⟨xs ++ [a'],by simp[h1],fun x hx=> ?_,fun j p hj=> ?_⟩
    ·rcases List.mem_append.1 hx with h|h
     ·exact h2 x h
     ·rw[List.mem_singleton.1 h];exact ho
    ·by_cases hjk:j<xs.length
     ·rw[List.getElem?_append_left hjk] at hj
      exact h3 j p hj
     ·have hjl:=(List.getElem?_eq_some_iff.1 hj).1
      simp at hjl;have hje:j=k:=by omega
      subst hje;rw[← h1,List.getElem?_concat_length] at hj;obtain rfl:=Option.some.inj hj;exact⟨c,hcl,hK,hcell⟩
  obtain⟨xs,h1,h2,h3⟩:=hrow len (Nat.le_refl _);have hmx:len≤9223372036854775807:=by unfold maxLen at hm;omega
  subst h1;exact⟨xs,⟨some a,cap,rfl,hl,rfl,hmx,fun _=>⟨a,rfl,h3⟩⟩,hmx,h2⟩
theorem opens_iso {P:Program} {t:TypeId} {α β:Type} {d:Kd α} {ok:α→Prop} (h:Opens P t d ok) (f:β→α) (g:α→β) (hfg: ∀ x,f (g x)=x):Opens P t (Kd.iso d f) (fun y=>ok (f y)):=by
 intro H enc w base spare held fuel cs x hx;obtain⟨a,hK,hok⟩:=h H enc w base spare held fuel cs x hx;exact⟨g a,by show d.K w (f (g a)) cs;rw[hfg];exact hK,by show ok (f (g a));rw[hfg];exact hok⟩
def OpensFs (P:Program) (fs:List Field) (off:Nat) {α:Type} (d:Kd α) (ok:α→Prop):Prop:=
 ∀ (H:Type) (enc:TypeId × Value→H) (w:World) (base:Nat) (spare:Nat→Bool) (held:Bool) (n:Nat) (cs:List Value),cs.length=off+d.sz→
  (∀ f∈fs, ∃ y,DataW.trod enc P w base spare held n f.type ((cs.drop f.offset).take (P.cellsOf f.type))=some y)→ ∃ a:α,d.K w a (cs.drop off)∧ok a
theorem fs_one {P:Program} {f:Field} {off:Nat} {α:Type} {d:Kd α} {ok:α→Prop} (ho:f.offset=off) (hc:P.cellsOf f.type=d.sz) (h:Opens P f.type d ok):OpensFs P [f] off d ok:=by
 intro H enc w base spare held n cs hl hf;obtain⟨y,hy⟩:=hf f (by simp);rw[ho,hc,List.take_of_length_le (by simp;omega)] at hy;exact h H enc w base spare held n _ y hy
theorem fs_cons {P:Program} {f:Field} {fs:List Field} {off:Nat} {α β:Type} {d:Kd α} {d':Kd β} {ok:α→Prop} {ok':β→Prop} (ho:f.offset=off) (hc:P.cellsOf f.type=d.sz) (h:Opens P f.type d ok)
  (hr:OpensFs P fs (off+d.sz) d' ok'):OpensFs P (f::fs) off (Kd.pair d d') (fun x=>ok x.1∧ok' x.2):=by
 intro H enc w base spare held n cs hl hf;have hsz:(Kd.pair d d').sz=d.sz+d'.sz:=rfl;rw[hsz] at hl;obtain⟨y,hy⟩:=hf f (by simp);rw[ho,hc] at hy;obtain⟨a,hK,hok⟩:=h H enc w base spare held n _ y hy;obtain⟨b,hKb,hokb⟩:=hr H enc w base spare held n cs (by omega) (fun f' hf'=>hf f' (List.mem_cons_of_mem _ hf'));refine⟨(a,b),⟨_,_,?_,hK,hKb⟩,hok,hokb⟩;rw[← List.drop_drop];exact(List.take_append_drop _ _).symm
theorem opens_struct {P:Program} {t:TypeId} {fs:Array Field} {α:Type} {d:Kd α} {ok:α→Prop} (hs:P.underlying t=some (.struct fs)) (hC:P.cellsOf t=d.sz) (h:OpensFs P fs.toList 0 d ok):Opens P t d ok:=by
 intro H enc w base spare held fuel cs x hx;obtain⟨xs,n,_,_,hl,hlen,hf⟩:=DataW.trod_struct hs hx;obtain⟨a,hK,hok⟩:=h H enc w base spare held n cs (by rw[hl,hC,Nat.zero_add]) (fun f hfm=>by
  obtain⟨j,hj⟩:=List.getElem?_of_mem hfm;have hj':fs[j]? =some f:=by rw[← hj];simp
  have hjl:j<xs.length:=by rw[hlen];exact(Array.getElem?_eq_some_iff.1 hj').1
  have h1:=hf j f hj';rw[List.getElem?_eq_getElem hjl] at h1;exact⟨_,h1⟩)
 exact⟨a,hK,hok⟩
theorem arg_struct {H:Type} {enc:TypeId × Value→H} {P:Program} {w:World} {base b0:Nat} {spare:Nat→Bool} {held:Bool} {r:Reach} {t:TypeId} {fs:Array Field} {v:Value} {dd:DataW H} {p:List MemPlace} {α:Type} {d:Kd α} {ok:α→Prop}
  (hs:P.underlying t=some (.struct fs)) (ho:Opens P t d ok) (hv:Value.okWide P w r b0 t v) (h:DataW.Trod enc P w base spare held t v dd p): ∃ a cs,v= .agg cs∧d.K w a cs.toList∧ok a:=by
 obtain⟨cs,rfl,hsz⟩:=okWide_struct hs hv;obtain⟨fuel,hf⟩:=h;obtain⟨a,hK,hok⟩:=ho H enc w base spare held fuel _ _ hf;exact⟨a,cs,rfl,by simpa [Value.cells] using hK,hok⟩
end Opn
namespace Q
open P
theorem spanBest_ev (n:Int) (b:Bool) (l:List S50) (s t:Int) (h:Int):Ev (fun _=>ebbtidelaw12_SpanBest.f n b l s t h) true:=Ev.now _
end Q
end Go.Proofs.Ytoedkglggapggaa
