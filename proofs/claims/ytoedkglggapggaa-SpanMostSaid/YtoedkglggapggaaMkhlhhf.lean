/- What the law's row needs of these texts, taken out of them by wip/tool/mini.py: P43 P49 P50 P51 P52 P53 QSoughtLaw QWayRef P54 P55 P56. -/
import Derived.Test.YtoedkglggapggaaMlghifl
import Derived.Test.YtoedkglggapggaaMoimgel
import Derived.Test.YtoedkglggapggaaMnlbhhf
import Derived.Deep.RegionHeld3
import Derived.Deep.DeepCutAuto
set_option linter.unusedVariables false
set_option linter.unusedSimpArgs false
open Go.RowKit Go.Proofs.YtoedkglggapggaaW.PrintWords Go.Proofs.YtoedkglggapggaaW.PrintLast Go.Proofs.YtoedkglggapggaaW.PrintMore
namespace Go.Proofs.Ytoedkglggapggaa
namespace P
attribute [local go_sem] max2_int min2_int max_two min_two max_three min_three max_four min_four
def ebbtideref12_Worth.f (k:Nat) (Zb:Int) (Zc:Bool) (Za:List (S50)) (a1:Int) (a2:Int) (l3:List Int) (a4:Int):Option (Int × Int):=(ebbtideref12_Asked.f k Zb Zc Za a1 a2 a4).bind fun t232=>(if t232=0 then((ebbtideref07_Check.f k Zb Zc Za a1 a2 l3).bind fun bt233=>(if bt233.2=0 then((ebbtideref07_Cost.f k Zb Zc Za l3).bind fun bt235=>(some (wrap64 ((wrap64 ((wrap64 (a4+1)) * bt233.1)) - bt235.1),0))) else(some (0,bt233.2)))) else(some (0,t232)))
set_option maxHeartbeats 8000000 in
set_option maxRecDepth 100000 in
theorem ebbtideref12_Worth.calls (k:Nat) (Zb:Int) (Zc:Bool) (Ze:Option Addr) (Zd:Nat) (Za:List (S50)) (a1:Int) (a2:Int) (A3:Option Addr) (c3:Nat) (l3:List Int) (a4:Int) (r1:Int) (r2:Int) (w:World) (Zp:Kd.C k50 w Ze Za.length Za) (Zq:Za.length≤Zd) (hr3:Kd.C (Kd.int .i64) w A3 l3.length l3) (hc3:l3.length≤c3) (h:ebbtideref12_Worth.f k Zb Zc Za a1 a2 l3 a4=some (r1,r2)):
  Calls Try.prog 15 #[.agg #[.int .i64 Zb, .bool Zc, .slice Ze Za.length Zd], .int .i64 a1, .int .i64 a2, .slice A3 l3.length c3, .int .i64 a4] w fun e w'=>e= .returned (.tuple #[.int .i64 r1, .int .i64 r2])∧Below w.heap.size w w':=by
 have hu24:=Try.underlying24;have Zh:=Ya Zp;have Zo:=Ya Zq;clear Zp Zq;have HR3:=Ya hr3;have HC3:=Ya hc3;clear hr3 hc3;have HB:=Ya (Yo w.heap.size w);have H:=h;unfold ebbtideref12_Worth.f at H;clear h;replace H:=Option.bind_eq_some_iff.mp H;obtain⟨t232,A60,H⟩:=H;try dsimp only at H
 have A6:=Ya A60;clear A60;by_cases c7:t232=0
 rotate_left
 ·rw[Yy c7] at H
  have c7b0:(t232 == 0)=false:=beq_eq_false_iff_ne.mpr c7;have c7b1:(t232 != 0)=true:=bne_iff_ne.mpr c7;simp only[Option.some.injEq,Prod.mk.injEq] at H;obtain⟨rfl,rfl⟩:=H;go_enter Try.func15,Try.ntmps15;go_wp2_with (first|(refine bx 5 24 #[.int .i64 Zb, .bool Zc, .slice Ze Za.length Zd] ?_;intro gb231 hg w23 Zf hb;have Wf:=Ya (Zf);have GW231:=Ya ((sz hg));have GE231:=Ya ((sz hg));replace HB:=Ya (Yk bl hb);clear hb Zf hg;have hcz24_0:w23.cell? ⟨gb231,0,none⟩=some (.int .i64 Zb):=bc Wf 0;have hcz24_1:w23.cell? ⟨gb231,1,none⟩=some (.bool Zc):=bc Wf 1;have hcz24_2:w23.cell? ⟨gb231,2,none⟩=some (.slice Ze Za.length Zd):=bc Wf 2;have hfz24_0:=Yf Wf.out 0;have hfz24_1:=Yf Wf.out 1;have hfz24_2:=Yf Wf.out 2)|((with_reducible refine gate_callee (f:=14) rfl ?_);refine gl (some 21) Try.func14 #[.agg #[.int .i64 Zb, .bool Zc, .slice Ze Za.length Zd], .int .i64 a1, .int .i64 a2, .int .i64 a4] ?_;(with_reducible refine(ebbtideref12_Asked.calls k Zb Zc _ _ Za a1 a2 a4 t232 _ ?side1 ?side2 A6.out).mono ?_);(case side1=>exact kC (Yt Zh.out HB.out));(case side2=>exact Zo.out);rintro e w25 ⟨rfl,hb⟩;refine⟨_,rfl,?_⟩;replace Wf:=Ya (Yn (bk Wf) hb);replace HB:=Ya (Yk bl hb);(try clear hb)));go_ret2;exact⟨by first|rfl|(simp[errW_none,errW_some]<;>rfl)|(simp[*,errW_none,errW_some]<;>rfl),HB.out⟩
 rw[Yx c7] at H;have c7b0:(t232 == 0)=true:=beq_iff_eq.mpr c7;have c7b1:(t232 != 0)=false:=bne_eq_false_iff_eq.mpr c7;clear c7;replace H:=Option.bind_eq_some_iff.mp H;obtain⟨⟨t233,t234⟩,A80,H⟩:=H;try dsimp only at H
 have A8:=Ya A80;clear A80;by_cases c9:t234=0
 rotate_left
 ·rw[Yy c9] at H
  have c9b0:(t234 == 0)=false:=beq_eq_false_iff_ne.mpr c9;have c9b1:(t234 != 0)=true:=bne_iff_ne.mpr c9;simp only[Option.some.injEq,Prod.mk.injEq] at H;obtain⟨rfl,rfl⟩:=H;go_enter Try.func15,Try.ntmps15;go_wp2_with (first|(refine bx 5 24 #[.int .i64 Zb, .bool Zc, .slice Ze Za.length Zd] ?_;intro gb231 hg w18 Zf hb;have Wf:=Ya (Zf);have GW231:=Ya ((sz hg));have GE231:=Ya ((sz hg));replace HB:=Ya (Yk bl hb);clear hb Zf hg;have hcz19_0:w18.cell? ⟨gb231,0,none⟩=some (.int .i64 Zb):=bc Wf 0;have hcz19_1:w18.cell? ⟨gb231,1,none⟩=some (.bool Zc):=bc Wf 1;have hcz19_2:w18.cell? ⟨gb231,2,none⟩=some (.slice Ze Za.length Zd):=bc Wf 2;have hfz19_0:=Yf Wf.out 0;have hfz19_1:=Yf Wf.out 1;have hfz19_2:=Yf Wf.out 2)|((with_reducible refine gate_callee (f:=14) rfl ?_);refine gl (some 21) Try.func14 #[.agg #[.int .i64 Zb, .bool Zc, .slice Ze Za.length Zd], .int .i64 a1, .int .i64 a2, .int .i64 a4] ?_;(with_reducible refine(ebbtideref12_Asked.calls k Zb Zc _ _ Za a1 a2 a4 t232 _ ?side1 ?side2 A6.out).mono ?_);(case side1=>exact kC (Yt Zh.out HB.out));(case side2=>exact Zo.out);rintro e w20 ⟨rfl,hb⟩;refine⟨_,rfl,?_⟩;replace Wf:=Ya (Yn (bk Wf) hb);replace HB:=Ya (Yk bl hb);(try clear hb);have hcz21_0:w20.cell? ⟨gb231,0,none⟩=some (.int .i64 Zb):=bc Wf 0;have hcz21_1:w20.cell? ⟨gb231,1,none⟩=some (.bool Zc):=bc Wf 1;have hcz21_2:w20.cell? ⟨gb231,2,none⟩=some (.slice Ze Za.length Zd):=bc Wf 2;have hfz21_0:=Yf Wf.out 0;have hfz21_1:=Yf Wf.out 1;have hfz21_2:=Yf Wf.out 2)|((with_reducible refine gate_callee (f:=20) rfl ?_);refine gl (some 30) Try.func20 #[.agg #[.int .i64 Zb, .bool Zc, .slice Ze Za.length Zd], .int .i64 a1, .int .i64 a2, .slice A3 l3.length c3] ?_;(with_reducible refine(ebbtideref07_Check.calls k Zb Zc _ _ Za a1 a2 _ _ l3 t233 t234 _ ?side1 ?side2 ?side3 ?side4 A8.out).mono ?_);(case side1=>exact kC (Yt Zh.out HB.out));(case side2=>exact Zo.out);(case side3=>exact kC (Yt HR3.out HB.out));(case side4=>exact HC3.out);rintro e w22 ⟨rfl,hb⟩;refine⟨_,rfl,?_⟩;replace Wf:=Ya (Yn (bk Wf) hb);replace HB:=Ya (Yk bl hb);(try clear hb);(try clear hb2);(try clear hk);(try clear hi)));go_ret2;exact⟨by first|rfl|(simp[errW_none,errW_some]<;>rfl)|(simp[*,errW_none,errW_some]<;>rfl),HB.out⟩
 rw[Yx c9] at H;have c9b0:(t234 == 0)=true:=beq_iff_eq.mpr c9;have c9b1:(t234 != 0)=false:=bne_eq_false_iff_eq.mpr c9;clear c9;replace H:=Option.bind_eq_some_iff.mp H;obtain⟨⟨t235,t236⟩,A100,H⟩:=H;try dsimp only at H
 have A10:=Ya A100;clear A100;simp only[Option.some.injEq,Prod.mk.injEq] at H;obtain⟨rfl,rfl⟩:=H;go_enter Try.func15,Try.ntmps15;go_wp2_with (first|(refine bx 5 24 #[.int .i64 Zb, .bool Zc, .slice Ze Za.length Zd] ?_;intro gb231 hg w11 Zf hb;have Wf:=Ya (Zf);have GW231:=Ya ((sz hg));have GE231:=Ya ((sz hg));replace HB:=Ya (Yk bl hb);clear hb Zf hg;have hcz12_0:w11.cell? ⟨gb231,0,none⟩=some (.int .i64 Zb):=bc Wf 0;have hcz12_1:w11.cell? ⟨gb231,1,none⟩=some (.bool Zc):=bc Wf 1;have hcz12_2:w11.cell? ⟨gb231,2,none⟩=some (.slice Ze Za.length Zd):=bc Wf 2;have hfz12_0:=Yf Wf.out 0;have hfz12_1:=Yf Wf.out 1;have hfz12_2:=Yf Wf.out 2)|((with_reducible refine gate_callee (f:=14) rfl ?_);refine gl (some 21) Try.func14 #[.agg #[.int .i64 Zb, .bool Zc, .slice Ze Za.length Zd], .int .i64 a1, .int .i64 a2, .int .i64 a4] ?_;(with_reducible refine(ebbtideref12_Asked.calls k Zb Zc _ _ Za a1 a2 a4 t232 _ ?side1 ?side2 A6.out).mono ?_);(case side1=>exact kC (Yt Zh.out HB.out));(case side2=>exact Zo.out);rintro e w13 ⟨rfl,hb⟩;refine⟨_,rfl,?_⟩;replace Wf:=Ya (Yn (bk Wf) hb);replace HB:=Ya (Yk bl hb);(try clear hb);have Vy:w13.cell? ⟨gb231,0,none⟩=some (.int .i64 Zb):=bc Wf 0;have Ud:w13.cell? ⟨gb231,1,none⟩=some (.bool Zc):=bc Wf 1;have Jo:w13.cell? ⟨gb231,2,none⟩=some (.slice Ze Za.length Zd):=bc Wf 2;have Ue:=Yf Wf.out 0;have Uf:=Yf Wf.out 1;have Jp:=Yf Wf.out 2)|((with_reducible refine gate_callee (f:=20) rfl ?_);refine gl (some 30) Try.func20 #[.agg #[.int .i64 Zb, .bool Zc, .slice Ze Za.length Zd], .int .i64 a1, .int .i64 a2, .slice A3 l3.length c3] ?_;(with_reducible refine(ebbtideref07_Check.calls k Zb Zc _ _ Za a1 a2 _ _ l3 t233 t234 _ ?side1 ?side2 ?side3 ?side4 A8.out).mono ?_);(case side1=>exact kC (Yt Zh.out HB.out));(case side2=>exact Zo.out);(case side3=>exact kC (Yt HR3.out HB.out));(case side4=>exact HC3.out);rintro e w15 ⟨rfl,hb⟩;refine⟨_,rfl,?_⟩;replace Wf:=Ya (Yn (bk Wf) hb);replace HB:=Ya (Yk bl hb);(try clear hb);(try clear hb2);(try clear hk);(try clear hi);have hcz16_0:w15.cell? ⟨gb231,0,none⟩=some (.int .i64 Zb):=bc Wf 0;have hcz16_1:w15.cell? ⟨gb231,1,none⟩=some (.bool Zc):=bc Wf 1;have hcz16_2:w15.cell? ⟨gb231,2,none⟩=some (.slice Ze Za.length Zd):=bc Wf 2;have hfz16_0:=Yf Wf.out 0;have hfz16_1:=Yf Wf.out 1;have hfz16_2:=Yf Wf.out 2)|((with_reducible refine gate_callee (f:=39) rfl ?_);refine gl (some 39) Try.func39 #[.agg #[.int .i64 Zb, .bool Zc, .slice Ze Za.length Zd], .slice A3 l3.length c3] ?_;(with_reducible refine(ebbtideref07_Cost.calls k Zb Zc _ _ Za _ _ l3 t235 t236 _ ?side1 ?side2 ?side3 ?side4 A10.out).mono ?_);(case side1=>exact kC (Yt Zh.out HB.out));(case side2=>exact Zo.out);(case side3=>exact kC (Yt HR3.out HB.out));(case side4=>exact HC3.out);rintro e w17 ⟨rfl,hb⟩;refine⟨_,rfl,?_⟩;replace Wf:=Ya (Yn (bk Wf) hb);replace HB:=Ya (Yk bl hb);(try clear hb);(try clear hb2);(try clear hk);(try clear hi)));go_ret2;exact⟨by first|rfl|(simp[errW_none,errW_some]<;>rfl)|(simp[*,errW_none,errW_some]<;>rfl),HB.out⟩
end P
namespace P
attribute [local go_sem] max2_int min2_int max_two min_two max_three min_three max_four min_four
def ebbtideref07_Pushed.l0:Nat→List (S79)→Int→List Int→Int→Option (List Int)
 |0,_,_,_,_=>none
 |k+1,x1,x2,x7,x8=>if x8<(x1.length:Int) then(if 0≤x8 then(if (rd_T79 x1 x8).f1=true then(if 0≤((rd_T79 x1 x8).f0) then(if ((rd_T79 x1 x8).f0)<(x7.length:Int) then(ebbtideref07_Pushed.l0 k x1 x2 (x7.set (((rd_T79 x1 x8).f0):Int).toNat (wrap64 ((rd x7 ((rd_T79 x1 x8).f0)) - x2))) (wrap64 (x8+1))) else(none)) else(none)) else(if 0≤((rd_T79 x1 x8).f0) then(if ((rd_T79 x1 x8).f0)<(x7.length:Int) then(ebbtideref07_Pushed.l0 k x1 x2 (x7.set (((rd_T79 x1 x8).f0):Int).toNat (wrap64 ((rd x7 ((rd_T79 x1 x8).f0))+x2))) (wrap64 (x8+1))) else(none)) else(none))) else(none)) else(some x7)
def ebbtideref07_Pushed.f (k:Nat) (l0:List Int) (l1:List (S79)) (a2:Int):Option (List Int):=if ([]:List Int).length+l0.length<17592186044416 then(ebbtideref07_Pushed.l0 k l1 a2 (([]:List Int) ++ l0) 0) else(none)
def ebbtideref07_Pushed.T7:Bool × List (List Nat × List Nat):=(true,[([],[]),([],[]),([],[]),([1,2],[1,2]),([3],[3]),([4],[4]),([],[]),([],[]),([],[]),([7,8],[7,8]),([9],[9]),([10],[10]),([6,11],[6,11]),([12],[12]),([],[]),([13,14],[13,14]),([0,5,0,1,2,3,4,5,6,7,8,9,10,11,12,13,14,15],[0,5]),([16,15,0,1,2,3,4,5,6,7,8,9,10,11,12,13,14,15],[15,16])])
def ebbtideref07_Pushed.B7:List Nat:=[0,0,0,6,14,30,0,0,0,384,896,1920,4032,8128,0,32704,65535,131071]
theorem ebbtideref07_Pushed.tab7:rtab .any (opsOf Try.f59 7)=ebbtideref07_Pushed.T7:=by kernel_rfl
theorem ebbtideref07_Pushed.bits7:waitsOk ebbtideref07_Pushed.T7.2 ebbtideref07_Pushed.B7=true:=by kernel_rfl
def ebbtideref07_Pushed.T8:Bool × List (List Nat × List Nat):=(true,[([],[]),([],[]),([],[]),([1,2],[1,2]),([3],[3]),([4],[4]),([],[]),([],[]),([],[]),([7,8],[7,8]),([9],[9]),([10],[10]),([6,11],[6,11]),([12],[12]),([],[]),([13,14],[13,14]),([0,5,0,1,2,3,4,5,6,7,8,9,10,11,12,13,14,15],[0,5]),([16,15,0,1,2,3,4,5,6,7,8,9,10,11,12,13,14,15],[15,16])])
def ebbtideref07_Pushed.B8:List Nat:=[0,0,0,6,14,30,0,0,0,384,896,1920,4032,8128,0,32704,65535,131071]
theorem ebbtideref07_Pushed.tab8:rtab .any (opsOf Try.f59 8)=ebbtideref07_Pushed.T8:=by kernel_rfl
theorem ebbtideref07_Pushed.bits8:waitsOk ebbtideref07_Pushed.T8.2 ebbtideref07_Pushed.B8=true:=by kernel_rfl
set_option maxHeartbeats 8000000 in
set_option maxRecDepth 100000 in
theorem ebbtideref07_Pushed.calls (k:Nat) (A0:Option Addr) (c0:Nat) (l0:List Int) (A1:Option Addr) (c1:Nat) (l1:List (S79)) (a2:Int) (r:List Int) (w:World) (hr0:Kd.C (Kd.int .i64) w A0 l0.length l0) (hc0:l0.length≤c0) (hr1:Kd.C k79 w A1 l1.length l1) (hc1:l1.length≤c1) (h:ebbtideref07_Pushed.f k l0 l1 a2=some r):
  Calls Try.prog 59 #[.slice A0 l0.length c0, .slice A1 l1.length c1, .int .i64 a2] w fun e w'=> ∃ v0_:Value,e= .returned (v0_)∧Kd.R (Kd.int .i64) 3 w' w.heap.size (fun _=>True) v0_ r∧Below w.heap.size w w':=by
 have HR0:=Ya hr0;have HC0:=Ya hc0;clear hr0 hc0;have HR1:=Ya hr1;have HC1:=Ya hc1;clear hr1 hc1;have HB:=Ya (Yo w.heap.size w);have H:=h;unfold ebbtideref07_Pushed.f at H;clear h;by_cases c4:([]:List Int).length+l0.length<17592186044416
 rotate_left
 ·rw[Yy c4] at H
  exact absurd H (by simp)
 rw[Yx c4] at H;have LMc4:=Ya c4;clear c4;obtain⟨y290,hy290⟩: ∃ y_:List Int,y_=(([]:List Int) ++ l0):=⟨_,rfl⟩;rw[← hy290] at H;have Ny290:=Ya hy290;clear hy290;have H':=Ya H;clear H;go_enter Try.func59,Try.ntmps59;go_wp2_with (first|((with_reducible refine gate_builtin (b:= .append) (xs:= #[.tmp 9, .tmp 10]) rfl ?_);at_builtin;refine Kd.R_append_rows (Kd.int .i64) (w0:=w) w.heap.size rfl (.tmp 9) (.tmp 10) 31 3 (.int .i64 0) 8 rfl Try.underlying31 info3 rfl (by decide) (by omega) (.slice none 0 0) ([]:List Int) l0 _ _ _ (fun _=>True) (fun _=>False) rfl rfl ?aO ?aR (fun _ _ h=>h) (fun _ h=>h.elim) ?aF ?aB ?aS ?aL ?_;(case aR=>repeat(first|exact HR0.out|(with_reducible refine Kd.C_alloc ?_ _)|(with_reducible refine Kd.C_drewN ?_ _)|(with_reducible refine Kd.C_drew ?_)));(case aB=>exact bl);(case aF=>exact(fun _ _=>trivial));(case aO=>exact((Kd.R_nil _ _ _ _ (fun _=>True))));(case aS=>exact(Yi bl));(case aL=>have:=LMc4.out;omega);intro v291 w5 ho hb hg hat;rw[← Ny290.out] at ho;replace HB:=Ya (hb);have HO292:=Ya (ho);clear ho hb hg hat));go_loopg [8] k (fun kq v8 w'=> ∃ (Xu:List Int) (Zn:Int),v8= .int .i64 Zn∧Aside0 (ebbtideref07_Pushed.l0 kq l1 a2 Xu Zn=some r)∧Aside0 (kq≤k)∧Aside0 (Kd.R (Kd.int .i64) 3 w' w.heap.size (fun _=>True) v291 Xu)∧Aside0 (Below w.heap.size w w'))
 case atStart=>exact⟨(y290),(0),(by first|rfl|(simp;done)|(simp[*];done)),H',⟨Nat.le_refl _⟩,⟨HO292.out⟩,⟨HB.out⟩⟩
 case round=>
  clear H';try clear c1
  try clear c4
  obtain⟨Xu,Zn,rfl,HA,HK1,HO_7,HB⟩:=hrel;cases gk with
  |zero=>exact absurd HA.out (by simp[ebbtideref07_Pushed.l0])
  |succ k1=>
   have H:=HA.out;clear HA;simp only[ebbtideref07_Pushed.l0] at H;by_cases c6:Zn<(l1.length:Int)
   rotate_left
   ·rw[Yy c6] at H
    have c6b0:decide (Zn<(l1.length:Int))=false:=Yw c6;clear c6;obtain rfl:=Option.some.inj H;go_wp2;go_ret;exact⟨_,by first|rfl|(simp[errW_none,errW_some]<;>rfl)|(simp[*,errW_none,errW_some]<;>rfl),by(with_reducible repeat(first|apply Yr|apply Yq|apply Yp));exact HO_7.out,HB.out⟩
   rw[Yx c6] at H;have c6b0:decide (Zn<(l1.length:Int))=true:=Yv c6;clear c6;by_cases c7:0≤Zn
   rotate_left
   ·rw[Yy c7] at H
    exact absurd H (by simp)
   rw[Yx c7] at H;have c7b0:decide (0≤Zn)=true:=Yv c7;clear c7;obtain⟨bq8,hbq8⟩: ∃ b_:Bool,b_=((rd_T79 l1 Zn).f1):=⟨_,rfl⟩;replace H:(if bq8=true then(if 0≤((rd_T79 l1 Zn).f0) then(if ((rd_T79 l1 Zn).f0)<(Xu.length:Int) then(ebbtideref07_Pushed.l0 k1 l1 a2 (Xu.set (((rd_T79 l1 Zn).f0):Int).toNat (wrap64 ((rd Xu ((rd_T79 l1 Zn).f0)) - a2))) (wrap64 (Zn+1))) else(none)) else(none)) else(if 0≤((rd_T79 l1 Zn).f0) then(if ((rd_T79 l1 Zn).f0)<(Xu.length:Int) then(ebbtideref07_Pushed.l0 k1 l1 a2 (Xu.set (((rd_T79 l1 Zn).f0):Int).toNat (wrap64 ((rd Xu ((rd_T79 l1 Zn).f0))+a2))) (wrap64 (Zn+1))) else(none)) else(none)))=some r:=by rw[← hbq8] at H;exact H
   have Nbq8:=Ya hbq8;clear hbq8;by_cases c9:bq8=true
   ·subst c9
    first|rw[Yx rfl] at H|rw[Yx trivial] at H
    by_cases c10:0≤((rd_T79 l1 Zn).f0)
    rotate_left
    ·rw[Yy c10] at H
     exact absurd H (by simp)
    rw[Yx c10] at H;have c10b0:decide (0≤((rd_T79 l1 Zn).f0))=true:=Yv c10;clear c10;by_cases c11:((rd_T79 l1 Zn).f0)<(Xu.length:Int)
    rotate_left
    ·rw[Yy c11] at H
     exact absurd H (by simp)
    rw[Yx c11] at H;have c11b0:decide (((rd_T79 l1 Zn).f0)<(Xu.length:Int))=true:=Yv c11;clear c11;obtain⟨y297,hy297⟩: ∃ y_:List Int,y_=(Xu.set (((rd_T79 l1 Zn).f0):Int).toNat (wrap64 ((rd Xu ((rd_T79 l1 Zn).f0)) - a2))):=⟨_,rfl⟩;rw[← hy297] at H;have Ny297:=Ya hy297;clear hy297;have H':=Ya H;clear H;have p293:0≤(Zn:Int):=od;have q293:Zn<(l1.length:Int):=od;obtain⟨ad293,e293,hx293_0,hx293_1⟩:=at_T79 HR1.out Zn p293 q293
    (try rw[← Nbq8.out] at hx293_1)
    cases e293;replace hx293_0:=hc HB hx293_0;replace hx293_1:=hc HB hx293_1;replace p293:=eq_true p293;replace q293:=eq_true q293;try go_wp2
    replace HO_7:=Ya (Yp HO_7.out);replace HB:=Ya (Yg HB.out);have p294:0≤(Zn:Int):=od;have q294:Zn<(l1.length:Int):=od;obtain⟨ad294,e294,hx294_0,hx294_1⟩:=at_T79 HR1.out Zn p294 q294;have hw294_1:=hx294_1;have hw294_0:=hx294_0
    (try rw[← Nbq8.out] at hx294_1)
    (try rw[← Nbq8.out] at hw294_1)
    obtain rfl:ad293=ad294:=(by injection e294);replace hx294_0:=hc HB hx294_0;replace hx294_1:=hc HB hx294_1;replace p294:=eq_true p294;replace q294:=eq_true q294;have p295:0≤(Zn:Int):=od;have q295:Zn<(l1.length:Int):=od;obtain⟨ad295,e295,hx295_0,hx295_1⟩:=at_T79 HR1.out Zn p295 q295;have hw295_1:=hx295_1;have hw295_0:=hx295_0
    (try rw[← Nbq8.out] at hx295_1)
    (try rw[← Nbq8.out] at hw295_1)
    obtain rfl:ad293=ad295:=(by injection e295);replace hx295_0:=hc HB hx295_0;replace hx295_1:=hc HB hx295_1;replace p295:=eq_true p295;replace q295:=eq_true q295;obtain⟨Ao14,co14,eo14⟩:=Kd.R_slice HO_7.out
    (first|subst eo14|(injection eo14 with f1_ f2_ f3_;have f4_:=f1_.symm;have f5_:=f3_.symm;clear f1_ f2_ f3_;subst f4_;subst f5_))
    have p296:0≤(((rd_T79 l1 Zn).f0):Int):=od;have q296:((rd_T79 l1 Zn).f0)<(Xu.length:Int):=od;obtain⟨ad296,e296,hx296_0⟩:=Kd.at_int (Kd.R_reads' HO_7.out).2.2 ((rd_T79 l1 Zn).f0) p296 q296;cases e296;replace p296:=eq_true p296;replace q296:=eq_true q296;have p12:0≤(((rd_T79 l1 Zn).f0):Int):=od;have q12:(((rd_T79 l1 Zn).f0):Int)<((Xu.length:Int):Int):=od;obtain⟨go12,co12,eo12,gb12,gl12,cl12,HG12⟩:=Kd.R_form HO_7.out (by omega)
    (first|cases eo12|(injection eo12 with ea_ en_ ec_;(first|subst ea_|(injection ea_ with ea_;subst ea_));subst ec_;clear en_))
    have GB12:=Ya gb12;have GG12:=Ya HG12;clear gb12 gl12 HG12
    (first|simp only[add_plain] at hx296_0|skip)
    obtain⟨hx12_0,hf12_0⟩:=Kd.R_celln 0 HO_7.out (((rd_T79 l1 Zn).f0):Int) p12 q12;replace p12:=eq_true p12;replace q12:=eq_true q12;have HP15:=Kd.R_putn HO_7.out (((rd_T79 l1 Zn).f0):Int) (wrap64 ((rd Xu ((rd_T79 l1 Zn).f0)) - a2));rw[← Ny297.out] at HP15;have HQ15:=Ya HP15;clear HP15;refine start_ (n:=18) (S:=fun w'=>w'.cell? (ad293.add ((Zn).toNat * 2))=some (.int .i64 ((rd_T79 l1 Zn).f0))∧w'.cell? ⟨(ad293.add ((Zn).toNat * 2)).block,(ad293.add ((Zn).toNat * 2)).off+1,none⟩=some (.bool (true))∧w'.cell? (ad293.add ((Zn).toNat * 2))=some (.int .i64 ((rd_T79 l1 Zn).f0))∧w'.cell? ⟨(ad293.add ((Zn).toNat * 2)).block,(ad293.add ((Zn).toNat * 2)).off+1,none⟩=some (.bool (true))∧w'.cell? ⟨go12,(((rd_T79 l1 Zn).f0)).toNat,none⟩=some (.int .i64 (rd Xu ((rd_T79 l1 Zn).f0)))) (ds:=[17]) #[false,false,false,false,false,false,false,false,false,false,false,false,false,false,false,false,false,false] (by kernel_rfl) rfl rfl ⟨((HB.out.cell (Yb w _ hw294_0)).trans hw294_0),((HB.out.cell (Yb w _ hw294_1)).trans hw294_1),((HB.out.cell (Yb w _ hw295_0)).trans hw295_0),((HB.out.cell (Yb w _ hw295_1)).trans hw295_1),hx296_0⟩ (fun hHeld=> ?_);refine with_tabW ebbtideref07_Pushed.tab7 ebbtideref07_Pushed.bits7 (fun HT_ HW_=> ?_);generalize wr.drew=w13 at HO_7 HB GG12 HQ15 hf12_0 hx12_0 hx294_0 hx294_1 hx295_0 hx295_1 hx296_0 hHeld ⊢;refine pu 0 23 (bm 18 1) ?_;refine pu 1 24 (bm 18 3) ?_;refine pu 2 25 (bm 18 7) ?_;refine pu 3 26 (bm 18 15) ?_;refine pu 4 27 (bm 18 31) ?_;refine pu 6 29 (bm 18 95) ?_;refine pu 7 30 (bm 18 223) ?_;refine pu 8 31 (bm 18 479) ?_;refine pu 9 32 (bm 18 991) ?_;refine pu 10 33 (bm 18 2015) ?_;refine pu 14 37 (bm 18 18399) ?_;refine ta 5 28 (bm 18 18431) hHeld ?_;refine ta 11 34 (bm 18 20479) hHeld ?_;refine pu 12 35 (bm 18 24575) ?_;refine ta 13 36 (bm 18 32767) hHeld ?_;refine pu 15 38 (bm 18 65535) ?_;refine pu 16 39 (bm 18 131071) ?_;refine last_ (i:=17) (N:=none) #[true,true,true,true,true,true,true,true,true,true,true,true,true,true,true,true,true,true] rfl rfl (one_of HT_.out (by kernel_rfl)) (by decide) (fun K hK=> ?_);refine skip_ (w1:= ?_) (by rfl) rfl ?_ ?_
    rotate_left
    ·go_simp
     rfl
    refine hK.out _ _ ?_;clear hK K;refine done_ (done_of HT_.out (by kernel_rfl)) ?_;try go_wp2
    go_roundg k1
    case measure=>have:=HK1.out;omega
    case rel=>exact⟨(y297),(wrap64 (Zn+1)),(by first|rfl|(simp;done)|(simp[*];done)),H',⟨by have:=HK1.out;omega⟩,⟨kR HQ15⟩,⟨bl⟩⟩
   replace c9:=Bool.eq_false_iff.mpr c9;subst c9;rw[Yy (show ¬ (false=true) by decide)] at H;by_cases c16:0≤((rd_T79 l1 Zn).f0)
   rotate_left
   ·rw[Yy c16] at H
    exact absurd H (by simp)
   rw[Yx c16] at H;have c16b0:decide (0≤((rd_T79 l1 Zn).f0))=true:=Yv c16;clear c16;by_cases c17:((rd_T79 l1 Zn).f0)<(Xu.length:Int)
   rotate_left
   ·rw[Yy c17] at H
    exact absurd H (by simp)
   rw[Yx c17] at H;have c17b0:decide (((rd_T79 l1 Zn).f0)<(Xu.length:Int))=true:=Yv c17;clear c17;obtain⟨y301,hy301⟩: ∃ y_:List Int,y_=(Xu.set (((rd_T79 l1 Zn).f0):Int).toNat (wrap64 ((rd Xu ((rd_T79 l1 Zn).f0))+a2))):=⟨_,rfl⟩;rw[← hy301] at H;have Ny301:=Ya hy301;clear hy301;have H':=Ya H;clear H;have p293:0≤(Zn:Int):=od;have q293:Zn<(l1.length:Int):=od;obtain⟨ad293,e293,hx293_0,hx293_1⟩:=at_T79 HR1.out Zn p293 q293
   (try rw[← Nbq8.out] at hx293_1)
   cases e293;replace hx293_0:=hc HB hx293_0;replace hx293_1:=hc HB hx293_1;replace p293:=eq_true p293;replace q293:=eq_true q293;try go_wp2
   replace HO_7:=Ya (Yp HO_7.out);replace HB:=Ya (Yg HB.out);have p298:0≤(Zn:Int):=od;have q298:Zn<(l1.length:Int):=od;obtain⟨ad298,e298,hx298_0,hx298_1⟩:=at_T79 HR1.out Zn p298 q298;have hw298_1:=hx298_1;have hw298_0:=hx298_0
   (try rw[← Nbq8.out] at hx298_1)
   (try rw[← Nbq8.out] at hw298_1)
   obtain rfl:ad293=ad298:=(by injection e298);replace hx298_0:=hc HB hx298_0;replace hx298_1:=hc HB hx298_1;replace p298:=eq_true p298;replace q298:=eq_true q298;have p299:0≤(Zn:Int):=od;have q299:Zn<(l1.length:Int):=od;obtain⟨ad299,e299,hx299_0,hx299_1⟩:=at_T79 HR1.out Zn p299 q299;have hw299_1:=hx299_1;have hw299_0:=hx299_0
   (try rw[← Nbq8.out] at hx299_1)
   (try rw[← Nbq8.out] at hw299_1)
   obtain rfl:ad293=ad299:=(by injection e299);replace hx299_0:=hc HB hx299_0;replace hx299_1:=hc HB hx299_1;replace p299:=eq_true p299;replace q299:=eq_true q299;obtain⟨Ao20,co20,eo20⟩:=Kd.R_slice HO_7.out
   (first|subst eo20|(injection eo20 with f1_ f2_ f3_;have f4_:=f1_.symm;have f5_:=f3_.symm;clear f1_ f2_ f3_;subst f4_;subst f5_))
   have p300:0≤(((rd_T79 l1 Zn).f0):Int):=od;have q300:((rd_T79 l1 Zn).f0)<(Xu.length:Int):=od;obtain⟨ad300,e300,hx300_0⟩:=Kd.at_int (Kd.R_reads' HO_7.out).2.2 ((rd_T79 l1 Zn).f0) p300 q300;cases e300;replace p300:=eq_true p300;replace q300:=eq_true q300;have p18:0≤(((rd_T79 l1 Zn).f0):Int):=od;have q18:(((rd_T79 l1 Zn).f0):Int)<((Xu.length:Int):Int):=od;obtain⟨go18,co18,eo18,gb18,gl18,cl18,HG18⟩:=Kd.R_form HO_7.out (by omega)
   (first|cases eo18|(injection eo18 with ea_ en_ ec_;(first|subst ea_|(injection ea_ with ea_;subst ea_));subst ec_;clear en_))
   have GB18:=Ya gb18;have GG18:=Ya HG18;clear gb18 gl18 HG18
   (first|simp only[add_plain] at hx300_0|skip)
   obtain⟨hx18_0,hf18_0⟩:=Kd.R_celln 0 HO_7.out (((rd_T79 l1 Zn).f0):Int) p18 q18;replace p18:=eq_true p18;replace q18:=eq_true q18;have HP21:=Kd.R_putn HO_7.out (((rd_T79 l1 Zn).f0):Int) (wrap64 ((rd Xu ((rd_T79 l1 Zn).f0))+a2));rw[← Ny301.out] at HP21;have HQ21:=Ya HP21;clear HP21;refine start_ (n:=18) (S:=fun w'=>w'.cell? (ad293.add ((Zn).toNat * 2))=some (.int .i64 ((rd_T79 l1 Zn).f0))∧w'.cell? ⟨(ad293.add ((Zn).toNat * 2)).block,(ad293.add ((Zn).toNat * 2)).off+1,none⟩=some (.bool (false))∧w'.cell? (ad293.add ((Zn).toNat * 2))=some (.int .i64 ((rd_T79 l1 Zn).f0))∧w'.cell? ⟨(ad293.add ((Zn).toNat * 2)).block,(ad293.add ((Zn).toNat * 2)).off+1,none⟩=some (.bool (false))∧w'.cell? ⟨go18,(((rd_T79 l1 Zn).f0)).toNat,none⟩=some (.int .i64 (rd Xu ((rd_T79 l1 Zn).f0)))) (ds:=[17]) #[false,false,false,false,false,false,false,false,false,false,false,false,false,false,false,false,false,false] (by kernel_rfl) rfl rfl ⟨((HB.out.cell (Yb w _ hw298_0)).trans hw298_0),((HB.out.cell (Yb w _ hw298_1)).trans hw298_1),((HB.out.cell (Yb w _ hw299_0)).trans hw299_0),((HB.out.cell (Yb w _ hw299_1)).trans hw299_1),hx300_0⟩ (fun hHeld=> ?_);refine with_tabW ebbtideref07_Pushed.tab8 ebbtideref07_Pushed.bits8 (fun HT_ HW_=> ?_);generalize wr.drew=w19 at HO_7 HB GG18 HQ21 hf18_0 hx18_0 hx298_0 hx298_1 hx299_0 hx299_1 hx300_0 hHeld ⊢;refine pu 0 40 (bm 18 1) ?_;refine pu 1 41 (bm 18 3) ?_;refine pu 2 42 (bm 18 7) ?_;refine pu 3 43 (bm 18 15) ?_;refine pu 4 44 (bm 18 31) ?_;refine pu 6 46 (bm 18 95) ?_;refine pu 7 47 (bm 18 223) ?_;refine pu 8 48 (bm 18 479) ?_;refine pu 9 49 (bm 18 991) ?_;refine pu 10 50 (bm 18 2015) ?_;refine pu 14 54 (bm 18 18399) ?_;refine ta 5 45 (bm 18 18431) hHeld ?_;refine ta 11 51 (bm 18 20479) hHeld ?_;refine pu 12 52 (bm 18 24575) ?_;refine ta 13 53 (bm 18 32767) hHeld ?_;refine pu 15 55 (bm 18 65535) ?_;refine pu 16 56 (bm 18 131071) ?_;refine last_ (i:=17) (N:=none) #[true,true,true,true,true,true,true,true,true,true,true,true,true,true,true,true,true,true] rfl rfl (one_of HT_.out (by kernel_rfl)) (by decide) (fun K hK=> ?_);refine skip_ (w1:= ?_) (by rfl) rfl ?_ ?_
   rotate_left
   ·go_simp
    rfl
   refine hK.out _ _ ?_;clear hK K;refine done_ (done_of HT_.out (by kernel_rfl)) ?_;try go_wp2
   go_roundg k1
   case measure=>have:=HK1.out;omega
   case rel=>exact⟨(y301),(wrap64 (Zn+1)),(by first|rfl|(simp;done)|(simp[*];done)),H',⟨by have:=HK1.out;omega⟩,⟨kR HQ21⟩,⟨bl⟩⟩
end P
namespace P
attribute [local go_sem] max2_int min2_int max_two min_two max_three min_three max_four min_four
def ebbtideref07_Left.f (Zb:Int) (Zc:Bool) (Za:List (S50)) (l1:List Int) (Vg:Int) (a2_1:Bool):Option (Int):=if a2_1=true then(if 0≤Vg then(if Vg<(l1.length:Int) then(some (rd l1 Vg)) else(none)) else(none)) else(if 0≤Vg then(if Vg<(Za.length:Int) then(if Vg<(l1.length:Int) then(some (wrap64 (((rd_T50 Za Vg).f2) - (rd l1 Vg)))) else(none)) else(none)) else(none))
set_option maxHeartbeats 8000000 in
set_option maxRecDepth 100000 in
theorem ebbtideref07_Left.calls (Zb:Int) (Zc:Bool) (Ze:Option Addr) (Zd:Nat) (Za:List (S50)) (A1:Option Addr) (c1:Nat) (l1:List Int) (Vg:Int) (a2_1:Bool) (r:Int) (w:World) (Zp:Kd.C k50 w Ze Za.length Za) (Zq:Za.length≤Zd) (hr1:Kd.C (Kd.int .i64) w A1 l1.length l1) (hc1:l1.length≤c1) (h:ebbtideref07_Left.f Zb Zc Za l1 Vg a2_1=some r):
  Calls Try.prog 79 #[.agg #[.int .i64 Zb, .bool Zc, .slice Ze Za.length Zd], .slice A1 l1.length c1, .agg #[.int .i64 Vg, .bool a2_1]] w fun e w'=>e= .returned (.int .i64 r)∧Below w.heap.size w w':=by
 have hu24:=Try.underlying24;have hu79:=Try.underlying79;have Zh:=Ya Zp;have Zo:=Ya Zq;clear Zp Zq;have HR1:=Ya hr1;have HC1:=Ya hc1;clear hr1 hc1;have HB:=Ya (Yo w.heap.size w);have H:=h;unfold ebbtideref07_Left.f at H;clear h;by_cases c4:a2_1=true
 ·subst c4
  first|rw[Yx rfl] at H|rw[Yx trivial] at H
  by_cases c5:0≤Vg
  rotate_left
  ·rw[Yy c5] at H
   exact absurd H (by simp)
  rw[Yx c5] at H;have c5b0:decide (0≤Vg)=true:=Yv c5;clear c5;by_cases c6:Vg<(l1.length:Int)
  rotate_left
  ·rw[Yy c6] at H
   exact absurd H (by simp)
  rw[Yx c6] at H;have c6b0:decide (Vg<(l1.length:Int))=true:=Yv c6;clear c6;obtain rfl:=Option.some.inj H;go_enter Try.func79,Try.ntmps79;go_wp2_with (first|(refine bx 3 24 #[.int .i64 Zb, .bool Zc, .slice Ze Za.length Zd] ?_;intro Jn hg w7 Zf hb;have Wm:=Ya (Zf);have GW302:=Ya ((sz hg));have GE302:=Ya ((sz hg));replace HB:=Ya (Yk bl hb);clear hb Zf hg)|(refine bx 5 79 #[.int .i64 Vg, .bool true] ?_;intro Ux hg w8 Zf hb;have Uy:=Ya (Zf);have GW303:=Ya ((sz hg));have GE303:=Ya ((sz hg));replace HB:=Ya (Yk bl hb);have Ji:=Ya (by rw[hg];exact Nat.ne_of_lt (blk_lt (bk Wm)):Jn≠Ux);have Jj:=Ya (by rw[hg];exact Nat.ne_of_gt (blk_lt (bk Wm)):Ux≠Jn);replace Wm:=Ya (Yn (bk Wm) hb);clear hb Zf hg;have hnb9:=Jj.out;have hnc9:=Ji.out;have Wu:w8.cell? ⟨Ux,0,none⟩=some (.int .i64 Vg):=bc Uy 0;have Wv:w8.cell? ⟨Ux,1,none⟩=some (.bool true):=bc Uy 1;have Ww:=Yf Uy.out 0;have Wx:=Yf Uy.out 1;have p304:0≤(Vg:Int):=od;have q304:Vg<(l1.length:Int):=od;obtain⟨ad304,e304,hx304_0⟩:=Kd.at_int HR1.out Vg p304 q304;cases e304;replace hx304_0:=hc HB hx304_0;replace p304:=eq_true p304;replace q304:=eq_true q304));repeat(go_quiet (first|(refine bx 3 24 #[.int .i64 Zb, .bool Zc, .slice Ze Za.length Zd] ?_;intro Jn hg w7 Zf hb;have Wm:=Ya (Zf);have GW302:=Ya ((sz hg));have GE302:=Ya ((sz hg));replace HB:=Ya (Yk bl hb);clear hb Zf hg)|(refine bx 5 79 #[.int .i64 Vg, .bool true] ?_;intro Ux hg w8 Zf hb;have Uy:=Ya (Zf);have GW303:=Ya ((sz hg));have GE303:=Ya ((sz hg));replace HB:=Ya (Yk bl hb);have Ji:=Ya (by rw[hg];exact Nat.ne_of_lt (blk_lt (bk Wm)):Jn≠Ux);have Jj:=Ya (by rw[hg];exact Nat.ne_of_gt (blk_lt (bk Wm)):Ux≠Jn);replace Wm:=Ya (Yn (bk Wm) hb);clear hb Zf hg;have hnb9:=Jj.out;have hnc9:=Ji.out;have Wu:w8.cell? ⟨Ux,0,none⟩=some (.int .i64 Vg):=bc Uy 0;have Wv:w8.cell? ⟨Ux,1,none⟩=some (.bool true):=bc Uy 1;have Ww:=Yf Uy.out 0;have Wx:=Yf Uy.out 1;have p304:0≤(Vg:Int):=od;have q304:Vg<(l1.length:Int):=od;obtain⟨ad304,e304,hx304_0⟩:=Kd.at_int HR1.out Vg p304 q304;cases e304;replace hx304_0:=hc HB hx304_0;replace p304:=eq_true p304;replace q304:=eq_true q304));try go_wp2_with (first|(refine bx 3 24 #[.int .i64 Zb, .bool Zc, .slice Ze Za.length Zd] ?_;intro Jn hg w7 Zf hb;have Wm:=Ya (Zf);have GW302:=Ya ((sz hg));have GE302:=Ya ((sz hg));replace HB:=Ya (Yk bl hb);clear hb Zf hg)|(refine bx 5 79 #[.int .i64 Vg, .bool true] ?_;intro Ux hg w8 Zf hb;have Uy:=Ya (Zf);have GW303:=Ya ((sz hg));have GE303:=Ya ((sz hg));replace HB:=Ya (Yk bl hb);have Ji:=Ya (by rw[hg];exact Nat.ne_of_lt (blk_lt (bk Wm)):Jn≠Ux);have Jj:=Ya (by rw[hg];exact Nat.ne_of_gt (blk_lt (bk Wm)):Ux≠Jn);replace Wm:=Ya (Yn (bk Wm) hb);clear hb Zf hg;have hnb9:=Jj.out;have hnc9:=Ji.out;have Wu:w8.cell? ⟨Ux,0,none⟩=some (.int .i64 Vg):=bc Uy 0;have Wv:w8.cell? ⟨Ux,1,none⟩=some (.bool true):=bc Uy 1;have Ww:=Yf Uy.out 0;have Wx:=Yf Uy.out 1;have p304:0≤(Vg:Int):=od;have q304:Vg<(l1.length:Int):=od;obtain⟨ad304,e304,hx304_0⟩:=Kd.at_int HR1.out Vg p304 q304;cases e304;replace hx304_0:=hc HB hx304_0;replace p304:=eq_true p304;replace q304:=eq_true q304)))
  go_ret;exact⟨by first|rfl|(simp[errW_none,errW_some]<;>rfl)|(simp[*,errW_none,errW_some]<;>rfl),HB.out⟩
 replace c4:=Bool.eq_false_iff.mpr c4;subst c4;rw[Yy (show ¬ (false=true) by decide)] at H;by_cases c11:0≤Vg
 rotate_left
 ·rw[Yy c11] at H
  exact absurd H (by simp)
 rw[Yx c11] at H;have c11b0:decide (0≤Vg)=true:=Yv c11;clear c11;by_cases c12:Vg<(Za.length:Int)
 rotate_left
 ·rw[Yy c12] at H
  exact absurd H (by simp)
 rw[Yx c12] at H;have c12b0:decide (Vg<(Za.length:Int))=true:=Yv c12;clear c12;by_cases c13:Vg<(l1.length:Int)
 rotate_left
 ·rw[Yy c13] at H
  exact absurd H (by simp)
 rw[Yx c13] at H;have c13b0:decide (Vg<(l1.length:Int))=true:=Yv c13;clear c13;obtain rfl:=Option.some.inj H;go_enter Try.func79,Try.ntmps79;go_wp2_with (first|(refine bx 3 24 #[.int .i64 Zb, .bool Zc, .slice Ze Za.length Zd] ?_;intro Jn hg w14 Zf hb;have Wm:=Ya (Zf);have GW302:=Ya ((sz hg));have GE302:=Ya ((sz hg));replace HB:=Ya (Yk bl hb);clear hb Zf hg)|(refine bx 5 79 #[.int .i64 Vg, .bool false] ?_;intro Ux hg w15 Zf hb;have Uy:=Ya (Zf);have GW303:=Ya ((sz hg));have GE303:=Ya ((sz hg));replace HB:=Ya (Yk bl hb);have Ji:=Ya (by rw[hg];exact Nat.ne_of_lt (blk_lt (bk Wm)):Jn≠Ux);have Jj:=Ya (by rw[hg];exact Nat.ne_of_gt (blk_lt (bk Wm)):Ux≠Jn);replace Wm:=Ya (Yn (bk Wm) hb);clear hb Zf hg;have hnb16:=Jj.out;have hnc16:=Ji.out;have Vz:w15.cell? ⟨Ux,0,none⟩=some (.int .i64 Vg):=bc Uy 0;have Ua:w15.cell? ⟨Ux,1,none⟩=some (.bool false):=bc Uy 1;have Ub:=Yf Uy.out 0;have Uc:=Yf Uy.out 1;have hcz18_0:w15.cell? ⟨Jn,0,none⟩=some (.int .i64 Zb):=bc Wm 0;have hcz18_1:w15.cell? ⟨Jn,1,none⟩=some (.bool Zc):=bc Wm 1;have hcz18_2:w15.cell? ⟨Jn,2,none⟩=some (.slice Ze Za.length Zd):=bc Wm 2;have hfz18_0:=Yf Wm.out 0;have hfz18_1:=Yf Wm.out 1;have hfz18_2:=Yf Wm.out 2;have p305:0≤(Vg:Int):=od;have q305:Vg<(Za.length:Int):=od;obtain⟨ad305,e305,hx305_0,hx305_1,hx305_2,hx305_3⟩:=at_T50 Zh.out Vg p305 q305;cases e305;replace hx305_0:=hc HB hx305_0;replace hx305_1:=hc HB hx305_1;replace hx305_2:=hc HB hx305_2;replace hx305_3:=hc HB hx305_3;replace p305:=eq_true p305;replace q305:=eq_true q305;have p306:0≤(Vg:Int):=od;have q306:Vg<(l1.length:Int):=od;obtain⟨ad306,e306,hx306_0⟩:=Kd.at_int HR1.out Vg p306 q306;cases e306;replace hx306_0:=hc HB hx306_0;replace p306:=eq_true p306;replace q306:=eq_true q306));repeat(go_quiet (first|(refine bx 3 24 #[.int .i64 Zb, .bool Zc, .slice Ze Za.length Zd] ?_;intro Jn hg w14 Zf hb;have Wm:=Ya (Zf);have GW302:=Ya ((sz hg));have GE302:=Ya ((sz hg));replace HB:=Ya (Yk bl hb);clear hb Zf hg)|(refine bx 5 79 #[.int .i64 Vg, .bool false] ?_;intro Ux hg w15 Zf hb;have Uy:=Ya (Zf);have GW303:=Ya ((sz hg));have GE303:=Ya ((sz hg));replace HB:=Ya (Yk bl hb);have Ji:=Ya (by rw[hg];exact Nat.ne_of_lt (blk_lt (bk Wm)):Jn≠Ux);have Jj:=Ya (by rw[hg];exact Nat.ne_of_gt (blk_lt (bk Wm)):Ux≠Jn);replace Wm:=Ya (Yn (bk Wm) hb);clear hb Zf hg;have hnb16:=Jj.out;have hnc16:=Ji.out;have Vz:w15.cell? ⟨Ux,0,none⟩=some (.int .i64 Vg):=bc Uy 0;have Ua:w15.cell? ⟨Ux,1,none⟩=some (.bool false):=bc Uy 1;have Ub:=Yf Uy.out 0;have Uc:=Yf Uy.out 1;have hcz18_0:w15.cell? ⟨Jn,0,none⟩=some (.int .i64 Zb):=bc Wm 0;have hcz18_1:w15.cell? ⟨Jn,1,none⟩=some (.bool Zc):=bc Wm 1;have hcz18_2:w15.cell? ⟨Jn,2,none⟩=some (.slice Ze Za.length Zd):=bc Wm 2;have hfz18_0:=Yf Wm.out 0;have hfz18_1:=Yf Wm.out 1;have hfz18_2:=Yf Wm.out 2;have p305:0≤(Vg:Int):=od;have q305:Vg<(Za.length:Int):=od;obtain⟨ad305,e305,hx305_0,hx305_1,hx305_2,hx305_3⟩:=at_T50 Zh.out Vg p305 q305;cases e305;replace hx305_0:=hc HB hx305_0;replace hx305_1:=hc HB hx305_1;replace hx305_2:=hc HB hx305_2;replace hx305_3:=hc HB hx305_3;replace p305:=eq_true p305;replace q305:=eq_true q305;have p306:0≤(Vg:Int):=od;have q306:Vg<(l1.length:Int):=od;obtain⟨ad306,e306,hx306_0⟩:=Kd.at_int HR1.out Vg p306 q306;cases e306;replace hx306_0:=hc HB hx306_0;replace p306:=eq_true p306;replace q306:=eq_true q306));try go_wp2_with (first|(refine bx 3 24 #[.int .i64 Zb, .bool Zc, .slice Ze Za.length Zd] ?_;intro Jn hg w14 Zf hb;have Wm:=Ya (Zf);have GW302:=Ya ((sz hg));have GE302:=Ya ((sz hg));replace HB:=Ya (Yk bl hb);clear hb Zf hg)|(refine bx 5 79 #[.int .i64 Vg, .bool false] ?_;intro Ux hg w15 Zf hb;have Uy:=Ya (Zf);have GW303:=Ya ((sz hg));have GE303:=Ya ((sz hg));replace HB:=Ya (Yk bl hb);have Ji:=Ya (by rw[hg];exact Nat.ne_of_lt (blk_lt (bk Wm)):Jn≠Ux);have Jj:=Ya (by rw[hg];exact Nat.ne_of_gt (blk_lt (bk Wm)):Ux≠Jn);replace Wm:=Ya (Yn (bk Wm) hb);clear hb Zf hg;have hnb16:=Jj.out;have hnc16:=Ji.out;have Vz:w15.cell? ⟨Ux,0,none⟩=some (.int .i64 Vg):=bc Uy 0;have Ua:w15.cell? ⟨Ux,1,none⟩=some (.bool false):=bc Uy 1;have Ub:=Yf Uy.out 0;have Uc:=Yf Uy.out 1;have hcz18_0:w15.cell? ⟨Jn,0,none⟩=some (.int .i64 Zb):=bc Wm 0;have hcz18_1:w15.cell? ⟨Jn,1,none⟩=some (.bool Zc):=bc Wm 1;have hcz18_2:w15.cell? ⟨Jn,2,none⟩=some (.slice Ze Za.length Zd):=bc Wm 2;have hfz18_0:=Yf Wm.out 0;have hfz18_1:=Yf Wm.out 1;have hfz18_2:=Yf Wm.out 2;have p305:0≤(Vg:Int):=od;have q305:Vg<(Za.length:Int):=od;obtain⟨ad305,e305,hx305_0,hx305_1,hx305_2,hx305_3⟩:=at_T50 Zh.out Vg p305 q305;cases e305;replace hx305_0:=hc HB hx305_0;replace hx305_1:=hc HB hx305_1;replace hx305_2:=hc HB hx305_2;replace hx305_3:=hc HB hx305_3;replace p305:=eq_true p305;replace q305:=eq_true q305;have p306:0≤(Vg:Int):=od;have q306:Vg<(l1.length:Int):=od;obtain⟨ad306,e306,hx306_0⟩:=Kd.at_int HR1.out Vg p306 q306;cases e306;replace hx306_0:=hc HB hx306_0;replace p306:=eq_true p306;replace q306:=eq_true q306)))
 go_ret;exact⟨by first|rfl|(simp[errW_none,errW_some]<;>rfl)|(simp[*,errW_none,errW_some]<;>rfl),bl⟩
end P
namespace P
attribute [local go_sem] max2_int min2_int max_two min_two max_three min_three max_four min_four
def ebbtideref08_Bottle.l0:Nat→List Int→List (S79)→Int→Int→Int→Bool→List (S50)→Option (Int)
 |0,_,_,_,_,_,_,_=>none
 |k+1,x1,x2,x7,x8,x308000,x308001,x308002=>if x8<(x2.length:Int) then(if 0≤x8 then((ebbtideref07_Left.f x308000 x308001 x308002 x1 ((rd_T79 x2 x8).f0) ((rd_T79 x2 x8).f1)).bind fun t311=>(ebbtideref08_Bottle.l0 k x1 x2 (mn x7 t311) (wrap64 (x8+1)) x308000 x308001 x308002)) else(none)) else(some x7)
def ebbtideref08_Bottle.f (k:Nat) (Zb:Int) (Zc:Bool) (Za:List (S50)) (l1:List Int) (l2:List (S79)):Option (Int):=if 0<(l2.length:Int) then((ebbtideref07_Left.f Zb Zc Za l1 ((rd_T79 l2 0).f0) ((rd_T79 l2 0).f1)).bind fun t309=>(ebbtideref08_Bottle.l0 k l1 l2 t309 1 Zb Zc Za)) else(none)
def ebbtideref08_Bottle.T5:Bool × List (List Nat × List Nat):=(true,[([],[]),([],[]),([],[]),([],[]),([],[]),([3,4],[3,4]),([5],[5]),([1,2,6],[1,2,6]),([0,7],[0,7]),([8,7,0,1,2,3,4,5,6,7,8],[0,8])])
def ebbtideref08_Bottle.B5:List Nat:=[0,0,0,0,0,24,56,126,255,511]
theorem ebbtideref08_Bottle.tab5:rtab .any (opsOf Try.f60 5)=ebbtideref08_Bottle.T5:=by kernel_rfl
theorem ebbtideref08_Bottle.bits5:waitsOk ebbtideref08_Bottle.T5.2 ebbtideref08_Bottle.B5=true:=by kernel_rfl
set_option maxHeartbeats 8000000 in
set_option maxRecDepth 100000 in
theorem ebbtideref08_Bottle.calls (k:Nat) (Zb:Int) (Zc:Bool) (Ze:Option Addr) (Zd:Nat) (Za:List (S50)) (A1:Option Addr) (c1:Nat) (l1:List Int) (A2:Option Addr) (c2:Nat) (l2:List (S79)) (r:Int) (w:World) (Zp:Kd.C k50 w Ze Za.length Za) (Zq:Za.length≤Zd) (hr1:Kd.C (Kd.int .i64) w A1 l1.length l1) (hc1:l1.length≤c1) (hr2:Kd.C k79 w A2 l2.length l2) (hc2:l2.length≤c2) (h:ebbtideref08_Bottle.f k Zb Zc Za l1 l2=some r):
  Calls Try.prog 60 #[.agg #[.int .i64 Zb, .bool Zc, .slice Ze Za.length Zd], .slice A1 l1.length c1, .slice A2 l2.length c2] w fun e w'=>e= .returned (.int .i64 r)∧Below w.heap.size w w':=by
 have hu24:=Try.underlying24;have hu79:=Try.underlying79;have Zh:=Ya Zp;have Zo:=Ya Zq;clear Zp Zq;have HR1:=Ya hr1;have HC1:=Ya hc1;clear hr1 hc1;have HR2:=Ya hr2;have HC2:=Ya hc2;clear hr2 hc2;have HB:=Ya (Yo w.heap.size w);have H:=h;unfold ebbtideref08_Bottle.f at H;clear h;by_cases c4:0<(l2.length:Int)
 rotate_left
 ·rw[Yy c4] at H
  exact absurd H (by simp)
 rw[Yx c4] at H;have c4b0:decide (0<(l2.length:Int))=true:=Yv c4;have c4b1:decide (0<l2.length)=true:=Yv (by omega);clear c4;replace H:=Option.bind_eq_some_iff.mp H;obtain⟨t309,A50,H⟩:=H;try dsimp only at H
 have A5:=Ya A50;clear A50;have H':=Ya H;clear H;go_enter Try.func60,Try.ntmps60;try go_wp2_with (first|(refine bx 3 24 #[.int .i64 Zb, .bool Zc, .slice Ze Za.length Zd] ?_;intro gb307 hg w6 Zf hb;have Jy:=Ya (Zf);have GW307:=Ya ((sz hg));have GE307:=Ya ((sz hg));replace HB:=Ya (Yk bl hb);clear hb Zf hg))
 replace Jy:=Ya (Ym Jy.out);replace HB:=Ya (Yg HB.out);have p308:0≤(0:Int):=(by omega);have q308:0<(l2.length:Int):=od;obtain⟨ad308,e308,hx308_0,hx308_1⟩:=at_T79 HR2.out 0 p308 q308;have hw308_1:=hx308_1
 (try rw[show ((0:Int)).toNat=0 from rfl] at hw308_1)
 (try rw[show 0 * 2=0 from rfl] at hw308_1)
 (try rw[Addr.add_zero'] at hw308_1)
 have hw308_0:=hx308_0
 (try rw[show ((0:Int)).toNat=0 from rfl] at hw308_0)
 (try rw[show 0 * 2=0 from rfl] at hw308_0)
 (try rw[Addr.add_zero'] at hw308_0)
 cases e308;have qi308:(0<l2.length)=True:=eq_true (by omega)
 (try rw[show ((0:Int)).toNat=0 from rfl] at hx308_0)
 (try rw[show 0 * 2=0 from rfl] at hx308_0)
 (try rw[Addr.add_zero'] at hx308_0)
 (try rw[show ((0:Int)).toNat=0 from rfl] at hx308_1)
 (try rw[show 0 * 2=0 from rfl] at hx308_1)
 (try rw[Addr.add_zero'] at hx308_1)
 replace hx308_0:=hc HB hx308_0;replace hx308_1:=hc HB hx308_1;replace p308:=eq_true p308;replace q308:=eq_true q308;refine start_ (n:=7) (S:=fun w'=>w'.cell? ⟨gb307,0,none⟩=some (.int .i64 Zb)∧w'.cell? ⟨gb307,1,none⟩=some (.bool Zc)∧w'.cell? ⟨gb307,2,none⟩=some (.slice Ze Za.length Zd)∧w'.cell? ad308=some (.int .i64 ((rd_T79 l2 0).f0))∧w'.cell? ⟨ad308.block,ad308.off+1,none⟩=some (.bool ((rd_T79 l2 0).f1))) (ds:=[]) #[false,false,false,false,false,false,false] (by kernel_rfl) rfl rfl ⟨(Yc Jy.out 0).trans rfl,(Yc Jy.out 1).trans rfl,(Yc Jy.out 2).trans rfl,((HB.out.cell (Yb w _ hw308_0)).trans hw308_0),((HB.out.cell (Yb w _ hw308_1)).trans hw308_1)⟩ (fun hHeld=> ?_);generalize w6.drew=w7 at Jy HB hx308_0 hx308_1 hHeld ⊢;refine pure_ (i:=1) (N:=some 10) (v:= ?_) (a':= ?_) #[false,true,false,false,false,false,false] rfl rfl (by kernel_rfl) (fun _ _ _ h=>h) (Or.inl ⟨by rfl,?_⟩) ?_ ?_
 rotate_left
 ·intro w'
  go_simp
  with_reducible rfl
 rotate_left
 ·simp only[Act.put,List.setIfInBounds_toArray,List.set_cons_zero,List.set_cons_succ,i64_w,i32_w]
  rfl
 refine pure_ (i:=2) (N:=some 11) (v:= ?_) (a':= ?_) #[false,true,true,false,false,false,false] rfl rfl (by kernel_rfl) (fun _ _ _ h=>h) (Or.inl ⟨by rfl,?_⟩) ?_ ?_
 rotate_left
 ·intro w'
  go_simp
  with_reducible rfl
 rotate_left
 ·simp only[Act.put,List.setIfInBounds_toArray,List.set_cons_zero,List.set_cons_succ,i64_w,i32_w]
  rfl
 refine pure_ (i:=3) (N:=some 12) (v:= ?_) (a':= ?_) #[false,true,true,true,false,false,false] rfl rfl (by kernel_rfl) (fun _ _ _ h=>h) (Or.inl ⟨by rfl,?_⟩) ?_ ?_
 rotate_left
 ·intro w'
  go_simp
  with_reducible rfl
 rotate_left
 ·simp only[Act.put,List.setIfInBounds_toArray,List.set_cons_zero,List.set_cons_succ,i64_w,i32_w]
  rfl
 refine take_ (i:=0) (N:=some 9) (v:= ?_) (a':= ?_) #[true,true,true,true,false,false,false] rfl rfl (by kernel_rfl) (fun _ _ _ h=>h) (Or.inl ⟨by rfl,?_⟩) hHeld ?_ ?_
 rotate_left
 ·rintro w' ⟨s0,s1,s2,s3,s4⟩
  go_simp
  with_reducible rfl
 rotate_left
 ·simp only[Act.put,List.setIfInBounds_toArray,List.set_cons_zero,List.set_cons_succ,i64_w,i32_w]
  rfl
 refine take_ (i:=4) (N:=some 13) (v:= ?_) (a':= ?_) #[true,true,true,true,true,false,false] rfl rfl (by kernel_rfl) (fun _ _ _ h=>h) (Or.inl ⟨by rfl,?_⟩) hHeld ?_ ?_
 rotate_left
 ·rintro w' ⟨s0,s1,s2,s3,s4⟩
  go_simp
  with_reducible rfl
 rotate_left
 ·simp only[Act.put,List.setIfInBounds_toArray,List.set_cons_zero,List.set_cons_succ,i64_w,i32_w]
  rfl
 refine one_ (i:=5) (N:=some 14) #[true,true,true,true,true,true,false] rfl rfl (by kernel_rfl) (by decide) (fun K hK=> ?_);refine gs Try.func79 #[.agg #[.int .i64 Zb, .bool Zc, .slice Ze Za.length Zd], .slice A1 l1.length c1, .agg #[.int .i64 ((rd_T79 l2 0).f0), .bool ((rd_T79 l2 0).f1)]] ?_
 with_reducible refine(ebbtideref07_Left.calls Zb Zc _ _ Za _ _ l1 ((rd_T79 l2 0).f0) ((rd_T79 l2 0).f1) t309 _ ?side1 ?side2 ?side3 ?side4 A5.out).mono ?_
 (case side1=>exact(Yt Zh.out HB.out))
 (case side2=>exact Zo.out)
 (case side3=>exact(Yt HR1.out HB.out))
 (case side4=>exact HC1.out)
 rintro e w8 ⟨rfl,hb⟩;refine⟨_,rfl,?_⟩;replace Jy:=Ya (Yn Jy.out hb);replace HB:=Ya (Yk HB.out hb)
 (try clear hb)
 (try clear hb2)
 (try clear hk)
 (try clear hi)
 refine hK.out _ _ ⟨bc Jy 0,bc Jy 1,bc Jy 2,(hc HB hw308_0),(hc HB hw308_1)⟩ (fun hHeld=> ?_);clear hK K;refine nm ?_;refine pure_ (i:=6) (N:=some 7) (v:= ?_) (a':= ?_) #[true,true,true,true,true,true,true] rfl rfl (by kernel_rfl) (fun _ _ _ h=>h) (Or.inl ⟨by rfl,?_⟩) ?_ ?_
 rotate_left
 ·intro w'
  go_simp
  with_reducible rfl
 rotate_left
 ·simp only[Act.put,List.setIfInBounds_toArray,List.set_cons_zero,List.set_cons_succ,i64_w,i32_w]
  rfl
 refine done_ (by kernel_rfl) ?_;try go_wp2
 go_loopg [7,8] k (fun kq v7 v8 w'=> ∃ (Xu:Int) (Zn:Int),v7= .int .i64 Xu∧v8= .int .i64 Zn∧Aside0 (ebbtideref08_Bottle.l0 kq l1 l2 Xu Zn Zb Zc Za=some r)∧Aside0 (kq≤k)∧Aside0 (w'.heap[gb307]? =some (.cells #[.int .i64 Zb, .bool Zc,(.slice Ze Za.length Zd)] 24 (0,0)))∧Aside0 (Below w.heap.size w w'))
 case atStart=>exact⟨(t309),(1),(by first|rfl|(simp;done)|(simp[*];done)),(by first|rfl|(simp;done)|(simp[*];done)),H',⟨Nat.le_refl _⟩,⟨Jy.out⟩,⟨HB.out⟩⟩
 case round=>
  clear H';try clear c1
  try clear c2
  try clear c4
  try clear c4b0
  try clear c4b1
  try clear hx308_0
  try clear hx308_1
  try clear p308
  try clear q308
  obtain⟨Xu,Zn,rfl,rfl,HA,HK1,Jy,HB⟩:=hrel;cases gk with
  |zero=>exact absurd HA.out (by simp[ebbtideref08_Bottle.l0])
  |succ k1=>
   have H:=HA.out;clear HA;simp only[ebbtideref08_Bottle.l0] at H;by_cases c9:Zn<(l2.length:Int)
   rotate_left
   ·rw[Yy c9] at H
    have c9b0:decide (Zn<(l2.length:Int))=false:=Yw c9;clear c9;obtain rfl:=Option.some.inj H;go_wp2;go_ret;exact⟨by first|rfl|(simp[errW_none,errW_some]<;>rfl)|(simp[*,errW_none,errW_some]<;>rfl),HB.out⟩
   rw[Yx c9] at H;have c9b0:decide (Zn<(l2.length:Int))=true:=Yv c9;clear c9;by_cases c10:0≤Zn
   rotate_left
   ·rw[Yy c10] at H
    exact absurd H (by simp)
   rw[Yx c10] at H;have c10b0:decide (0≤Zn)=true:=Yv c10;clear c10;replace H:=Option.bind_eq_some_iff.mp H;obtain⟨t311,A110,H⟩:=H;try dsimp only at H
   have A11:=Ya A110;clear A110;obtain⟨ji12,hji12⟩: ∃ j_:Int,(mn Xu t311)=j_:=⟨_,rfl⟩;replace H:(ebbtideref08_Bottle.l0 k1 l1 l2 ji12 (wrap64 (Zn+1)) Zb Zc Za)=some r:=by first|(rw[hji12] at H;exact H)|(simp only[hji12] at H ⊢;exact H)
   (try rw[hji12] at A11)
   have hji12_:(if t311<Xu then t311 else Xu)=ji12:=hji12;have H':=Ya H;clear H;try go_wp2
   replace Jy:=Ya (Ym Jy.out);replace HB:=Ya (Yg HB.out);have p310:0≤(Zn:Int):=od;have q310:Zn<(l2.length:Int):=od;obtain⟨ad310,e310,hx310_0,hx310_1⟩:=at_T79 HR2.out Zn p310 q310;have hw310_1:=hx310_1;have hw310_0:=hx310_0;obtain rfl:ad308=ad310:=(by injection e310);replace hx310_0:=hc HB hx310_0;replace hx310_1:=hc HB hx310_1;replace p310:=eq_true p310;replace q310:=eq_true q310;refine start_ (n:=10) (S:=fun w'=>w'.cell? ⟨gb307,0,none⟩=some (.int .i64 Zb)∧w'.cell? ⟨gb307,1,none⟩=some (.bool Zc)∧w'.cell? ⟨gb307,2,none⟩=some (.slice Ze Za.length Zd)∧w'.cell? (ad308.add ((Zn).toNat * 2))=some (.int .i64 ((rd_T79 l2 Zn).f0))∧w'.cell? ⟨(ad308.add ((Zn).toNat * 2)).block,(ad308.add ((Zn).toNat * 2)).off+1,none⟩=some (.bool ((rd_T79 l2 Zn).f1))) (ds:=[]) #[false,false,false,false,false,false,false,false,false,false] (by kernel_rfl) rfl rfl ⟨(Yc Jy.out 0).trans rfl,(Yc Jy.out 1).trans rfl,(Yc Jy.out 2).trans rfl,((HB.out.cell (Yb w _ hw310_0)).trans hw310_0),((HB.out.cell (Yb w _ hw310_1)).trans hw310_1)⟩ (fun hHeld=> ?_);refine with_tabW ebbtideref08_Bottle.tab5 ebbtideref08_Bottle.bits5 (fun HT_ HW_=> ?_);generalize wr.drew=w13 at Jy HB hx310_0 hx310_1 hHeld ⊢;refine pu 0 21 (bm 10 1) ?_;refine pu 2 23 (bm 10 5) ?_;refine pu 3 24 (bm 10 13) ?_;refine pu 4 25 (bm 10 29) ?_;refine pu 5 26 (bm 10 61) ?_;refine ta 1 22 (bm 10 63) hHeld ?_;refine ta 6 27 (bm 10 127) hHeld ?_;refine on 7 (some 28) (bm 10 255) fun K hK=> ?_
   refine gs Try.func79 #[.agg #[.int .i64 Zb, .bool Zc, .slice Ze Za.length Zd], .slice A1 l1.length c1, .agg #[.int .i64 ((rd_T79 l2 Zn).f0), .bool ((rd_T79 l2 Zn).f1)]] ?_
   with_reducible refine(ebbtideref07_Left.calls Zb Zc _ _ Za _ _ l1 ((rd_T79 l2 Zn).f0) ((rd_T79 l2 Zn).f1) t311 _ ?side1 ?side2 ?side3 ?side4 A11.out).mono ?_
   (case side1=>exact(Yt Zh.out HB.out))
   (case side2=>exact Zo.out)
   (case side3=>exact(Yt HR1.out HB.out))
   (case side4=>exact HC1.out)
   rintro e w14 ⟨rfl,hb⟩;refine⟨_,rfl,?_⟩;replace Jy:=Ya (Yn Jy.out hb);replace HB:=Ya (Yk HB.out hb)
   (try clear hb)
   (try clear hb2)
   (try clear hk)
   (try clear hi)
   refine hK.out _ _ ⟨bc Jy 0,bc Jy 1,bc Jy 2,(hc HB hw310_0),(hc HB hw310_1)⟩ (fun hHeld=> ?_);clear hK K;refine nm ?_;refine pu 8 29 (bm 10 511) ?_;refine pu 9 7 (bm 10 1023) ?_;refine done_ (done_of HT_.out (by kernel_rfl)) ?_;try go_wp2
   go_roundg k1
   case measure=>have:=HK1.out;omega
   case rel=>exact⟨(ji12),(wrap64 (Zn+1)),(by first|rfl|(simp;done)|(simp only[← hji12]<;>(first|rfl|simp))|(simp[*];done)),(by first|rfl|(simp;done)|(simp[*];done)),H',⟨by have:=HK1.out;omega⟩,⟨Jy.out⟩,⟨HB.out⟩⟩
end P
namespace P
attribute [local go_sem] max2_int min2_int max_two min_two max_three min_three max_four min_four
def ebbtideref08_found_has.l0:Nat→Int→Int→List Int→List (S79)→Option (Int)
 |0,_,_,_,_=>none
 |k+1,x1,x5,x313000,x313001=>if x5<(x313000.length:Int) then(if 0≤x5 then(if (rd x313000 x5)=x1 then(some x5) else(ebbtideref08_found_has.l0 k x1 (wrap64 (x5+1)) x313000 x313001)) else(none)) else(some (-1))
def ebbtideref08_found_has.f (k:Nat) (l0_0:List Int) (l0_1:List (S79)) (a1:Int):Option (Int):=ebbtideref08_found_has.l0 k a1 0 l0_0 l0_1
set_option maxHeartbeats 8000000 in
set_option maxRecDepth 100000 in
theorem ebbtideref08_found_has.calls (k:Nat) (A0_0:Option Addr) (c0_0:Nat) (l0_0:List Int) (A0_1:Option Addr) (c0_1:Nat) (l0_1:List (S79)) (a1:Int) (r:Int) (w:World) (hr0_0:Kd.C (Kd.int .i64) w A0_0 l0_0.length l0_0) (hc0_0:l0_0.length≤c0_0) (hr0_1:Kd.C k79 w A0_1 l0_1.length l0_1) (hc0_1:l0_1.length≤c0_1) (h:ebbtideref08_found_has.f k l0_0 l0_1 a1=some r):
  Calls Try.prog 78 #[.agg #[.slice A0_0 l0_0.length c0_0, .slice A0_1 l0_1.length c0_1], .int .i64 a1] w fun e w'=>e= .returned (.int .i64 r)∧Below w.heap.size w w':=by
 have hu119:=Try.underlying119;have HR0_0:=Ya hr0_0;have HC0_0:=Ya hc0_0;clear hr0_0 hc0_0;have HR0_1:=Ya hr0_1;have HC0_1:=Ya hc0_1;clear hr0_1 hc0_1;have HB:=Ya (Yo w.heap.size w);have H:=h;unfold ebbtideref08_found_has.f at H;clear h;have H':=Ya H;clear H;go_enter Try.func78,Try.ntmps78;go_wp2_with (first|(refine bx 2 119 #[.slice A0_0 l0_0.length c0_0, .slice A0_1 l0_1.length c0_1] ?_;intro gb312 hg w3 Zf hb;have BK312:=Ya (Zf);have GW312:=Ya ((sz hg));have GE312:=Ya ((sz hg));replace HB:=Ya (Yk bl hb);clear hb Zf hg));go_loopg [5] k (fun kq v5 w'=> ∃ (Xr:Int),v5= .int .i64 Xr∧Aside0 (ebbtideref08_found_has.l0 kq a1 Xr l0_0 l0_1=some r)∧Aside0 (kq≤k)∧Aside0 (w'.heap[gb312]? =some (.cells #[(.slice A0_0 l0_0.length c0_0),(.slice A0_1 l0_1.length c0_1)] 119 (0,0)))∧Aside0 (Below w.heap.size w w'))
 case atStart=>exact⟨(0),(by first|rfl|(simp;done)|(simp[*];done)),H',⟨Nat.le_refl _⟩,⟨BK312.out⟩,⟨HB.out⟩⟩
 case round=>
  clear H';obtain⟨Xr,rfl,HA,HK1,BK312,HB⟩:=hrel;cases gk with
  |zero=>exact absurd HA.out (by simp[ebbtideref08_found_has.l0])
  |succ k1=>
   have H:=HA.out;clear HA;simp only[ebbtideref08_found_has.l0] at H;by_cases c4:Xr<(l0_0.length:Int)
   rotate_left
   ·rw[Yy c4] at H
    have c4b0:decide (Xr<(l0_0.length:Int))=false:=Yw c4;clear c4;obtain rfl:=Option.some.inj H;have hcz9_0:wr.cell? ⟨gb312,0,none⟩=some (.slice A0_0 l0_0.length c0_0):=bc BK312 0;have hcz9_1:wr.cell? ⟨gb312,1,none⟩=some (.slice A0_1 l0_1.length c0_1):=bc BK312 1;have hfz9_0:=Yf BK312.out 0;have hfz9_1:=Yf BK312.out 1;go_wp2;go_ret;exact⟨by first|rfl|(simp[errW_none,errW_some]<;>rfl)|(simp[*,errW_none,errW_some]<;>rfl),HB.out⟩
   rw[Yx c4] at H;have c4b0:decide (Xr<(l0_0.length:Int))=true:=Yv c4;clear c4;by_cases c5:0≤Xr
   rotate_left
   ·rw[Yy c5] at H
    exact absurd H (by simp)
   rw[Yx c5] at H;have c5b0:decide (0≤Xr)=true:=Yv c5;clear c5;by_cases c6:(rd l0_0 Xr)=a1
   ·rw[Yx c6] at H
    have c6b0:((rd l0_0 Xr) == a1)=true:=beq_iff_eq.mpr c6;have c6b1:((rd l0_0 Xr) != a1)=false:=bne_eq_false_iff_eq.mpr c6;clear c6;obtain rfl:=Option.some.inj H;have hcz7_0:wr.cell? ⟨gb312,0,none⟩=some (.slice A0_0 l0_0.length c0_0):=bc BK312 0;have hcz7_1:wr.cell? ⟨gb312,1,none⟩=some (.slice A0_1 l0_1.length c0_1):=bc BK312 1;have hfz7_0:=Yf BK312.out 0;have hfz7_1:=Yf BK312.out 1;have p313:0≤(Xr:Int):=od;have q313:Xr<(l0_0.length:Int):=od;obtain⟨ad313,e313,hx313_0⟩:=Kd.at_int HR0_0.out Xr p313 q313;cases e313;replace hx313_0:=hc HB hx313_0;replace p313:=eq_true p313;replace q313:=eq_true q313;go_wp2;go_ret;exact⟨by first|rfl|(simp[errW_none,errW_some]<;>rfl)|(simp[*,errW_none,errW_some]<;>rfl),HB.out⟩
   rw[Yy c6] at H;have c6b0:((rd l0_0 Xr) == a1)=false:=beq_eq_false_iff_ne.mpr c6;have c6b1:((rd l0_0 Xr) != a1)=true:=bne_iff_ne.mpr c6;have H':=Ya H;clear H;have Jq:wr.cell? ⟨gb312,0,none⟩=some (.slice A0_0 l0_0.length c0_0):=bc BK312 0;have Jr:wr.cell? ⟨gb312,1,none⟩=some (.slice A0_1 l0_1.length c0_1):=bc BK312 1;have Js:=Yf BK312.out 0;have Jt:=Yf BK312.out 1;have p313:0≤(Xr:Int):=od;have q313:Xr<(l0_0.length:Int):=od;obtain⟨ad313,e313,hx313_0⟩:=Kd.at_int HR0_0.out Xr p313 q313;cases e313;replace hx313_0:=hc HB hx313_0;replace p313:=eq_true p313;replace q313:=eq_true q313;go_wp2;go_roundg k1
   case measure=>have:=HK1.out;omega
   case rel=>exact⟨(wrap64 (Xr+1)),(by first|rfl|(simp;done)|(simp[*];done)),H',⟨by have:=HK1.out;omega⟩,⟨BK312.out⟩,⟨HB.out⟩⟩
end P
namespace P
attribute [local go_sem] max2_int min2_int max_two min_two max_three min_three max_four min_four
mutual
def ebbtideref08_sought.l0:Nat→List (S79)→Int→Int→Bool→List (S50)→List Int→List (S79)→Option (List Int × (List (S79)))
 |0,_,_,_,_,_,_,_=>none
 |k+1,x2,x8,x315000,x315001,x315002,x317000,x317001=>if x8<(x317000.length:Int) then(ebbtideref08_sought.l1 k x2 x8 0 x315000 x315001 x315002 x317000 x317001) else(some (x317000,x317001))
def ebbtideref08_sought.l1:Nat→List (S79)→Int→Int→Int→Bool→List (S50)→List Int→List (S79)→Option (List Int × (List (S79)))
 |0,_,_,_,_,_,_,_,_=>none
 |k+1,x2,x8,x9,x315000,x315001,x315002,x317000,x317001=>if x9<(x2.length:Int) then(if 0≤x9 then((ebbtideref07_From.f x315000 x315001 x315002 ((rd_T79 x2 x9).f0) ((rd_T79 x2 x9).f1)).bind fun t324=>(if 0≤x8 then(if x8<(x317000.length:Int) then(if t324=(rd x317000 x8) then((ebbtideref07_To.f x315000 x315001 x315002 ((rd_T79 x2 x9).f0) ((rd_T79 x2 x9).f1)).bind fun t327=>((ebbtideref08_found_has.f k x317000 x317001 t327).bind fun t328=>(if t328<0 then((ebbtideref07_To.f x315000 x315001 x315002 ((rd_T79 x2 x9).f0) ((rd_T79 x2 x9).f1)).bind fun t330=>(if x317000.length<17592186044416 then(if x317001.length<8796093022208 then(ebbtideref08_sought.l1 k x2 x8 (wrap64 (x9+1)) x315000 x315001 x315002 (x317000 ++ [t330]) (x317001 ++ [(⟨(rd_T79 x2 x9).f0,(rd_T79 x2 x9).f1⟩:S79)])) else(none)) else(none))) else(ebbtideref08_sought.l1 k x2 x8 (wrap64 (x9+1)) x315000 x315001 x315002 x317000 x317001)))) else(ebbtideref08_sought.l1 k x2 x8 (wrap64 (x9+1)) x315000 x315001 x315002 x317000 x317001)) else(none)) else(none))) else(none)) else(ebbtideref08_sought.l0 k x2 (wrap64 (x8+1)) x315000 x315001 x315002 x317000 x317001)
end
def ebbtideref08_sought.f (k:Nat) (Zb:Int) (Zc:Bool) (Za:List (S50)) (a1:Int) (l2:List (S79)):Option (List Int × (List (S79))):=if ([]:List Int).length<17592186044416 then(if ([]:List (S79)).length<8796093022208 then(ebbtideref08_sought.l0 k l2 0 Zb Zc Za (([]:List Int) ++ [a1]) (([]:List (S79)) ++ [(⟨0,false⟩:S79)])) else(none)) else(none)
def ebbtideref08_sought.T10:Bool × List (List Nat × List Nat):=(true,[([],[]),([],[]),([],[]),([1,2],[1,2]),([3],[3]),([0,4],[0,4]),([],[]),([6],[6]),([],[]),([7,8],[7,8]),([9],[9]),([5,10],[5,10]),([11,5],[11]),([12],[12]),([12],[12]),([12],[12]),([12],[12]),([15,16,12],[12,15,16]),([17,12],[12,17]),([14,18,12,12],[12,14,18]),([13,19,19,12],[12,13,19]),([20,12],[12,20]),([12,21],[12,21])])
def ebbtideref08_sought.B10:List Nat:=[0,0,0,6,14,31,0,64,0,448,960,2047,4095,8191,8191,8191,8191,106495,237567,516095,1048575,2097151,4194303]
theorem ebbtideref08_sought.tab10:rtab .any (opsOf Try.f77 10)=ebbtideref08_sought.T10:=by kernel_rfl
theorem ebbtideref08_sought.bits10:waitsOk ebbtideref08_sought.T10.2 ebbtideref08_sought.B10=true:=by kernel_rfl
def ebbtideref08_sought.T11:Bool × List (List Nat × List Nat):=(true,[([],[]),([0],[0]),([],[]),([],[]),([],[]),([3,4],[3,4]),([5],[5]),([2,6],[2,6]),([7],[7]),([1,8,7],[1,8]),([0,1,2,3,4,5,6,7,8,9],[]),([10,9,9,0,1,2,3,4,5,6,7,8,9],[9,10])])
def ebbtideref08_sought.B11:List Nat:=[0,1,0,0,0,24,56,124,252,511,1023,2047]
theorem ebbtideref08_sought.tab11:rtab .any (opsOf Try.f77 11)=ebbtideref08_sought.T11:=by kernel_rfl
theorem ebbtideref08_sought.bits11:waitsOk ebbtideref08_sought.T11.2 ebbtideref08_sought.B11=true:=by kernel_rfl
def ebbtideref08_sought.T12:Bool × List (List Nat × List Nat):=(true,[([],[]),([0],[0]),([],[]),([],[]),([2,3],[2,3]),([4],[4]),([5],[5]),([1,6],[1,6]),([0,1,2,3,4,5,6,7],[]),([8,7,7,0,1,2,3,4,5,6,7],[7,8])])
def ebbtideref08_sought.B12:List Nat:=[0,1,0,0,12,28,60,127,255,511]
theorem ebbtideref08_sought.tab12:rtab .any (opsOf Try.f77 12)=ebbtideref08_sought.T12:=by kernel_rfl
theorem ebbtideref08_sought.bits12:waitsOk ebbtideref08_sought.T12.2 ebbtideref08_sought.B12=true:=by kernel_rfl
set_option maxHeartbeats 8000000 in
set_option maxRecDepth 100000 in
theorem ebbtideref08_sought.calls (k:Nat) (Zb:Int) (Zc:Bool) (Ze:Option Addr) (Zd:Nat) (Za:List (S50)) (a1:Int) (A2:Option Addr) (c2:Nat) (l2:List (S79)) (r1:List Int) (r2:List (S79)) (w:World) (Zp:Kd.C k50 w Ze Za.length Za) (Zq:Za.length≤Zd) (hr2:Kd.C k79 w A2 l2.length l2) (hc2:l2.length≤c2) (h:ebbtideref08_sought.f k Zb Zc Za a1 l2=some (r1,r2)):
  Calls Try.prog 77 #[.agg #[.int .i64 Zb, .bool Zc, .slice Ze Za.length Zd], .int .i64 a1, .slice A2 l2.length c2] w fun e w'=> ∃ v0_ v1_:Value,e= .returned (.agg #[v0_,v1_])∧Kd.R (Kd.int .i64) 3 w' w.heap.size (fun _=>True) v0_ r1∧Kd.R k79 79 w' w.heap.size (fun _=>True) v1_ r2∧Below w.heap.size w w':=by
 have hu24:=Try.underlying24;have hu119:=Try.underlying119;have hu79:=Try.underlying79;have Zh:=Ya Zp;have Zo:=Ya Zq;clear Zp Zq;have HR2:=Ya hr2;have HC2:=Ya hc2;clear hr2 hc2;have HB:=Ya (Yo w.heap.size w);have H:=h;unfold ebbtideref08_sought.f at H;clear h;by_cases c4:([]:List Int).length<17592186044416
 rotate_left
 ·rw[Yy c4] at H
  exact absurd H (by simp)
 rw[Yx c4] at H;have LMc4:=Ya c4;clear c4;obtain⟨y317,hy317⟩: ∃ y_:List Int,y_=(([]:List Int) ++ [a1]):=⟨_,rfl⟩;rw[← hy317] at H;have Ny317:=Ya hy317;clear hy317;by_cases c5:([]:List (S79)).length<8796093022208
 rotate_left
 ·rw[Yy c5] at H
  exact absurd H (by simp)
 rw[Yx c5] at H;have LMc5:=Ya c5;clear c5;obtain⟨y320,hy320⟩: ∃ y_:List (S79),y_=(([]:List (S79)) ++ [(⟨0,false⟩:S79)]):=⟨_,rfl⟩;rw[← hy320] at H;have Ny320:=Ya hy320;clear hy320;have H':=Ya H;clear H;go_enter Try.func77,Try.ntmps77;go_wp2_with (first|(refine bx 3 24 #[.int .i64 Zb, .bool Zc, .slice Ze Za.length Zd] ?_;intro gb314 hg w6 Zf hb;have Zv:=Ya (Zf);have GW314:=Ya ((sz hg));have GE314:=Ya ((sz hg));replace HB:=Ya (Yk bl hb);clear hb Zf hg)|(refine bx 6 119 #[.slice none 0 0, .slice none 0 0] ?_;intro gb315 hg w7 Zf hb;have Xm:=Ya (Zf);have GW315:=Ya ((sz hg));have GE315:=Ya ((sz hg));replace HB:=Ya (Yk bl hb);have NB314_315:=Ya (by rw[hg];exact Nat.ne_of_lt (blk_lt (bk Zv)):gb314≠gb315);have NB315_314:=Ya (by rw[hg];exact Nat.ne_of_gt (blk_lt (bk Zv)):gb315≠gb314);replace Zv:=Ya (Yn (bk Zv) hb);clear hb Zf hg)|(refine bx 7 119 #[.slice none 0 0, .slice none 0 0] ?_;intro Wq hg w8 Zf hb;have Zt:=Ya (Zf);have GW316:=Ya ((sz hg));have GE316:=Ya ((sz hg));replace HB:=Ya (Yk bl hb);have NB314_316:=Ya (by rw[hg];exact Nat.ne_of_lt (blk_lt (bk Zv)):gb314≠Wq);have NB316_314:=Ya (by rw[hg];exact Nat.ne_of_gt (blk_lt (bk Zv)):Wq≠gb314);replace Zv:=Ya (Yn (bk Zv) hb);have NB315_316:=Ya (by rw[hg];exact Nat.ne_of_lt (blk_lt (bk Xm)):gb315≠Wq);have NB316_315:=Ya (by rw[hg];exact Nat.ne_of_gt (blk_lt (bk Xm)):Wq≠gb315);replace Xm:=Ya (Yn (bk Xm) hb);clear hb Zf hg;have hnb9:=NB316_314.out;have hnc9:=NB314_316.out;have hnb10:=NB316_315.out;have hnc10:=NB315_316.out;have hcz11_0:w8.cell? ⟨Wq,0,none⟩=some (.slice none 0 0):=bc Zt 0;have hcz11_1:w8.cell? ⟨Wq,1,none⟩=some (.slice none 0 0):=bc Zt 1;have hfz11_0:=Yf Zt.out 0;have hfz11_1:=Yf Zt.out 1)|((with_reducible refine gate_builtin (b:= .append) (xs:= #[.tmp 11, .tmp 13]) rfl ?_);at_builtin;refine Kd.R_append (Kd.int .i64) (w0:=w) w.heap.size rfl (.tmp 11) (.tmp 13) 31 3 (.int .i64 0) 8 rfl Try.underlying31 info3 rfl (by decide) (by omega) (.slice none 0 0) ([]:List Int) a1 [.int .i64 a1] (fun _=>True) (fun _=>False) rfl rfl ?aP (fun _ hk=>hk.elim) ?aF ?aO ?aB ?aS ?aL ?_;(case aP=>exact rfl);(case aB=>exact bl);(case aF=>exact(fun _ _=>trivial));(case aO=>exact((Kd.R_nil _ _ _ _ (fun _=>True))));(case aS=>exact(Yi bl));(case aL=>have:=LMc4.out;omega);intro v318 w12 ho hb hg hat;rw[← Ny317.out] at ho;replace Zv:=Ya (blk_grown (bk Zv) hg (by simp[Value.ownBlock]));replace Xm:=Ya (blk_grown (bk Xm) hg (by simp[Value.ownBlock]));replace Zt:=Ya (blk_grown (bk Zt) hg (by simp[Value.ownBlock]));replace HB:=Ya (hb);have HO319:=Ya (ho);clear ho hb hg hat;obtain⟨Ao13,co13,eo13⟩:=Kd.R_slice HO319.out;subst eo13;have Vy:w12.cell? ⟨Wq,0,none⟩=some (.slice none 0 0):=bc Zt 0;have Ud:w12.cell? ⟨Wq,1,none⟩=some (.slice none 0 0):=bc Zt 1;have Ue:=Yf Zt.out 0;have Uf:=Yf Zt.out 1)|((with_reducible refine gate_builtin (b:= .append) (xs:= #[.tmp 17, .tmp 19]) rfl ?_);at_builtin;refine Kd.R_append k79 (w0:=w) w.heap.size rfl (.tmp 17) (.tmp 19) 67 79 (.agg #[(.int .i64 0),(.bool false)]) 16 rfl Try.underlying67 info79 rfl (by decide) (by omega) (.slice none 0 0) ([]:List (S79)) (⟨0,false⟩:S79) [.int .i64 0, .bool false] (fun _=>True) (fun _=>False) rfl (by first|(go_simp;done)|(go_simp;rfl)) ?aP (fun _ hk=>hk.elim) ?aF ?aO ?aB ?aS ?aL ?_;(case aP=>exact k79_mkM _ _ _ (⟨0,false⟩:S79));(case aB=>exact bl);(case aF=>exact(fun _ _=>trivial));(case aO=>exact((Kd.R_nil _ _ _ _ (fun _=>True))));(case aS=>exact(Yi bl));(case aL=>have:=LMc5.out;omega);intro v321 w15 ho hb hg hat;rw[← Ny320.out] at ho;replace Zv:=Ya (blk_grown (g:=gb314) (o:= .cells #[.int .i64 Zb, .bool Zc, .slice Ze Za.length Zd] 24 (0,0)) (by(with_reducible repeat(first|refine Yl ?_ _|refine Ym ?_|refine Yj ?_ _));refine blk_far ?_ NB314_316.out _;(with_reducible repeat(first|refine Yl ?_ _|refine Ym ?_|refine Yj ?_ _));exact Zv.out) hg (by simp[Value.ownBlock]));replace Xm:=Ya (blk_grown (g:=gb315) (o:= .cells #[.slice none 0 0, .slice none 0 0] 119 (0,0)) (by(with_reducible repeat(first|refine Yl ?_ _|refine Ym ?_|refine Yj ?_ _));refine blk_far ?_ NB315_316.out _;(with_reducible repeat(first|refine Yl ?_ _|refine Ym ?_|refine Yj ?_ _));exact Xm.out) hg (by simp[Value.ownBlock]));replace HO319:=Ya (Kd.R_grown (by(with_reducible repeat(first|apply Yr|apply Yq|apply Yp));exact(Kd.R_mono (Kd.R_far (p:=⟨Wq,0,none⟩) (Kd.R_types HO319.out Zt.out (by decide)) (fun _ hk=>hk.2) (.slice Ao13 y317.length co13)) (fun _ h_=>h_.1))) hg (fun _ _=>by simp[Value.ownBlock]));replace Zt:=Ya (blk_grown (g:=Wq) (o:= .cells #[.slice Ao13 y317.length co13, .slice none 0 0] 119 (0,0)) (by(with_reducible repeat(first|refine Yl ?_ _|refine Ym ?_|refine Yj ?_ _));refine YA (cs:= #[.slice none 0 0, .slice none 0 0]) ?_ 0 _ rfl;(with_reducible repeat(first|refine Yl ?_ _|refine Ym ?_|refine Yj ?_ _));exact Zt.out) hg (by simp[Value.ownBlock]));replace HB:=Ya (hb);have HO322:=Ya (ho);clear ho hb hg hat;obtain⟨Ao16,co16,eo16⟩:=Kd.R_slice HO322.out;subst eo16;have Vz:w15.cell? ⟨Wq,0,none⟩=some (.slice Ao13 y317.length co13):=bc Zt 0;have Ua:w15.cell? ⟨Wq,1,none⟩=some (.slice none 0 0):=bc Zt 1;have Ub:=Yf Zt.out 0;have Uc:=Yf Zt.out 1));go_loopg [8] k (fun kq v8 w'=> ∃ (Zn:Int) (Uu:List Int) (x317001_1:List (S79)) (u317000:Value) (u317001:Value),v8= .int .i64 Zn∧Aside0 (ebbtideref08_sought.l0 kq l2 Zn Zb Zc Za Uu x317001_1=some (r1,r2))∧Aside0 (kq≤k)∧Aside0 (Kd.R (Kd.int .i64) 3 w' w.heap.size (fun _=>True) u317000 Uu)∧Aside0 (Kd.R k79 79 w' w.heap.size (fun _=>True) u317001 x317001_1)∧Aside0 (w'.heap[gb314]? =some (.cells #[.int .i64 Zb, .bool Zc,(.slice Ze Za.length Zd)] 24 (0,0)))∧Aside0 (w'.heap[gb315]? =some (.cells #[(.slice none 0 0),(.slice none 0 0)] 119 (0,0)))∧Aside0 (w'.heap[Wq]? =some (.cells #[u317000,u317001] 119 (0,0)))∧Aside0 (Below w.heap.size w w'))
 case atStart=>exact⟨(0),(y317),(y320),(.slice Ao13 y317.length co13),(.slice Ao16 y320.length co16),(by first|rfl|(simp;done)|(simp[*];done)),H',⟨Nat.le_refl _⟩,⟨by(with_reducible repeat(first|apply Yr|apply Yq|apply Yp));exact Kd.R_mono (Kd.R_far (p:=⟨Wq,1,none⟩) (Kd.R_types HO319.out Zt.out (by decide)) (fun _ hk=>hk.2) (.slice Ao16 y320.length co16)) (fun _ hk=>trivial)⟩,⟨by(with_reducible repeat(first|apply Yr|apply Yq|apply Yp));exact Kd.R_mono (Kd.R_far (p:=⟨Wq,1,none⟩) (Kd.R_types HO322.out Zt.out (by decide)) (fun _ hk=>hk.2) (.slice Ao16 y320.length co16)) (fun _ hk=>trivial)⟩,⟨by(with_reducible repeat(first|refine Yl ?_ _|refine Ym ?_|refine Yj ?_ _));refine blk_far ?_ NB314_316.out _;(with_reducible repeat(first|refine Yl ?_ _|refine Ym ?_|refine Yj ?_ _));exact Zv.out⟩,⟨by(with_reducible repeat(first|refine Yl ?_ _|refine Ym ?_|refine Yj ?_ _));refine blk_far ?_ NB315_316.out _;(with_reducible repeat(first|refine Yl ?_ _|refine Ym ?_|refine Yj ?_ _));exact Xm.out⟩,⟨by(with_reducible repeat(first|refine Yl ?_ _|refine Ym ?_|refine Yj ?_ _));refine YA (cs:= #[.slice Ao13 y317.length co13, .slice none 0 0]) ?_ 1 _ rfl;(with_reducible repeat(first|refine Yl ?_ _|refine Ym ?_|refine Yj ?_ _));exact Zt.out⟩,⟨bl⟩⟩
 case round=>
  clear H';try clear c2
  try clear c4
  try clear c5
  try clear hcz11_0
  try clear hcz11_1
  try clear Vy
  try clear Ud
  try clear Vz
  try clear Ua
  try clear hfz11_0
  try clear hfz11_1
  try clear Ue
  try clear Uf
  try clear Ub
  try clear Uc
  obtain⟨Zn,Uu,x317001_1,u317000,u317001,rfl,HA,HK1,HO_317000,HO_317001,Zv,Xm,Zt,HB⟩:=hrel;cases gk with
  |zero=>exact absurd HA.out (by simp[ebbtideref08_sought.l0])
  |succ k1=>
   have H:=HA.out;clear HA;simp only[ebbtideref08_sought.l0] at H;by_cases c18:Zn<(Uu.length:Int)
   rotate_left
   ·rw[Yy c18] at H
    have c18b0:decide (Zn<(Uu.length:Int))=false:=Yw c18;clear c18;simp only[Option.some.injEq,Prod.mk.injEq] at H;obtain⟨rfl,rfl⟩:=H;have hnb60:=NB316_314.out;have hnc60:=NB314_316.out;have hnb61:=NB316_315.out;have hnc61:=NB315_316.out;have hcz62_0:wr.cell? ⟨Wq,0,none⟩=some (u317000):=bc Zt 0;have hcz62_1:wr.cell? ⟨Wq,1,none⟩=some (u317001):=bc Zt 1;have hfz62_0:=Yf Zt.out 0;have hfz62_1:=Yf Zt.out 1;obtain⟨Ao63,co63,eo63⟩:=Kd.R_slice HO_317000.out;subst eo63;have hnb64:=NB315_314.out;have hnc64:=NB314_315.out;have hcz65_0:wr.cell? ⟨gb315,0,none⟩=some (.slice none 0 0):=bc Xm 0;have hcz65_1:wr.cell? ⟨gb315,1,none⟩=some (.slice none 0 0):=bc Xm 1;have hfz65_0:=Yf Xm.out 0;have hfz65_1:=Yf Xm.out 1;obtain⟨Ao66,co66,eo66⟩:=Kd.R_slice HO_317001.out;subst eo66;go_wp2;refine bodyPost_ret (results_cell_row rfl _ _ gb315 119 #[.slice Ao63 Uu.length co63, .slice Ao66 x317001_1.length co66] (0,0) _ rfl (by(with_reducible repeat(first|refine Yl ?_ _|refine Ym ?_|refine Yj ?_ _));refine YA (cs:= #[.slice Ao63 Uu.length co63, .slice none 0 0]) ?_ 1 _ rfl;(with_reducible repeat(first|refine Yl ?_ _|refine Ym ?_|refine Yj ?_ _));refine YA (cs:= #[.slice none 0 0, .slice none 0 0]) ?_ 0 _ rfl;(with_reducible repeat(first|refine Yl ?_ _|refine Ym ?_|refine Yj ?_ _));exact Xm.out) Try.underlying119 rfl (by kernel_rfl)) rfl ?_;exact⟨_,_,by first|rfl|(simp[errW_none,errW_some]<;>rfl)|(simp[*,errW_none,errW_some]<;>rfl),by(with_reducible repeat(first|apply Yr|apply Yq|apply Yp));exact Kd.R_mono (Kd.R_far (p:=⟨gb315,1,none⟩) (Kd.R_far (p:=⟨gb315,0,none⟩) (Kd.R_types HO_317000.out Xm.out (by decide)) (fun _ hk=>hk.2) (.slice Ao63 Uu.length co63)) (fun _ hk=>hk.2) (.slice Ao66 x317001_1.length co66)) (fun _ hk=>trivial),by(with_reducible repeat(first|apply Yr|apply Yq|apply Yp));exact Kd.R_mono (Kd.R_far (p:=⟨gb315,1,none⟩) (Kd.R_far (p:=⟨gb315,0,none⟩) (Kd.R_types HO_317001.out Xm.out (by decide)) (fun _ hk=>hk.2) (.slice Ao63 Uu.length co63)) (fun _ hk=>hk.2) (.slice Ao66 x317001_1.length co66)) (fun _ hk=>trivial),bl⟩
   rw[Yx c18] at H;have c18b0:decide (Zn<(Uu.length:Int))=true:=Yv c18;clear c18;have H':=Ya H;clear H;have hnb19:=NB316_314.out;have hnc19:=NB314_316.out;have hnb20:=NB316_315.out;have hnc20:=NB315_316.out;have hcz21_0:wr.cell? ⟨Wq,0,none⟩=some (u317000):=bc Zt 0;have hcz21_1:wr.cell? ⟨Wq,1,none⟩=some (u317001):=bc Zt 1;have hfz21_0:=Yf Zt.out 0;have hfz21_1:=Yf Zt.out 1;obtain⟨Ao22,co22,eo22⟩:=Kd.R_slice HO_317000.out;subst eo22;go_wp2;go_loopg [9] k1 (fun kq v9 w'=> ∃ (Xk:Int) (Xa:List Int) (Xw:List (S79)) (u317000:Value) (u317001:Value),v9= .int .i64 Xk∧Aside0 (ebbtideref08_sought.l1 kq l2 Zn Xk Zb Zc Za Xa Xw=some (r1,r2))∧Aside0 (kq≤k1)∧Aside0 (Kd.R (Kd.int .i64) 3 w' w.heap.size (fun _=>True) u317000 Xa)∧Aside0 (Kd.R k79 79 w' w.heap.size (fun _=>True) u317001 Xw)∧Aside0 (w'.heap[gb314]? =some (.cells #[.int .i64 Zb, .bool Zc,(.slice Ze Za.length Zd)] 24 (0,0)))∧Aside0 (w'.heap[gb315]? =some (.cells #[(.slice none 0 0),(.slice none 0 0)] 119 (0,0)))∧Aside0 (w'.heap[Wq]? =some (.cells #[u317000,u317001] 119 (0,0)))∧Aside0 (Below w.heap.size w w'))
   case atStart=>exact⟨(0),(Uu),(x317001_1),(.slice Ao22 Uu.length co22),(u317001),(by first|rfl|(simp;done)|(simp[*];done)),H',⟨Nat.le_refl _⟩,⟨HO_317000.out⟩,⟨HO_317001.out⟩,⟨Zv.out⟩,⟨Xm.out⟩,⟨Zt.out⟩,⟨HB.out⟩⟩
   case round=>
    clear H';try clear c2
    try clear c4
    try clear c5
    try clear c18
    try clear c18b0
    try clear hcz11_0
    try clear hcz11_1
    try clear Vy
    try clear Ud
    try clear Vz
    try clear Ua
    try clear hcz21_0
    try clear hcz21_1
    try clear hfz11_0
    try clear hfz11_1
    try clear Ue
    try clear Uf
    try clear Ub
    try clear Uc
    try clear hfz21_0
    try clear hfz21_1
    obtain⟨Xk,Xa,Xw,u317000,u317001,rfl,HA,HK2,HO_317000,HO_317001,Zv,Xm,Zt,HB⟩:=hrel;cases gk with
    |zero=>exact absurd HA.out (by simp[ebbtideref08_sought.l1])
    |succ k2=>
     have H:=HA.out;clear HA;simp only[ebbtideref08_sought.l1] at H;by_cases c23:Xk<(l2.length:Int)
     rotate_left
     ·rw[Yy c23] at H
      have c23b0:decide (Xk<(l2.length:Int))=false:=Yw c23;clear c23;have H':=Ya H;clear H;go_wp2;go_roundg k2
      case measure=>have:=HK1.out;have:=HK2.out;omega
      case rel=>exact⟨(wrap64 (Zn+1)),(Xa),(Xw),(u317000),(u317001),(by first|rfl|(simp;done)|(simp[*];done)),H',⟨by have:=HK1.out;have:=HK2.out;omega⟩,⟨HO_317000.out⟩,⟨HO_317001.out⟩,⟨Zv.out⟩,⟨Xm.out⟩,⟨Zt.out⟩,⟨HB.out⟩⟩
     rw[Yx c23] at H;have c23b0:decide (Xk<(l2.length:Int))=true:=Yv c23;clear c23;by_cases c24:0≤Xk
     rotate_left
     ·rw[Yy c24] at H
      exact absurd H (by simp)
     rw[Yx c24] at H;have c24b0:decide (0≤Xk)=true:=Yv c24;clear c24;replace H:=Option.bind_eq_some_iff.mp H;obtain⟨t324,A250,H⟩:=H;try dsimp only at H
     have A25:=Ya A250;clear A250;by_cases c26:0≤Zn
     rotate_left
     ·rw[Yy c26] at H
      exact absurd H (by simp)
     rw[Yx c26] at H;have c26b0:decide (0≤Zn)=true:=Yv c26;clear c26;by_cases c27:Zn<(Xa.length:Int)
     rotate_left
     ·rw[Yy c27] at H
      exact absurd H (by simp)
     rw[Yx c27] at H;have c27b0:decide (Zn<(Xa.length:Int))=true:=Yv c27;clear c27;by_cases c28:t324=(rd Xa Zn)
     rotate_left
     ·rw[Yy c28] at H
      have c28b0:(t324 == (rd Xa Zn))=false:=beq_eq_false_iff_ne.mpr c28;have c28b1:(t324 != (rd Xa Zn))=true:=bne_iff_ne.mpr c28;have H':=Ya H;clear H;try go_wp2
      replace HO_317000:=Ya (Yp HO_317000.out);replace HO_317001:=Ya (Yp HO_317001.out);replace Zv:=Ya (Ym Zv.out);replace Xm:=Ya (Ym Xm.out);replace Zt:=Ya (Ym Zt.out);replace HB:=Ya (Yg HB.out);have p323:0≤(Xk:Int):=od;have q323:Xk<(l2.length:Int):=od;obtain⟨Jk,e323,hx323_0,hx323_1⟩:=at_T79 HR2.out Xk p323 q323;have Jv:=hx323_1;have Jw:=hx323_0;cases e323;replace hx323_0:=hc HB hx323_0;replace hx323_1:=hc HB hx323_1;replace p323:=eq_true p323;replace q323:=eq_true q323;obtain⟨Ao58,co58,eo58⟩:=Kd.R_slice HO_317000.out
      (first|subst eo58|(injection eo58 with f1_ f2_ f3_;have f4_:=f1_.symm;have f5_:=f3_.symm;clear f1_ f2_ f3_;subst f4_;subst f5_))
      have p325:0≤(Zn:Int):=od;have q325:Zn<(Xa.length:Int):=od;obtain⟨ad325,e325,hx325_0⟩:=Kd.at_int (Kd.R_reads' HO_317000.out).2.2 Zn p325 q325;cases e325;replace p325:=eq_true p325;replace q325:=eq_true q325;refine start_ (n:=23) (S:=fun w'=>w'.cell? ⟨gb314,0,none⟩=some (.int .i64 Zb)∧w'.cell? ⟨gb314,1,none⟩=some (.bool Zc)∧w'.cell? ⟨gb314,2,none⟩=some (.slice Ze Za.length Zd)∧w'.cell? ⟨Wq,0,none⟩=some (.slice (some ad325) Xa.length co58)∧w'.cell? ⟨Wq,1,none⟩=some (u317001)∧w'.cell? (Jk.add ((Xk).toNat * 2))=some (.int .i64 ((rd_T79 l2 Xk).f0))∧w'.cell? ⟨(Jk.add ((Xk).toNat * 2)).block,(Jk.add ((Xk).toNat * 2)).off+1,none⟩=some (.bool ((rd_T79 l2 Xk).f1))∧w'.cell? (ad325.add (Zn).toNat)=some (.int .i64 (rd Xa Zn))) (ds:=[]) #[false,false,false,false,false,false,false,false,false,false,false,false,false,false,false,false,false,false,false,false,false,false,false] (by kernel_rfl) rfl rfl ⟨(Yc Zv.out 0).trans rfl,(Yc Zv.out 1).trans rfl,(Yc Zv.out 2).trans rfl,(Yc Zt.out 0).trans rfl,(Yc Zt.out 1).trans rfl,((HB.out.cell (Yb w _ Jw)).trans Jw),((HB.out.cell (Yb w _ Jv)).trans Jv),hx325_0⟩ (fun hHeld=> ?_);refine with_tabW ebbtideref08_sought.tab10 ebbtideref08_sought.bits10 (fun HT_ HW_=> ?_);generalize wr.drew=w57 at HO_317000 HO_317001 Zv Xm Zt HB hx323_0 hx323_1 hx325_0 hHeld ⊢;refine pu 1 36 (bm 23 2) ?_;refine pu 2 37 (bm 23 6) ?_;refine pu 3 38 (bm 23 14) ?_;refine pu 6 41 (bm 23 78) ?_;refine pu 8 43 (bm 23 334) ?_;refine ta 0 35 (bm 23 335) hHeld ?_;refine ta 4 39 (bm 23 351) hHeld ?_;refine ta 7 42 (bm 23 479) hHeld ?_;refine pu 9 44 (bm 23 991) ?_;refine ta 10 45 (bm 23 2015) hHeld ?_;refine on 5 (some 40) (bm 23 2047) fun K hK=> ?_
      refine gs Try.func42 #[.agg #[.int .i64 Zb, .bool Zc, .slice Ze Za.length Zd], .agg #[.int .i64 ((rd_T79 l2 Xk).f0), .bool ((rd_T79 l2 Xk).f1)]] ?_
      with_reducible refine(ebbtideref07_From.calls Zb Zc _ _ Za ((rd_T79 l2 Xk).f0) ((rd_T79 l2 Xk).f1) t324 _ ?side1 ?side2 A25.out).mono ?_
      (case side1=>exact(Yt Zh.out HB.out))
      (case side2=>exact Zo.out)
      rintro e w59 ⟨rfl,hb⟩;have HS7_:=(hb.cell (Yb _ _ (hHeld.2.2.2.2.2.2.2))).trans (hHeld.2.2.2.2.2.2.2);refine⟨_,rfl,?_⟩;replace HO_317000:=Ya (Ys HO_317000.out hb);replace HO_317001:=Ya (Ys HO_317001.out hb);replace Zv:=Ya (Yn Zv.out hb);replace Xm:=Ya (Yn Xm.out hb);replace Zt:=Ya (Yn Zt.out hb);replace HB:=Ya (Yk HB.out hb)
      (try clear hb)
      (try clear hb2)
      (try clear hk)
      (try clear hi)
      refine hK.out _ _ ⟨bc Zv 0,bc Zv 1,bc Zv 2,bc Zt 0,bc Zt 1,(hc HB Jw),(hc HB Jv),HS7_⟩ (fun hHeld=> ?_);clear hK K;refine nm ?_;refine pu 11 46 (bm 23 4095) ?_;refine pu 12 47 (bm 23 8191) ?_;refine pure_ (i:=13) (N:=some 48) (v:=undef) (a':= ?_) #[true,true,true,true,true,true,true,true,true,true,true,true,true,true,false,false,false,false,false,false,false,false,false] rfl rfl (any_of HT_.out (by kernel_rfl)) (fun _ _ _ h=>h) (Or.inr ⟨by rfl,rfl⟩) ?_ ?_
      rotate_left
      ·simp only[Act.put,List.setIfInBounds_toArray,List.set_cons_zero,List.set_cons_succ,i64_w,i32_w]
       rfl
      refine pure_ (i:=14) (N:=some 49) (v:=undef) (a':= ?_) #[true,true,true,true,true,true,true,true,true,true,true,true,true,true,true,false,false,false,false,false,false,false,false] rfl rfl (any_of HT_.out (by kernel_rfl)) (fun _ _ _ h=>h) (Or.inr ⟨by rfl,rfl⟩) ?_ ?_
      rotate_left
      ·simp only[Act.put,List.setIfInBounds_toArray,List.set_cons_zero,List.set_cons_succ,i64_w,i32_w]
       rfl
      refine pure_ (i:=15) (N:=some 50) (v:=undef) (a':= ?_) #[true,true,true,true,true,true,true,true,true,true,true,true,true,true,true,true,false,false,false,false,false,false,false] rfl rfl (any_of HT_.out (by kernel_rfl)) (fun _ _ _ h=>h) (Or.inr ⟨by rfl,rfl⟩) ?_ ?_
      rotate_left
      ·simp only[Act.put,List.setIfInBounds_toArray,List.set_cons_zero,List.set_cons_succ,i64_w,i32_w]
       rfl
      refine pure_ (i:=16) (N:=some 51) (v:=undef) (a':= ?_) #[true,true,true,true,true,true,true,true,true,true,true,true,true,true,true,true,true,false,false,false,false,false,false] rfl rfl (any_of HT_.out (by kernel_rfl)) (fun _ _ _ h=>h) (Or.inr ⟨by rfl,rfl⟩) ?_ ?_
      rotate_left
      ·simp only[Act.put,List.setIfInBounds_toArray,List.set_cons_zero,List.set_cons_succ,i64_w,i32_w]
       rfl
      refine pure_ (i:=17) (N:=some 52) (v:=undef) (a':= ?_) #[true,true,true,true,true,true,true,true,true,true,true,true,true,true,true,true,true,true,false,false,false,false,false] rfl rfl (any_of HT_.out (by kernel_rfl)) (fun _ _ _ h=>h) (Or.inr ⟨by rfl,rfl⟩) ?_ ?_
      rotate_left
      ·simp only[Act.put,List.setIfInBounds_toArray,List.set_cons_zero,List.set_cons_succ,i64_w,i32_w]
       rfl
      refine pure_ (i:=18) (N:=some 53) (v:=undef) (a':= ?_) #[true,true,true,true,true,true,true,true,true,true,true,true,true,true,true,true,true,true,true,false,false,false,false] rfl rfl (any_of HT_.out (by kernel_rfl)) (fun _ _ _ h=>h) (Or.inr ⟨by rfl,rfl⟩) ?_ ?_
      rotate_left
      ·simp only[Act.put,List.setIfInBounds_toArray,List.set_cons_zero,List.set_cons_succ,i64_w,i32_w]
       rfl
      refine pure_ (i:=19) (N:=some 54) (v:=undef) (a':= ?_) #[true,true,true,true,true,true,true,true,true,true,true,true,true,true,true,true,true,true,true,true,false,false,false] rfl rfl (any_of HT_.out (by kernel_rfl)) (fun _ _ _ h=>h) (Or.inr ⟨by rfl,rfl⟩) ?_ ?_
      rotate_left
      ·simp only[Act.put,List.setIfInBounds_toArray,List.set_cons_zero,List.set_cons_succ,i64_w,i32_w]
       rfl
      refine pure_ (i:=20) (N:=some 55) (v:=undef) (a':= ?_) #[true,true,true,true,true,true,true,true,true,true,true,true,true,true,true,true,true,true,true,true,true,false,false] rfl rfl (any_of HT_.out (by kernel_rfl)) (fun _ _ _ h=>h) (Or.inr ⟨by rfl,rfl⟩) ?_ ?_
      rotate_left
      ·simp only[Act.put,List.setIfInBounds_toArray,List.set_cons_zero,List.set_cons_succ,i64_w,i32_w]
       rfl
      refine pure_ (i:=21) (N:=some 56) (v:=undef) (a':= ?_) #[true,true,true,true,true,true,true,true,true,true,true,true,true,true,true,true,true,true,true,true,true,true,false] rfl rfl (any_of HT_.out (by kernel_rfl)) (fun _ _ _ h=>h) (Or.inr ⟨by rfl,rfl⟩) ?_ ?_
      rotate_left
      ·simp only[Act.put,List.setIfInBounds_toArray,List.set_cons_zero,List.set_cons_succ,i64_w,i32_w]
       rfl
      refine pu 22 57 (bm 23 8388607) ?_;refine done_ (done_of HT_.out (by kernel_rfl)) ?_;try go_wp2
      go_roundg k2
      case measure=>have:=HK1.out;have:=HK2.out;omega
      case rel=>exact⟨(wrap64 (Xk+1)),(Xa),(Xw),(.slice (some ad325) Xa.length co58),(u317001),(by first|rfl|(simp;done)|(simp[*];done)),H',⟨by have:=HK1.out;have:=HK2.out;omega⟩,⟨HO_317000.out⟩,⟨HO_317001.out⟩,⟨Zv.out⟩,⟨Xm.out⟩,⟨Zt.out⟩,⟨HB.out⟩⟩
     rw[Yx c28] at H;have c28b0:(t324 == (rd Xa Zn))=true:=beq_iff_eq.mpr c28;have c28b1:(t324 != (rd Xa Zn))=false:=bne_eq_false_iff_eq.mpr c28;clear c28;replace H:=Option.bind_eq_some_iff.mp H;obtain⟨t327,A290,H⟩:=H;try dsimp only at H
     have A29:=Ya A290;clear A290;replace H:=Option.bind_eq_some_iff.mp H;obtain⟨t328,A300,H⟩:=H;try dsimp only at H
     have A30:=Ya A300;clear A300;by_cases c31:t328<0
     rotate_left
     ·rw[Yy c31] at H
      have c31b0:decide (t328<0)=false:=Yw c31;clear c31;have H':=Ya H;clear H;try go_wp2
      replace HO_317000:=Ya (Yp HO_317000.out);replace HO_317001:=Ya (Yp HO_317001.out);replace Zv:=Ya (Ym Zv.out);replace Xm:=Ya (Ym Xm.out);replace Zt:=Ya (Ym Zt.out);replace HB:=Ya (Yg HB.out);have p323:0≤(Xk:Int):=od;have q323:Xk<(l2.length:Int):=od;obtain⟨Jk,e323,hx323_0,hx323_1⟩:=at_T79 HR2.out Xk p323 q323;have Jv:=hx323_1;have Jw:=hx323_0;cases e323;replace hx323_0:=hc HB hx323_0;replace hx323_1:=hc HB hx323_1;replace p323:=eq_true p323;replace q323:=eq_true q323;obtain⟨Ao52,co52,eo52⟩:=Kd.R_slice HO_317000.out
      (first|subst eo52|(injection eo52 with f1_ f2_ f3_;have f4_:=f1_.symm;have f5_:=f3_.symm;clear f1_ f2_ f3_;subst f4_;subst f5_))
      have p325:0≤(Zn:Int):=od;have q325:Zn<(Xa.length:Int):=od;obtain⟨ad325,e325,hx325_0⟩:=Kd.at_int (Kd.R_reads' HO_317000.out).2.2 Zn p325 q325;cases e325;replace p325:=eq_true p325;replace q325:=eq_true q325;have p326:0≤(Xk:Int):=od;have q326:Xk<(l2.length:Int):=od;obtain⟨ad326,e326,hx326_0,hx326_1⟩:=at_T79 HR2.out Xk p326 q326;have hw326_1:=hx326_1;have hw326_0:=hx326_0;obtain rfl:Jk=ad326:=(by injection e326);replace hx326_0:=hc HB hx326_0;replace hx326_1:=hc HB hx326_1;replace p326:=eq_true p326;replace q326:=eq_true q326;refine start_ (n:=23) (S:=fun w'=>w'.cell? ⟨gb314,0,none⟩=some (.int .i64 Zb)∧w'.cell? ⟨gb314,1,none⟩=some (.bool Zc)∧w'.cell? ⟨gb314,2,none⟩=some (.slice Ze Za.length Zd)∧w'.cell? ⟨Wq,0,none⟩=some (.slice (some ad325) Xa.length co52)∧w'.cell? ⟨Wq,1,none⟩=some (u317001)∧w'.cell? (Jk.add ((Xk).toNat * 2))=some (.int .i64 ((rd_T79 l2 Xk).f0))∧w'.cell? ⟨(Jk.add ((Xk).toNat * 2)).block,(Jk.add ((Xk).toNat * 2)).off+1,none⟩=some (.bool ((rd_T79 l2 Xk).f1))∧w'.cell? (ad325.add (Zn).toNat)=some (.int .i64 (rd Xa Zn))∧w'.cell? (Jk.add ((Xk).toNat * 2))=some (.int .i64 ((rd_T79 l2 Xk).f0))∧w'.cell? ⟨(Jk.add ((Xk).toNat * 2)).block,(Jk.add ((Xk).toNat * 2)).off+1,none⟩=some (.bool ((rd_T79 l2 Xk).f1))) (ds:=[]) #[false,false,false,false,false,false,false,false,false,false,false,false,false,false,false,false,false,false,false,false,false,false,false] (by kernel_rfl) rfl rfl ⟨(Yc Zv.out 0).trans rfl,(Yc Zv.out 1).trans rfl,(Yc Zv.out 2).trans rfl,(Yc Zt.out 0).trans rfl,(Yc Zt.out 1).trans rfl,((HB.out.cell (Yb w _ Jw)).trans Jw),((HB.out.cell (Yb w _ Jv)).trans Jv),hx325_0,((HB.out.cell (Yb w _ hw326_0)).trans hw326_0),((HB.out.cell (Yb w _ hw326_1)).trans hw326_1)⟩ (fun hHeld=> ?_);refine with_tabW ebbtideref08_sought.tab10 ebbtideref08_sought.bits10 (fun HT_ HW_=> ?_);generalize wr.drew=w51 at HO_317000 HO_317001 Zv Xm Zt HB hx323_0 hx323_1 hx325_0 hx326_0 hx326_1 hHeld ⊢;refine pu 1 36 (bm 23 2) ?_;refine pu 2 37 (bm 23 6) ?_;refine pu 3 38 (bm 23 14) ?_;refine pu 6 41 (bm 23 78) ?_;refine pu 8 43 (bm 23 334) ?_;refine ta 0 35 (bm 23 335) hHeld ?_;refine ta 4 39 (bm 23 351) hHeld ?_;refine ta 7 42 (bm 23 479) hHeld ?_;refine pu 9 44 (bm 23 991) ?_;refine ta 10 45 (bm 23 2015) hHeld ?_;refine on 5 (some 40) (bm 23 2047) fun K hK=> ?_
      refine gs Try.func42 #[.agg #[.int .i64 Zb, .bool Zc, .slice Ze Za.length Zd], .agg #[.int .i64 ((rd_T79 l2 Xk).f0), .bool ((rd_T79 l2 Xk).f1)]] ?_
      with_reducible refine(ebbtideref07_From.calls Zb Zc _ _ Za ((rd_T79 l2 Xk).f0) ((rd_T79 l2 Xk).f1) t324 _ ?side1 ?side2 A25.out).mono ?_
      (case side1=>exact(Yt Zh.out HB.out))
      (case side2=>exact Zo.out)
      rintro e w53 ⟨rfl,hb⟩;have HS7_:=(hb.cell (Yb _ _ (hHeld.2.2.2.2.2.2.2.1))).trans (hHeld.2.2.2.2.2.2.2.1);refine⟨_,rfl,?_⟩;replace HO_317000:=Ya (Ys HO_317000.out hb);replace HO_317001:=Ya (Ys HO_317001.out hb);replace Zv:=Ya (Yn Zv.out hb);replace Xm:=Ya (Yn Xm.out hb);replace Zt:=Ya (Yn Zt.out hb);replace HB:=Ya (Yk HB.out hb)
      (try clear hb)
      (try clear hb2)
      (try clear hk)
      (try clear hi)
      refine hK.out _ _ ⟨bc Zv 0,bc Zv 1,bc Zv 2,bc Zt 0,bc Zt 1,(hc HB Jw),(hc HB Jv),HS7_,(hc HB hw326_0),(hc HB hw326_1)⟩ (fun hHeld=> ?_);clear hK K;refine nm ?_;refine pu 11 46 (bm 23 4095) ?_;refine pu 12 47 (bm 23 8191) ?_;refine pu 15 50 (bm 23 40959) ?_;refine pu 16 51 (bm 23 106495) ?_;refine pu 17 52 (bm 23 237567) ?_;refine ta 13 48 (bm 23 245759) hHeld ?_;refine ta 14 49 (bm 23 262143) hHeld ?_;refine ta 18 53 (bm 23 524287) hHeld ?_;refine on 19 (some 54) (bm 23 1048575) fun K hK=> ?_
      refine gs Try.func43 #[.agg #[.int .i64 Zb, .bool Zc, .slice Ze Za.length Zd], .agg #[.int .i64 ((rd_T79 l2 Xk).f0), .bool ((rd_T79 l2 Xk).f1)]] ?_
      with_reducible refine(ebbtideref07_To.calls Zb Zc _ _ Za ((rd_T79 l2 Xk).f0) ((rd_T79 l2 Xk).f1) t327 _ ?side1 ?side2 A29.out).mono ?_
      (case side1=>exact(Yt Zh.out HB.out))
      (case side2=>exact Zo.out)
      rintro e w54 ⟨rfl,hb⟩;have HS7_:=(hb.cell (Yb _ _ (hHeld.2.2.2.2.2.2.2.1))).trans (hHeld.2.2.2.2.2.2.2.1);refine⟨_,rfl,?_⟩;replace HO_317000:=Ya (Ys HO_317000.out hb);replace HO_317001:=Ya (Ys HO_317001.out hb);replace Zv:=Ya (Yn Zv.out hb);replace Xm:=Ya (Yn Xm.out hb);replace Zt:=Ya (Yn Zt.out hb);replace HB:=Ya (Yk HB.out hb)
      (try clear hb)
      (try clear hb2)
      (try clear hk)
      (try clear hi)
      obtain⟨Ao55,co55,eo55⟩:=Kd.R_slice HO_317001.out
      (first|subst eo55|(injection eo55 with f1_ f2_ f3_;have f4_:=f1_.symm;have f5_:=f3_.symm;clear f1_ f2_ f3_;subst f4_;subst f5_))
      refine hK.out _ _ ⟨bc Zv 0,bc Zv 1,bc Zv 2,bc Zt 0,bc Zt 1,(hc HB Jw),(hc HB Jv),HS7_,(hc HB hw326_0),(hc HB hw326_1)⟩ (fun hHeld=> ?_);clear hK K;refine nm ?_;refine on 20 (some 55) (bm 23 2097151) fun K hK=> ?_
      refine gs Try.func78 #[.agg #[.slice (some ad325) Xa.length co52, .slice Ao55 Xw.length co55], .int .i64 t327] ?_
      with_reducible refine(ebbtideref08_found_has.calls k2 _ _ Xa _ _ Xw t327 t328 _ ?side1 ?side2 ?side3 ?side4 A30.out).mono ?_
      (case side1=>exact(Kd.R_reads' HO_317000.out).2.2)
      (case side2=>exact(Kd.R_reads' HO_317000.out).2.1)
      (case side3=>exact(Kd.R_reads' HO_317001.out).2.2)
      (case side4=>exact(Kd.R_reads' HO_317001.out).2.1)
      rintro e w56 ⟨rfl,hb⟩;have HS7_:=(hb.cell (Yb _ _ (hHeld.2.2.2.2.2.2.2.1))).trans (hHeld.2.2.2.2.2.2.2.1);refine⟨_,rfl,?_⟩;replace HO_317000:=Ya (Ys HO_317000.out hb);replace HO_317001:=Ya (Ys HO_317001.out hb);replace Zv:=Ya (Yn Zv.out hb);replace Xm:=Ya (Yn Xm.out hb);replace Zt:=Ya (Yn Zt.out hb);replace HB:=Ya (Yk HB.out hb)
      (try clear hb)
      (try clear hb2)
      (try clear hk)
      (try clear hi)
      refine hK.out _ _ ⟨bc Zv 0,bc Zv 1,bc Zv 2,bc Zt 0,bc Zt 1,(hc HB Jw),(hc HB Jv),HS7_,(hc HB hw326_0),(hc HB hw326_1)⟩ (fun hHeld=> ?_);clear hK K;refine nm ?_;refine pu 21 56 (bm 23 4194303) ?_;refine pu 22 57 (bm 23 8388607) ?_;refine done_ (done_of HT_.out (by kernel_rfl)) ?_;try go_wp2
      go_roundg k2
      case measure=>have:=HK1.out;have:=HK2.out;omega
      case rel=>exact⟨(wrap64 (Xk+1)),(Xa),(Xw),(.slice (some ad325) Xa.length co52),(.slice Ao55 Xw.length co55),(by first|rfl|(simp;done)|(simp[*];done)),H',⟨by have:=HK1.out;have:=HK2.out;omega⟩,⟨HO_317000.out⟩,⟨HO_317001.out⟩,⟨Zv.out⟩,⟨Xm.out⟩,⟨Zt.out⟩,⟨HB.out⟩⟩
     rw[Yx c31] at H;have c31b0:decide (t328<0)=true:=Yv c31;clear c31;replace H:=Option.bind_eq_some_iff.mp H;obtain⟨t330,A320,H⟩:=H;try dsimp only at H
     have A32:=Ya A320;clear A320;by_cases c33:Xa.length<17592186044416
     rotate_left
     ·rw[Yy c33] at H
      exact absurd H (by simp)
     rw[Yx c33] at H;have LMc33:=Ya c33;clear c33;obtain⟨y331,hy331⟩: ∃ y_:List Int,y_=(Xa ++ [t330]):=⟨_,rfl⟩;rw[← hy331] at H;have Ny331:=Ya hy331;clear hy331;by_cases c34:Xw.length<8796093022208
     rotate_left
     ·rw[Yy c34] at H
      exact absurd H (by simp)
     rw[Yx c34] at H;have LMc34:=Ya c34;clear c34;obtain⟨y335,hy335⟩: ∃ y_:List (S79),y_=(Xw ++ [(⟨(rd_T79 l2 Xk).f0,(rd_T79 l2 Xk).f1⟩:S79)]):=⟨_,rfl⟩;rw[← hy335] at H;have Ny335:=Ya hy335;clear hy335;have H':=Ya H;clear H;try go_wp2
     replace HO_317000:=Ya (Yp HO_317000.out);replace HO_317001:=Ya (Yp HO_317001.out);replace Zv:=Ya (Ym Zv.out);replace Xm:=Ya (Ym Xm.out);replace Zt:=Ya (Ym Zt.out);replace HB:=Ya (Yg HB.out);have p323:0≤(Xk:Int):=od;have q323:Xk<(l2.length:Int):=od;obtain⟨Jk,e323,hx323_0,hx323_1⟩:=at_T79 HR2.out Xk p323 q323;have Jv:=hx323_1;have Jw:=hx323_0;cases e323;replace hx323_0:=hc HB hx323_0;replace hx323_1:=hc HB hx323_1;replace p323:=eq_true p323;replace q323:=eq_true q323;obtain⟨Ao36,co36,eo36⟩:=Kd.R_slice HO_317000.out
     (first|subst eo36|(injection eo36 with f1_ f2_ f3_;have f4_:=f1_.symm;have f5_:=f3_.symm;clear f1_ f2_ f3_;subst f4_;subst f5_))
     have p325:0≤(Zn:Int):=od;have q325:Zn<(Xa.length:Int):=od;obtain⟨ad325,e325,hx325_0⟩:=Kd.at_int (Kd.R_reads' HO_317000.out).2.2 Zn p325 q325;cases e325;replace p325:=eq_true p325;replace q325:=eq_true q325;have p326:0≤(Xk:Int):=od;have q326:Xk<(l2.length:Int):=od;obtain⟨ad326,e326,hx326_0,hx326_1⟩:=at_T79 HR2.out Xk p326 q326;have hw326_1:=hx326_1;have hw326_0:=hx326_0;obtain rfl:Jk=ad326:=(by injection e326);replace hx326_0:=hc HB hx326_0;replace hx326_1:=hc HB hx326_1;replace p326:=eq_true p326;replace q326:=eq_true q326;refine start_ (n:=23) (S:=fun w'=>w'.cell? ⟨gb314,0,none⟩=some (.int .i64 Zb)∧w'.cell? ⟨gb314,1,none⟩=some (.bool Zc)∧w'.cell? ⟨gb314,2,none⟩=some (.slice Ze Za.length Zd)∧w'.cell? ⟨Wq,0,none⟩=some (.slice (some ad325) Xa.length co36)∧w'.cell? ⟨Wq,1,none⟩=some (u317001)∧w'.cell? (Jk.add ((Xk).toNat * 2))=some (.int .i64 ((rd_T79 l2 Xk).f0))∧w'.cell? ⟨(Jk.add ((Xk).toNat * 2)).block,(Jk.add ((Xk).toNat * 2)).off+1,none⟩=some (.bool ((rd_T79 l2 Xk).f1))∧w'.cell? (ad325.add (Zn).toNat)=some (.int .i64 (rd Xa Zn))∧w'.cell? (Jk.add ((Xk).toNat * 2))=some (.int .i64 ((rd_T79 l2 Xk).f0))∧w'.cell? ⟨(Jk.add ((Xk).toNat * 2)).block,(Jk.add ((Xk).toNat * 2)).off+1,none⟩=some (.bool ((rd_T79 l2 Xk).f1))) (ds:=[]) #[false,false,false,false,false,false,false,false,false,false,false,false,false,false,false,false,false,false,false,false,false,false,false] (by kernel_rfl) rfl rfl ⟨(Yc Zv.out 0).trans rfl,(Yc Zv.out 1).trans rfl,(Yc Zv.out 2).trans rfl,(Yc Zt.out 0).trans rfl,(Yc Zt.out 1).trans rfl,((HB.out.cell (Yb w _ Jw)).trans Jw),((HB.out.cell (Yb w _ Jv)).trans Jv),hx325_0,((HB.out.cell (Yb w _ hw326_0)).trans hw326_0),((HB.out.cell (Yb w _ hw326_1)).trans hw326_1)⟩ (fun hHeld=> ?_);refine with_tabW ebbtideref08_sought.tab10 ebbtideref08_sought.bits10 (fun HT_ HW_=> ?_);generalize wr.drew=w35 at HO_317000 HO_317001 Zv Xm Zt HB hx323_0 hx323_1 hx325_0 hx326_0 hx326_1 hHeld ⊢;refine pu 1 36 (bm 23 2) ?_;refine pu 2 37 (bm 23 6) ?_;refine pu 3 38 (bm 23 14) ?_;refine pu 6 41 (bm 23 78) ?_;refine pu 8 43 (bm 23 334) ?_;refine ta 0 35 (bm 23 335) hHeld ?_;refine ta 4 39 (bm 23 351) hHeld ?_;refine ta 7 42 (bm 23 479) hHeld ?_;refine pu 9 44 (bm 23 991) ?_;refine ta 10 45 (bm 23 2015) hHeld ?_;refine on 5 (some 40) (bm 23 2047) fun K hK=> ?_
     refine gs Try.func42 #[.agg #[.int .i64 Zb, .bool Zc, .slice Ze Za.length Zd], .agg #[.int .i64 ((rd_T79 l2 Xk).f0), .bool ((rd_T79 l2 Xk).f1)]] ?_
     with_reducible refine(ebbtideref07_From.calls Zb Zc _ _ Za ((rd_T79 l2 Xk).f0) ((rd_T79 l2 Xk).f1) t324 _ ?side1 ?side2 A25.out).mono ?_
     (case side1=>exact(Yt Zh.out HB.out))
     (case side2=>exact Zo.out)
     rintro e w37 ⟨rfl,hb⟩;have HS7_:=(hb.cell (Yb _ _ (hHeld.2.2.2.2.2.2.2.1))).trans (hHeld.2.2.2.2.2.2.2.1);refine⟨_,rfl,?_⟩;replace HO_317000:=Ya (Ys HO_317000.out hb);replace HO_317001:=Ya (Ys HO_317001.out hb);replace Zv:=Ya (Yn Zv.out hb);replace Xm:=Ya (Yn Xm.out hb);replace Zt:=Ya (Yn Zt.out hb);replace HB:=Ya (Yk HB.out hb)
     (try clear hb)
     (try clear hb2)
     (try clear hk)
     (try clear hi)
     refine hK.out _ _ ⟨bc Zv 0,bc Zv 1,bc Zv 2,bc Zt 0,bc Zt 1,(hc HB Jw),(hc HB Jv),HS7_,(hc HB hw326_0),(hc HB hw326_1)⟩ (fun hHeld=> ?_);clear hK K;refine nm ?_;refine pu 11 46 (bm 23 4095) ?_;refine pu 12 47 (bm 23 8191) ?_;refine pu 15 50 (bm 23 40959) ?_;refine pu 16 51 (bm 23 106495) ?_;refine pu 17 52 (bm 23 237567) ?_;refine ta 13 48 (bm 23 245759) hHeld ?_;refine ta 14 49 (bm 23 262143) hHeld ?_;refine ta 18 53 (bm 23 524287) hHeld ?_;refine on 19 (some 54) (bm 23 1048575) fun K hK=> ?_
     refine gs Try.func43 #[.agg #[.int .i64 Zb, .bool Zc, .slice Ze Za.length Zd], .agg #[.int .i64 ((rd_T79 l2 Xk).f0), .bool ((rd_T79 l2 Xk).f1)]] ?_
     with_reducible refine(ebbtideref07_To.calls Zb Zc _ _ Za ((rd_T79 l2 Xk).f0) ((rd_T79 l2 Xk).f1) t327 _ ?side1 ?side2 A29.out).mono ?_
     (case side1=>exact(Yt Zh.out HB.out))
     (case side2=>exact Zo.out)
     rintro e w38 ⟨rfl,hb⟩;have HS7_:=(hb.cell (Yb _ _ (hHeld.2.2.2.2.2.2.2.1))).trans (hHeld.2.2.2.2.2.2.2.1);refine⟨_,rfl,?_⟩;replace HO_317000:=Ya (Ys HO_317000.out hb);replace HO_317001:=Ya (Ys HO_317001.out hb);replace Zv:=Ya (Yn Zv.out hb);replace Xm:=Ya (Yn Xm.out hb);replace Zt:=Ya (Yn Zt.out hb);replace HB:=Ya (Yk HB.out hb)
     (try clear hb)
     (try clear hb2)
     (try clear hk)
     (try clear hi)
     obtain⟨Ao39,co39,eo39⟩:=Kd.R_slice HO_317001.out
     (first|subst eo39|(injection eo39 with f1_ f2_ f3_;have f4_:=f1_.symm;have f5_:=f3_.symm;clear f1_ f2_ f3_;subst f4_;subst f5_))
     refine hK.out _ _ ⟨bc Zv 0,bc Zv 1,bc Zv 2,bc Zt 0,bc Zt 1,(hc HB Jw),(hc HB Jv),HS7_,(hc HB hw326_0),(hc HB hw326_1)⟩ (fun hHeld=> ?_);clear hK K;refine nm ?_;refine on 20 (some 55) (bm 23 2097151) fun K hK=> ?_
     refine gs Try.func78 #[.agg #[.slice (some ad325) Xa.length co36, .slice Ao39 Xw.length co39], .int .i64 t327] ?_
     with_reducible refine(ebbtideref08_found_has.calls k2 _ _ Xa _ _ Xw t327 t328 _ ?side1 ?side2 ?side3 ?side4 A30.out).mono ?_
     (case side1=>exact(Kd.R_reads' HO_317000.out).2.2)
     (case side2=>exact(Kd.R_reads' HO_317000.out).2.1)
     (case side3=>exact(Kd.R_reads' HO_317001.out).2.2)
     (case side4=>exact(Kd.R_reads' HO_317001.out).2.1)
     rintro e w40 ⟨rfl,hb⟩;have HS7_:=(hb.cell (Yb _ _ (hHeld.2.2.2.2.2.2.2.1))).trans (hHeld.2.2.2.2.2.2.2.1);refine⟨_,rfl,?_⟩;replace HO_317000:=Ya (Ys HO_317000.out hb);replace HO_317001:=Ya (Ys HO_317001.out hb);replace Zv:=Ya (Yn Zv.out hb);replace Xm:=Ya (Yn Xm.out hb);replace Zt:=Ya (Yn Zt.out hb);replace HB:=Ya (Yk HB.out hb)
     (try clear hb)
     (try clear hb2)
     (try clear hk)
     (try clear hi)
     refine hK.out _ _ ⟨bc Zv 0,bc Zv 1,bc Zv 2,bc Zt 0,bc Zt 1,(hc HB Jw),(hc HB Jv),HS7_,(hc HB hw326_0),(hc HB hw326_1)⟩ (fun hHeld=> ?_);clear hK K;refine nm ?_;refine pu 21 56 (bm 23 4194303) ?_;refine pu 22 57 (bm 23 8388607) ?_;refine done_ (done_of HT_.out (by kernel_rfl)) ?_;try go_wp2
     replace HO_317000:=Ya (Yp HO_317000.out);replace HO_317001:=Ya (Yp HO_317001.out);replace Zv:=Ya (Ym Zv.out);replace Xm:=Ya (Ym Xm.out);replace Zt:=Ya (Ym Zt.out);replace HB:=Ya (Yg HB.out);have p329:0≤(Xk:Int):=od;have q329:Xk<(l2.length:Int):=od;obtain⟨ad329,e329,hx329_0,hx329_1⟩:=at_T79 HR2.out Xk p329 q329;have hw329_1:=hx329_1;have hw329_0:=hx329_0;obtain rfl:Jk=ad329:=(by injection e329);replace hx329_0:=hc HB hx329_0;replace hx329_1:=hc HB hx329_1;replace p329:=eq_true p329;replace q329:=eq_true q329;refine start_ (n:=12) (S:=fun w'=>w'.cell? ⟨Wq,0,none⟩=some (.slice (some ad325) Xa.length co36)∧w'.cell? ⟨Wq,1,none⟩=some (.slice Ao39 Xw.length co39)∧w'.cell? ⟨gb314,0,none⟩=some (.int .i64 Zb)∧w'.cell? ⟨gb314,1,none⟩=some (.bool Zc)∧w'.cell? ⟨gb314,2,none⟩=some (.slice Ze Za.length Zd)∧w'.cell? (Jk.add ((Xk).toNat * 2))=some (.int .i64 ((rd_T79 l2 Xk).f0))∧w'.cell? ⟨(Jk.add ((Xk).toNat * 2)).block,(Jk.add ((Xk).toNat * 2)).off+1,none⟩=some (.bool ((rd_T79 l2 Xk).f1))) (ds:=[11]) #[false,false,false,false,false,false,false,false,false,false,false,false] (by kernel_rfl) rfl rfl ⟨(Yc Zt.out 0).trans rfl,(Yc Zt.out 1).trans rfl,(Yc Zv.out 0).trans rfl,(Yc Zv.out 1).trans rfl,(Yc Zv.out 2).trans rfl,((HB.out.cell (Yb w _ hw329_0)).trans hw329_0),((HB.out.cell (Yb w _ hw329_1)).trans hw329_1)⟩ (fun hHeld=> ?_);refine with_tabW ebbtideref08_sought.tab11 ebbtideref08_sought.bits11 (fun HT_ HW_=> ?_);generalize w40.drew=w41 at HO_317000 HO_317001 Zv Xm Zt HB hx329_0 hx329_1 hHeld ⊢;refine pu 0 58 (bm 12 1) ?_;refine pu 3 61 (bm 12 9) ?_;refine pu 4 62 (bm 12 25) ?_;refine pu 5 63 (bm 12 57) ?_;refine ta 1 59 (bm 12 59) hHeld ?_;refine ta 2 60 (bm 12 63) hHeld ?_;refine ta 6 64 (bm 12 127) hHeld ?_;refine on 7 (some 65) (bm 12 255) fun K hK=> ?_
     refine gs Try.func43 #[.agg #[.int .i64 Zb, .bool Zc, .slice Ze Za.length Zd], .agg #[.int .i64 ((rd_T79 l2 Xk).f0), .bool ((rd_T79 l2 Xk).f1)]] ?_
     with_reducible refine(ebbtideref07_To.calls Zb Zc _ _ Za ((rd_T79 l2 Xk).f0) ((rd_T79 l2 Xk).f1) t330 _ ?side1 ?side2 A32.out).mono ?_
     (case side1=>exact(Yt Zh.out HB.out))
     (case side2=>exact Zo.out)
     rintro e w42 ⟨rfl,hb⟩;refine⟨_,rfl,?_⟩;replace HO_317000:=Ya (Ys HO_317000.out hb);replace HO_317001:=Ya (Ys HO_317001.out hb);replace Zv:=Ya (Yn Zv.out hb);replace Xm:=Ya (Yn Xm.out hb);replace Zt:=Ya (Yn Zt.out hb);replace HB:=Ya (Yk HB.out hb)
     (try clear hb)
     (try clear hb2)
     (try clear hk)
     (try clear hi)
     refine hK.out _ _ ⟨bc Zt 0,bc Zt 1,bc Zv 0,bc Zv 1,bc Zv 2,(hc HB hw329_0),(hc HB hw329_1)⟩ (fun hHeld=> ?_);clear hK K;refine nm ?_;refine on 8 (some 66) (bm 12 511) fun K hK=> ?_
     refine value_ (w1:= ?_) (v:= ?_) (by rfl) rfl ?_ ?_
     rotate_left 2
     ·go_simp
      constructor
      ·rfl
      ·rfl
     refine hK.out _ _ ⟨(Yc (Yj Zt.out _) 0).trans rfl,(Yc (Yj Zt.out _) 1).trans rfl,(Yc (Yj Zv.out _) 0).trans rfl,(Yc (Yj Zv.out _) 1).trans rfl,(Yc (Yj Zv.out _) 2).trans rfl,(World.cell?_alloc_lt _ _ _ (Yb _ _ ((hc HB hw329_0)))).trans ((hc HB hw329_0)),(World.cell?_alloc_lt _ _ _ (Yb _ _ ((hc HB hw329_1)))).trans ((hc HB hw329_1))⟩ (fun hHeld=> ?_);clear hK K;refine nm ?_;refine on 9 (some 67) (bm 12 1023) fun K hK=> ?_
     refine Kd.R_append_step (Kd.int .i64) (w0:=w) w.heap.size (by rfl) (.tmp 59) (.tmp 66) 31 3 (.int .i64 0) 8 rfl Try.underlying31 info3 rfl (by decide) (by omega) (.slice (some ad325) Xa.length co36) Xa t330 [.int .i64 t330] (fun _=>True) (fun _=>False) rfl rfl ?aP (fun _ hk=>hk.elim) ?aF ?aO ?aB ?aS ?aL ?_
     (case aP=>exact rfl)
     (case aB=>exact HB.out)
     (case aF=>exact(fun _ _=>trivial))
     (case aO=>exact HO_317000.out)
     (case aS=>exact(Yi HB.out))
     (case aL=>have:=LMc33.out;omega)
     intro v332 w43 ho hb hg hat
     rw[← Ny331.out] at ho;replace HO_317001:=Ya (Kd.R_over' HO_317001.out (Kd.R_typed HO_317000.out) (by decide) hg);replace Zv:=Ya (blk_grown Zv.out hg (Kd.R_ne HO_317000.out Zv.out (by decide)));replace Xm:=Ya (blk_grown Xm.out hg (Kd.R_ne HO_317000.out Xm.out (by decide)));replace Zt:=Ya (blk_grown Zt.out hg (Kd.R_ne HO_317000.out Zt.out (by decide)));replace HB:=Ya (hb);have HO333:=Ya (ho);clear HO_317000;clear ho hb hg hat
     obtain⟨Ao44,co44,eo44⟩:=Kd.R_slice HO333.out
     (first|subst eo44|(injection eo44 with f1_ f2_ f3_;have f4_:=f1_.symm;have f5_:=f3_.symm;clear f1_ f2_ f3_;subst f4_;subst f5_))
     refine hK.out _ _ ⟨bc Zt 0,bc Zt 1,bc Zv 0,bc Zv 1,bc Zv 2,(hc HB hw329_0),(hc HB hw329_1)⟩ (fun hHeld=> ?_);clear hK K;refine nm ?_;refine pu 10 68 (bm 12 2047) ?_;refine last_ (i:=11) (N:=none) #[true,true,true,true,true,true,true,true,true,true,true,true] rfl rfl (one_of HT_.out (by kernel_rfl)) (by decide) (fun K hK=> ?_);have hs45:w43.cell? ⟨Wq,0,none⟩=some (.slice (some ad325) Xa.length co36):=bc Zt 0;have hfs45:=Yf Zt.out 0;have hns45_0:=NB314_316.out;have hns45_1:=NB315_316.out;have hms45_0:=NB316_314.out;have hms45_1:=NB316_315.out;refine skip_ (w1:= ?_) (by rfl) rfl ?_ ?_
     rotate_left
     ·go_simp
      rfl
     refine hK.out _ _ ?_;clear hK K;refine done_ (done_of HT_.out (by kernel_rfl)) ?_;try go_wp2
     have n0_:Aside0 (Kd.R k79 79 (w43.setCell ⟨Wq,0,none⟩ (.slice Ao44 y331.length co44)) w.heap.size (fun _=>True) (.slice Ao39 Xw.length co39) Xw):=⟨by(with_reducible repeat(first|apply Yr|apply Yq|apply Yp));exact Kd.R_mono (Kd.R_far (p:=⟨Wq,0,none⟩) (Kd.R_types HO_317001.out Zt.out (by decide)) (fun _ hk=>hk.2) (.slice Ao44 y331.length co44)) (fun _ hk=>trivial)⟩;have n1_:Aside0 (Kd.R (Kd.int .i64) 3 (w43.setCell ⟨Wq,0,none⟩ (.slice Ao44 y331.length co44)) w.heap.size (fun _=>True) (.slice Ao44 y331.length co44) y331):=⟨by(with_reducible repeat(first|apply Yr|apply Yq|apply Yp));exact Kd.R_mono (Kd.R_far (p:=⟨Wq,0,none⟩) (Kd.R_types HO333.out Zt.out (by decide)) (fun _ hk=>hk.2) (.slice Ao44 y331.length co44)) (fun _ hk=>trivial)⟩;have n2_:Aside0 ((w43.setCell ⟨Wq,0,none⟩ (.slice Ao44 y331.length co44)).heap[gb314]? =some (.cells #[.int .i64 Zb, .bool Zc, .slice Ze Za.length Zd] 24 (0,0))):=⟨by(with_reducible repeat(first|refine Yl ?_ _|refine Ym ?_|refine Yj ?_ _));refine blk_far ?_ NB314_316.out _;(with_reducible repeat(first|refine Yl ?_ _|refine Ym ?_|refine Yj ?_ _));exact Zv.out⟩;have n3_:Aside0 ((w43.setCell ⟨Wq,0,none⟩ (.slice Ao44 y331.length co44)).heap[gb315]? =some (.cells #[.slice none 0 0, .slice none 0 0] 119 (0,0))):=⟨by(with_reducible repeat(first|refine Yl ?_ _|refine Ym ?_|refine Yj ?_ _));refine blk_far ?_ NB315_316.out _;(with_reducible repeat(first|refine Yl ?_ _|refine Ym ?_|refine Yj ?_ _));exact Xm.out⟩;have n4_:Aside0 ((w43.setCell ⟨Wq,0,none⟩ (.slice Ao44 y331.length co44)).heap[Wq]? =some (.cells #[.slice Ao44 y331.length co44, .slice Ao39 Xw.length co39] 119 (0,0))):=⟨by(with_reducible repeat(first|refine Yl ?_ _|refine Ym ?_|refine Yj ?_ _));refine YA (cs:= #[.slice (some ad325) Xa.length co36, .slice Ao39 Xw.length co39]) ?_ 0 _ rfl;(with_reducible repeat(first|refine Yl ?_ _|refine Ym ?_|refine Yj ?_ _));exact Zt.out⟩;have n5_:Aside0 (Below w.heap.size w (w43.setCell ⟨Wq,0,none⟩ (.slice Ao44 y331.length co44))):=⟨bl⟩
     (try clear HO_317001)
     (try clear HO333)
     (try clear Zv)
     (try clear Xm)
     (try clear Zt)
     (try clear HB)
     generalize (w43.setCell ⟨Wq,0,none⟩ (.slice Ao44 y331.length co44))=w46 at n0_ n1_ n2_ n3_ n4_ n5_ ⊢;have HO_317001:=n0_;have HO333:=n1_;have Zv:=n2_;have Xm:=n3_;have Zt:=n4_;have HB:=n5_;clear n0_ n1_ n2_ n3_ n4_ n5_;replace HO_317001:=Ya (Yp HO_317001.out);replace HO333:=Ya (Yp HO333.out);replace Zv:=Ya (Ym Zv.out);replace Xm:=Ya (Ym Xm.out);replace Zt:=Ya (Ym Zt.out);replace HB:=Ya (Yg HB.out);have p334:0≤(Xk:Int):=od;have q334:Xk<(l2.length:Int):=od;obtain⟨ad334,e334,hx334_0,hx334_1⟩:=at_T79 HR2.out Xk p334 q334;have hw334_1:=hx334_1;have hw334_0:=hx334_0;obtain rfl:Jk=ad334:=(by injection e334);replace hx334_0:=hc HB hx334_0;replace hx334_1:=hc HB hx334_1;replace p334:=eq_true p334;replace q334:=eq_true q334;refine start_ (n:=10) (S:=fun w'=>w'.cell? ⟨Wq,0,none⟩=some (.slice Ao44 y331.length co44)∧w'.cell? ⟨Wq,1,none⟩=some (.slice Ao39 Xw.length co39)∧w'.cell? (Jk.add ((Xk).toNat * 2))=some (.int .i64 ((rd_T79 l2 Xk).f0))∧w'.cell? ⟨(Jk.add ((Xk).toNat * 2)).block,(Jk.add ((Xk).toNat * 2)).off+1,none⟩=some (.bool ((rd_T79 l2 Xk).f1))) (ds:=[9]) #[false,false,false,false,false,false,false,false,false,false] (by kernel_rfl) rfl rfl ⟨(Yc Zt.out 0).trans rfl,(Yc Zt.out 1).trans rfl,((HB.out.cell (Yb w _ hw334_0)).trans hw334_0),((HB.out.cell (Yb w _ hw334_1)).trans hw334_1)⟩ (fun hHeld=> ?_);refine with_tabW ebbtideref08_sought.tab12 ebbtideref08_sought.bits12 (fun HT_ HW_=> ?_);generalize w46.drew=w47 at HO_317001 HO333 Zv Xm Zt HB hx334_0 hx334_1 hHeld ⊢;refine pu 0 69 (bm 10 1) ?_;refine pu 2 71 (bm 10 5) ?_;refine pu 3 72 (bm 10 13) ?_;refine pu 4 73 (bm 10 29) ?_;refine ta 1 70 (bm 10 31) hHeld ?_;refine ta 5 74 (bm 10 63) hHeld ?_;refine on 6 (some 75) (bm 10 127) fun K hK=> ?_
     refine value_ (w1:= ?_) (v:= ?_) (by rfl) rfl ?_ ?_
     rotate_left 2
     ·go_simp
      constructor
      ·rfl
      ·rfl
     refine hK.out _ _ ⟨(Yc (Yj Zt.out _) 0).trans rfl,(Yc (Yj Zt.out _) 1).trans rfl,(World.cell?_alloc_lt _ _ _ (Yb _ _ ((hc HB hw334_0)))).trans ((hc HB hw334_0)),(World.cell?_alloc_lt _ _ _ (Yb _ _ ((hc HB hw334_1)))).trans ((hc HB hw334_1))⟩ (fun hHeld=> ?_);clear hK K;refine nm ?_;refine on 7 (some 76) (bm 10 255) fun K hK=> ?_
     refine Kd.R_append_step k79 (w0:=w) w.heap.size (by rfl) (.tmp 70) (.tmp 75) 67 79 (.agg #[(.int .i64 0),(.bool false)]) 16 rfl Try.underlying67 info79 rfl (by decide) (by omega) (.slice Ao39 Xw.length co39) Xw (⟨(rd_T79 l2 Xk).f0,(rd_T79 l2 Xk).f1⟩:S79) [.int .i64 ((rd_T79 l2 Xk).f0), .bool ((rd_T79 l2 Xk).f1)] (fun _=>True) (fun _=>False) rfl rfl ?aP (fun _ hk=>hk.elim) ?aF ?aO ?aB ?aS ?aL ?_
     (case aP=>exact k79_mkM _ _ _ (⟨(rd_T79 l2 Xk).f0,(rd_T79 l2 Xk).f1⟩:S79))
     (case aB=>exact HB.out)
     (case aF=>exact(fun _ _=>trivial))
     (case aO=>exact HO_317001.out)
     (case aS=>exact(Yi HB.out))
     (case aL=>have:=LMc34.out;omega)
     intro v336 w48 ho hb hg hat
     rw[← Ny335.out] at ho;replace Zv:=Ya (blk_grown Zv.out hg (Kd.R_ne HO_317001.out Zv.out (by decide)));replace Xm:=Ya (blk_grown Xm.out hg (Kd.R_ne HO_317001.out Xm.out (by decide)));replace Zt:=Ya (blk_grown Zt.out hg (Kd.R_ne HO_317001.out Zt.out (by decide)));replace HO333:=Ya (Kd.R_over' HO333.out (Kd.R_typed HO_317001.out) (by decide) hg);replace HB:=Ya (hb);have HO337:=Ya (ho);clear HO_317001;clear ho hb hg hat
     obtain⟨Ao49,co49,eo49⟩:=Kd.R_slice HO337.out
     (first|subst eo49|(injection eo49 with f1_ f2_ f3_;have f4_:=f1_.symm;have f5_:=f3_.symm;clear f1_ f2_ f3_;subst f4_;subst f5_))
     refine hK.out _ _ ⟨bc Zt 0,bc Zt 1,(hc HB hw334_0),(hc HB hw334_1)⟩ (fun hHeld=> ?_);clear hK K;refine nm ?_;refine pu 8 77 (bm 10 511) ?_;refine last_ (i:=9) (N:=none) #[true,true,true,true,true,true,true,true,true,true] rfl rfl (one_of HT_.out (by kernel_rfl)) (by decide) (fun K hK=> ?_);have hs50:w48.cell? ⟨Wq,1,none⟩=some (.slice Ao39 Xw.length co39):=bc Zt 1;have hfs50:=Yf Zt.out 1;have hns50_0:=NB314_316.out;have hns50_1:=NB315_316.out;have hms50_0:=NB316_314.out;have hms50_1:=NB316_315.out;refine skip_ (w1:= ?_) (by rfl) rfl ?_ ?_
     rotate_left
     ·go_simp
      rfl
     refine hK.out _ _ ?_;clear hK K;refine done_ (done_of HT_.out (by kernel_rfl)) ?_;try go_wp2
     go_roundg k2
     case measure=>have:=HK1.out;have:=HK2.out;omega
     case rel=>exact⟨(wrap64 (Xk+1)),(y331),(y335),(.slice Ao44 y331.length co44),(.slice Ao49 y335.length co49),(by first|rfl|(simp;done)|(simp[*];done)),H',⟨by have:=HK1.out;have:=HK2.out;omega⟩,⟨by(with_reducible repeat(first|apply Yr|apply Yq|apply Yp));exact Kd.R_mono (Kd.R_far (p:=⟨Wq,1,none⟩) (Kd.R_types HO333.out Zt.out (by decide)) (fun _ hk=>hk.2) (.slice Ao49 y335.length co49)) (fun _ hk=>trivial)⟩,⟨by(with_reducible repeat(first|apply Yr|apply Yq|apply Yp));exact Kd.R_mono (Kd.R_far (p:=⟨Wq,1,none⟩) (Kd.R_types HO337.out Zt.out (by decide)) (fun _ hk=>hk.2) (.slice Ao49 y335.length co49)) (fun _ hk=>trivial)⟩,⟨by(with_reducible repeat(first|refine Yl ?_ _|refine Ym ?_|refine Yj ?_ _));refine blk_far ?_ NB314_316.out _;(with_reducible repeat(first|refine Yl ?_ _|refine Ym ?_|refine Yj ?_ _));exact Zv.out⟩,⟨by(with_reducible repeat(first|refine Yl ?_ _|refine Ym ?_|refine Yj ?_ _));refine blk_far ?_ NB315_316.out _;(with_reducible repeat(first|refine Yl ?_ _|refine Ym ?_|refine Yj ?_ _));exact Xm.out⟩,⟨by(with_reducible repeat(first|refine Yl ?_ _|refine Ym ?_|refine Yj ?_ _));refine YA (cs:= #[.slice Ao44 y331.length co44, .slice Ao39 Xw.length co39]) ?_ 1 _ rfl;(with_reducible repeat(first|refine Yl ?_ _|refine Ym ?_|refine Yj ?_ _));exact Zt.out⟩,⟨bl⟩⟩
end P
namespace H
open P Q
def esL (l:List S50) (L:List S79) (u:Nat):List S79:=L.filter fun e=>decide (stFrom l e=(u:Int))
def bfL (l:List S50) (L:List S79) (n s:Nat):List (Fd S79):=bfsN (toP l) (esL l L) z79 n s
theorem es_same (l:List S50) (F:List Int) (u:Nat) (k:Nat):(stL l u k).filter (fun e=>decide (0<stRoom l F e))=(stepsR l F k).filter (fun e=>decide (stFrom l e=(u:Int))):=by
 induction k with
 |zero=>rfl
 |succ k ih=>
  unfold stL stepsR;rw[List.filter_append,List.filter_append,List.filter_append,List.filter_append,ih];congr 1
  ·congr 1
   have e1:stRoom l F ⟨(k:Int),false⟩=(rd_T50 l k).f2 - F.getD k 0:=by unfold stRoom;simp
   have e2:stFrom l ⟨(k:Int),false⟩=eFrom (rd_T50 l k):=rfl;by_cases h1:eFrom (rd_T50 l k)=(u:Int)<;>by_cases h2:F.getD k 0<(rd_T50 l k).f2
   ·rw[Yx h1,Yx h2,List.filter_cons,List.filter_cons,Yx (by rw[decide_eq_true_eq,e1];omega),Yx (by rw[decide_eq_true_eq,e2];exact h1)];rfl
   ·rw[Yx h1,Yy h2,List.filter_cons,Yy (by rw[decide_eq_true_eq,e1];omega)];rfl
   ·rw[Yy h1,Yx h2,List.filter_cons,Yy (by rw[decide_eq_true_eq,e2];exact h1)];rfl
   ·rw[Yy h1,Yy h2];rfl
  ·have e1:stRoom l F ⟨(k:Int),true⟩=F.getD k 0:=by unfold stRoom;simp
   have e2:stFrom l ⟨(k:Int),true⟩=eTo (rd_T50 l k):=rfl;by_cases h1:eTo (rd_T50 l k)=(u:Int)<;>by_cases h2:0<F.getD k 0
   ·rw[Yx h1,Yx h2,List.filter_cons,List.filter_cons,Yx (by rw[decide_eq_true_eq,e1];omega),Yx (by rw[decide_eq_true_eq,e2];exact h1)];rfl
   ·rw[Yx h1,Yy h2,List.filter_cons,Yy (by rw[decide_eq_true_eq,e1];omega)];rfl
   ·rw[Yy h1,Yx h2,List.filter_cons,Yy (by rw[decide_eq_true_eq,e2];exact h1)];rfl
   ·rw[Yy h1,Yy h2];rfl
def hasI (X:List Int) (a:Int) (i:Nat):Int:=if a∈X.drop i then((i+(X.drop i).idxOf a:Nat):Int) else -1
theorem has_l0 (X:List Int) (Y:List S79) (a:Int) (hl:X.length≤1000000) (d:Nat): ∀ i:Nat,i+d=X.length→Ev (fun k=>ebbtideref08_found_has.l0 k a (i:Int) X Y) (hasI X a i):=by
 induction d with
 |zero=>
  intro i hi;refine Ev.succ ?_;simp only[ebbtideref08_found_has.l0];refine Ev.neg (by omega) ?_;exact Ev.done (by unfold hasI;rw[List.drop_of_length_le (by omega),Yy (by simp)])
 |succ d ih=>
  intro i hi;refine Ev.succ ?_;simp only[ebbtideref08_found_has.l0];refine Ev.pos (by omega) ?_;refine Ev.pos (by omega) ?_;have hd:=drop_getD X i 0 (by omega);rw[rd_nat];refine Ev.ite (fun g=> ?_) (fun g=> ?_)
  ·exact Ev.done (by unfold hasI;rw[hd,g,Yx List.mem_cons_self,List.idxOf_cons_self];rfl)
  ·rw[wrap_succ (n:=X.length) (by omega) (by omega)]
   refine Ev.eq (ih (i+1) (by omega)) ?_;unfold hasI;rw[hd];by_cases hm:a∈X.drop (i+1)
   ·have e3:(X.getD i 0::X.drop (i+1)).idxOf a=(X.drop (i+1)).idxOf a+1:=by
     rw[List.idxOf_cons];have:(X.getD i 0 == a)=false:=beq_eq_false_iff_ne.2 g;rw[this];rfl
    rw[Yx hm,Yx (List.mem_cons_of_mem _ hm),e3];omega
   ·rw[Yy hm,Yy (by intro h;rcases List.mem_cons.1 h with h|h;exact g h.symm;exact hm h)]
theorem has_ev (X:List Int) (Y:List S79) (a:Int) (hl:X.length≤1000000):Ev (fun k=>ebbtideref08_found_has.f k X Y a) (hasI X a 0):=by
 unfold ebbtideref08_found_has.f;exact has_l0 X Y a hl X.length 0 (by omega)
def nX (st:List (Fd S79)):List Int:=(nodes st).map fun v:Nat=>(v:Int)
def bY (st:List (Fd S79)):List S79:=st.map Fd.by_
theorem nX_len (st:List (Fd S79)):(nX st).length=st.length:=by simp[nX,nodes]
theorem bY_len (st:List (Fd S79)):(bY st).length=st.length:=by simp[bY]
theorem nX_snoc (st:List (Fd S79)) (x:Fd S79):nX (st ++ [x])=nX st ++ [(x.v:Int)]:=by simp[nX,nodes]
theorem bY_snoc (st:List (Fd S79)) (x:Fd S79):bY (st ++ [x])=bY st ++ [x.by_]:=by simp[bY]
theorem mem_nX {st:List (Fd S79)} {v:Nat} :(v:Int)∈nX st↔v∈nodes st:=by
 unfold nX;rw[List.mem_map];constructor
 ·rintro⟨u,hu,e⟩
  have:u=v:=by omega
  rw[← this];exact hu
 ·intro h;exact⟨v,h,rfl⟩
theorem hasI_neg {st:List (Fd S79)} {v:Nat} :hasI (nX st) (v:Int) 0<0↔v ∉ nodes st:=by
 unfold hasI;rw[List.drop_zero];by_cases h:v∈nodes st
 ·rw[Yx (mem_nX.2 h)]
  constructor
  ·intro h2;omega
  ·intro h2;exact absurd h h2
 ·rw[Yy (fun h2=>h (mem_nX.1 h2))]
  simp[h]
theorem nX_get {st:List (Fd S79)} {i:Nat} {x:Fd S79} (h:st[i]? =some x):rd (nX st) (i:Int)=(x.v:Int):=by
 rw[rd_nat,List.getD_eq_getElem?_getD];unfold nX nodes;rw[List.getElem?_map,List.getElem?_map,h];rfl
structure StepsOk (l:List S50) (n:Nat) (L:List S79):Prop where
 ends:ends l n
 arcs:l.length≤200
 of: ∀ s,s∈L→StepOf l s
 len:L.length≤400
section
variable {l:List S50} {n:Nat} {L:List S79}
theorem StepsOk.to_in (h:StepsOk l n L) {s:S79} (hs:s∈L):0≤stTo l s∧stTo l s<n:=by
 obtain⟨i,h1,h2⟩:=h.of s hs;have:=h.ends i h1;unfold stTo;rw[h2];split
 ·exact this.1
 ·exact this.2
theorem StepsOk.from_in (h:StepsOk l n L) {s:S79} (hs:s∈L):0≤stFrom l s∧stFrom l s<n:=by
 obtain⟨i,h1,h2⟩:=h.of s hs;have:=h.ends i h1;unfold stFrom;rw[h2];split
 ·exact this.2
 ·exact this.1
theorem esL_to (h:StepsOk l n L): ∀ (u:Nat) (e:S79),e∈esL l L u→toP l e<n:=by
 intro u e he;have:=h.to_in (List.mem_filter.1 he).1;unfold toP;omega
theorem esL_fr: ∀ (u:Nat) (e:S79),e∈esL l L u→frP l e=u:=by
 intro u e he;have h:=Yu (List.mem_filter.1 he).2;unfold frP;rw[h,Int.toNat_natCast]
theorem rfrom_ok (h:StepsOk l n L) {s:S79} (hs:s∈L) (a:Int) (b:Bool):ebbtideref07_From.f a b l s.f0 s.f1=some (stFrom l s):=by
 obtain⟨i,h1,h2⟩:=h.of s hs;unfold ebbtideref07_From.f stFrom eFrom eTo;rw[h2];cases s.f1<;>simp[h1]
theorem rto_ok (h:StepsOk l n L) {s:S79} (hs:s∈L) (a:Int) (b:Bool):ebbtideref07_To.f a b l s.f0 s.f1=some (stTo l s):=by
 obtain⟨i,h1,h2⟩:=h.of s hs;unfold ebbtideref07_To.f stTo eFrom eTo;rw[h2];cases s.f1<;>simp[h1]
theorem sought_l1 (h:StepsOk l n L) (hn:n≤50) (a:Int) (b:Bool) {s i:Nat} (hs:s<n) {x:Fd S79} {R:List Int × List S79} (d:Nat): ∀ (j:Nat) (stj:List (Fd S79)),j+d=L.length→Fds (frP l) (toP l) (esL l L) s stj→stj[i]? =some x→(∀ y,y∈stj→y.lv≤x.lv+1)→
  Ev (fun k=>ebbtideref08_sought.l0 k L ((i+1:Nat):Int) a b l (nX (((L.drop j).filter fun e=>decide (stFrom l e=(x.v:Int))).foldl (vis (toP l) x.lv) stj)) (bY (((L.drop j).filter fun e=>decide (stFrom l e=(x.v:Int))).foldl (vis (toP l) x.lv) stj))) R→
  Ev (fun k=>ebbtideref08_sought.l1 k L (i:Int) (j:Int) a b l (nX stj) (bY stj)) R:=by
 induction d with
 |zero=>
  intro j stj hj hf hx hm he;have hil:=(List.getElem?_eq_some_iff.1 hx).1;have hln:=fds_len hf (esL_to h) hs;rw[List.drop_of_length_le (by omega)] at he;refine Ev.succ ?_;simp only[ebbtideref08_sought.l1];refine Ev.neg (by omega) ?_;rw[wrap_succ (n:=51) (by omega) (by omega)];exact he
 |succ d ih=>
  intro j stj hj hf hx hm he;have hil:=(List.getElem?_eq_some_iff.1 hx).1;have hln:=fds_len hf (esL_to h) hs;have hll:=h.len;refine Ev.succ ?_;simp only[ebbtideref08_sought.l1];refine Ev.pos (by omega) ?_;refine Ev.pos (by omega) ?_;have hd:=drop_getD L j z79 (by omega);obtain⟨e,hee⟩: ∃ e,e=L.getD j z79:=⟨_,rfl⟩;have hr:rd_T79 L (j:Int)=e:=by unfold rd_T79;rw[Int.toNat_natCast,hee]
  have hem:e∈L:=by rw[hee];exact getD_mem (by omega)
  rw[hr];rw[hd, ← hee,List.filter_cons] at he;refine Ev.call (rfrom_ok h hem a b) ?_;refine Ev.pos (by omega) ?_;refine Ev.pos (by rw[nX_len];omega) ?_;rw[nX_get hx,wrap_succ (n:=L.length) (by omega) (by omega)];refine Ev.ite (fun g=> ?_) (fun g=> ?_)
  ·rw[Yx (by simpa using g),List.foldl_cons] at he
   have hto:=h.to_in hem;have htp:stTo l e=((toP l e:Nat):Int):=by unfold toP;omega
   refine Ev.call (rto_ok h hem a b) ?_;rw[htp];refine Ev.bind (has_ev (nX stj) (bY stj) _ (by rw[nX_len];omega)) ?_;refine Ev.ite (fun g2=> ?_) (fun g2=> ?_)
   ·have hnm:=hasI_neg.1 g2
    have hv:vis (toP l) x.lv stj e=stj ++ [⟨toP l e,e,x.lv+1⟩]:=by unfold vis;rw[Yy hnm]
    obtain⟨f1,f2⟩:=hf.vis hx hm (List.mem_filter.2 ⟨hem,by simpa using g⟩);rw[hv] at f1 f2 he;refine Ev.call (rto_ok h hem a b) ?_;rw[htp];refine Ev.pos (by rw[nX_len];omega) ?_;refine Ev.pos (by rw[bY_len];omega) ?_;have h2:=ih (j+1) (stj ++ [⟨toP l e,e,x.lv+1⟩]) (by omega) f1 (by rw[List.getElem?_append_left hil];exact hx) f2 he;rw[nX_snoc,bY_snoc] at h2;exact h2
   ·have hmm:toP l e∈nodes stj:=Classical.byContradiction fun hc=>g2 (hasI_neg.2 hc)
    have hv:vis (toP l) x.lv stj e=stj:=by unfold vis;rw[Yx hmm]
    rw[hv] at he;exact ih (j+1) stj (by omega) hf hx hm he
  ·rw[Yy (by simpa using g)] at he
   exact ih (j+1) stj (by omega) hf hx hm he
theorem sought_l0 (h:StepsOk l n L) (hn:n≤50) (a:Int) (b:Bool) {s:Nat} (hs:s<n) (d:Nat): ∀ (i:Nat) (st:List (Fd S79)),Upto (frP l) (toP l) (esL l L) s i st→i+d=n→i≤st.length→
  Ev (fun k=>ebbtideref08_sought.l0 k L (i:Int) a b l (nX st) (bY st)) (nX (bfs (toP l) (esL l L) d i st),bY (bfs (toP l) (esL l L) d i st)):=by
 induction d with
 |zero=>
  intro i st hu hi hil;have hln:=fds_len hu.fds (esL_to h) hs;refine Ev.succ ?_;simp only[ebbtideref08_sought.l0];refine Ev.neg (by rw[nX_len];omega) ?_;exact Ev.now _
 |succ d ih=>
  intro i st hu hi hil;unfold bfs;cases hx:st[i]? with
  |none=>
   have:=List.getElem?_eq_none_iff.1 hx;refine Ev.succ ?_;simp only[ebbtideref08_sought.l0];refine Ev.neg (by rw[nX_len];omega) ?_;exact Ev.now _
  |some x=>
   have hlt:=(List.getElem?_eq_some_iff.1 hx).1;refine Ev.succ ?_;simp only[ebbtideref08_sought.l0];refine Ev.pos (by rw[nX_len];omega) ?_;refine sought_l1 h hn a b hs L.length 0 st (by omega) hu.fds hx (hu.most x hx) ?_;rw[List.drop_zero];have hnx:=hu.next hx
   have hpl:i+1≤(proc (toP l) (esL l L) st x).length:=by
    obtain⟨r,hr⟩:=fold_pre (toP l) x.lv (esL l L x.v) st;unfold proc;rw[hr,List.length_append];omega
   exact ih (i+1) (proc (toP l) (esL l L) st x) hnx (by omega) hpl
theorem sought_ev (h:StepsOk l n L) (hn:n≤50) (b:Bool) {s:Nat} (hs:s<n):Ev (fun k=>ebbtideref08_sought.f k (n:Int) b l (s:Int) L) (nX (bfL l L n s),bY (bfL l L n s)):=by
 unfold ebbtideref08_sought.f;refine Ev.pos (by simp) ?_;refine Ev.pos (by simp) ?_;exact sought_l0 h hn (n:Int) b hs n 0 [⟨s,z79,0⟩] (upto_start _ _ _ _ _) (by omega) (Nat.zero_le _)
end
end H
namespace H
open P Q
attribute [local irreducible] wpQuiet
def wayRes (l:List S50) (L:List S79) (n s:Nat) (t:Int):List S79 × Bool:=if t∈nX (bfL l L n s) then(wayL (frP l) (bfL l L n s) s t.toNat,true) else([],false)
theorem nX_nodup {st:List (Fd S79)} (h:(nodes st).Nodup):(nX st).Nodup:=by
 unfold nX;refine List.pairwise_map.2 (h.imp fun {a b} hab e=>hab ?_);omega
theorem hasI_at {st:List (Fd S79)} (h:(nodes st).Nodup) {i:Nat} {x:Fd S79} (hx:st[i]? =some x):hasI (nX st) (x.v:Int) 0=(i:Int):=by
 have hil:=(List.getElem?_eq_some_iff.1 hx).1;have hm:(x.v:Int)∈nX st:=mem_nX.2 (List.mem_map_of_mem (List.mem_of_getElem? hx));unfold hasI;rw[List.drop_zero,Yx hm,Nat.zero_add];have h1:=List.idxOf_lt_length_of_mem hm;have h2:(nX st)[(nX st).idxOf (x.v:Int)]=(x.v:Int):=List.getElem_idxOf h1;have hi:i<(nX st).length:=by rw[nX_len];exact hil
 have h3:(nX st)[i]'hi=(x.v:Int):=by
  have h4:=nX_get hx;rw[rd_nat,List.getD_eq_getElem?_getD,List.getElem?_eq_getElem hi] at h4;exact h4
 have hp:=List.pairwise_iff_getElem.1 (nX_nodup h);rcases Nat.lt_trichotomy ((nX st).idxOf (x.v:Int)) i with g|g|g
 ·exact absurd (h2.trans h3.symm) (hp _ _ h1 hi g)
 ·rw[g]
 ·exact absurd (h3.trans h2.symm) (hp _ _ hi h1 g)
def wayOk (n:Int) (l:List S50) (L:List S79) (s:Int):Bool:=
 decide (0≤s) && decide (s<n) && decide (n≤50) && decide (l.length≤200) && decide (L.length≤400) && (l.all fun a=>decide (0≤a.f0) && decide (a.f0<n) && decide (0≤a.f1) && decide (a.f1<n)) && (L.all fun e=>decide (0≤e.f0) && decide (e.f0<(l.length:Int)))
theorem wayOk_iff {n:Nat} {l:List S50} {L:List S79} {s:Nat} :wayOk n l L s=true↔StepsOk l n L∧s<n∧n≤50:=by
 unfold wayOk;simp only[Bool.and_eq_true,decide_eq_true_eq,List.all_eq_true];constructor
 ·rintro⟨⟨⟨⟨⟨⟨_,h1⟩,h2⟩,h3⟩,h4⟩,h5⟩,h6⟩
  refine⟨⟨?_,h3,?_,h4⟩,by omega,by omega⟩
  ·intro i hi
   have hg:=h5 _ (List.getElem_mem hi);have e1:rd_T50 l i=l[i]:=by rw[rdArc_nat,List.getD_eq_getElem?_getD,List.getElem?_eq_getElem hi];rfl
   unfold eFrom eTo;rw[e1];omega
  ·intro e he
   have:=h6 e he;exact⟨e.f0.toNat,by omega,by omega⟩
 ·rintro⟨h,h1,h2⟩
  refine⟨⟨⟨⟨⟨⟨by omega,by omega⟩,by omega⟩,h.arcs⟩,h.len⟩,?_⟩,?_⟩
  ·intro a ha
   obtain⟨i,hi,rfl⟩:=List.mem_iff_getElem.1 ha;have hg:=h.ends i hi;have e1:rd_T50 l i=l[i]:=by rw[rdArc_nat,List.getD_eq_getElem?_getD,List.getElem?_eq_getElem hi];rfl
   unfold eFrom eTo at hg;rw[e1] at hg;omega
  ·intro e he
   obtain⟨i,h3,h4⟩:=h.of e he;omega
theorem y_cells {w:World} {base g cap:Nat} {ok:Nat→Prop} {B:List S79} (h:Kd.R k79 79 w base ok (.slice (some ⟨g,0,none⟩) B.length cap) B) {i:Nat} {x:S79} (hx:B[i]? =some x):
  w.cell? ⟨g,i * 2,none⟩=some (.int .i64 x.f0)∧w.cell? ⟨g,i * 2+1,none⟩=some (.bool x.f1):=by
 have hi:=(List.getElem?_eq_some_iff.1 hx).1;obtain⟨c,_,hM,hc,_⟩:=Kd.R_elem h z79 (i:Int) (by omega) (by omega);have hgd:B.getD (i:Int).toNat z79=x:=by rw[Int.toNat_natCast,List.getD_eq_getElem?_getD,hx];rfl
 rw[hgd] at hM;obtain rfl:=k79_openM hM;exact⟨hc 0 _ rfl,hc 1 _ rfl⟩
theorem way_nat (l:List S50) (L:List S79) (n s t:Nat):wayRes l L n s (t:Int)=if t∈nodes (bfL l L n s) then(wayL (frP l) (bfL l L n s) s t,true) else([],false):=by
 unfold wayRes;by_cases h:t∈nodes (bfL l L n s)
 ·rw[Yx (mem_nX.2 h),Yx h,Int.toNat_natCast]
 ·rw[Yy (fun g=>h (mem_nX.1 g)),Yy h]
set_option maxHeartbeats 2000000 in
set_option maxRecDepth 100000 in
theorem way_ref (n0:Nat) (Zc:Bool) (A2:Option Addr) (c2:Nat) (l:List S50) (s:Nat) (t:Int) (A3:Option Addr) (c3:Nat) (L:List S79) (w:World)
  (hL:StepsOk l n0 L) (hs:s<n0) (hn50:n0≤50) (h2:Kd.C k50 w A2 l.length l) (hc2:l.length≤c2) (h3:Kd.C k79 w A3 L.length L) (hc3:L.length≤c3):
  Calls Try.prog 54 #[.agg #[.int .i64 n0, .bool Zc, .slice A2 l.length c2], .int .i64 (s:Int), .int .i64 t, .slice A3 L.length c3] w fun e w'=> ∃ v:Value,e= .returned (.tuple #[v, .bool (wayRes l L n0 s t).2])∧Kd.R k79 79 w' w.heap.size (fun _=>True) v (wayRes l L n0 s t).1∧Below w.heap.size w w':=by
 have hu24:=Try.underlying24;have hu161:=Try.underlying119;have hu38:=Try.underlying79;obtain⟨st,hst⟩: ∃ st_,st_=bfL l L n0 s:=⟨_,rfl⟩;have hF:Fds (frP l) (toP l) (esL l L) s st:=by rw[hst];exact(bfsN_upto (esL_to hL) hs).fds
 have hstl:st.length≤n0:=fds_len hF (esL_to hL) hs;have HF:=Ya hF;have HST:=Ya hst;obtain⟨K1,hK1⟩:=sought_ev hL hn50 Zc hs;obtain⟨K2,hK2⟩:=has_ev (nX (bfL l L n0 s)) (bY (bfL l L n0 s)) t (by rw[nX_len, ← hst];omega);have hs1:=hK1 K1 (Nat.le_refl _);have hh1:=hK2 K2 (Nat.le_refl _);rw[← hst] at hs1 hh1;obtain⟨K,hk⟩: ∃ k_,k_=K1:=⟨_,rfl⟩;obtain⟨KH,hkh⟩: ∃ k_,k_=K2:=⟨_,rfl⟩;rw[← hk] at hs1;rw[← hkh] at hh1;have HSO:=Ya hs1;have HH:=Ya hh1;have XL:Aside0 (0<st.length):=⟨by obtain⟨x,r,h1,_⟩:=hF.head;rw[h1];simp⟩;clear hK1 hK2 hk hkh hs1 hh1 hF hst K1 K2;have HL:=Ya hL;have HC2:=Ya hc2;have HC3:=Ya hc3;have H2:=Ya h2;have H3:=Ya h3;have HB:=Ya (Yo w.heap.size w);clear hL h2 h3 hc2 hc3;go_enter Try.func54,Try.ntmps54;go_upto_region 2 with (first|((with_reducible refine gate_dst (N:=4) rfl ?_);refine Yz ?hg (N:=4) ?hd (cs:= #[.int .i64 n0, .bool Zc, .slice A2 l.length c2]) (t:=24) ?hr ?_;(case hd=>rfl);(case hg=>rfl);(case hr=>first|(go_simp;done)|(go_simp;rfl));intro g3 hg w5 Zf hb;have n0_:=Ya (Yk HB.out hb);have B3:=Ya Zf;clear HB;have HB:=n0_;have GE3:Aside0 (w.heap.size≤g3):=⟨Nat.le_of_eq hg.symm⟩;clear n0_ hb Zf hg;have c0:w5.cell? ⟨g3,0,none⟩=some (.int .i64 n0):=(Yc B3.out 0).trans rfl;have c1:w5.cell? ⟨g3,1,none⟩=some (.bool Zc):=(Yc B3.out 1).trans rfl;have c2_:w5.cell? ⟨g3,2,none⟩=some (.slice A2 l.length c2):=(Yc B3.out 2).trans rfl)|(go_at_call 77;refine(ebbtideref08_sought.calls K (n0:Int) Zc A2 c2 l (s:Int) A3 c3 L _ _ _ (Yt H2.out HB.out) HC2.out (Yt H3.out HB.out) HC3.out HSO.out).mono ?_;rintro e_ w6 ⟨vx,vy,rfl,hx,hy,hb⟩;obtain⟨gx,cx,rfl,hgx,hgx2,cellsx,hcx⟩:=Kd.R_form hx (by have:=XL.out;rw[nX_len];omega);obtain⟨gy,cy,rfl,hgy,hgy2,cellsy,hcy⟩:=Kd.R_form hy (by have:=XL.out;rw[bY_len];omega);clear hcx hcy cellsx cellsy;have HX:=Ya hx;have HY:=Ya hy;have HGX:Aside0 (g3<gx∧g3<gy∧gx<w6.heap.size∧gy<w6.heap.size):=⟨by have:=blk_lt B3.out;omega⟩;have m0_:=Ya (Yk HB.out hb);have m1_:=Ya (Yn B3.out hb);clear HB B3 hx hy hb hgx hgx2 hgy hgy2 c0 c1 c2_;have HB:=m0_;have B3:=m1_;clear m0_ m1_)|fail)
 have HW:Aside0 ((w6.alloc (Obj.cells #[.slice (some ⟨gx,0,none⟩) (nX st).length cx, .slice (some ⟨gy,0,none⟩) (bY st).length cy] 119)).heap[w6.heap.size]? =some (.cells #[.slice (some ⟨gx,0,none⟩) (nX st).length cx, .slice (some ⟨gy,0,none⟩) (bY st).length cy] 119 (0,0))):=⟨heap_alloc_new _ _⟩;have h_:=HB.out.size;have m0_:=Ya (Ye HB.out (Obj.cells #[.slice (some ⟨gx,0,none⟩) (nX st).length cx, .slice (some ⟨gy,0,none⟩) (bY st).length cy] 119));have m1_:=Ya (Yn B3.out (Ye (Yo _ _) (Obj.cells #[.slice (some ⟨gx,0,none⟩) (nX st).length cx, .slice (some ⟨gy,0,none⟩) (bY st).length cy] 119)));have m2_:=Ya (Ys HX.out (Ye (Yo _ _) (Obj.cells #[.slice (some ⟨gx,0,none⟩) (nX st).length cx, .slice (some ⟨gy,0,none⟩) (bY st).length cy] 119)));have m3_:=Ya (Ys HY.out (Ye (Yo _ _) (Obj.cells #[.slice (some ⟨gx,0,none⟩) (nX st).length cx, .slice (some ⟨gy,0,none⟩) (bY st).length cy] 119)));clear HB B3 HX HY h_;have HB:=m0_;have B3:=m1_;have HX:=m2_;have HY:=m3_;clear m0_ m1_ m2_ m3_;generalize w6.alloc _=w7 at *;generalize w6.heap.size=g10 at *;obtain⟨t0,t1⟩:w7.cell? ⟨g10,0,none⟩=some (.slice (some ⟨gx,0,none⟩) (nX st).length cx)∧w7.cell? ⟨g10,1,none⟩=some (.slice (some ⟨gy,0,none⟩) (bY st).length cy):=⟨(Yc HW.out 0).trans rfl,(Yc HW.out 1).trans rfl⟩;by_cases hmem:t∈nX st
 ·obtain⟨tn,rfl⟩: ∃ tn:Nat,t=tn:=by
   obtain⟨v,_,hv⟩:=List.mem_map.1 hmem;exact⟨v,hv.symm⟩
  have hmem:=mem_nX.1 hmem;have e0:decide (hasI (nX st) (tn:Int) 0<0)=false:=Yw (fun h=>hasI_neg.1 h hmem);obtain⟨x0,hx0,hxt⟩:=List.mem_map.1 hmem;have HX0:=Ya hx0;have HXT:=Ya hxt;have HWR:Aside0 (wayRes l L n0 s (tn:Int)=(wayL (frP l) st s tn,true)):=⟨by rw[way_nat, ← HST.out,Yx hmem]⟩;have HBK0:Aside0 ((backL (frP l) st s x0.lv x0.v).reverse=wayL (frP l) st s tn):=⟨by
   unfold wayL;rw[← HXT.out];have hlv:=lv_lt HF.out HX0.out;have h_:=backL_more HF.out esL_fr [] x0.lv HX0.out (Nat.le_refl _) (k':=st.length) (Nat.le_of_lt hlv);rw[List.append_nil] at h_;rw[h_]⟩
  clear hx0 hxt hmem;go_wp2_with (first|(go_at_call 78;refine(ebbtideref08_found_has.calls KH _ cx (nX st) _ cy (bY st) _ _ _ (Kd.R_reads' HX.out).2.2 (Kd.R_reads' HX.out).2.1 (Kd.R_reads' HY.out).2.2 (Kd.R_reads' HY.out).2.1 HH.out).mono ?_;rintro e_ w8 ⟨rfl,hb⟩;have m0_:=Ya (Yk HB.out hb);have m1_:=Ya (Yn B3.out hb);have m2_:=Ya (Yn HW.out hb);have m3_:=Ya (Ys HX.out hb);have m4_:=Ya (Ys HY.out hb);clear HB B3 HW HX HY hb;have HB:=m0_;have B3:=m1_;have HW:=m2_;have HX:=m3_;have HY:=m4_;clear m0_ m1_ m2_ m3_ m4_;clear t0 t1)|fail);have h8:=HB.out.size;go_loopw [11,12] (fun v11 v12 w'=> ∃ (x:Fd S79) (O:List S79),v12= .int .i64 x.v∧x∈st∧Aside0 (O ++ backL (frP l) st s x.lv x.v=backL (frP l) st s x0.lv x0.v)∧O.length+x.lv≤50∧Aside0 (Kd.R k79 79 w' w8.heap.size (fun _=>True) v11 O)∧Aside0 (Below w8.heap.size w8 w')) (fun _ v12 _=>((dOf n0 st).getD (intOf v12).toNat 0).toNat)
  case atStart=>exact⟨x0,[],by rw[HXT.out],HX0.out,⟨rfl⟩,by have:=lv_lt HF.out HX0.out;show 0+_≤50;omega,⟨Kd.R_nil _ _ _ _ _⟩,⟨Yo _ _⟩⟩
  case round=>
   obtain⟨x,O,rfl,hx,HBK,hlen,HO,HC⟩:=hrel;have hxn:x.v<n0:=fds_lt HF.out (esL_to HL.out) hs _ (List.mem_map_of_mem hx);by_cases hxs:x.v=s
   ·have e1:((x.v:Int) != (s:Int))=false:=by rw[hxs];simp
    have hO:O=backL (frP l) st s x0.lv x0.v:=by
     have h_:=HBK.out;rw[hxs,back_end,List.append_nil] at h_;exact h_
    have HOE:=Ya hO;have hOl:O.length≤50:=by omega
    clear hxs hO hlen;obtain⟨A11,c11,e11⟩:=Kd.R_slice HO.out;subst e11;have hwr:IntKind.i64.wrap ((O.length:Int) - 1)=(O.length:Int) - 1:=IntWalk.i64_in _ (by omega);generalize wr=wE at *;go_wp2_with fail;have m0_:=Ya (Yk HB.out HC.out);clear HB HC hwr e1;have HB:=m0_;clear m0_;go_loopw [14,15] (fun v14 v15 w'=> ∃ (q:Int) (U:List S79),v15= .int .i64 q∧(-1≤q∧q<(O.length:Int))∧Aside0 (U=(O.drop (q+1).toNat).reverse)∧Aside0 (Kd.R k79 79 w' wE.heap.size (fun _=>True) v14 U)∧Aside0 (Below wE.heap.size wE w')) (fun _ v15 _=>(intOf v15+1).toNat)
    case atStart=>exact⟨(O.length:Int) - 1,[],rfl,⟨by omega,by omega⟩,⟨by rw[show ((O.length:Int) - 1+1).toNat=O.length by omega,List.drop_length];rfl⟩,⟨Kd.R_nil _ _ _ _ _⟩,⟨Yo _ _⟩⟩
    case round=>
     obtain⟨q,U,rfl,⟨hq1,hq2⟩,HU,HV,HC⟩:=hrel;by_cases hq:0≤q
     ·have e1:decide (0≤q)=true:=Yv hq
      obtain⟨g,cap,ev,_⟩:=Kd.R_form HO.out (by omega);injection ev with ev1 _ ev2
      subst ev1;subst ev2;have hqi:O[q.toNat]? =some O[q.toNat]:=List.getElem?_eq_getElem (by omega);generalize O[q.toNat]=e at hqi;obtain⟨b0,b1⟩:=y_cells (Ys HO.out HC.out) hqi;have hwr:IntKind.i64.wrap (q - 1)=q - 1:=IntWalk.i64_in _ (by omega);have HU2:Aside0 (U ++ [e]=(O.drop (q - 1+1).toNat).reverse):=⟨by
       have hd:O.drop q.toNat=e::O.drop (q.toNat+1):=by
        obtain⟨h1,h2⟩:=List.getElem?_eq_some_iff.1 hqi;rw[List.drop_eq_getElem_cons h1,h2]
       rw[show (q - 1+1).toNat=q.toNat by omega,hd,List.reverse_cons,HU.out,show (q+1).toNat=q.toNat+1 by omega]⟩
      have hUl:U.length≤50:=by rw[HU.out,List.length_reverse,List.length_drop];omega
      clear hqi HU;go_wp2_with (first|((with_reducible refine gate_builtin (b:= .append) (xs:= #[.tmp 49, .tmp 54]) rfl ?_);at_builtin;refine Kd.R_append k79 (w0:=wE) wE.heap.size rfl (.tmp 49) (.tmp 54) 67 79 (.agg #[(.int .i64 0),(.bool false)]) 16 rfl Try.underlying67 info79 rfl (by decide) (by omega) u14 U e [.int .i64 e.f0, .bool e.f1] (fun _=>True) (fun _=>False) rfl rfl ?aP (fun _ hk=>hk.elim) ?aF ?aO ?aB ?aS ?aL ?_;(case aP=>exact k79_mkM _ _ _ e);(case aF=>exact(fun k hk=>trivial));(case aO=>exact HV.out);(case aB=>exact HC.out);(case aS=>exact HC.out.size);(case aL=>omega);intro v1 w9 ho hb hg hat;have m0_:=Ya ho;have m1_:=Ya hb;clear HV HC ho hb hg hat b0 b1;have HV:=m0_;have HC:=m1_;clear m0_ m1_)|fail);go_roundw
      case rel=>exact⟨q - 1,U ++ [e],rfl,⟨by omega,by omega⟩,HU2,HV,HC⟩
      case measure=>simp[intOf]<;>omega
     ·have e1:decide (0≤q)=false:=Yw hq
      go_wp2_with fail;go_ret2;rw[HWR.out];refine⟨_,rfl,?_,Yk HB.out HC.out⟩;have h_:=HV.out;rw[HU.out,show (q+1).toNat=0 by omega,List.drop_zero,HOE.out,HBK0.out] at h_;exact Kd.R_lower h_ HB.out.size
   ·have e1:((x.v:Int) != (s:Int))=true:=by rw[bne_iff_ne];omega
    rcases HF.out.mem_lv hx with ⟨h1,_⟩|⟨_,hto,z,hz,hze,hlv⟩
    ·exact absurd h1 hxs
    obtain⟨i,hi⟩:=List.getElem?_of_mem hx;have hbk:backL (frP l) st s x.lv x.v=x.by_::backL (frP l) st s z.lv z.v:=by
     rw[hlv,backL,Yy hxs,fnd_of HF.out.nodup hx];show x.by_::_=_;rw[esL_fr _ _ hze]
    have hbi:(bY st)[i]? =some x.by_:=by unfold bY;rw[List.getElem?_map,hi];rfl
    obtain⟨b0,b1⟩:=y_cells (Ys HY.out HC.out) hbi;have hfm:=rfrom_ok HL.out (List.mem_filter.1 hze).1 (n0:Int) Zc;have hfr:stFrom l x.by_=(z.v:Int):=Yu (List.mem_filter.1 hze).2;rw[hfr] at hfm;obtain⟨K3,hK3⟩:=has_ev (nX st) (bY st) (x.v:Int) (by rw[nX_len];omega);have hh3:=hK3 K3 (Nat.le_refl _);rw[hasI_at HF.out.nodup hi] at hh3;obtain⟨k3,hk3⟩: ∃ k_,k_=K3:=⟨_,rfl⟩;rw[← hk3] at hh3;have HH3:=Ya hh3;obtain⟨e,hee⟩: ∃ e_,e_=x.by_:=⟨_,rfl⟩;rw[← hee] at b0 b1 hfm hbk;have HFM:=Ya hfm;have HBK2:Aside0 ((O ++ [e]) ++ backL (frP l) st s z.lv z.v=backL (frP l) st s x0.lv x0.v):=⟨by rw[← HBK.out,hbk,List.append_assoc];rfl⟩;have HZ:=Ya hz;have hl2:(O ++ [e]).length+z.lv≤50:=by rw[List.length_append,List.length_singleton];omega
    have HL2:=Ya hl2;have hOl:O.length≤50:=by omega
    have hmz:((dOf n0 st).getD z.v 0).toNat<((dOf n0 st).getD x.v 0).toNat:=by
     rw[dOf_mem HF.out.nodup hz 0 (fds_lt HF.out (esL_to HL.out) hs _ (List.mem_map_of_mem hz)),dOf_mem HF.out.nodup hx 0 hxn];omega
    have HMZ:=Ya hmz;have px:(0:Int)≤(i:Int):=by omega
    have qx:(i:Int)<((bY st).length:Int):=by rw[bY_len];have:=(List.getElem?_eq_some_iff.1 hi).1;omega
    obtain⟨t0,t1⟩:wr.cell? ⟨g10,0,none⟩=some (.slice (some ⟨gx,0,none⟩) (nX st).length cx)∧wr.cell? ⟨g10,1,none⟩=some (.slice (some ⟨gy,0,none⟩) (bY st).length cy):=⟨pw_cell_below HC.out ((Yc HW.out 0).trans rfl),pw_cell_below HC.out ((Yc HW.out 1).trans rfl)⟩;have H5:=Ya (Yt (Kd.R_reads' HX.out).2.2 HC.out);have H6:=Ya (Yt (Kd.R_reads' HY.out).2.2 HC.out);clear hz hze hlv hbk hfr hfm hee HBK hlen hl2 hmz hto hxs hi hbi hh3 hk3 hK3 K3;go_upto_region 7 with fail
    go_cut [13] (fun v13 wx=> ∃ g13:Nat,v13= .pointer (some ⟨g13,0,none⟩)∧wr.heap.size≤g13∧Aside0 (wx.heap[g13]? =some (.cells #[.int .i64 e.f0, .bool e.f1] 79 (0,0)))∧Aside0 (Below wr.heap.size wr wx))
    case first=>
     go_region_held3 (fun w'=>w'.cell? ⟨g10,0,none⟩=some (.slice (some ⟨gx,0,none⟩) (nX st).length cx)∧w'.cell? ⟨g10,1,none⟩=some (.slice (some ⟨gy,0,none⟩) (bY st).length cy)∧w'.cell? ⟨gy,i * 2,none⟩=some (.int .i64 e.f0)∧w'.cell? ⟨gy,i * 2+1,none⟩=some (.bool e.f1))
      (first|((try dsimp only);(refine⟨?_,?_,?_,?_⟩)<;>first|(exact pw_cell_below (below_drew (Yo _ _)) (by assumption))|(exact pw_cell_below (Ye (Yo _ _) _) (by assumption))|(exact pw_cell_below hbr (by assumption))|(exact pw_cell_below (Ye (Yk (below_drew (Yo wr.heap.size wr)) hbr) _) (by assumption))|(exact pw_cell_below (Ye (Yo wr.heap.size wr) _) (by assumption))|(exact pw_cell_below (Yk (below_drew (Ye (Yo wr.heap.size wr) _)) hbr) (by assumption))|(exact pw_cell_below (Yh (Yh (Yk (below_drew (Ye (Yo wr.heap.size wr) _)) hbr) (Nat.le_refl _)) (Nat.le_refl _)) (by assumption)))|go_keep)
      (first|(go_at_call 78;refine(ebbtideref08_found_has.calls k3 _ cx (nX st) _ cy (bY st) (x.v:Int) _ _ ?hX (Kd.R_reads' HX.out).2.1 ?hY (Kd.R_reads' HY.out).2.1 HH3.out).mono ?_;(case hX=>first|exact Yt H5.out (below_drew (Yo _ _))|exact Yt H5.out (below_drew (Ye (Yo _ _) _)));(case hY=>first|exact Yt H6.out (below_drew (Yo _ _))|exact Yt H6.out (below_drew (Ye (Yo _ _) _)));rintro e_ w9 ⟨rfl,hbr⟩;try (have hk9:w9.heap[wr.heap.size]? =some (.cells #[.int .i64 0, .bool false] 79 (0,0)):=(hbr.block _ (by simp)).trans (heap_alloc_new wr (.cells #[.int .i64 0, .bool false] 79));have kc0:=Yc hk9 0;have kc1:=Yc hk9 1;have kz0:=Yf hk9 0;have kz1:=Yf hk9 1)))
     ·go_wp2_with fail
      go_meet;exact⟨w9.heap.size,rfl,by have:=hbr.size;simpa using this,⟨heap_alloc_new w9 _⟩,⟨Ye (Yk (below_drew (Yo wr.heap.size wr)) hbr) _⟩⟩
     ·go_wp2_with fail
      go_meet;exact⟨wr.heap.size,rfl,Nat.le_refl _,⟨(blk_set (blk_set hk9 0 (.int .i64 e.f0)) 1 (.bool e.f1)).trans rfl⟩,⟨Yh (Yh (Yk (below_drew (Ye (Yo wr.heap.size wr) _)) hbr) (Nat.le_refl _)) (Nat.le_refl _)⟩⟩
    case rest=>
     obtain⟨g13,rfl,hg13,HG13,HBC⟩:=hcut;have m0_:=Ya (Yk HC.out HBC.out);have m1_:=Ya (Ys (Kd.R_mono (ok':=fun k=>k≠g13) (Kd.R_bound HO.out) (fun k hk=>by have:=hk.2.2.1;omega)) HBC.out);clear HC HO HBC t0 t1 b0 b1 H5 H6;have HC:=m0_;have HO:=m1_;clear m0_ m1_;have b0:wc.cell? ⟨g13,0,none⟩=some (.int .i64 e.f0):=(Yc HG13.out 0).trans rfl;have b1:wc.cell? ⟨g13,1,none⟩=some (.bool e.f1):=(Yc HG13.out 1).trans rfl;go_wp2_with (first|((with_reducible refine gate_builtin (b:= .append) (xs:= #[.tmp 35, .tmp 37]) rfl ?_);at_builtin;refine Kd.R_append k79 (w0:=w8) w8.heap.size rfl (.tmp 35) (.tmp 37) 67 79 (.agg #[(.int .i64 0),(.bool false)]) 16 rfl Try.underlying67 info79 rfl (by decide) (by omega) u11 O e [.int .i64 e.f0, .bool e.f1] (fun k=>k≠g13) (fun _=>False) rfl rfl ?aP (fun _ hk=>hk.elim) ?aF ?aO ?aB ?aS ?aL ?_;(case aP=>exact k79_mkM _ _ _ e);(case aF=>exact(fun k hk=>by have:=blk_lt HG13.out;omega));(case aO=>exact HO.out);(case aB=>exact HC.out);(case aS=>exact HC.out.size);(case aL=>omega);intro v1 w9 ho hb hg hat;have m0_:=Ya ho;have m1_:=Ya hb;have m2_:=Ya ((hg.block g13 (blk_lt HG13.out) (fun h=>HO.out.1 g13 h.symm rfl)).trans HG13.out);clear HO HC HG13 ho hb hg hat b0 b1;have HO:=m0_;have HC:=m1_;have HG13:=m2_;clear m0_ m1_ m2_;have b0:w9.cell? ⟨g13,0,none⟩=some (.int .i64 e.f0):=(Yc HG13.out 0).trans rfl;have b1:w9.cell? ⟨g13,1,none⟩=some (.bool e.f1):=(Yc HG13.out 1).trans rfl;have c0:w9.cell? ⟨g3,0,none⟩=some (.int .i64 n0):=pw_cell_below HC.out ((Yc B3.out 0).trans rfl);have c1:w9.cell? ⟨g3,1,none⟩=some (.bool Zc):=pw_cell_below HC.out ((Yc B3.out 1).trans rfl);have c2_:w9.cell? ⟨g3,2,none⟩=some (.slice A2 l.length c2):=pw_cell_below HC.out ((Yc B3.out 2).trans rfl))|(go_at_call 42;refine(ebbtideref07_From.calls (n0:Int) Zc A2 c2 l e.f0 e.f1 (z.v:Int) _ (Yt (Yt H2.out HB.out) HC.out) HC2.out HFM.out).mono ?_;rintro e_ w10 ⟨rfl,hb⟩;have m0_:=Ya (Yk HC.out hb);have m1_:=Ya (Ys HO.out hb);clear HC HO b0 b1 c0 c1 c2_ hb;have HC:=m0_;have HO:=m1_;clear m0_ m1_)|fail);go_roundw
     case rel=>exact⟨z,O ++ [e],rfl,HZ.out,HBK2,HL2.out,⟨Kd.R_mono HO.out (fun _ _=>trivial)⟩,HC⟩
     case measure=>have h_:=HMZ.out;simpa [intOf] using h_
 ·have e0:decide (hasI (nX st) t 0<0)=true:=Yv (by
   unfold hasI;rw[List.drop_zero,Yy hmem];omega)
  have HNO:Aside0 (wayRes l L n0 s t=([],false)):=⟨by unfold wayRes;rw[← HST.out,Yy hmem]⟩;clear hmem;go_wp2_with (first|(go_at_call 78;refine(ebbtideref08_found_has.calls KH _ cx (nX st) _ cy (bY st) _ _ _ (Kd.R_reads' HX.out).2.2 (Kd.R_reads' HX.out).2.1 (Kd.R_reads' HY.out).2.2 (Kd.R_reads' HY.out).2.1 HH.out).mono ?_;rintro e_ w8 ⟨rfl,hb⟩;have m0_:=Ya (Yk HB.out hb);have m1_:=Ya (Yn B3.out hb);have m2_:=Ya (Yn HW.out hb);have m3_:=Ya (Ys HX.out hb);have m4_:=Ya (Ys HY.out hb);clear HB B3 HW HX HY hb;have HB:=m0_;have B3:=m1_;have HW:=m2_;have HX:=m3_;have HY:=m4_;clear m0_ m1_ m2_ m3_ m4_;clear t0 t1)|fail);go_ret2;rw[HNO.out];exact⟨_,rfl,Kd.R_nil _ _ _ _ _,HB.out⟩
def wayF (n:Int) (l:List S50) (s t:Int) (L:List S79):Option (List S79 × Bool):=if wayOk n l L s=true then some (wayRes l L n.toNat s.toNat t) else none
theorem ebbtideref08_Way_calls (Zb:Int) (Zc:Bool) (Ze:Option Addr) (Zd:Nat) (Za:List S50) (a1 a2:Int) (A3:Option Addr) (c3:Nat) (l3:List S79) (r1:List S79) (r2:Bool) (w:World) (Zp:Kd.C k50 w Ze Za.length Za) (Zq:Za.length≤Zd) (hr3:Kd.C k79 w A3 l3.length l3) (hc3:l3.length≤c3) (h:wayF Zb Za a1 a2 l3=some (r1,r2)):
  Calls Try.prog 54 #[.agg #[.int .i64 Zb, .bool Zc, .slice Ze Za.length Zd], .int .i64 a1, .int .i64 a2, .slice A3 l3.length c3] w fun e w'=> ∃ v0_:Value,e= .returned (.tuple #[v0_, .bool r2])∧Kd.R k79 79 w' w.heap.size (fun _=>True) v0_ r1∧Below w.heap.size w w':=by
 unfold wayF at h;split at h
 ·rename_i hok
  obtain⟨n0,rfl⟩: ∃ n0:Nat,Zb=n0:=⟨Zb.toNat,by unfold wayOk at hok;simp only[Bool.and_eq_true,decide_eq_true_eq] at hok;omega⟩;obtain⟨s0,rfl⟩: ∃ s0:Nat,a1=s0:=⟨a1.toNat,by unfold wayOk at hok;simp only[Bool.and_eq_true,decide_eq_true_eq] at hok;omega⟩;obtain⟨h1,h2,h3⟩:=wayOk_iff.1 hok;injection h with h
  rw[Int.toNat_natCast,Int.toNat_natCast] at h;have h_:=way_ref n0 Zc Ze Zd Za s0 a2 A3 c3 l3 w h1 h2 h3 Zp Zq hr3 hc3;rw[h] at h_;exact h_
 ·cases h
theorem wayF_eq {n0:Nat} {l:List S50} {L:List S79} {s0:Nat} (h1:StepsOk l n0 L) (h2:s0<n0) (h3:n0≤50) (t:Int):wayF n0 l s0 t L=some (wayRes l L n0 s0 t):=by
 unfold wayF;rw[Yx (wayOk_iff.2 ⟨h1,h2,h3⟩),Int.toNat_natCast,Int.toNat_natCast]
end H
namespace P
attribute [local go_sem] max2_int min2_int max_two min_two max_three min_three max_four min_four
def ebbtideref08_Way.f (Zb:Int) (Zc:Bool) (Za:List (S50)) (a1:Int) (a2:Int) (l3:List (S79)):Option ((List (S79)) × Bool):=H.wayF Zb Za a1 a2 l3
theorem ebbtideref08_Way.calls (Zb:Int) (Zc:Bool) (Ze:Option Addr) (Zd:Nat) (Za:List (S50)) (a1:Int) (a2:Int) (A3:Option Addr) (c3:Nat) (l3:List (S79)) (r1:List (S79)) (r2:Bool) (w:World) (Zp:Kd.C k50 w Ze Za.length Za) (Zq:Za.length≤Zd) (hr3:Kd.C k79 w A3 l3.length l3) (hc3:l3.length≤c3) (h:ebbtideref08_Way.f Zb Zc Za a1 a2 l3=some (r1,r2)):
  Calls Try.prog 54 #[.agg #[.int .i64 Zb, .bool Zc, .slice Ze Za.length Zd], .int .i64 a1, .int .i64 a2, .slice A3 l3.length c3] w fun e w'=> ∃ v0_:Value,e= .returned (.tuple #[v0_, .bool r2])∧Kd.R k79 79 w' w.heap.size (fun _=>True) v0_ r1∧Below w.heap.size w w':=H.ebbtideref08_Way_calls Zb Zc Ze Zd Za a1 a2 A3 c3 l3 r1 r2 w Zp Zq hr3 hc3 h
end P
namespace P
attribute [local go_sem] max2_int min2_int max_two min_two max_three min_three max_four min_four
def ebbtideref12_nearest.l0:Nat→Int→Int→List (S79)→List (S79)→Int→Int→Bool→List (S50)→List Int→List Bool→Bool→Option ((List (S79)))
 |0,_,_,_,_,_,_,_,_,_,_,_=>none
 |k+1,x2,x3,x11,x12,x13,x340000,x340001,x340002,x341000,x341001,x341002=>if x13<(x12.length:Int) then(if 0≤x13 then((ebbtideref07_From.f x340000 x340001 x340002 ((rd_T79 x12 x13).f0) ((rd_T79 x12 x13).f1)).bind fun t349=>((ebbtideref07_To.f x340000 x340001 x340002 ((rd_T79 x12 x13).f0) ((rd_T79 x12 x13).f1)).bind fun t351=>(if 0≤t349 then(if t349<(x341001.length:Int) then(if rdOf false x341001 t349=true then(if 0≤t351 then(if t351<(x341001.length:Int) then(if rdOf false x341001 t351=true then(if t351<(x341000.length:Int) then(if t349<(x341000.length:Int) then((ebbtideref11_Time.f x340000 x340001 x340002 ((rd_T79 x12 x13).f0) ((rd_T79 x12 x13).f1)).bind fun t357=>(if (rd x341000 t351)=(wrap64 ((rd x341000 t349)+t357)) then(if x11.length<8796093022208 then(ebbtideref12_nearest.l0 k x2 x3 (x11 ++ [(⟨(rd_T79 x12 x13).f0,(rd_T79 x12 x13).f1⟩:S79)]) x12 (wrap64 (x13+1)) x340000 x340001 x340002 x341000 x341001 x341002) else(none)) else(ebbtideref12_nearest.l0 k x2 x3 x11 x12 (wrap64 (x13+1)) x340000 x340001 x340002 x341000 x341001 x341002))) else(none)) else(none)) else(ebbtideref12_nearest.l0 k x2 x3 x11 x12 (wrap64 (x13+1)) x340000 x340001 x340002 x341000 x341001 x341002)) else(none)) else(none)) else(ebbtideref12_nearest.l0 k x2 x3 x11 x12 (wrap64 (x13+1)) x340000 x340001 x340002 x341000 x341001 x341002)) else(none)) else(none)))) else(none)) else((ebbtideref08_Way.f x340000 x340001 x340002 x2 x3 x11).bind fun bt344=>(some bt344.1))
def ebbtideref12_nearest.f (k:Nat) (Zb:Int) (Zc:Bool) (Za:List (S50)) (l1:List Int) (a2:Int) (a3:Int) (Vv:List Int) (l4_1:List Bool) (a4_2:Bool):Option ((List (S79))):=(ebbtideref07_Steps.f k Zb Zc Za l1).bind fun t341=>(ebbtideref12_nearest.l0 k a2 a3 ([]:List (S79)) t341 0 Zb Zc Za Vv l4_1 a4_2)
def ebbtideref12_nearest.T6:Bool × List (List Nat × List Nat):=(true,[([],[]),([],[]),([],[]),([1,2],[1,2]),([3],[3]),([0,4],[0,4]),([],[]),([],[]),([],[]),([7,8],[7,8]),([9],[9]),([6,10,5],[6,10]),([5,11,0,1,2,3,4,5],[5]),([11,12,0,1,2,3,4,5,6,7,8,9,10,11,12],[11])])
def ebbtideref12_nearest.B6:List Nat:=[0,0,0,6,14,31,0,0,0,384,896,2047,4095,8191]
theorem ebbtideref12_nearest.tab6:rtab .any (opsOf Try.f64 6)=ebbtideref12_nearest.T6:=by kernel_rfl
theorem ebbtideref12_nearest.bits6:waitsOk ebbtideref12_nearest.T6.2 ebbtideref12_nearest.B6=true:=by kernel_rfl
def ebbtideref12_nearest.T7:Bool × List (List Nat × List Nat):=(true,[([],[]),([0],[0]),([],[]),([1,2],[1,2]),([3],[3]),([4],[4]),([5],[5]),([6,5],[5,6]),([5],[5]),([7,8,5],[5,7,8]),([9,5],[5,9]),([5,10],[5,10]),([11,5],[11]),([12],[12]),([13,12],[12,13]),([12],[12]),([14,15,12],[12,14,15]),([16,12],[12,16]),([12],[12]),([18,12],[12,18]),([12],[12]),([19,20,12],[12,19,20]),([21,12],[12,21]),([12],[12]),([12],[12]),([12],[12]),([24,25,12],[12,24,25]),([26,12],[12,26]),([23,27,12,12],[12,23,27]),([22,28,12],[12,22,28]),([17,29,12],[12,17,29]),([12,30],[12,30])])
def ebbtideref12_nearest.B7:List Nat:=[0,1,0,7,15,31,63,127,63,511,1023,2047,4095,8191,16383,8191,65535,131071,8191,270335,8191,1843199,3940351,8191,8191,8191,50339839,117448703,260055039,536616959,1073741823,2147483647]
theorem ebbtideref12_nearest.tab7:rtab .any (opsOf Try.f64 7)=ebbtideref12_nearest.T7:=by kernel_rfl
theorem ebbtideref12_nearest.bits7:waitsOk ebbtideref12_nearest.T7.2 ebbtideref12_nearest.B7=true:=by kernel_rfl
set_option maxHeartbeats 8000000 in
set_option maxRecDepth 100000 in
theorem ebbtideref12_nearest.calls (k:Nat) (Zb:Int) (Zc:Bool) (Ze:Option Addr) (Zd:Nat) (Za:List (S50)) (A1:Option Addr) (c1:Nat) (l1:List Int) (a2:Int) (a3:Int) (A4_0:Option Addr) (c4_0:Nat) (Vv:List Int) (A4_1:Option Addr) (c4_1:Nat) (l4_1:List Bool) (a4_2:Bool) (r:List (S79)) (w:World) (Zp:Kd.C k50 w Ze Za.length Za) (Zq:Za.length≤Zd) (hr1:Kd.C (Kd.int .i64) w A1 l1.length l1) (hc1:l1.length≤c1) (hr4_0:Kd.C (Kd.int .i64) w A4_0 Vv.length Vv) (hc4_0:Vv.length≤c4_0) (hr4_1:Kd.C Kd.bool w A4_1 l4_1.length l4_1) (hc4_1:l4_1.length≤c4_1) (h:ebbtideref12_nearest.f k Zb Zc Za l1 a2 a3 Vv l4_1 a4_2=some r):
  Calls Try.prog 64 #[.agg #[.int .i64 Zb, .bool Zc, .slice Ze Za.length Zd], .slice A1 l1.length c1, .int .i64 a2, .int .i64 a3, .agg #[.slice A4_0 Vv.length c4_0, .slice A4_1 l4_1.length c4_1, .bool a4_2]] w fun e w'=> ∃ v0_:Value,e= .returned (v0_)∧Kd.R k79 79 w' w.heap.size (fun _=>True) v0_ r∧Below w.heap.size w w':=by
 have hu24:=Try.underlying24;have hu40:=Try.underlying40;have hu79:=Try.underlying79;have Zh:=Ya Zp;have Zo:=Ya Zq;clear Zp Zq;have HR1:=Ya hr1;have HC1:=Ya hc1;clear hr1 hc1;have HR4_0:=Ya hr4_0;have HC4_0:=Ya hc4_0;clear hr4_0 hc4_0;have HR4_1:=Ya hr4_1;have HC4_1:=Ya hc4_1;clear hr4_1 hc4_1;have HB:=Ya (Yo w.heap.size w);have H:=h;unfold ebbtideref12_nearest.f at H;clear h;replace H:=Option.bind_eq_some_iff.mp H;obtain⟨t341,A60,H⟩:=H;try dsimp only at H
 have A6:=Ya A60;clear A60;have H':=Ya H;clear H;go_enter Try.func64,Try.ntmps64;go_wp2_with (first|(refine bx 5 24 #[.int .i64 Zb, .bool Zc, .slice Ze Za.length Zd] ?_;intro Jl hg w7 Zf hb;have Zs:=Ya (Zf);have GW339:=Ya ((sz hg));have GE339:=Ya ((sz hg));replace HB:=Ya (Yk bl hb);clear hb Zf hg)|(refine bx 9 40 #[.slice A4_0 Vv.length c4_0, .slice A4_1 l4_1.length c4_1, .bool a4_2] ?_;intro gb340 hg w8 Zf hb;have Xg:=Ya (Zf);have GW340:=Ya ((sz hg));have GE340:=Ya ((sz hg));replace HB:=Ya (Yk bl hb);have NB339_340:=Ya (by rw[hg];exact Nat.ne_of_lt (blk_lt (bk Zs)):Jl≠gb340);have NB340_339:=Ya (by rw[hg];exact Nat.ne_of_gt (blk_lt (bk Zs)):gb340≠Jl);replace Zs:=Ya (Yn (bk Zs) hb);clear hb Zf hg;have hnb9:=NB339_340.out;have hnc9:=NB340_339.out;have Wu:w8.cell? ⟨Jl,0,none⟩=some (.int .i64 Zb):=bc Zs 0;have Wv:w8.cell? ⟨Jl,1,none⟩=some (.bool Zc):=bc Zs 1;have Vl:w8.cell? ⟨Jl,2,none⟩=some (.slice Ze Za.length Zd):=bc Zs 2;have Ww:=Yf Zs.out 0;have Wx:=Yf Zs.out 1;have Vm:=Yf Zs.out 2)|((with_reducible refine gate_callee (f:=41) rfl ?_);refine gl (some 20) Try.func41 #[.agg #[.int .i64 Zb, .bool Zc, .slice Ze Za.length Zd], .slice A1 l1.length c1] ?_;(with_reducible refine(ebbtideref07_Steps.calls k Zb Zc _ _ Za _ _ l1 t341 _ ?side1 ?side2 ?side3 ?side4 A6.out).mono ?_);(case side1=>exact kC (Yt Zh.out HB.out));(case side2=>exact Zo.out);(case side3=>exact kC (Yt HR1.out HB.out));(case side4=>exact HC1.out);rintro e w11 ⟨v342,rfl,ho0,hb⟩;refine⟨_,rfl,?_⟩;have HO343:=Ya (Kd.R_lower ho0 (Yi bl));replace Zs:=Ya (Yn (bk Zs) hb);replace Xg:=Ya (Yn (bk Xg) hb);replace HB:=Ya (Yk bl hb);(try clear hb);(try clear ho0)));go_loopg [11,13] k (fun kq v11 v13 w'=> ∃ (Xi:List (S79)) (Zg:Int),v13= .int .i64 Zg∧Aside0 (ebbtideref12_nearest.l0 kq a2 a3 Xi t341 Zg Zb Zc Za Vv l4_1 a4_2=some r)∧Aside0 (kq≤k)∧Aside0 (Kd.R k79 79 w' w.heap.size (fun k_=>some k_≠(v342:Value).ownBlock) v11 Xi)∧Aside0 (Kd.R k79 79 w' w.heap.size (fun k_=>some k_≠(v11:Value).ownBlock) v342 t341)∧Aside0 (w'.heap[Jl]? =some (.cells #[.int .i64 Zb, .bool Zc,(.slice Ze Za.length Zd)] 24 (0,0)))∧Aside0 (w'.heap[gb340]? =some (.cells #[(.slice A4_0 Vv.length c4_0),(.slice A4_1 l4_1.length c4_1), .bool a4_2] 40 (0,0)))∧Aside0 (Below w.heap.size w w'))
 case atStart=>exact⟨(([]:List (S79))),(0),(by first|rfl|(simp;done)|(simp[*];done)),H',⟨Nat.le_refl _⟩,⟨by first|exact Kd.R_nil _ _ _ _ _|exact Kd.N_nil _ _ _ _ _|exact Kd.V_nil _ _ _ _ _|exact Kd.Q_nil _ _ _ _ _|exact Kd.S_nil _ _ _ _ _⟩,⟨by(with_reducible repeat(first|apply Yr|apply Yq|apply Yp));exact Kd.R_mono HO343.out (fun _ hk=>(by simp[Value.ownBlock]))⟩,⟨Zs.out⟩,⟨Xg.out⟩,⟨HB.out⟩⟩
 case round=>
  clear H';try clear c1
  try clear Wu
  try clear Wv
  try clear Vl
  try clear Ww
  try clear Wx
  try clear Vm
  obtain⟨Xi,Zg,rfl,HA,HK1,HO_11,HO_12,Zs,Xg,HB⟩:=hrel;cases gk with
  |zero=>exact absurd HA.out (by simp[ebbtideref12_nearest.l0])
  |succ k1=>
   have H:=HA.out;clear HA;simp only[ebbtideref12_nearest.l0] at H;by_cases c12:Zg<(t341.length:Int)
   rotate_left
   ·rw[Yy c12] at H
    have c12b0:decide (Zg<(t341.length:Int))=false:=Yw c12;clear c12;replace H:=Option.bind_eq_some_iff.mp H;obtain⟨⟨t344,t347⟩,A520,H⟩:=H;try dsimp only at H
    have A52:=Ya A520;clear A520;obtain rfl:=Option.some.inj H;obtain⟨Ao53,co53,eo53⟩:=Kd.R_slice HO_12.out;subst eo53;have hnb54:=NB339_340.out;have hnc54:=NB340_339.out;have hcz55_0:wr.cell? ⟨Jl,0,none⟩=some (.int .i64 Zb):=bc Zs 0;have hcz55_1:wr.cell? ⟨Jl,1,none⟩=some (.bool Zc):=bc Zs 1;have hcz55_2:wr.cell? ⟨Jl,2,none⟩=some (.slice Ze Za.length Zd):=bc Zs 2;have hfz55_0:=Yf Zs.out 0;have hfz55_1:=Yf Zs.out 1;have hfz55_2:=Yf Zs.out 2;obtain⟨Ao56,co56,eo56⟩:=Kd.R_slice HO_11.out;subst eo56;go_wp2_with (first|((with_reducible refine gate_callee (f:=54) rfl ?_);refine gl (some 83) Try.func54 #[.agg #[.int .i64 Zb, .bool Zc, .slice Ze Za.length Zd], .int .i64 a2, .int .i64 a3, .slice Ao56 Xi.length co56] ?_;(with_reducible refine(ebbtideref08_Way.calls Zb Zc _ _ Za a2 a3 _ _ Xi t344 t347 _ ?side1 ?side2 ?side3 ?side4 (by first|exact A52.out|(have h_:=A52.out;rw[← Nbq22.out] at h_;exact h_)|(have h_:=A52.out;rw[← Nbq18.out] at h_;exact h_))).mono ?_);(case side1=>exact kC (Yt Zh.out HB.out));(case side2=>exact Zo.out);(case side3=>exact kC (Kd.R_reads' HO_11.out).2.2);(case side4=>exact(Kd.R_reads' HO_11.out).2.1);rintro e w57 ⟨v345,rfl,ho0,hb⟩;refine⟨_,rfl,?_⟩;have HO346:=Ya (Kd.R_lower (Kd.R_new' (Kd.R_new' ho0 (Kd.R_lt (kR HO_11))) (Kd.R_lt (kR HO_12))) (Yi bl));replace HO_11:=Ya (Kd.R_elder' (kR HO_11) (Kd.R_base ho0) hb);replace HO_12:=Ya (Kd.R_elder' (kR HO_12) (Kd.R_base ho0) hb);replace Zs:=Ya (Yn (bk Zs) hb);replace Xg:=Ya (Yn (bk Xg) hb);replace HB:=Ya (Yk bl hb);(try clear hb);(try clear ho0)));go_ret;exact⟨_,by first|rfl|(simp[errW_none,errW_some]<;>rfl)|(simp[*,errW_none,errW_some]<;>rfl),by(with_reducible repeat(first|apply Yr|apply Yq|apply Yp));exact Kd.R_mono HO346.out (fun _ hk=>trivial),HB.out⟩
   rw[Yx c12] at H;have c12b0:decide (Zg<(t341.length:Int))=true:=Yv c12;clear c12;by_cases c13:0≤Zg
   rotate_left
   ·rw[Yy c13] at H
    exact absurd H (by simp)
   rw[Yx c13] at H;have c13b0:decide (0≤Zg)=true:=Yv c13;clear c13;replace H:=Option.bind_eq_some_iff.mp H;obtain⟨t349,A140,H⟩:=H;try dsimp only at H
   have A14:=Ya A140;clear A140;replace H:=Option.bind_eq_some_iff.mp H;obtain⟨t351,A150,H⟩:=H;try dsimp only at H
   have A15:=Ya A150;clear A150;by_cases c16:0≤t349
   rotate_left
   ·rw[Yy c16] at H
    exact absurd H (by simp)
   rw[Yx c16] at H;have c16b0:decide (0≤t349)=true:=Yv c16;clear c16;by_cases c17:t349<(l4_1.length:Int)
   rotate_left
   ·rw[Yy c17] at H
    exact absurd H (by simp)
   rw[Yx c17] at H;have c17b0:decide (t349<(l4_1.length:Int))=true:=Yv c17;clear c17;obtain⟨bq18,hbq18⟩: ∃ b_:Bool,b_=(rdOf false l4_1 t349):=⟨_,rfl⟩;replace H:(if bq18=true then(if 0≤t351 then(if t351<(l4_1.length:Int) then(if rdOf false l4_1 t351=true then(if t351<(Vv.length:Int) then(if t349<(Vv.length:Int) then((ebbtideref11_Time.f Zb Zc Za ((rd_T79 t341 Zg).f0) ((rd_T79 t341 Zg).f1)).bind fun t357=>(if (rd Vv t351)=(wrap64 ((rd Vv t349)+t357)) then(if Xi.length<8796093022208 then(ebbtideref12_nearest.l0 k1 a2 a3 (Xi ++ [(⟨(rd_T79 t341 Zg).f0,(rd_T79 t341 Zg).f1⟩:S79)]) t341 (wrap64 (Zg+1)) Zb Zc Za Vv l4_1 a4_2) else(none)) else(ebbtideref12_nearest.l0 k1 a2 a3 Xi t341 (wrap64 (Zg+1)) Zb Zc Za Vv l4_1 a4_2))) else(none)) else(none)) else(ebbtideref12_nearest.l0 k1 a2 a3 Xi t341 (wrap64 (Zg+1)) Zb Zc Za Vv l4_1 a4_2)) else(none)) else(none)) else(ebbtideref12_nearest.l0 k1 a2 a3 Xi t341 (wrap64 (Zg+1)) Zb Zc Za Vv l4_1 a4_2))=some r:=by rw[← hbq18] at H;exact H
   have Nbq18:=Ya hbq18;clear hbq18;by_cases c19:bq18=true
   rotate_left
   ·replace c19:=Bool.eq_false_iff.mpr c19
    subst c19;rw[Yy (show ¬ (false=true) by decide)] at H;have H':=Ya H;clear H;obtain⟨Ao47,co47,eo47⟩:=Kd.R_slice HO_12.out;subst eo47;try go_wp2
    replace HO_11:=Ya (Yp HO_11.out);replace HO_12:=Ya (Yp HO_12.out);replace Zs:=Ya (Ym Zs.out);replace Xg:=Ya (Ym Xg.out);replace HB:=Ya (Yg HB.out);have p348:0≤(Zg:Int):=od;have q348:Zg<(t341.length:Int):=od;obtain⟨Ve,e348,hx348_0,Uj⟩:=at_T79 (Kd.R_reads' HO_12.out).2.2 Zg p348 q348
    (try rw[← Nbq18.out] at Uj)
    cases e348;replace p348:=eq_true p348;replace q348:=eq_true q348;have p350:0≤(Zg:Int):=od;have q350:Zg<(t341.length:Int):=od;obtain⟨ad350,e350,hx350_0,Uk⟩:=at_T79 (Kd.R_reads' HO_12.out).2.2 Zg p350 q350
    (try rw[← Nbq18.out] at Uk)
    obtain rfl:Ve=ad350:=(by injection e350);replace p350:=eq_true p350;replace q350:=eq_true q350;refine start_ (n:=14) (S:=fun w'=>w'.cell? ⟨Jl,0,none⟩=some (.int .i64 Zb)∧w'.cell? ⟨Jl,1,none⟩=some (.bool Zc)∧w'.cell? ⟨Jl,2,none⟩=some (.slice Ze Za.length Zd)∧w'.cell? (Ve.add ((Zg).toNat * 2))=some (.int .i64 ((rd_T79 t341 Zg).f0))∧w'.cell? ⟨(Ve.add ((Zg).toNat * 2)).block,(Ve.add ((Zg).toNat * 2)).off+1,none⟩=some (.bool ((rd_T79 t341 Zg).f1))∧w'.cell? (Ve.add ((Zg).toNat * 2))=some (.int .i64 ((rd_T79 t341 Zg).f0))∧w'.cell? ⟨(Ve.add ((Zg).toNat * 2)).block,(Ve.add ((Zg).toNat * 2)).off+1,none⟩=some (.bool ((rd_T79 t341 Zg).f1))) (ds:=[]) #[false,false,false,false,false,false,false,false,false,false,false,false,false,false] (by kernel_rfl) rfl rfl ⟨(Yc Zs.out 0).trans rfl,(Yc Zs.out 1).trans rfl,(Yc Zs.out 2).trans rfl,hx348_0,Uj,hx350_0,Uk⟩ (fun hHeld=> ?_);refine with_tabW ebbtideref12_nearest.tab6 ebbtideref12_nearest.bits6 (fun HT_ HW_=> ?_);generalize wr.drew=w48 at HO_11 HO_12 Zs Xg HB hx348_0 Uj hx350_0 Uk hHeld ⊢;refine pu 1 28 (bm 14 2) ?_;refine pu 2 29 (bm 14 6) ?_;refine pu 3 30 (bm 14 14) ?_;refine pu 7 34 (bm 14 142) ?_;refine pu 8 35 (bm 14 398) ?_;refine pu 9 36 (bm 14 910) ?_;refine ta 0 27 (bm 14 911) hHeld ?_;refine ta 4 31 (bm 14 927) hHeld ?_;refine ta 6 33 (bm 14 991) hHeld ?_;refine ta 10 37 (bm 14 2015) hHeld ?_;refine on 5 (some 32) (bm 14 2047) fun K hK=> ?_
    refine gs Try.func42 #[.agg #[.int .i64 Zb, .bool Zc, .slice Ze Za.length Zd], .agg #[.int .i64 ((rd_T79 t341 Zg).f0), .bool ((rd_T79 t341 Zg).f1)]] ?_
    with_reducible refine(ebbtideref07_From.calls Zb Zc _ _ Za ((rd_T79 t341 Zg).f0) ((rd_T79 t341 Zg).f1) t349 _ ?side1 ?side2 (by first|exact A14.out|(have h_:=A14.out;rw[← Nbq22.out] at h_;exact h_)|(have h_:=A14.out;rw[← Nbq18.out] at h_;exact h_))).mono ?_
    (case side1=>exact(Yt Zh.out HB.out))
    (case side2=>exact Zo.out)
    rintro e w49 ⟨rfl,hb⟩;have HS3_:=(hb.cell (Yb _ _ (hHeld.2.2.2.1))).trans (hHeld.2.2.2.1);have HS4_:=(hb.cell (Yb _ _ (hHeld.2.2.2.2.1))).trans (hHeld.2.2.2.2.1);have HS5_:=(hb.cell (Yb _ _ (hHeld.2.2.2.2.2.1))).trans (hHeld.2.2.2.2.2.1);have HS6_:=(hb.cell (Yb _ _ (hHeld.2.2.2.2.2.2))).trans (hHeld.2.2.2.2.2.2);refine⟨_,rfl,?_⟩;replace HO_11:=Ya (Ys HO_11.out hb);replace HO_12:=Ya (Ys HO_12.out hb);replace Zs:=Ya (Yn Zs.out hb);replace Xg:=Ya (Yn Xg.out hb);replace HB:=Ya (Yk HB.out hb)
    (try clear hb)
    (try clear hb2)
    (try clear hk)
    (try clear hi)
    refine hK.out _ _ ⟨bc Zs 0,bc Zs 1,bc Zs 2,HS3_,HS4_,HS5_,HS6_⟩ (fun hHeld=> ?_);clear hK K;refine nm ?_;refine on 11 (some 38) (bm 14 4095) fun K hK=> ?_
    refine gs Try.func43 #[.agg #[.int .i64 Zb, .bool Zc, .slice Ze Za.length Zd], .agg #[.int .i64 ((rd_T79 t341 Zg).f0), .bool ((rd_T79 t341 Zg).f1)]] ?_
    with_reducible refine(ebbtideref07_To.calls Zb Zc _ _ Za ((rd_T79 t341 Zg).f0) ((rd_T79 t341 Zg).f1) t351 _ ?side1 ?side2 (by first|exact A15.out|(have h_:=A15.out;rw[← Nbq22.out] at h_;exact h_)|(have h_:=A15.out;rw[← Nbq18.out] at h_;exact h_))).mono ?_
    (case side1=>exact(Yt Zh.out HB.out))
    (case side2=>exact Zo.out)
    rintro e w50 ⟨rfl,hb⟩;have HS3_:=(hb.cell (Yb _ _ (hHeld.2.2.2.1))).trans (hHeld.2.2.2.1);have HS4_:=(hb.cell (Yb _ _ (hHeld.2.2.2.2.1))).trans (hHeld.2.2.2.2.1);have HS5_:=(hb.cell (Yb _ _ (hHeld.2.2.2.2.2.1))).trans (hHeld.2.2.2.2.2.1);have HS6_:=(hb.cell (Yb _ _ (hHeld.2.2.2.2.2.2))).trans (hHeld.2.2.2.2.2.2);refine⟨_,rfl,?_⟩;replace HO_11:=Ya (Ys HO_11.out hb);replace HO_12:=Ya (Ys HO_12.out hb);replace Zs:=Ya (Yn Zs.out hb);replace Xg:=Ya (Yn Xg.out hb);replace HB:=Ya (Yk HB.out hb)
    (try clear hb)
    (try clear hb2)
    (try clear hk)
    (try clear hi)
    refine hK.out _ _ ⟨bc Zs 0,bc Zs 1,bc Zs 2,HS3_,HS4_,HS5_,HS6_⟩ (fun hHeld=> ?_);clear hK K;refine nm ?_;refine pu 12 14 (bm 14 8191) ?_;refine pu 13 15 (bm 14 16383) ?_;refine done_ (done_of HT_.out (by kernel_rfl)) ?_;try go_wp2
    replace HO_11:=Ya (Yp HO_11.out);replace HO_12:=Ya (Yp HO_12.out);replace Zs:=Ya (Ym Zs.out);replace Xg:=Ya (Ym Xg.out);replace HB:=Ya (Yg HB.out);have p352:0≤(t349:Int):=od;have q352:t349<(l4_1.length:Int):=od;obtain⟨ad352,e352,Wr⟩:=Kd.at_bool HR4_1.out t349 p352 q352;have Vt:=Wr
    (try rw[← Nbq18.out] at Wr)
    (try rw[← Nbq18.out] at Vt)
    cases e352;replace Wr:=hc HB Wr;replace p352:=eq_true p352;replace q352:=eq_true q352;refine start_ (n:=32) (S:=fun w'=>w'.cell? ⟨gb340,0,none⟩=some (.slice A4_0 Vv.length c4_0)∧w'.cell? ⟨gb340,1,none⟩=some (.slice (some ad352) l4_1.length c4_1)∧w'.cell? ⟨gb340,2,none⟩=some (.bool a4_2)∧w'.cell? (ad352.add (t349).toNat)=some (.bool false)) (ds:=[]) #[false,false,false,false,false,false,false,false,false,false,false,false,false,false,false,false,false,false,false,false,false,false,false,false,false,false,false,false,false,false,false,false] (by kernel_rfl) rfl rfl ⟨(Yc Xg.out 0).trans rfl,(Yc Xg.out 1).trans rfl,(Yc Xg.out 2).trans rfl,((HB.out.cell (Yb w _ Vt)).trans Vt)⟩ (fun hHeld=> ?_);refine with_tabW ebbtideref12_nearest.tab7 ebbtideref12_nearest.bits7 (fun HT_ HW_=> ?_);generalize w50.drew=w51 at HO_11 HO_12 Zs Xg HB Wr hHeld ⊢;refine pu 0 39 (bm 32 1) ?_;refine pu 2 41 (bm 32 5) ?_;refine ta 1 40 (bm 32 7) hHeld ?_;refine pu 3 42 (bm 32 15) ?_;refine ta 4 43 (bm 32 31) hHeld ?_;refine pu 5 44 (bm 32 63) ?_;refine pure_ (i:=6) (N:=some 45) (v:=undef) (a':= ?_) #[true,true,true,true,true,true,true,false,false,false,false,false,false,false,false,false,false,false,false,false,false,false,false,false,false,false,false,false,false,false,false,false] rfl rfl (any_of HT_.out (by kernel_rfl)) (fun _ _ _ h=>h) (Or.inr ⟨by rfl,rfl⟩) ?_ ?_
    rotate_left
    ·simp only[Act.put,List.setIfInBounds_toArray,List.set_cons_zero,List.set_cons_succ,i64_w,i32_w]
     rfl
    refine pure_ (i:=7) (N:=some 46) (v:=undef) (a':= ?_) #[true,true,true,true,true,true,true,true,false,false,false,false,false,false,false,false,false,false,false,false,false,false,false,false,false,false,false,false,false,false,false,false] rfl rfl (any_of HT_.out (by kernel_rfl)) (fun _ _ _ h=>h) (Or.inr ⟨by rfl,rfl⟩) ?_ ?_
    rotate_left
    ·simp only[Act.put,List.setIfInBounds_toArray,List.set_cons_zero,List.set_cons_succ,i64_w,i32_w]
     rfl
    refine pure_ (i:=8) (N:=some 47) (v:=undef) (a':= ?_) #[true,true,true,true,true,true,true,true,true,false,false,false,false,false,false,false,false,false,false,false,false,false,false,false,false,false,false,false,false,false,false,false] rfl rfl (any_of HT_.out (by kernel_rfl)) (fun _ _ _ h=>h) (Or.inr ⟨by rfl,rfl⟩) ?_ ?_
    rotate_left
    ·simp only[Act.put,List.setIfInBounds_toArray,List.set_cons_zero,List.set_cons_succ,i64_w,i32_w]
     rfl
    refine pure_ (i:=9) (N:=some 48) (v:=undef) (a':= ?_) #[true,true,true,true,true,true,true,true,true,true,false,false,false,false,false,false,false,false,false,false,false,false,false,false,false,false,false,false,false,false,false,false] rfl rfl (any_of HT_.out (by kernel_rfl)) (fun _ _ _ h=>h) (Or.inr ⟨by rfl,rfl⟩) ?_ ?_
    rotate_left
    ·simp only[Act.put,List.setIfInBounds_toArray,List.set_cons_zero,List.set_cons_succ,i64_w,i32_w]
     rfl
    refine pure_ (i:=10) (N:=some 49) (v:=undef) (a':= ?_) #[true,true,true,true,true,true,true,true,true,true,true,false,false,false,false,false,false,false,false,false,false,false,false,false,false,false,false,false,false,false,false,false] rfl rfl (any_of HT_.out (by kernel_rfl)) (fun _ _ _ h=>h) (Or.inr ⟨by rfl,rfl⟩) ?_ ?_
    rotate_left
    ·simp only[Act.put,List.setIfInBounds_toArray,List.set_cons_zero,List.set_cons_succ,i64_w,i32_w]
     rfl
    refine pu 11 50 (bm 32 4095) ?_;refine pu 12 51 (bm 32 8191) ?_;refine pure_ (i:=13) (N:=some 52) (v:=undef) (a':= ?_) #[true,true,true,true,true,true,true,true,true,true,true,true,true,true,false,false,false,false,false,false,false,false,false,false,false,false,false,false,false,false,false,false] rfl rfl (any_of HT_.out (by kernel_rfl)) (fun _ _ _ h=>h) (Or.inr ⟨by rfl,rfl⟩) ?_ ?_
    rotate_left
    ·simp only[Act.put,List.setIfInBounds_toArray,List.set_cons_zero,List.set_cons_succ,i64_w,i32_w]
     rfl
    refine pure_ (i:=14) (N:=some 53) (v:=undef) (a':= ?_) #[true,true,true,true,true,true,true,true,true,true,true,true,true,true,true,false,false,false,false,false,false,false,false,false,false,false,false,false,false,false,false,false] rfl rfl (any_of HT_.out (by kernel_rfl)) (fun _ _ _ h=>h) (Or.inr ⟨by rfl,rfl⟩) ?_ ?_
    rotate_left
    ·simp only[Act.put,List.setIfInBounds_toArray,List.set_cons_zero,List.set_cons_succ,i64_w,i32_w]
     rfl
    refine pure_ (i:=15) (N:=some 54) (v:=undef) (a':= ?_) #[true,true,true,true,true,true,true,true,true,true,true,true,true,true,true,true,false,false,false,false,false,false,false,false,false,false,false,false,false,false,false,false] rfl rfl (any_of HT_.out (by kernel_rfl)) (fun _ _ _ h=>h) (Or.inr ⟨by rfl,rfl⟩) ?_ ?_
    rotate_left
    ·simp only[Act.put,List.setIfInBounds_toArray,List.set_cons_zero,List.set_cons_succ,i64_w,i32_w]
     rfl
    refine pure_ (i:=16) (N:=some 55) (v:=undef) (a':= ?_) #[true,true,true,true,true,true,true,true,true,true,true,true,true,true,true,true,true,false,false,false,false,false,false,false,false,false,false,false,false,false,false,false] rfl rfl (any_of HT_.out (by kernel_rfl)) (fun _ _ _ h=>h) (Or.inr ⟨by rfl,rfl⟩) ?_ ?_
    rotate_left
    ·simp only[Act.put,List.setIfInBounds_toArray,List.set_cons_zero,List.set_cons_succ,i64_w,i32_w]
     rfl
    refine pure_ (i:=17) (N:=some 56) (v:=undef) (a':= ?_) #[true,true,true,true,true,true,true,true,true,true,true,true,true,true,true,true,true,true,false,false,false,false,false,false,false,false,false,false,false,false,false,false] rfl rfl (any_of HT_.out (by kernel_rfl)) (fun _ _ _ h=>h) (Or.inr ⟨by rfl,rfl⟩) ?_ ?_
    rotate_left
    ·simp only[Act.put,List.setIfInBounds_toArray,List.set_cons_zero,List.set_cons_succ,i64_w,i32_w]
     rfl
    refine pure_ (i:=18) (N:=some 57) (v:=undef) (a':= ?_) #[true,true,true,true,true,true,true,true,true,true,true,true,true,true,true,true,true,true,true,false,false,false,false,false,false,false,false,false,false,false,false,false] rfl rfl (any_of HT_.out (by kernel_rfl)) (fun _ _ _ h=>h) (Or.inr ⟨by rfl,rfl⟩) ?_ ?_
    rotate_left
    ·simp only[Act.put,List.setIfInBounds_toArray,List.set_cons_zero,List.set_cons_succ,i64_w,i32_w]
     rfl
    refine pure_ (i:=19) (N:=some 58) (v:=undef) (a':= ?_) #[true,true,true,true,true,true,true,true,true,true,true,true,true,true,true,true,true,true,true,true,false,false,false,false,false,false,false,false,false,false,false,false] rfl rfl (any_of HT_.out (by kernel_rfl)) (fun _ _ _ h=>h) (Or.inr ⟨by rfl,rfl⟩) ?_ ?_
    rotate_left
    ·simp only[Act.put,List.setIfInBounds_toArray,List.set_cons_zero,List.set_cons_succ,i64_w,i32_w]
     rfl
    refine pure_ (i:=20) (N:=some 59) (v:=undef) (a':= ?_) #[true,true,true,true,true,true,true,true,true,true,true,true,true,true,true,true,true,true,true,true,true,false,false,false,false,false,false,false,false,false,false,false] rfl rfl (any_of HT_.out (by kernel_rfl)) (fun _ _ _ h=>h) (Or.inr ⟨by rfl,rfl⟩) ?_ ?_
    rotate_left
    ·simp only[Act.put,List.setIfInBounds_toArray,List.set_cons_zero,List.set_cons_succ,i64_w,i32_w]
     rfl
    refine pure_ (i:=21) (N:=some 60) (v:=undef) (a':= ?_) #[true,true,true,true,true,true,true,true,true,true,true,true,true,true,true,true,true,true,true,true,true,true,false,false,false,false,false,false,false,false,false,false] rfl rfl (any_of HT_.out (by kernel_rfl)) (fun _ _ _ h=>h) (Or.inr ⟨by rfl,rfl⟩) ?_ ?_
    rotate_left
    ·simp only[Act.put,List.setIfInBounds_toArray,List.set_cons_zero,List.set_cons_succ,i64_w,i32_w]
     rfl
    refine pure_ (i:=22) (N:=some 61) (v:=undef) (a':= ?_) #[true,true,true,true,true,true,true,true,true,true,true,true,true,true,true,true,true,true,true,true,true,true,true,false,false,false,false,false,false,false,false,false] rfl rfl (any_of HT_.out (by kernel_rfl)) (fun _ _ _ h=>h) (Or.inr ⟨by rfl,rfl⟩) ?_ ?_
    rotate_left
    ·simp only[Act.put,List.setIfInBounds_toArray,List.set_cons_zero,List.set_cons_succ,i64_w,i32_w]
     rfl
    refine pure_ (i:=23) (N:=some 62) (v:=undef) (a':= ?_) #[true,true,true,true,true,true,true,true,true,true,true,true,true,true,true,true,true,true,true,true,true,true,true,true,false,false,false,false,false,false,false,false] rfl rfl (any_of HT_.out (by kernel_rfl)) (fun _ _ _ h=>h) (Or.inr ⟨by rfl,rfl⟩) ?_ ?_
    rotate_left
    ·simp only[Act.put,List.setIfInBounds_toArray,List.set_cons_zero,List.set_cons_succ,i64_w,i32_w]
     rfl
    refine pure_ (i:=24) (N:=some 63) (v:=undef) (a':= ?_) #[true,true,true,true,true,true,true,true,true,true,true,true,true,true,true,true,true,true,true,true,true,true,true,true,true,false,false,false,false,false,false,false] rfl rfl (any_of HT_.out (by kernel_rfl)) (fun _ _ _ h=>h) (Or.inr ⟨by rfl,rfl⟩) ?_ ?_
    rotate_left
    ·simp only[Act.put,List.setIfInBounds_toArray,List.set_cons_zero,List.set_cons_succ,i64_w,i32_w]
     rfl
    refine pure_ (i:=25) (N:=some 64) (v:=undef) (a':= ?_) #[true,true,true,true,true,true,true,true,true,true,true,true,true,true,true,true,true,true,true,true,true,true,true,true,true,true,false,false,false,false,false,false] rfl rfl (any_of HT_.out (by kernel_rfl)) (fun _ _ _ h=>h) (Or.inr ⟨by rfl,rfl⟩) ?_ ?_
    rotate_left
    ·simp only[Act.put,List.setIfInBounds_toArray,List.set_cons_zero,List.set_cons_succ,i64_w,i32_w]
     rfl
    refine pure_ (i:=26) (N:=some 65) (v:=undef) (a':= ?_) #[true,true,true,true,true,true,true,true,true,true,true,true,true,true,true,true,true,true,true,true,true,true,true,true,true,true,true,false,false,false,false,false] rfl rfl (any_of HT_.out (by kernel_rfl)) (fun _ _ _ h=>h) (Or.inr ⟨by rfl,rfl⟩) ?_ ?_
    rotate_left
    ·simp only[Act.put,List.setIfInBounds_toArray,List.set_cons_zero,List.set_cons_succ,i64_w,i32_w]
     rfl
    refine pure_ (i:=27) (N:=some 66) (v:=undef) (a':= ?_) #[true,true,true,true,true,true,true,true,true,true,true,true,true,true,true,true,true,true,true,true,true,true,true,true,true,true,true,true,false,false,false,false] rfl rfl (any_of HT_.out (by kernel_rfl)) (fun _ _ _ h=>h) (Or.inr ⟨by rfl,rfl⟩) ?_ ?_
    rotate_left
    ·simp only[Act.put,List.setIfInBounds_toArray,List.set_cons_zero,List.set_cons_succ,i64_w,i32_w]
     rfl
    refine pure_ (i:=28) (N:=some 67) (v:=undef) (a':= ?_) #[true,true,true,true,true,true,true,true,true,true,true,true,true,true,true,true,true,true,true,true,true,true,true,true,true,true,true,true,true,false,false,false] rfl rfl (any_of HT_.out (by kernel_rfl)) (fun _ _ _ h=>h) (Or.inr ⟨by rfl,rfl⟩) ?_ ?_
    rotate_left
    ·simp only[Act.put,List.setIfInBounds_toArray,List.set_cons_zero,List.set_cons_succ,i64_w,i32_w]
     rfl
    refine pure_ (i:=29) (N:=some 68) (v:=undef) (a':= ?_) #[true,true,true,true,true,true,true,true,true,true,true,true,true,true,true,true,true,true,true,true,true,true,true,true,true,true,true,true,true,true,false,false] rfl rfl (any_of HT_.out (by kernel_rfl)) (fun _ _ _ h=>h) (Or.inr ⟨by rfl,rfl⟩) ?_ ?_
    rotate_left
    ·simp only[Act.put,List.setIfInBounds_toArray,List.set_cons_zero,List.set_cons_succ,i64_w,i32_w]
     rfl
    refine pure_ (i:=30) (N:=some 69) (v:=undef) (a':= ?_) #[true,true,true,true,true,true,true,true,true,true,true,true,true,true,true,true,true,true,true,true,true,true,true,true,true,true,true,true,true,true,true,false] rfl rfl (any_of HT_.out (by kernel_rfl)) (fun _ _ _ h=>h) (Or.inr ⟨by rfl,rfl⟩) ?_ ?_
    rotate_left
    ·simp only[Act.put,List.setIfInBounds_toArray,List.set_cons_zero,List.set_cons_succ,i64_w,i32_w]
     rfl
    refine pu 31 70 (bm 32 4294967295) ?_;refine done_ (done_of HT_.out (by kernel_rfl)) ?_;try go_wp2
    go_roundg k1
    case measure=>have:=HK1.out;omega
    case rel=>exact⟨(Xi),(wrap64 (Zg+1)),(by first|rfl|(simp;done)|(simp[*];done)),H',⟨by have:=HK1.out;omega⟩,⟨HO_11.out⟩,⟨HO_12.out⟩,⟨Zs.out⟩,⟨Xg.out⟩,⟨HB.out⟩⟩
   subst c19;first|rw[Yx rfl] at H|rw[Yx trivial] at H
   by_cases c20:0≤t351
   rotate_left
   ·rw[Yy c20] at H
    exact absurd H (by simp)
   rw[Yx c20] at H;have c20b0:decide (0≤t351)=true:=Yv c20;clear c20;by_cases c21:t351<(l4_1.length:Int)
   rotate_left
   ·rw[Yy c21] at H
    exact absurd H (by simp)
   rw[Yx c21] at H;have c21b0:decide (t351<(l4_1.length:Int))=true:=Yv c21;clear c21;obtain⟨bq22,hbq22⟩: ∃ b_:Bool,b_=(rdOf false l4_1 t351):=⟨_,rfl⟩;replace H:(if bq22=true then(if t351<(Vv.length:Int) then(if t349<(Vv.length:Int) then((ebbtideref11_Time.f Zb Zc Za ((rd_T79 t341 Zg).f0) ((rd_T79 t341 Zg).f1)).bind fun t357=>(if (rd Vv t351)=(wrap64 ((rd Vv t349)+t357)) then(if Xi.length<8796093022208 then(ebbtideref12_nearest.l0 k1 a2 a3 (Xi ++ [(⟨(rd_T79 t341 Zg).f0,(rd_T79 t341 Zg).f1⟩:S79)]) t341 (wrap64 (Zg+1)) Zb Zc Za Vv l4_1 a4_2) else(none)) else(ebbtideref12_nearest.l0 k1 a2 a3 Xi t341 (wrap64 (Zg+1)) Zb Zc Za Vv l4_1 a4_2))) else(none)) else(none)) else(ebbtideref12_nearest.l0 k1 a2 a3 Xi t341 (wrap64 (Zg+1)) Zb Zc Za Vv l4_1 a4_2))=some r:=by rw[← hbq22] at H;exact H
   have Nbq22:=Ya hbq22;clear hbq22;by_cases c23:bq22=true
   rotate_left
   ·replace c23:=Bool.eq_false_iff.mpr c23
    subst c23;rw[Yy (show ¬ (false=true) by decide)] at H;have H':=Ya H;clear H;obtain⟨Ao42,co42,eo42⟩:=Kd.R_slice HO_12.out;subst eo42;try go_wp2
    replace HO_11:=Ya (Yp HO_11.out);replace HO_12:=Ya (Yp HO_12.out);replace Zs:=Ya (Ym Zs.out);replace Xg:=Ya (Ym Xg.out);replace HB:=Ya (Yg HB.out);have p348:0≤(Zg:Int):=od;have q348:Zg<(t341.length:Int):=od;obtain⟨Ve,e348,hx348_0,Uj⟩:=at_T79 (Kd.R_reads' HO_12.out).2.2 Zg p348 q348
    (try rw[← Nbq18.out] at Uj)
    (try rw[← Nbq22.out] at Uj)
    cases e348;replace p348:=eq_true p348;replace q348:=eq_true q348;have p350:0≤(Zg:Int):=od;have q350:Zg<(t341.length:Int):=od;obtain⟨ad350,e350,hx350_0,Uk⟩:=at_T79 (Kd.R_reads' HO_12.out).2.2 Zg p350 q350
    (try rw[← Nbq18.out] at Uk)
    (try rw[← Nbq22.out] at Uk)
    obtain rfl:Ve=ad350:=(by injection e350);replace p350:=eq_true p350;replace q350:=eq_true q350;refine start_ (n:=14) (S:=fun w'=>w'.cell? ⟨Jl,0,none⟩=some (.int .i64 Zb)∧w'.cell? ⟨Jl,1,none⟩=some (.bool Zc)∧w'.cell? ⟨Jl,2,none⟩=some (.slice Ze Za.length Zd)∧w'.cell? (Ve.add ((Zg).toNat * 2))=some (.int .i64 ((rd_T79 t341 Zg).f0))∧w'.cell? ⟨(Ve.add ((Zg).toNat * 2)).block,(Ve.add ((Zg).toNat * 2)).off+1,none⟩=some (.bool ((rd_T79 t341 Zg).f1))∧w'.cell? (Ve.add ((Zg).toNat * 2))=some (.int .i64 ((rd_T79 t341 Zg).f0))∧w'.cell? ⟨(Ve.add ((Zg).toNat * 2)).block,(Ve.add ((Zg).toNat * 2)).off+1,none⟩=some (.bool ((rd_T79 t341 Zg).f1))) (ds:=[]) #[false,false,false,false,false,false,false,false,false,false,false,false,false,false] (by kernel_rfl) rfl rfl ⟨(Yc Zs.out 0).trans rfl,(Yc Zs.out 1).trans rfl,(Yc Zs.out 2).trans rfl,hx348_0,Uj,hx350_0,Uk⟩ (fun hHeld=> ?_);refine with_tabW ebbtideref12_nearest.tab6 ebbtideref12_nearest.bits6 (fun HT_ HW_=> ?_);generalize wr.drew=w43 at HO_11 HO_12 Zs Xg HB hx348_0 Uj hx350_0 Uk hHeld ⊢;refine pu 1 28 (bm 14 2) ?_;refine pu 2 29 (bm 14 6) ?_;refine pu 3 30 (bm 14 14) ?_;refine pu 7 34 (bm 14 142) ?_;refine pu 8 35 (bm 14 398) ?_;refine pu 9 36 (bm 14 910) ?_;refine ta 0 27 (bm 14 911) hHeld ?_;refine ta 4 31 (bm 14 927) hHeld ?_;refine ta 6 33 (bm 14 991) hHeld ?_;refine ta 10 37 (bm 14 2015) hHeld ?_;refine on 5 (some 32) (bm 14 2047) fun K hK=> ?_
    refine gs Try.func42 #[.agg #[.int .i64 Zb, .bool Zc, .slice Ze Za.length Zd], .agg #[.int .i64 ((rd_T79 t341 Zg).f0), .bool ((rd_T79 t341 Zg).f1)]] ?_
    with_reducible refine(ebbtideref07_From.calls Zb Zc _ _ Za ((rd_T79 t341 Zg).f0) ((rd_T79 t341 Zg).f1) t349 _ ?side1 ?side2 (by first|exact A14.out|(have h_:=A14.out;rw[← Nbq22.out] at h_;exact h_)|(have h_:=A14.out;rw[← Nbq18.out] at h_;exact h_))).mono ?_
    (case side1=>exact(Yt Zh.out HB.out))
    (case side2=>exact Zo.out)
    rintro e w44 ⟨rfl,hb⟩;have HS3_:=(hb.cell (Yb _ _ (hHeld.2.2.2.1))).trans (hHeld.2.2.2.1);have HS4_:=(hb.cell (Yb _ _ (hHeld.2.2.2.2.1))).trans (hHeld.2.2.2.2.1);have HS5_:=(hb.cell (Yb _ _ (hHeld.2.2.2.2.2.1))).trans (hHeld.2.2.2.2.2.1);have HS6_:=(hb.cell (Yb _ _ (hHeld.2.2.2.2.2.2))).trans (hHeld.2.2.2.2.2.2);refine⟨_,rfl,?_⟩;replace HO_11:=Ya (Ys HO_11.out hb);replace HO_12:=Ya (Ys HO_12.out hb);replace Zs:=Ya (Yn Zs.out hb);replace Xg:=Ya (Yn Xg.out hb);replace HB:=Ya (Yk HB.out hb)
    (try clear hb)
    (try clear hb2)
    (try clear hk)
    (try clear hi)
    refine hK.out _ _ ⟨bc Zs 0,bc Zs 1,bc Zs 2,HS3_,HS4_,HS5_,HS6_⟩ (fun hHeld=> ?_);clear hK K;refine nm ?_;refine on 11 (some 38) (bm 14 4095) fun K hK=> ?_
    refine gs Try.func43 #[.agg #[.int .i64 Zb, .bool Zc, .slice Ze Za.length Zd], .agg #[.int .i64 ((rd_T79 t341 Zg).f0), .bool ((rd_T79 t341 Zg).f1)]] ?_
    with_reducible refine(ebbtideref07_To.calls Zb Zc _ _ Za ((rd_T79 t341 Zg).f0) ((rd_T79 t341 Zg).f1) t351 _ ?side1 ?side2 (by first|exact A15.out|(have h_:=A15.out;rw[← Nbq22.out] at h_;exact h_)|(have h_:=A15.out;rw[← Nbq18.out] at h_;exact h_))).mono ?_
    (case side1=>exact(Yt Zh.out HB.out))
    (case side2=>exact Zo.out)
    rintro e w45 ⟨rfl,hb⟩;have HS3_:=(hb.cell (Yb _ _ (hHeld.2.2.2.1))).trans (hHeld.2.2.2.1);have HS4_:=(hb.cell (Yb _ _ (hHeld.2.2.2.2.1))).trans (hHeld.2.2.2.2.1);have HS5_:=(hb.cell (Yb _ _ (hHeld.2.2.2.2.2.1))).trans (hHeld.2.2.2.2.2.1);have HS6_:=(hb.cell (Yb _ _ (hHeld.2.2.2.2.2.2))).trans (hHeld.2.2.2.2.2.2);refine⟨_,rfl,?_⟩;replace HO_11:=Ya (Ys HO_11.out hb);replace HO_12:=Ya (Ys HO_12.out hb);replace Zs:=Ya (Yn Zs.out hb);replace Xg:=Ya (Yn Xg.out hb);replace HB:=Ya (Yk HB.out hb)
    (try clear hb)
    (try clear hb2)
    (try clear hk)
    (try clear hi)
    refine hK.out _ _ ⟨bc Zs 0,bc Zs 1,bc Zs 2,HS3_,HS4_,HS5_,HS6_⟩ (fun hHeld=> ?_);clear hK K;refine nm ?_;refine pu 12 14 (bm 14 8191) ?_;refine pu 13 15 (bm 14 16383) ?_;refine done_ (done_of HT_.out (by kernel_rfl)) ?_;try go_wp2
    replace HO_11:=Ya (Yp HO_11.out);replace HO_12:=Ya (Yp HO_12.out);replace Zs:=Ya (Ym Zs.out);replace Xg:=Ya (Ym Xg.out);replace HB:=Ya (Yg HB.out);have p352:0≤(t349:Int):=od;have q352:t349<(l4_1.length:Int):=od;obtain⟨ad352,e352,Wr⟩:=Kd.at_bool HR4_1.out t349 p352 q352;have Vt:=Wr
    (try rw[← Nbq18.out] at Wr)
    (try rw[← Nbq18.out] at Vt)
    (try rw[← Nbq22.out] at Wr)
    (try rw[← Nbq22.out] at Vt)
    cases e352;replace Wr:=hc HB Wr;replace p352:=eq_true p352;replace q352:=eq_true q352;have p353:0≤(t351:Int):=od;have q353:t351<(l4_1.length:Int):=od;obtain⟨ad353,e353,Vu⟩:=Kd.at_bool HR4_1.out t351 p353 q353;have Ja:=Vu
    (try rw[← Nbq18.out] at Vu)
    (try rw[← Nbq18.out] at Ja)
    (try rw[← Nbq22.out] at Vu)
    (try rw[← Nbq22.out] at Ja)
    obtain rfl:ad352=ad353:=(by injection e353);replace Vu:=hc HB Vu;replace p353:=eq_true p353;replace q353:=eq_true q353;refine start_ (n:=32) (S:=fun w'=>w'.cell? ⟨gb340,0,none⟩=some (.slice A4_0 Vv.length c4_0)∧w'.cell? ⟨gb340,1,none⟩=some (.slice (some ad352) l4_1.length c4_1)∧w'.cell? ⟨gb340,2,none⟩=some (.bool a4_2)∧w'.cell? (ad352.add (t349).toNat)=some (.bool true)∧w'.cell? (ad352.add (t351).toNat)=some (.bool false)) (ds:=[]) #[false,false,false,false,false,false,false,false,false,false,false,false,false,false,false,false,false,false,false,false,false,false,false,false,false,false,false,false,false,false,false,false] (by kernel_rfl) rfl rfl ⟨(Yc Xg.out 0).trans rfl,(Yc Xg.out 1).trans rfl,(Yc Xg.out 2).trans rfl,((HB.out.cell (Yb w _ Vt)).trans Vt),((HB.out.cell (Yb w _ Ja)).trans Ja)⟩ (fun hHeld=> ?_);refine with_tabW ebbtideref12_nearest.tab7 ebbtideref12_nearest.bits7 (fun HT_ HW_=> ?_);generalize w45.drew=w46 at HO_11 HO_12 Zs Xg HB Wr Vu hHeld ⊢;refine pu 0 39 (bm 32 1) ?_;refine pu 2 41 (bm 32 5) ?_;refine ta 1 40 (bm 32 7) hHeld ?_;refine pu 3 42 (bm 32 15) ?_;refine ta 4 43 (bm 32 31) hHeld ?_;refine pu 5 44 (bm 32 63) ?_;refine pu 6 45 (bm 32 127) ?_;refine pu 8 47 (bm 32 383) ?_;refine ta 7 46 (bm 32 511) hHeld ?_;refine pu 9 48 (bm 32 1023) ?_;refine ta 10 49 (bm 32 2047) hHeld ?_;refine pu 11 50 (bm 32 4095) ?_;refine pu 12 51 (bm 32 8191) ?_;refine pure_ (i:=13) (N:=some 52) (v:=undef) (a':= ?_) #[true,true,true,true,true,true,true,true,true,true,true,true,true,true,false,false,false,false,false,false,false,false,false,false,false,false,false,false,false,false,false,false] rfl rfl (any_of HT_.out (by kernel_rfl)) (fun _ _ _ h=>h) (Or.inr ⟨by rfl,rfl⟩) ?_ ?_
    rotate_left
    ·simp only[Act.put,List.setIfInBounds_toArray,List.set_cons_zero,List.set_cons_succ,i64_w,i32_w]
     rfl
    refine pure_ (i:=14) (N:=some 53) (v:=undef) (a':= ?_) #[true,true,true,true,true,true,true,true,true,true,true,true,true,true,true,false,false,false,false,false,false,false,false,false,false,false,false,false,false,false,false,false] rfl rfl (any_of HT_.out (by kernel_rfl)) (fun _ _ _ h=>h) (Or.inr ⟨by rfl,rfl⟩) ?_ ?_
    rotate_left
    ·simp only[Act.put,List.setIfInBounds_toArray,List.set_cons_zero,List.set_cons_succ,i64_w,i32_w]
     rfl
    refine pure_ (i:=15) (N:=some 54) (v:=undef) (a':= ?_) #[true,true,true,true,true,true,true,true,true,true,true,true,true,true,true,true,false,false,false,false,false,false,false,false,false,false,false,false,false,false,false,false] rfl rfl (any_of HT_.out (by kernel_rfl)) (fun _ _ _ h=>h) (Or.inr ⟨by rfl,rfl⟩) ?_ ?_
    rotate_left
    ·simp only[Act.put,List.setIfInBounds_toArray,List.set_cons_zero,List.set_cons_succ,i64_w,i32_w]
     rfl
    refine pure_ (i:=16) (N:=some 55) (v:=undef) (a':= ?_) #[true,true,true,true,true,true,true,true,true,true,true,true,true,true,true,true,true,false,false,false,false,false,false,false,false,false,false,false,false,false,false,false] rfl rfl (any_of HT_.out (by kernel_rfl)) (fun _ _ _ h=>h) (Or.inr ⟨by rfl,rfl⟩) ?_ ?_
    rotate_left
    ·simp only[Act.put,List.setIfInBounds_toArray,List.set_cons_zero,List.set_cons_succ,i64_w,i32_w]
     rfl
    refine pure_ (i:=17) (N:=some 56) (v:=undef) (a':= ?_) #[true,true,true,true,true,true,true,true,true,true,true,true,true,true,true,true,true,true,false,false,false,false,false,false,false,false,false,false,false,false,false,false] rfl rfl (any_of HT_.out (by kernel_rfl)) (fun _ _ _ h=>h) (Or.inr ⟨by rfl,rfl⟩) ?_ ?_
    rotate_left
    ·simp only[Act.put,List.setIfInBounds_toArray,List.set_cons_zero,List.set_cons_succ,i64_w,i32_w]
     rfl
    refine pure_ (i:=18) (N:=some 57) (v:=undef) (a':= ?_) #[true,true,true,true,true,true,true,true,true,true,true,true,true,true,true,true,true,true,true,false,false,false,false,false,false,false,false,false,false,false,false,false] rfl rfl (any_of HT_.out (by kernel_rfl)) (fun _ _ _ h=>h) (Or.inr ⟨by rfl,rfl⟩) ?_ ?_
    rotate_left
    ·simp only[Act.put,List.setIfInBounds_toArray,List.set_cons_zero,List.set_cons_succ,i64_w,i32_w]
     rfl
    refine pure_ (i:=19) (N:=some 58) (v:=undef) (a':= ?_) #[true,true,true,true,true,true,true,true,true,true,true,true,true,true,true,true,true,true,true,true,false,false,false,false,false,false,false,false,false,false,false,false] rfl rfl (any_of HT_.out (by kernel_rfl)) (fun _ _ _ h=>h) (Or.inr ⟨by rfl,rfl⟩) ?_ ?_
    rotate_left
    ·simp only[Act.put,List.setIfInBounds_toArray,List.set_cons_zero,List.set_cons_succ,i64_w,i32_w]
     rfl
    refine pure_ (i:=20) (N:=some 59) (v:=undef) (a':= ?_) #[true,true,true,true,true,true,true,true,true,true,true,true,true,true,true,true,true,true,true,true,true,false,false,false,false,false,false,false,false,false,false,false] rfl rfl (any_of HT_.out (by kernel_rfl)) (fun _ _ _ h=>h) (Or.inr ⟨by rfl,rfl⟩) ?_ ?_
    rotate_left
    ·simp only[Act.put,List.setIfInBounds_toArray,List.set_cons_zero,List.set_cons_succ,i64_w,i32_w]
     rfl
    refine pure_ (i:=21) (N:=some 60) (v:=undef) (a':= ?_) #[true,true,true,true,true,true,true,true,true,true,true,true,true,true,true,true,true,true,true,true,true,true,false,false,false,false,false,false,false,false,false,false] rfl rfl (any_of HT_.out (by kernel_rfl)) (fun _ _ _ h=>h) (Or.inr ⟨by rfl,rfl⟩) ?_ ?_
    rotate_left
    ·simp only[Act.put,List.setIfInBounds_toArray,List.set_cons_zero,List.set_cons_succ,i64_w,i32_w]
     rfl
    refine pure_ (i:=22) (N:=some 61) (v:=undef) (a':= ?_) #[true,true,true,true,true,true,true,true,true,true,true,true,true,true,true,true,true,true,true,true,true,true,true,false,false,false,false,false,false,false,false,false] rfl rfl (any_of HT_.out (by kernel_rfl)) (fun _ _ _ h=>h) (Or.inr ⟨by rfl,rfl⟩) ?_ ?_
    rotate_left
    ·simp only[Act.put,List.setIfInBounds_toArray,List.set_cons_zero,List.set_cons_succ,i64_w,i32_w]
     rfl
    refine pure_ (i:=23) (N:=some 62) (v:=undef) (a':= ?_) #[true,true,true,true,true,true,true,true,true,true,true,true,true,true,true,true,true,true,true,true,true,true,true,true,false,false,false,false,false,false,false,false] rfl rfl (any_of HT_.out (by kernel_rfl)) (fun _ _ _ h=>h) (Or.inr ⟨by rfl,rfl⟩) ?_ ?_
    rotate_left
    ·simp only[Act.put,List.setIfInBounds_toArray,List.set_cons_zero,List.set_cons_succ,i64_w,i32_w]
     rfl
    refine pure_ (i:=24) (N:=some 63) (v:=undef) (a':= ?_) #[true,true,true,true,true,true,true,true,true,true,true,true,true,true,true,true,true,true,true,true,true,true,true,true,true,false,false,false,false,false,false,false] rfl rfl (any_of HT_.out (by kernel_rfl)) (fun _ _ _ h=>h) (Or.inr ⟨by rfl,rfl⟩) ?_ ?_
    rotate_left
    ·simp only[Act.put,List.setIfInBounds_toArray,List.set_cons_zero,List.set_cons_succ,i64_w,i32_w]
     rfl
    refine pure_ (i:=25) (N:=some 64) (v:=undef) (a':= ?_) #[true,true,true,true,true,true,true,true,true,true,true,true,true,true,true,true,true,true,true,true,true,true,true,true,true,true,false,false,false,false,false,false] rfl rfl (any_of HT_.out (by kernel_rfl)) (fun _ _ _ h=>h) (Or.inr ⟨by rfl,rfl⟩) ?_ ?_
    rotate_left
    ·simp only[Act.put,List.setIfInBounds_toArray,List.set_cons_zero,List.set_cons_succ,i64_w,i32_w]
     rfl
    refine pure_ (i:=26) (N:=some 65) (v:=undef) (a':= ?_) #[true,true,true,true,true,true,true,true,true,true,true,true,true,true,true,true,true,true,true,true,true,true,true,true,true,true,true,false,false,false,false,false] rfl rfl (any_of HT_.out (by kernel_rfl)) (fun _ _ _ h=>h) (Or.inr ⟨by rfl,rfl⟩) ?_ ?_
    rotate_left
    ·simp only[Act.put,List.setIfInBounds_toArray,List.set_cons_zero,List.set_cons_succ,i64_w,i32_w]
     rfl
    refine pure_ (i:=27) (N:=some 66) (v:=undef) (a':= ?_) #[true,true,true,true,true,true,true,true,true,true,true,true,true,true,true,true,true,true,true,true,true,true,true,true,true,true,true,true,false,false,false,false] rfl rfl (any_of HT_.out (by kernel_rfl)) (fun _ _ _ h=>h) (Or.inr ⟨by rfl,rfl⟩) ?_ ?_
    rotate_left
    ·simp only[Act.put,List.setIfInBounds_toArray,List.set_cons_zero,List.set_cons_succ,i64_w,i32_w]
     rfl
    refine pure_ (i:=28) (N:=some 67) (v:=undef) (a':= ?_) #[true,true,true,true,true,true,true,true,true,true,true,true,true,true,true,true,true,true,true,true,true,true,true,true,true,true,true,true,true,false,false,false] rfl rfl (any_of HT_.out (by kernel_rfl)) (fun _ _ _ h=>h) (Or.inr ⟨by rfl,rfl⟩) ?_ ?_
    rotate_left
    ·simp only[Act.put,List.setIfInBounds_toArray,List.set_cons_zero,List.set_cons_succ,i64_w,i32_w]
     rfl
    refine pure_ (i:=29) (N:=some 68) (v:=undef) (a':= ?_) #[true,true,true,true,true,true,true,true,true,true,true,true,true,true,true,true,true,true,true,true,true,true,true,true,true,true,true,true,true,true,false,false] rfl rfl (any_of HT_.out (by kernel_rfl)) (fun _ _ _ h=>h) (Or.inr ⟨by rfl,rfl⟩) ?_ ?_
    rotate_left
    ·simp only[Act.put,List.setIfInBounds_toArray,List.set_cons_zero,List.set_cons_succ,i64_w,i32_w]
     rfl
    refine pure_ (i:=30) (N:=some 69) (v:=undef) (a':= ?_) #[true,true,true,true,true,true,true,true,true,true,true,true,true,true,true,true,true,true,true,true,true,true,true,true,true,true,true,true,true,true,true,false] rfl rfl (any_of HT_.out (by kernel_rfl)) (fun _ _ _ h=>h) (Or.inr ⟨by rfl,rfl⟩) ?_ ?_
    rotate_left
    ·simp only[Act.put,List.setIfInBounds_toArray,List.set_cons_zero,List.set_cons_succ,i64_w,i32_w]
     rfl
    refine pu 31 70 (bm 32 4294967295) ?_;refine done_ (done_of HT_.out (by kernel_rfl)) ?_;try go_wp2
    go_roundg k1
    case measure=>have:=HK1.out;omega
    case rel=>exact⟨(Xi),(wrap64 (Zg+1)),(by first|rfl|(simp;done)|(simp[*];done)),H',⟨by have:=HK1.out;omega⟩,⟨HO_11.out⟩,⟨HO_12.out⟩,⟨Zs.out⟩,⟨Xg.out⟩,⟨HB.out⟩⟩
   subst c23;first|rw[Yx rfl] at H|rw[Yx trivial] at H
   by_cases c24:t351<(Vv.length:Int)
   rotate_left
   ·rw[Yy c24] at H
    exact absurd H (by simp)
   rw[Yx c24] at H;have c24b0:decide (t351<(Vv.length:Int))=true:=Yv c24;clear c24;by_cases c25:t349<(Vv.length:Int)
   rotate_left
   ·rw[Yy c25] at H
    exact absurd H (by simp)
   rw[Yx c25] at H;have c25b0:decide (t349<(Vv.length:Int))=true:=Yv c25;clear c25;replace H:=Option.bind_eq_some_iff.mp H;obtain⟨t357,A260,H⟩:=H;try dsimp only at H
   have A26:=Ya A260;clear A260;by_cases c27:(rd Vv t351)=(wrap64 ((rd Vv t349)+t357))
   rotate_left
   ·rw[Yy c27] at H
    have c27b0:((rd Vv t351) == (wrap64 ((rd Vv t349)+t357)))=false:=beq_eq_false_iff_ne.mpr c27;have c27b1:((rd Vv t351) != (wrap64 ((rd Vv t349)+t357)))=true:=bne_iff_ne.mpr c27;have H':=Ya H;clear H;obtain⟨Ao36,co36,eo36⟩:=Kd.R_slice HO_12.out;subst eo36;try go_wp2
    replace HO_11:=Ya (Yp HO_11.out);replace HO_12:=Ya (Yp HO_12.out);replace Zs:=Ya (Ym Zs.out);replace Xg:=Ya (Ym Xg.out);replace HB:=Ya (Yg HB.out);have p348:0≤(Zg:Int):=od;have q348:Zg<(t341.length:Int):=od;obtain⟨Ve,e348,hx348_0,Uj⟩:=at_T79 (Kd.R_reads' HO_12.out).2.2 Zg p348 q348
    (try rw[← Nbq18.out] at Uj)
    (try rw[← Nbq22.out] at Uj)
    cases e348;replace p348:=eq_true p348;replace q348:=eq_true q348;have p350:0≤(Zg:Int):=od;have q350:Zg<(t341.length:Int):=od;obtain⟨ad350,e350,hx350_0,Uk⟩:=at_T79 (Kd.R_reads' HO_12.out).2.2 Zg p350 q350
    (try rw[← Nbq18.out] at Uk)
    (try rw[← Nbq22.out] at Uk)
    obtain rfl:Ve=ad350:=(by injection e350);replace p350:=eq_true p350;replace q350:=eq_true q350;refine start_ (n:=14) (S:=fun w'=>w'.cell? ⟨Jl,0,none⟩=some (.int .i64 Zb)∧w'.cell? ⟨Jl,1,none⟩=some (.bool Zc)∧w'.cell? ⟨Jl,2,none⟩=some (.slice Ze Za.length Zd)∧w'.cell? (Ve.add ((Zg).toNat * 2))=some (.int .i64 ((rd_T79 t341 Zg).f0))∧w'.cell? ⟨(Ve.add ((Zg).toNat * 2)).block,(Ve.add ((Zg).toNat * 2)).off+1,none⟩=some (.bool ((rd_T79 t341 Zg).f1))∧w'.cell? (Ve.add ((Zg).toNat * 2))=some (.int .i64 ((rd_T79 t341 Zg).f0))∧w'.cell? ⟨(Ve.add ((Zg).toNat * 2)).block,(Ve.add ((Zg).toNat * 2)).off+1,none⟩=some (.bool ((rd_T79 t341 Zg).f1))) (ds:=[]) #[false,false,false,false,false,false,false,false,false,false,false,false,false,false] (by kernel_rfl) rfl rfl ⟨(Yc Zs.out 0).trans rfl,(Yc Zs.out 1).trans rfl,(Yc Zs.out 2).trans rfl,hx348_0,Uj,hx350_0,Uk⟩ (fun hHeld=> ?_);refine with_tabW ebbtideref12_nearest.tab6 ebbtideref12_nearest.bits6 (fun HT_ HW_=> ?_);generalize wr.drew=w37 at HO_11 HO_12 Zs Xg HB hx348_0 Uj hx350_0 Uk hHeld ⊢;refine pu 1 28 (bm 14 2) ?_;refine pu 2 29 (bm 14 6) ?_;refine pu 3 30 (bm 14 14) ?_;refine pu 7 34 (bm 14 142) ?_;refine pu 8 35 (bm 14 398) ?_;refine pu 9 36 (bm 14 910) ?_;refine ta 0 27 (bm 14 911) hHeld ?_;refine ta 4 31 (bm 14 927) hHeld ?_;refine ta 6 33 (bm 14 991) hHeld ?_;refine ta 10 37 (bm 14 2015) hHeld ?_;refine on 5 (some 32) (bm 14 2047) fun K hK=> ?_
    refine gs Try.func42 #[.agg #[.int .i64 Zb, .bool Zc, .slice Ze Za.length Zd], .agg #[.int .i64 ((rd_T79 t341 Zg).f0), .bool ((rd_T79 t341 Zg).f1)]] ?_
    with_reducible refine(ebbtideref07_From.calls Zb Zc _ _ Za ((rd_T79 t341 Zg).f0) ((rd_T79 t341 Zg).f1) t349 _ ?side1 ?side2 (by first|exact A14.out|(have h_:=A14.out;rw[← Nbq22.out] at h_;exact h_)|(have h_:=A14.out;rw[← Nbq18.out] at h_;exact h_))).mono ?_
    (case side1=>exact(Yt Zh.out HB.out))
    (case side2=>exact Zo.out)
    rintro e w38 ⟨rfl,hb⟩;have HS3_:=(hb.cell (Yb _ _ (hHeld.2.2.2.1))).trans (hHeld.2.2.2.1);have HS4_:=(hb.cell (Yb _ _ (hHeld.2.2.2.2.1))).trans (hHeld.2.2.2.2.1);have HS5_:=(hb.cell (Yb _ _ (hHeld.2.2.2.2.2.1))).trans (hHeld.2.2.2.2.2.1);have HS6_:=(hb.cell (Yb _ _ (hHeld.2.2.2.2.2.2))).trans (hHeld.2.2.2.2.2.2);refine⟨_,rfl,?_⟩;replace HO_11:=Ya (Ys HO_11.out hb);replace HO_12:=Ya (Ys HO_12.out hb);replace Zs:=Ya (Yn Zs.out hb);replace Xg:=Ya (Yn Xg.out hb);replace HB:=Ya (Yk HB.out hb)
    (try clear hb)
    (try clear hb2)
    (try clear hk)
    (try clear hi)
    refine hK.out _ _ ⟨bc Zs 0,bc Zs 1,bc Zs 2,HS3_,HS4_,HS5_,HS6_⟩ (fun hHeld=> ?_);clear hK K;refine nm ?_;refine on 11 (some 38) (bm 14 4095) fun K hK=> ?_
    refine gs Try.func43 #[.agg #[.int .i64 Zb, .bool Zc, .slice Ze Za.length Zd], .agg #[.int .i64 ((rd_T79 t341 Zg).f0), .bool ((rd_T79 t341 Zg).f1)]] ?_
    with_reducible refine(ebbtideref07_To.calls Zb Zc _ _ Za ((rd_T79 t341 Zg).f0) ((rd_T79 t341 Zg).f1) t351 _ ?side1 ?side2 (by first|exact A15.out|(have h_:=A15.out;rw[← Nbq22.out] at h_;exact h_)|(have h_:=A15.out;rw[← Nbq18.out] at h_;exact h_))).mono ?_
    (case side1=>exact(Yt Zh.out HB.out))
    (case side2=>exact Zo.out)
    rintro e w39 ⟨rfl,hb⟩;have HS3_:=(hb.cell (Yb _ _ (hHeld.2.2.2.1))).trans (hHeld.2.2.2.1);have HS4_:=(hb.cell (Yb _ _ (hHeld.2.2.2.2.1))).trans (hHeld.2.2.2.2.1);have HS5_:=(hb.cell (Yb _ _ (hHeld.2.2.2.2.2.1))).trans (hHeld.2.2.2.2.2.1);have HS6_:=(hb.cell (Yb _ _ (hHeld.2.2.2.2.2.2))).trans (hHeld.2.2.2.2.2.2);refine⟨_,rfl,?_⟩;replace HO_11:=Ya (Ys HO_11.out hb);replace HO_12:=Ya (Ys HO_12.out hb);replace Zs:=Ya (Yn Zs.out hb);replace Xg:=Ya (Yn Xg.out hb);replace HB:=Ya (Yk HB.out hb)
    (try clear hb)
    (try clear hb2)
    (try clear hk)
    (try clear hi)
    refine hK.out _ _ ⟨bc Zs 0,bc Zs 1,bc Zs 2,HS3_,HS4_,HS5_,HS6_⟩ (fun hHeld=> ?_);clear hK K;refine nm ?_;refine pu 12 14 (bm 14 8191) ?_;refine pu 13 15 (bm 14 16383) ?_;refine done_ (done_of HT_.out (by kernel_rfl)) ?_;try go_wp2
    replace HO_11:=Ya (Yp HO_11.out);replace HO_12:=Ya (Yp HO_12.out);replace Zs:=Ya (Ym Zs.out);replace Xg:=Ya (Ym Xg.out);replace HB:=Ya (Yg HB.out);have p352:0≤(t349:Int):=od;have q352:t349<(l4_1.length:Int):=od;obtain⟨ad352,e352,Wr⟩:=Kd.at_bool HR4_1.out t349 p352 q352;have Vt:=Wr
    (try rw[← Nbq18.out] at Wr)
    (try rw[← Nbq18.out] at Vt)
    (try rw[← Nbq22.out] at Wr)
    (try rw[← Nbq22.out] at Vt)
    cases e352;replace Wr:=hc HB Wr;replace p352:=eq_true p352;replace q352:=eq_true q352;have p353:0≤(t351:Int):=od;have q353:t351<(l4_1.length:Int):=od;obtain⟨ad353,e353,Vu⟩:=Kd.at_bool HR4_1.out t351 p353 q353;have Ja:=Vu
    (try rw[← Nbq18.out] at Vu)
    (try rw[← Nbq18.out] at Ja)
    (try rw[← Nbq22.out] at Vu)
    (try rw[← Nbq22.out] at Ja)
    obtain rfl:ad352=ad353:=(by injection e353);replace Vu:=hc HB Vu;replace p353:=eq_true p353;replace q353:=eq_true q353;have p354:0≤(t351:Int):=od;have q354:t351<(Vv.length:Int):=od;obtain⟨ad354,e354,hx354_0⟩:=Kd.at_int HR4_0.out t351 p354 q354;have hw354_0:=hx354_0;cases e354;replace hx354_0:=hc HB hx354_0;replace p354:=eq_true p354;replace q354:=eq_true q354;have p355:0≤(t349:Int):=od;have q355:t349<(Vv.length:Int):=od;obtain⟨ad355,e355,hx355_0⟩:=Kd.at_int HR4_0.out t349 p355 q355;have hw355_0:=hx355_0;obtain rfl:ad354=ad355:=(by injection e355);replace hx355_0:=hc HB hx355_0;replace p355:=eq_true p355;replace q355:=eq_true q355;have p356:0≤(Zg:Int):=od;have q356:Zg<(t341.length:Int):=od;obtain⟨ad356,e356,hx356_0,hx356_1⟩:=at_T79 (Kd.R_reads' HO_12.out).2.2 Zg p356 q356
    (try rw[← Nbq18.out] at hx356_1)
    (try rw[← Nbq22.out] at hx356_1)
    obtain rfl:Ve=ad356:=(by injection e356);replace p356:=eq_true p356;replace q356:=eq_true q356;refine start_ (n:=32) (S:=fun w'=>w'.cell? ⟨gb340,0,none⟩=some (.slice (some ad354) Vv.length c4_0)∧w'.cell? ⟨gb340,1,none⟩=some (.slice (some ad352) l4_1.length c4_1)∧w'.cell? ⟨gb340,2,none⟩=some (.bool a4_2)∧w'.cell? ⟨Jl,0,none⟩=some (.int .i64 Zb)∧w'.cell? ⟨Jl,1,none⟩=some (.bool Zc)∧w'.cell? ⟨Jl,2,none⟩=some (.slice Ze Za.length Zd)∧w'.cell? (ad352.add (t349).toNat)=some (.bool true)∧w'.cell? (ad352.add (t351).toNat)=some (.bool true)∧w'.cell? (ad354.add (t351).toNat)=some (.int .i64 (rd Vv t351))∧w'.cell? (ad354.add (t349).toNat)=some (.int .i64 (rd Vv t349))∧w'.cell? (Ve.add ((Zg).toNat * 2))=some (.int .i64 ((rd_T79 t341 Zg).f0))∧w'.cell? ⟨(Ve.add ((Zg).toNat * 2)).block,(Ve.add ((Zg).toNat * 2)).off+1,none⟩=some (.bool ((rd_T79 t341 Zg).f1))) (ds:=[]) #[false,false,false,false,false,false,false,false,false,false,false,false,false,false,false,false,false,false,false,false,false,false,false,false,false,false,false,false,false,false,false,false] (by kernel_rfl) rfl rfl ⟨(Yc Xg.out 0).trans rfl,(Yc Xg.out 1).trans rfl,(Yc Xg.out 2).trans rfl,(Yc Zs.out 0).trans rfl,(Yc Zs.out 1).trans rfl,(Yc Zs.out 2).trans rfl,((HB.out.cell (Yb w _ Vt)).trans Vt),((HB.out.cell (Yb w _ Ja)).trans Ja),((HB.out.cell (Yb w _ hw354_0)).trans hw354_0),((HB.out.cell (Yb w _ hw355_0)).trans hw355_0),hx356_0,hx356_1⟩ (fun hHeld=> ?_);refine with_tabW ebbtideref12_nearest.tab7 ebbtideref12_nearest.bits7 (fun HT_ HW_=> ?_);generalize w39.drew=w40 at HO_11 HO_12 Zs Xg HB Wr Vu hx354_0 hx355_0 hx356_0 hx356_1 hHeld ⊢;refine pu 0 39 (bm 32 1) ?_;refine pu 2 41 (bm 32 5) ?_;refine ta 1 40 (bm 32 7) hHeld ?_;refine pu 3 42 (bm 32 15) ?_;refine ta 4 43 (bm 32 31) hHeld ?_;refine pu 5 44 (bm 32 63) ?_;refine pu 6 45 (bm 32 127) ?_;refine pu 8 47 (bm 32 383) ?_;refine ta 7 46 (bm 32 511) hHeld ?_;refine pu 9 48 (bm 32 1023) ?_;refine ta 10 49 (bm 32 2047) hHeld ?_;refine pu 11 50 (bm 32 4095) ?_;refine pu 12 51 (bm 32 8191) ?_;refine pu 13 52 (bm 32 16383) ?_;refine pu 15 54 (bm 32 49151) ?_;refine pu 18 57 (bm 32 311295) ?_;refine pu 20 59 (bm 32 1359871) ?_;refine pu 24 63 (bm 32 18137087) ?_;refine pu 25 64 (bm 32 51691519) ?_;refine pu 26 65 (bm 32 118800383) ?_;refine ta 14 53 (bm 32 118816767) hHeld ?_;refine pu 16 55 (bm 32 118882303) ?_;refine ta 17 56 (bm 32 119013375) hHeld ?_;refine ta 19 58 (bm 32 119537663) hHeld ?_;refine pu 21 60 (bm 32 121634815) ?_;refine ta 22 61 (bm 32 125829119) hHeld ?_;refine ta 23 62 (bm 32 134217727) hHeld ?_;refine ta 27 66 (bm 32 268435455) hHeld ?_;refine on 28 (some 67) (bm 32 536870911) fun K hK=> ?_
    refine gs Try.func44 #[.agg #[.int .i64 Zb, .bool Zc, .slice Ze Za.length Zd], .agg #[.int .i64 ((rd_T79 t341 Zg).f0), .bool ((rd_T79 t341 Zg).f1)]] ?_
    with_reducible refine(ebbtideref11_Time.calls Zb Zc _ _ Za ((rd_T79 t341 Zg).f0) ((rd_T79 t341 Zg).f1) t357 _ ?side1 ?side2 (by first|exact A26.out|(have h_:=A26.out;rw[← Nbq22.out] at h_;exact h_)|(have h_:=A26.out;rw[← Nbq18.out] at h_;exact h_))).mono ?_
    (case side1=>exact(Yt Zh.out HB.out))
    (case side2=>exact Zo.out)
    rintro e w41 ⟨rfl,hb⟩;have HS10_:=(hb.cell (Yb _ _ (hHeld.2.2.2.2.2.2.2.2.2.2.1))).trans (hHeld.2.2.2.2.2.2.2.2.2.2.1);have HS11_:=(hb.cell (Yb _ _ (hHeld.2.2.2.2.2.2.2.2.2.2.2))).trans (hHeld.2.2.2.2.2.2.2.2.2.2.2);refine⟨_,rfl,?_⟩;replace HO_11:=Ya (Ys HO_11.out hb);replace HO_12:=Ya (Ys HO_12.out hb);replace Zs:=Ya (Yn Zs.out hb);replace Xg:=Ya (Yn Xg.out hb);replace HB:=Ya (Yk HB.out hb)
    (try clear hb)
    (try clear hb2)
    (try clear hk)
    (try clear hi)
    refine hK.out _ _ ⟨bc Xg 0,bc Xg 1,bc Xg 2,bc Zs 0,bc Zs 1,bc Zs 2,(hc HB Vt),(hc HB Ja),(hc HB hw354_0),(hc HB hw355_0),HS10_,HS11_⟩ (fun hHeld=> ?_);clear hK K;refine nm ?_;refine pu 29 68 (bm 32 1073741823) ?_;refine pu 30 69 (bm 32 2147483647) ?_;refine pu 31 70 (bm 32 4294967295) ?_;refine done_ (done_of HT_.out (by kernel_rfl)) ?_;try go_wp2
    go_roundg k1
    case measure=>have:=HK1.out;omega
    case rel=>exact⟨(Xi),(wrap64 (Zg+1)),(by first|rfl|(simp;done)|(simp[*];done)),H',⟨by have:=HK1.out;omega⟩,⟨HO_11.out⟩,⟨HO_12.out⟩,⟨Zs.out⟩,⟨Xg.out⟩,⟨HB.out⟩⟩
   rw[Yx c27] at H;have c27b0:((rd Vv t351) == (wrap64 ((rd Vv t349)+t357)))=true:=beq_iff_eq.mpr c27;have c27b1:((rd Vv t351) != (wrap64 ((rd Vv t349)+t357)))=false:=bne_eq_false_iff_eq.mpr c27;clear c27;by_cases c28:Xi.length<8796093022208
   rotate_left
   ·rw[Yy c28] at H
    exact absurd H (by simp)
   rw[Yx c28] at H;have LMc28:=Ya c28;clear c28;obtain⟨y359,hy359⟩: ∃ y_:List (S79),y_=(Xi ++ [(⟨(rd_T79 t341 Zg).f0,(rd_T79 t341 Zg).f1⟩:S79)]):=⟨_,rfl⟩;rw[← hy359] at H;have Ny359:=Ya hy359;clear hy359;have H':=Ya H;clear H;obtain⟨Ao29,co29,eo29⟩:=Kd.R_slice HO_12.out;subst eo29;try go_wp2
   replace HO_11:=Ya (Yp HO_11.out);replace HO_12:=Ya (Yp HO_12.out);replace Zs:=Ya (Ym Zs.out);replace Xg:=Ya (Ym Xg.out);replace HB:=Ya (Yg HB.out);have p348:0≤(Zg:Int):=od;have q348:Zg<(t341.length:Int):=od;obtain⟨Ve,e348,hx348_0,Uj⟩:=at_T79 (Kd.R_reads' HO_12.out).2.2 Zg p348 q348
   (try rw[← Nbq18.out] at Uj)
   (try rw[← Nbq22.out] at Uj)
   cases e348;replace p348:=eq_true p348;replace q348:=eq_true q348;have p350:0≤(Zg:Int):=od;have q350:Zg<(t341.length:Int):=od;obtain⟨ad350,e350,hx350_0,Uk⟩:=at_T79 (Kd.R_reads' HO_12.out).2.2 Zg p350 q350
   (try rw[← Nbq18.out] at Uk)
   (try rw[← Nbq22.out] at Uk)
   obtain rfl:Ve=ad350:=(by injection e350);replace p350:=eq_true p350;replace q350:=eq_true q350;refine start_ (n:=14) (S:=fun w'=>w'.cell? ⟨Jl,0,none⟩=some (.int .i64 Zb)∧w'.cell? ⟨Jl,1,none⟩=some (.bool Zc)∧w'.cell? ⟨Jl,2,none⟩=some (.slice Ze Za.length Zd)∧w'.cell? (Ve.add ((Zg).toNat * 2))=some (.int .i64 ((rd_T79 t341 Zg).f0))∧w'.cell? ⟨(Ve.add ((Zg).toNat * 2)).block,(Ve.add ((Zg).toNat * 2)).off+1,none⟩=some (.bool ((rd_T79 t341 Zg).f1))∧w'.cell? (Ve.add ((Zg).toNat * 2))=some (.int .i64 ((rd_T79 t341 Zg).f0))∧w'.cell? ⟨(Ve.add ((Zg).toNat * 2)).block,(Ve.add ((Zg).toNat * 2)).off+1,none⟩=some (.bool ((rd_T79 t341 Zg).f1))) (ds:=[]) #[false,false,false,false,false,false,false,false,false,false,false,false,false,false] (by kernel_rfl) rfl rfl ⟨(Yc Zs.out 0).trans rfl,(Yc Zs.out 1).trans rfl,(Yc Zs.out 2).trans rfl,hx348_0,Uj,hx350_0,Uk⟩ (fun hHeld=> ?_);refine with_tabW ebbtideref12_nearest.tab6 ebbtideref12_nearest.bits6 (fun HT_ HW_=> ?_);generalize wr.drew=w30 at HO_11 HO_12 Zs Xg HB hx348_0 Uj hx350_0 Uk hHeld ⊢;refine pu 1 28 (bm 14 2) ?_;refine pu 2 29 (bm 14 6) ?_;refine pu 3 30 (bm 14 14) ?_;refine pu 7 34 (bm 14 142) ?_;refine pu 8 35 (bm 14 398) ?_;refine pu 9 36 (bm 14 910) ?_;refine ta 0 27 (bm 14 911) hHeld ?_;refine ta 4 31 (bm 14 927) hHeld ?_;refine ta 6 33 (bm 14 991) hHeld ?_;refine ta 10 37 (bm 14 2015) hHeld ?_;refine on 5 (some 32) (bm 14 2047) fun K hK=> ?_
   refine gs Try.func42 #[.agg #[.int .i64 Zb, .bool Zc, .slice Ze Za.length Zd], .agg #[.int .i64 ((rd_T79 t341 Zg).f0), .bool ((rd_T79 t341 Zg).f1)]] ?_
   with_reducible refine(ebbtideref07_From.calls Zb Zc _ _ Za ((rd_T79 t341 Zg).f0) ((rd_T79 t341 Zg).f1) t349 _ ?side1 ?side2 (by first|exact A14.out|(have h_:=A14.out;rw[← Nbq22.out] at h_;exact h_)|(have h_:=A14.out;rw[← Nbq18.out] at h_;exact h_))).mono ?_
   (case side1=>exact(Yt Zh.out HB.out))
   (case side2=>exact Zo.out)
   rintro e w31 ⟨rfl,hb⟩;have HS3_:=(hb.cell (Yb _ _ (hHeld.2.2.2.1))).trans (hHeld.2.2.2.1);have HS4_:=(hb.cell (Yb _ _ (hHeld.2.2.2.2.1))).trans (hHeld.2.2.2.2.1);have HS5_:=(hb.cell (Yb _ _ (hHeld.2.2.2.2.2.1))).trans (hHeld.2.2.2.2.2.1);have HS6_:=(hb.cell (Yb _ _ (hHeld.2.2.2.2.2.2))).trans (hHeld.2.2.2.2.2.2);refine⟨_,rfl,?_⟩;replace HO_11:=Ya (Ys HO_11.out hb);replace HO_12:=Ya (Ys HO_12.out hb);replace Zs:=Ya (Yn Zs.out hb);replace Xg:=Ya (Yn Xg.out hb);replace HB:=Ya (Yk HB.out hb)
   (try clear hb)
   (try clear hb2)
   (try clear hk)
   (try clear hi)
   refine hK.out _ _ ⟨bc Zs 0,bc Zs 1,bc Zs 2,HS3_,HS4_,HS5_,HS6_⟩ (fun hHeld=> ?_);clear hK K;refine nm ?_;refine on 11 (some 38) (bm 14 4095) fun K hK=> ?_
   refine gs Try.func43 #[.agg #[.int .i64 Zb, .bool Zc, .slice Ze Za.length Zd], .agg #[.int .i64 ((rd_T79 t341 Zg).f0), .bool ((rd_T79 t341 Zg).f1)]] ?_
   with_reducible refine(ebbtideref07_To.calls Zb Zc _ _ Za ((rd_T79 t341 Zg).f0) ((rd_T79 t341 Zg).f1) t351 _ ?side1 ?side2 (by first|exact A15.out|(have h_:=A15.out;rw[← Nbq22.out] at h_;exact h_)|(have h_:=A15.out;rw[← Nbq18.out] at h_;exact h_))).mono ?_
   (case side1=>exact(Yt Zh.out HB.out))
   (case side2=>exact Zo.out)
   rintro e w32 ⟨rfl,hb⟩;have HS3_:=(hb.cell (Yb _ _ (hHeld.2.2.2.1))).trans (hHeld.2.2.2.1);have HS4_:=(hb.cell (Yb _ _ (hHeld.2.2.2.2.1))).trans (hHeld.2.2.2.2.1);have HS5_:=(hb.cell (Yb _ _ (hHeld.2.2.2.2.2.1))).trans (hHeld.2.2.2.2.2.1);have HS6_:=(hb.cell (Yb _ _ (hHeld.2.2.2.2.2.2))).trans (hHeld.2.2.2.2.2.2);refine⟨_,rfl,?_⟩;replace HO_11:=Ya (Ys HO_11.out hb);replace HO_12:=Ya (Ys HO_12.out hb);replace Zs:=Ya (Yn Zs.out hb);replace Xg:=Ya (Yn Xg.out hb);replace HB:=Ya (Yk HB.out hb)
   (try clear hb)
   (try clear hb2)
   (try clear hk)
   (try clear hi)
   refine hK.out _ _ ⟨bc Zs 0,bc Zs 1,bc Zs 2,HS3_,HS4_,HS5_,HS6_⟩ (fun hHeld=> ?_);clear hK K;refine nm ?_;refine pu 12 14 (bm 14 8191) ?_;refine pu 13 15 (bm 14 16383) ?_;refine done_ (done_of HT_.out (by kernel_rfl)) ?_;try go_wp2
   replace HO_11:=Ya (Yp HO_11.out);replace HO_12:=Ya (Yp HO_12.out);replace Zs:=Ya (Ym Zs.out);replace Xg:=Ya (Ym Xg.out);replace HB:=Ya (Yg HB.out);have p352:0≤(t349:Int):=od;have q352:t349<(l4_1.length:Int):=od;obtain⟨ad352,e352,Wr⟩:=Kd.at_bool HR4_1.out t349 p352 q352;have Vt:=Wr
   (try rw[← Nbq18.out] at Wr)
   (try rw[← Nbq18.out] at Vt)
   (try rw[← Nbq22.out] at Wr)
   (try rw[← Nbq22.out] at Vt)
   cases e352;replace Wr:=hc HB Wr;replace p352:=eq_true p352;replace q352:=eq_true q352;have p353:0≤(t351:Int):=od;have q353:t351<(l4_1.length:Int):=od;obtain⟨ad353,e353,Vu⟩:=Kd.at_bool HR4_1.out t351 p353 q353;have Ja:=Vu
   (try rw[← Nbq18.out] at Vu)
   (try rw[← Nbq18.out] at Ja)
   (try rw[← Nbq22.out] at Vu)
   (try rw[← Nbq22.out] at Ja)
   obtain rfl:ad352=ad353:=(by injection e353);replace Vu:=hc HB Vu;replace p353:=eq_true p353;replace q353:=eq_true q353;have p354:0≤(t351:Int):=od;have q354:t351<(Vv.length:Int):=od;obtain⟨ad354,e354,hx354_0⟩:=Kd.at_int HR4_0.out t351 p354 q354;have hw354_0:=hx354_0;cases e354;replace hx354_0:=hc HB hx354_0;replace p354:=eq_true p354;replace q354:=eq_true q354;have p355:0≤(t349:Int):=od;have q355:t349<(Vv.length:Int):=od;obtain⟨ad355,e355,hx355_0⟩:=Kd.at_int HR4_0.out t349 p355 q355;have hw355_0:=hx355_0;obtain rfl:ad354=ad355:=(by injection e355);replace hx355_0:=hc HB hx355_0;replace p355:=eq_true p355;replace q355:=eq_true q355;have p356:0≤(Zg:Int):=od;have q356:Zg<(t341.length:Int):=od;obtain⟨ad356,e356,hx356_0,hx356_1⟩:=at_T79 (Kd.R_reads' HO_12.out).2.2 Zg p356 q356
   (try rw[← Nbq18.out] at hx356_1)
   (try rw[← Nbq22.out] at hx356_1)
   obtain rfl:Ve=ad356:=(by injection e356);replace p356:=eq_true p356;replace q356:=eq_true q356;refine start_ (n:=32) (S:=fun w'=>w'.cell? ⟨gb340,0,none⟩=some (.slice (some ad354) Vv.length c4_0)∧w'.cell? ⟨gb340,1,none⟩=some (.slice (some ad352) l4_1.length c4_1)∧w'.cell? ⟨gb340,2,none⟩=some (.bool a4_2)∧w'.cell? ⟨Jl,0,none⟩=some (.int .i64 Zb)∧w'.cell? ⟨Jl,1,none⟩=some (.bool Zc)∧w'.cell? ⟨Jl,2,none⟩=some (.slice Ze Za.length Zd)∧w'.cell? (ad352.add (t349).toNat)=some (.bool true)∧w'.cell? (ad352.add (t351).toNat)=some (.bool true)∧w'.cell? (ad354.add (t351).toNat)=some (.int .i64 (rd Vv t351))∧w'.cell? (ad354.add (t349).toNat)=some (.int .i64 (rd Vv t349))∧w'.cell? (Ve.add ((Zg).toNat * 2))=some (.int .i64 ((rd_T79 t341 Zg).f0))∧w'.cell? ⟨(Ve.add ((Zg).toNat * 2)).block,(Ve.add ((Zg).toNat * 2)).off+1,none⟩=some (.bool ((rd_T79 t341 Zg).f1))) (ds:=[]) #[false,false,false,false,false,false,false,false,false,false,false,false,false,false,false,false,false,false,false,false,false,false,false,false,false,false,false,false,false,false,false,false] (by kernel_rfl) rfl rfl ⟨(Yc Xg.out 0).trans rfl,(Yc Xg.out 1).trans rfl,(Yc Xg.out 2).trans rfl,(Yc Zs.out 0).trans rfl,(Yc Zs.out 1).trans rfl,(Yc Zs.out 2).trans rfl,((HB.out.cell (Yb w _ Vt)).trans Vt),((HB.out.cell (Yb w _ Ja)).trans Ja),((HB.out.cell (Yb w _ hw354_0)).trans hw354_0),((HB.out.cell (Yb w _ hw355_0)).trans hw355_0),hx356_0,hx356_1⟩ (fun hHeld=> ?_);refine with_tabW ebbtideref12_nearest.tab7 ebbtideref12_nearest.bits7 (fun HT_ HW_=> ?_);generalize w32.drew=w33 at HO_11 HO_12 Zs Xg HB Wr Vu hx354_0 hx355_0 hx356_0 hx356_1 hHeld ⊢;refine pu 0 39 (bm 32 1) ?_;refine pu 2 41 (bm 32 5) ?_;refine ta 1 40 (bm 32 7) hHeld ?_;refine pu 3 42 (bm 32 15) ?_;refine ta 4 43 (bm 32 31) hHeld ?_;refine pu 5 44 (bm 32 63) ?_;refine pu 6 45 (bm 32 127) ?_;refine pu 8 47 (bm 32 383) ?_;refine ta 7 46 (bm 32 511) hHeld ?_;refine pu 9 48 (bm 32 1023) ?_;refine ta 10 49 (bm 32 2047) hHeld ?_;refine pu 11 50 (bm 32 4095) ?_;refine pu 12 51 (bm 32 8191) ?_;refine pu 13 52 (bm 32 16383) ?_;refine pu 15 54 (bm 32 49151) ?_;refine pu 18 57 (bm 32 311295) ?_;refine pu 20 59 (bm 32 1359871) ?_;refine pu 24 63 (bm 32 18137087) ?_;refine pu 25 64 (bm 32 51691519) ?_;refine pu 26 65 (bm 32 118800383) ?_;refine ta 14 53 (bm 32 118816767) hHeld ?_;refine pu 16 55 (bm 32 118882303) ?_;refine ta 17 56 (bm 32 119013375) hHeld ?_;refine ta 19 58 (bm 32 119537663) hHeld ?_;refine pu 21 60 (bm 32 121634815) ?_;refine ta 22 61 (bm 32 125829119) hHeld ?_;refine ta 23 62 (bm 32 134217727) hHeld ?_;refine ta 27 66 (bm 32 268435455) hHeld ?_;refine on 28 (some 67) (bm 32 536870911) fun K hK=> ?_
   refine gs Try.func44 #[.agg #[.int .i64 Zb, .bool Zc, .slice Ze Za.length Zd], .agg #[.int .i64 ((rd_T79 t341 Zg).f0), .bool ((rd_T79 t341 Zg).f1)]] ?_
   with_reducible refine(ebbtideref11_Time.calls Zb Zc _ _ Za ((rd_T79 t341 Zg).f0) ((rd_T79 t341 Zg).f1) t357 _ ?side1 ?side2 (by first|exact A26.out|(have h_:=A26.out;rw[← Nbq22.out] at h_;exact h_)|(have h_:=A26.out;rw[← Nbq18.out] at h_;exact h_))).mono ?_
   (case side1=>exact(Yt Zh.out HB.out))
   (case side2=>exact Zo.out)
   rintro e w34 ⟨rfl,hb⟩;have HS10_:=(hb.cell (Yb _ _ (hHeld.2.2.2.2.2.2.2.2.2.2.1))).trans (hHeld.2.2.2.2.2.2.2.2.2.2.1);have HS11_:=(hb.cell (Yb _ _ (hHeld.2.2.2.2.2.2.2.2.2.2.2))).trans (hHeld.2.2.2.2.2.2.2.2.2.2.2);refine⟨_,rfl,?_⟩;replace HO_11:=Ya (Ys HO_11.out hb);replace HO_12:=Ya (Ys HO_12.out hb);replace Zs:=Ya (Yn Zs.out hb);replace Xg:=Ya (Yn Xg.out hb);replace HB:=Ya (Yk HB.out hb)
   (try clear hb)
   (try clear hb2)
   (try clear hk)
   (try clear hi)
   refine hK.out _ _ ⟨bc Xg 0,bc Xg 1,bc Xg 2,bc Zs 0,bc Zs 1,bc Zs 2,(hc HB Vt),(hc HB Ja),(hc HB hw354_0),(hc HB hw355_0),HS10_,HS11_⟩ (fun hHeld=> ?_);clear hK K;refine nm ?_;refine pu 29 68 (bm 32 1073741823) ?_;refine pu 30 69 (bm 32 2147483647) ?_;refine pu 31 70 (bm 32 4294967295) ?_;refine done_ (done_of HT_.out (by kernel_rfl)) ?_;have p358:0≤(Zg:Int):=od;have q358:Zg<(t341.length:Int):=od;obtain⟨ad358,e358,hx358_0,hx358_1⟩:=at_T79 (Kd.R_reads' HO_12.out).2.2 Zg p358 q358
   (try rw[← Nbq18.out] at hx358_1)
   (try rw[← Nbq22.out] at hx358_1)
   obtain rfl:Ve=ad358:=(by injection e358);replace p358:=eq_true p358;replace q358:=eq_true q358;try go_wp2_with (first|((with_reducible refine gate_builtin (b:= .append) (xs:= #[.tmp 71, .tmp 76]) rfl ?_);at_builtin;refine Kd.R_append k79 (w0:=w) w.heap.size rfl (.tmp 71) (.tmp 76) 67 79 (.agg #[(.int .i64 0),(.bool false)]) 16 rfl Try.underlying67 info79 rfl (by decide) (by omega) u11 Xi (⟨(rd_T79 t341 Zg).f0,(rd_T79 t341 Zg).f1⟩:S79) [.int .i64 ((rd_T79 t341 Zg).f0), .bool ((rd_T79 t341 Zg).f1)] (fun k_=>some k_≠(.slice (some Ve) t341.length co29:Value).ownBlock) (fun _=>False) rfl rfl ?aP (fun _ hk=>hk.elim) ?aF ?aO ?aB ?aS ?aL ?_;(case aP=>exact k79_mkM _ _ _ (⟨(rd_T79 t341 Zg).f0,(rd_T79 t341 Zg).f1⟩:S79));(case aB=>exact bl);(case aF=>exact(fun k_ hk=>Kd.fresh' (Kd.R_lt (kR HO_12)) k_ hk));(case aO=>exact(kR HO_11));(case aS=>exact(Yi bl));(case aL=>have:=LMc28.out;omega);intro v360 w35 ho hb hg hat;rw[← Ny359.out] at ho;replace HO_12:=Ya (Kd.R_after (ok:=(fun _=>True)) (by(with_reducible repeat(first|apply Yr|apply Yq|apply Yp));exact Kd.R_mono HO_12.out (fun _ hk=>⟨trivial,hk⟩)) hg hat);replace Zs:=Ya (blk_grown (bk Zs) hg (Kd.R_ne HO_11.out Zs.out (by decide)));replace Xg:=Ya (blk_grown (bk Xg) hg (Kd.R_ne HO_11.out Xg.out (by decide)));replace HB:=Ya (hb);have HO361:=Ya (ho);clear HO_11;clear ho hb hg hat))
   go_roundg k1
   case measure=>have:=HK1.out;omega
   case rel=>exact⟨(y359),(wrap64 (Zg+1)),(by first|rfl|(simp;done)|(simp[*];done)),H',⟨by have:=HK1.out;omega⟩,⟨HO361.out⟩,⟨by(with_reducible repeat(first|apply Yr|apply Yq|apply Yp));exact Kd.R_mono HO_12.out (fun _ hk=>hk.2)⟩,⟨Zs.out⟩,⟨Xg.out⟩,⟨HB.out⟩⟩
end P
namespace P
attribute [local go_sem] max2_int min2_int max_two min_two max_three min_three max_four min_four
mutual
def ebbtideref12_Best.l0:Nat→Int→Int→Int→List Int→Int→Bool→List (S50)→Option (List Int)
 |0,_,_,_,_,_,_,_=>none
 |k+1,x1,x2,x3,x9,x363000,x363001,x363002=>(ebbtideref11_From.f k x363000 x363001 x363002 x9 x1).bind fun bt366=>(if 0≤x2 then(if x2<(bt366.2.1.length:Int) then(if rdOf false bt366.2.1 x2=true then(if x2<(bt366.1.length:Int) then(ebbtideref12_Best.j1 k x1 x2 x3 x9 (decide ((rd bt366.1 x2)>x3)) x363000 x363001 x363002 bt366.1 bt366.2.1 bt366.2.2) else(none)) else(ebbtideref12_Best.j1 k x1 x2 x3 x9 true x363000 x363001 x363002 bt366.1 bt366.2.1 bt366.2.2)) else(none)) else(none))
def ebbtideref12_Best.j1:Nat→Int→Int→Int→List Int→Bool→Int→Bool→List (S50)→List Int→List Bool→Bool→Option (List Int)
 |0,_,_,_,_,_,_,_,_,_,_,_=>none
 |k+1,x1,x2,x3,x9,x34,x363000,x363001,x363002,x374000,x374001,x374002=>if x34=true then(some x9) else((ebbtideref12_nearest.f k x363000 x363001 x363002 x9 x1 x2 x374000 x374001 x374002).bind fun t376=>((ebbtideref08_Bottle.f k x363000 x363001 x363002 x9 t376).bind fun t379=>((ebbtideref07_Pushed.f k x9 t376 t379).bind fun t380=>(ebbtideref12_Best.l0 k x1 x2 x3 t380 x363000 x363001 x363002))))
end
def ebbtideref12_Best.f (k:Nat) (Zb:Int) (Zc:Bool) (Za:List (S50)) (a1:Int) (a2:Int) (a3:Int):Option (List Int):=if 0≤(Za.length:Int) then(if ((Za.length:Int):Int).toNat≤35184372088832 then(ebbtideref12_Best.l0 k a1 a2 a3 (List.replicate ((Za.length:Int):Int).toNat 0) Zb Zc Za) else(none)) else(none)
set_option maxHeartbeats 8000000 in
set_option maxRecDepth 100000 in
theorem ebbtideref12_Best.calls (k:Nat) (Zb:Int) (Zc:Bool) (Ze:Option Addr) (Zd:Nat) (Za:List (S50)) (a1:Int) (a2:Int) (a3:Int) (r:List Int) (w:World) (Zp:Kd.C k50 w Ze Za.length Za) (Zq:Za.length≤Zd) (h:ebbtideref12_Best.f k Zb Zc Za a1 a2 a3=some r):
  Calls Try.prog 32 #[.agg #[.int .i64 Zb, .bool Zc, .slice Ze Za.length Zd], .int .i64 a1, .int .i64 a2, .int .i64 a3] w fun e w'=> ∃ v0_:Value,e= .returned (v0_)∧Kd.R (Kd.int .i64) 3 w' w.heap.size (fun _=>True) v0_ r∧Below w.heap.size w w':=by
 have hu24:=Try.underlying24;have hu40:=Try.underlying40;have Zh:=Ya Zp;have Zo:=Ya Zq;clear Zp Zq;have HB:=Ya (Yo w.heap.size w);have H:=h;unfold ebbtideref12_Best.f at H;clear h;by_cases c5:0≤(Za.length:Int)
 rotate_left
 ·rw[Yy c5] at H
  exact absurd H (by simp)
 rw[Yx c5] at H;have c5b0:=eq_true c5;have c5b1:decide (0≤(Za.length:Int))=true:=Yv c5;clear c5;by_cases c6:((Za.length:Int):Int).toNat≤35184372088832
 rotate_left
 ·rw[Yy c6] at H
  exact absurd H (by simp)
 rw[Yx c6] at H;have c6b0:=eq_true c6;have c6b1:decide (((Za.length:Int):Int).toNat≤35184372088832)=true:=Yv c6;clear c6;obtain⟨y363,hy363⟩: ∃ y_:List Int,y_=(List.replicate ((Za.length:Int):Int).toNat 0):=⟨_,rfl⟩;rw[← hy363] at H;have Ny363:=Ya hy363;clear hy363;have H':=Ya H;clear H;go_enter Try.func32,Try.ntmps32;go_wp2_with (first|(refine bx 4 24 #[.int .i64 Zb, .bool Zc, .slice Ze Za.length Zd] ?_;intro gb362 hg w7 Zf hb;have Wo:=Ya (Zf);have GW362:=Ya ((sz hg));have GE362:=Ya ((sz hg));replace HB:=Ya (Yk bl hb);clear hb Zf hg;have Jq:w7.cell? ⟨gb362,0,none⟩=some (.int .i64 Zb):=bc Wo 0;have Jr:w7.cell? ⟨gb362,1,none⟩=some (.bool Zc):=bc Wo 1;have hcz8_2:w7.cell? ⟨gb362,2,none⟩=some (.slice Ze Za.length Zd):=bc Wo 2;have Js:=Yf Wo.out 0;have Jt:=Yf Wo.out 1;have hfz8_2:=Yf Wo.out 2)|((with_reducible refine gate_dst (N:=15) rfl ?_);refine Kd.R_make (Kd.int .i64) _ 3 rfl (N:=15) rfl 31 _ _ rfl (Za.length:Int) rfl rfl Try.underlying31 (.int .i64 0) 8 info3 rfl (by decide) (by omega) 0 (ok:=fun _=>True) (okp:=fun _=>True) rfl (fun _ hk=>hk) trivial (Yu (by first|(with_reducible assumption)|assumption)) (Nat.le_trans (Nat.mul_le_mul_right _ (Yu (by first|(with_reducible assumption)|assumption):(Za.length:Int).toNat≤35184372088832)) (by omega)) (Yo _ _) (Nat.le_refl _) ?_;intro v364 w9 ho10 hb hg_ hnew_;clear hg_ hnew_;(first|rw[← Ny363.out] at ho10|(simp only[Int.reduceToNat] at ho10;rw[← Ny363.out] at ho10));have HO365:=Ya (Kd.R_lower ho10 (Yi bl));replace Wo:=Ya (Yn (bk Wo) hb);replace HB:=Ya (Yk bl hb);clear hb ho10));go_loopg [9] k (fun kq v9 w'=> ∃ (x9_1:List Int),Aside0 (ebbtideref12_Best.l0 kq a1 a2 a3 x9_1 Zb Zc Za=some r)∧Aside0 (kq≤k)∧Aside0 (Kd.R (Kd.int .i64) 3 w' w.heap.size (fun _=>True) v9 x9_1)∧Aside0 (w'.heap[gb362]? =some (.cells #[.int .i64 Zb, .bool Zc,(.slice Ze Za.length Zd)] 24 (0,0)))∧Aside0 (Below w.heap.size w w'))
 case atStart=>exact⟨(y363),H',⟨Nat.le_refl _⟩,⟨HO365.out⟩,⟨Wo.out⟩,⟨HB.out⟩⟩
 case round=>
  clear H';try clear c5
  try clear c5b0
  try clear c5b1
  try clear c6
  try clear c6b0
  try clear c6b1
  try clear Jq
  try clear Jr
  try clear hcz8_2
  try clear Js
  try clear Jt
  try clear hfz8_2
  obtain⟨x9_1,HA,HK1,HO_9,Wo,HB⟩:=hrel;cases gk with
  |zero=>exact absurd HA.out (by simp[ebbtideref12_Best.l0])
  |succ k1=>
   have H:=HA.out;clear HA;simp only[ebbtideref12_Best.l0] at H;replace H:=Option.bind_eq_some_iff.mp H;obtain⟨⟨t366,t369,t372⟩,A110,H⟩:=H;try dsimp only at H
   have A11:=Ya A110;clear A110;have HC12:=Ya H;clear H;have hcz13_0:wr.cell? ⟨gb362,0,none⟩=some (.int .i64 Zb):=bc Wo 0;have hcz13_1:wr.cell? ⟨gb362,1,none⟩=some (.bool Zc):=bc Wo 1;have hcz13_2:wr.cell? ⟨gb362,2,none⟩=some (.slice Ze Za.length Zd):=bc Wo 2;have hfz13_0:=Yf Wo.out 0;have hfz13_1:=Yf Wo.out 1;have hfz13_2:=Yf Wo.out 2;obtain⟨Ao14,co14,eo14⟩:=Kd.R_slice HO_9.out;subst eo14;go_upto_region 3 with (first|((with_reducible refine gate_callee (f:=17) rfl ?_);refine goesL_ (some 19) rfl rfl Try.func17 (by kernel_rfl) rfl #[.agg #[.int .i64 Zb, .bool Zc, .slice Ze Za.length Zd], .slice Ao14 x9_1.length co14, .int .i64 a1] rfl (by(try simp only[List.map_toArray,List.map_cons,List.map_nil]);first|done|rfl|(simp only[List.length_drop,List.length_take];rfl)) ?_;(with_reducible refine(ebbtideref11_From.calls k1 Zb Zc _ _ Za _ _ x9_1 a1 t366 t369 t372 _ ?side1 ?side2 ?side3 ?side4 A11.out).mono ?_);(case side1=>repeat(first|exact(Yt Zh.out HB.out)|(with_reducible refine Kd.C_alloc ?_ _)|(with_reducible refine Kd.C_drewN ?_ _)|(with_reducible refine Kd.C_drew ?_)));(case side2=>exact Zo.out);(case side3=>repeat(first|exact(Kd.R_reads' HO_9.out).2.2|(with_reducible refine Kd.C_alloc ?_ _)|(with_reducible refine Kd.C_drewN ?_ _)|(with_reducible refine Kd.C_drew ?_)));(case side4=>exact(Kd.R_reads' HO_9.out).2.1);rintro e w15 ⟨v367,v370,rfl,ho0,ho1,hb⟩;refine⟨_,rfl,?_⟩;have n0_:=Ya (Kd.R_elder' (by(with_reducible repeat(first|apply Yr|apply Yq|apply Yp));exact HO_9.out) (Kd.R_base ho0) hb);have n1_:=Ya (Kd.R_lower (Kd.R_new' ho0 (Kd.R_lt (by(with_reducible repeat(first|apply Yr|apply Yq|apply Yp));exact HO_9.out))) (Yi (by repeat(first|(with_reducible first|exact HB.out|apply Ye|apply Yd|apply Yg|refine Yh ?_ GE362.out)|exact HB.out))));have n2_:=Ya (Kd.R_lower ho1 (Yi (by repeat(first|(with_reducible first|exact HB.out|apply Ye|apply Yd|apply Yg|refine Yh ?_ GE362.out)|exact HB.out))));have n3_:=Ya (Yn (g:=gb362) (o:= .cells #[.int .i64 Zb, .bool Zc, .slice Ze Za.length Zd] 24 (0,0)) (by(with_reducible repeat(first|refine Yl ?_ _|refine Ym ?_|refine Yj ?_ _));exact Wo.out) hb);have n4_:=Ya (Yk (by repeat(first|(with_reducible first|exact HB.out|apply Ye|apply Yd|apply Yg|refine Yh ?_ GE362.out)|exact HB.out)) hb);clear HO_9;clear Wo;clear HB;have HO_9:=n0_;have HO368:=n1_;have HO371:=n2_;have Wo:=n3_;have HB:=n4_;clear n0_ n1_ n2_ n3_ n4_;(try clear hb);(try clear hb2);(try clear hk);(try clear hi);(try clear ho0);(try clear ho1))|((with_reducible refine gate_dst (N:=10) rfl ?_);refine Yz ?hg (N:=10) ?hd (cs:= #[.slice none 0 0, .slice none 0 0, .bool false]) (t:=40) ?hr ?_;(case hd=>rfl);(case hg=>rfl);(case hr=>first|(go_simp;done)|(go_simp;rfl));intro Wb hg w16 Zf hb;have n0_:=Ya (Ys (by(with_reducible repeat(first|apply Yr|apply Yq|apply Yp));exact HO_9.out) hb);have n1_:=Ya (Ys (by(with_reducible repeat(first|apply Yr|apply Yq|apply Yp));exact HO368.out) hb);have n2_:=Ya (Ys (by(with_reducible repeat(first|apply Yr|apply Yq|apply Yp));exact HO371.out) hb);have n3_:=Ya (Yn (g:=gb362) (o:= .cells #[.int .i64 Zb, .bool Zc, .slice Ze Za.length Zd] 24 (0,0)) (by(with_reducible repeat(first|refine Yl ?_ _|refine Ym ?_|refine Yj ?_ _));exact Wo.out) hb);have n4_:=Ya (Yk (by repeat(first|(with_reducible first|exact HB.out|apply Ye|apply Yd|apply Yg|refine Yh ?_ GE362.out)|exact HB.out)) hb);have n5_:=Ya (Zf);have n6_:=Ya ((by rw[hg];exact(Yi (by repeat(first|(with_reducible first|exact HB.out|apply Ye|apply Yd|apply Yg|refine Yh ?_ GE362.out)|exact HB.out))):w.heap.size≤Wb));have n7_:=Ya ((by rw[hg];exact(Yi (by repeat(first|(with_reducible first|exact HB.out|apply Ye|apply Yd|apply Yg|refine Yh ?_ GE362.out)|exact HB.out))):w.heap.size≤Wb));have n8_:=Ya ((by rw[hg];exact Nat.ne_of_lt (blk_lt (g:=gb362) (o:= .cells #[.int .i64 Zb, .bool Zc, .slice Ze Za.length Zd] 24 (0,0)) (by(with_reducible repeat(first|refine Yl ?_ _|refine Ym ?_|refine Yj ?_ _));exact Wo.out)):gb362≠Wb));have n9_:=Ya ((by rw[hg];exact Nat.ne_of_gt (blk_lt (g:=gb362) (o:= .cells #[.int .i64 Zb, .bool Zc, .slice Ze Za.length Zd] 24 (0,0)) (by(with_reducible repeat(first|refine Yl ?_ _|refine Ym ?_|refine Yj ?_ _));exact Wo.out)):Wb≠gb362));clear HO_9;clear HO368;clear HO371;clear Wo;clear HB;have HO_9:=n0_;have HO368:=n1_;have HO371:=n2_;have Wo:=n3_;have HB:=n4_;have Wi:=n5_;have GW373:=n6_;have GE373:=n7_;have Jz:=n8_;have NB373_362:=n9_;clear n0_ n1_ n2_ n3_ n4_ n5_ n6_ n7_ n8_ n9_;clear hb Zf hg;obtain⟨Ao17,co17,eo17⟩:=Kd.R_slice HO368.out;subst eo17;have hnb18:=NB373_362.out;have hnc18:=Jz.out;have hcz19_0:w16.cell? ⟨Wb,0,none⟩=some (.slice none 0 0):=(Yc Wi.out 0).trans rfl;have hcz19_1:w16.cell? ⟨Wb,1,none⟩=some (.slice none 0 0):=(Yc Wi.out 1).trans rfl;have hcz19_2:w16.cell? ⟨Wb,2,none⟩=some (.bool false):=(Yc Wi.out 2).trans rfl;have hfz19_0:=Yf Wi.out 0;have hfz19_1:=Yf Wi.out 1;have hfz19_2:=Yf Wi.out 2;obtain⟨Ao20,co20,eo20⟩:=Kd.R_slice HO371.out;subst eo20))
   (try simp only[Act.put,List.setIfInBounds_toArray,List.set_cons_zero,List.set_cons_succ])
   go_cut [34] (fun v34 wc=> ∃ (kq:Nat) (x34_11:Bool),v34= .bool x34_11∧Aside0 (ebbtideref12_Best.j1 kq a1 a2 a3 x9_1 x34_11 Zb Zc Za t366 t369 t372=some r)∧Aside0 (kq≤k1)∧Aside0 (Kd.R (Kd.int .i64) 3 wc w.heap.size (fun k_=>some k_≠((.slice Ao17 t366.length co17):Value).ownBlock) (.slice Ao14 x9_1.length co14) x9_1)∧Aside0 (Kd.R (Kd.int .i64) 3 wc w.heap.size (fun k_=>some k_≠((.slice Ao14 x9_1.length co14):Value).ownBlock) (.slice Ao17 t366.length co17) t366)∧Aside0 (Kd.R Kd.bool 4 wc w.heap.size (fun _=>True) (.slice Ao20 t369.length co20) t369)∧Aside0 (wc.heap[gb362]? =some (.cells #[.int .i64 Zb, .bool Zc,(.slice Ze Za.length Zd)] 24 (0,0)))∧Aside0 (wc.heap[Wb]? =some (.cells #[(.slice Ao17 t366.length co17),(.slice Ao20 t369.length co20), .bool t372] 40 (0,0)))∧Aside0 (Below w.heap.size w wc))
   case first=>
    have H:=HC12.out;clear HC12;by_cases c21:0≤a2
    rotate_left
    ·rw[Yy c21] at H
     exact absurd H (by simp)
    rw[Yx c21] at H;have c21b0:decide (0≤a2)=true:=Yv c21;clear c21
    (first|rw[c21b0]|(simp only[i64_w,i32_w];rw[c21b0])|skip)
    by_cases c22:a2<(t369.length:Int)
    rotate_left
    ·rw[Yy c22] at H
     exact absurd H (by simp)
    rw[Yx c22] at H;have c22b0:decide (a2<(t369.length:Int))=true:=Yv c22;clear c22;obtain⟨bq23,hbq23⟩: ∃ b_:Bool,b_=(rdOf false t369 a2):=⟨_,rfl⟩;replace H:(if bq23=true then(if a2<(t366.length:Int) then(ebbtideref12_Best.j1 k1 a1 a2 a3 x9_1 (decide ((rd t366 a2)>a3)) Zb Zc Za t366 t369 t372) else(none)) else(ebbtideref12_Best.j1 k1 a1 a2 a3 x9_1 true Zb Zc Za t366 t369 t372))=some r:=by rw[← hbq23] at H;exact H
    have Nbq23:=Ya hbq23;clear hbq23;by_cases c24:bq23=true
    rotate_left
    ·replace c24:=Bool.eq_false_iff.mpr c24
     subst c24;rw[Yy (show ¬ (false=true) by decide)] at H;have H':=Ya H;clear H;have hnb28:=NB373_362.out;have hnc28:=Jz.out;have hcz29_0:w16.cell? ⟨Wb,0,none⟩=some (.slice none 0 0):=bc Wi 0;have hcz29_1:w16.cell? ⟨Wb,1,none⟩=some (.slice none 0 0):=bc Wi 1;have hcz29_2:w16.cell? ⟨Wb,2,none⟩=some (.bool false):=bc Wi 2;have hfz29_0:=Yf Wi.out 0;have hfz29_1:=Yf Wi.out 1;have hfz29_2:=Yf Wi.out 2;have p374:0≤(a2:Int):=od;have q374:a2<(t369.length:Int):=od;obtain⟨ad374,e374,Jb⟩:=Kd.at_bool (Kd.R_reads' HO371.out).2.2 a2 p374 q374
     (try rw[← Nbq23.out] at Jb)
     cases e374;have hn374_0:ad374.block≠Wb:=Kd.own_blk (Kd.R_ne HO371.out Wi.out (by decide));have hn374_1:ad374.block≠Wb:=Kd.own_blk (Kd.R_ne HO371.out Wi.out (by decide));have hn374_2:ad374.block≠Wb:=Kd.own_blk (Kd.R_ne HO371.out Wi.out (by decide));replace Jb:=(cell_far (p:=⟨Wb,0,none⟩) (by first|(rw[add_block];exact hn374_0)|(show (Addr.add _ _).block≠_;rw[add_block];exact hn374_0)|exact hn374_0) (.slice Ao17 t366.length co17)).trans Jb;replace Jb:=(cell_far (p:=⟨Wb,1,none⟩) (by first|(rw[add_block];exact hn374_1)|(show (Addr.add _ _).block≠_;rw[add_block];exact hn374_1)|exact hn374_1) (.slice (some ad374) t369.length co20)).trans Jb;replace Jb:=(cell_far (p:=⟨Wb,2,none⟩) (by first|(rw[add_block];exact hn374_2)|(show (Addr.add _ _).block≠_;rw[add_block];exact hn374_2)|exact hn374_2) (.bool t372)).trans Jb;clear hn374_0 hn374_1 hn374_2;replace p374:=eq_true p374;replace q374:=eq_true q374;go_wp2;go_meet
     case rel=>exact⟨_,(true),(by first|rfl|(simp;done)|(simp[*];done)),H',⟨by have:=HK1.out;first|omega|exact Nat.le_refl _⟩,⟨by(with_reducible repeat(first|apply Yr|apply Yq|apply Yp));exact Kd.R_mono (Kd.R_far (p:=⟨Wb,2,none⟩) (Kd.R_far (p:=⟨Wb,1,none⟩) (Kd.R_far (p:=⟨Wb,0,none⟩) (Kd.R_types HO_9.out Wi.out (by decide)) (fun _ hk=>hk.2) (.slice Ao17 t366.length co17)) (fun _ hk=>hk.2) (.slice (some ad374) t369.length co20)) (fun _ hk=>hk.2) (.bool t372)) (fun _ hk=>hk.1.2)⟩,⟨by(with_reducible repeat(first|apply Yr|apply Yq|apply Yp));exact Kd.R_mono (Kd.R_far (p:=⟨Wb,2,none⟩) (Kd.R_far (p:=⟨Wb,1,none⟩) (Kd.R_far (p:=⟨Wb,0,none⟩) (Kd.R_types HO368.out Wi.out (by decide)) (fun _ hk=>hk.2) (.slice Ao17 t366.length co17)) (fun _ hk=>hk.2) (.slice (some ad374) t369.length co20)) (fun _ hk=>hk.2) (.bool t372)) (fun _ hk=>hk.1.2)⟩,⟨by(with_reducible repeat(first|apply Yr|apply Yq|apply Yp));exact Kd.R_mono (Kd.R_far (p:=⟨Wb,2,none⟩) (Kd.R_far (p:=⟨Wb,1,none⟩) (Kd.R_far (p:=⟨Wb,0,none⟩) (Kd.R_types HO371.out Wi.out (by decide)) (fun _ hk=>hk.2) (.slice Ao17 t366.length co17)) (fun _ hk=>hk.2) (.slice (some ad374) t369.length co20)) (fun _ hk=>hk.2) (.bool t372)) (fun _ hk=>trivial)⟩,⟨by(with_reducible repeat(first|refine Yl ?_ _|refine Ym ?_|refine Yj ?_ _));refine blk_far ?_ Jz.out _;(with_reducible repeat(first|refine Yl ?_ _|refine Ym ?_|refine Yj ?_ _));refine blk_far ?_ Jz.out _;(with_reducible repeat(first|refine Yl ?_ _|refine Ym ?_|refine Yj ?_ _));refine blk_far ?_ Jz.out _;(with_reducible repeat(first|refine Yl ?_ _|refine Ym ?_|refine Yj ?_ _));exact Wo.out⟩,⟨by(with_reducible repeat(first|refine Yl ?_ _|refine Ym ?_|refine Yj ?_ _));refine YA (cs:= #[.slice Ao17 t366.length co17, .slice (some ad374) t369.length co20, .bool false]) ?_ 2 _ rfl;(with_reducible repeat(first|refine Yl ?_ _|refine Ym ?_|refine Yj ?_ _));refine YA (cs:= #[.slice Ao17 t366.length co17, .slice none 0 0, .bool false]) ?_ 1 _ rfl;(with_reducible repeat(first|refine Yl ?_ _|refine Ym ?_|refine Yj ?_ _));refine YA (cs:= #[.slice none 0 0, .slice none 0 0, .bool false]) ?_ 0 _ rfl;(with_reducible repeat(first|refine Yl ?_ _|refine Ym ?_|refine Yj ?_ _));exact Wi.out⟩,⟨bl⟩⟩
    subst c24;first|rw[Yx rfl] at H|rw[Yx trivial] at H
    by_cases c25:a2<(t366.length:Int)
    rotate_left
    ·rw[Yy c25] at H
     exact absurd H (by simp)
    rw[Yx c25] at H;have c25b0:decide (a2<(t366.length:Int))=true:=Yv c25;clear c25;have H':=Ya H;clear H;have hnb26:=NB373_362.out;have hnc26:=Jz.out;have hcz27_0:w16.cell? ⟨Wb,0,none⟩=some (.slice none 0 0):=bc Wi 0;have hcz27_1:w16.cell? ⟨Wb,1,none⟩=some (.slice none 0 0):=bc Wi 1;have hcz27_2:w16.cell? ⟨Wb,2,none⟩=some (.bool false):=bc Wi 2;have hfz27_0:=Yf Wi.out 0;have hfz27_1:=Yf Wi.out 1;have hfz27_2:=Yf Wi.out 2;have p374:0≤(a2:Int):=od;have q374:a2<(t369.length:Int):=od;obtain⟨ad374,e374,Jb⟩:=Kd.at_bool (Kd.R_reads' HO371.out).2.2 a2 p374 q374
    (try rw[← Nbq23.out] at Jb)
    cases e374;have hn374_0:ad374.block≠Wb:=Kd.own_blk (Kd.R_ne HO371.out Wi.out (by decide));have hn374_1:ad374.block≠Wb:=Kd.own_blk (Kd.R_ne HO371.out Wi.out (by decide));have hn374_2:ad374.block≠Wb:=Kd.own_blk (Kd.R_ne HO371.out Wi.out (by decide));replace Jb:=(cell_far (p:=⟨Wb,0,none⟩) (by first|(rw[add_block];exact hn374_0)|(show (Addr.add _ _).block≠_;rw[add_block];exact hn374_0)|exact hn374_0) (.slice Ao17 t366.length co17)).trans Jb;replace Jb:=(cell_far (p:=⟨Wb,1,none⟩) (by first|(rw[add_block];exact hn374_1)|(show (Addr.add _ _).block≠_;rw[add_block];exact hn374_1)|exact hn374_1) (.slice (some ad374) t369.length co20)).trans Jb;replace Jb:=(cell_far (p:=⟨Wb,2,none⟩) (by first|(rw[add_block];exact hn374_2)|(show (Addr.add _ _).block≠_;rw[add_block];exact hn374_2)|exact hn374_2) (.bool t372)).trans Jb;clear hn374_0 hn374_1 hn374_2;replace p374:=eq_true p374;replace q374:=eq_true q374;have p375:0≤(a2:Int):=od;have q375:a2<(t366.length:Int):=od;obtain⟨ad375,e375,hx375_0⟩:=Kd.at_int (Kd.R_reads' HO368.out).2.2 a2 p375 q375;cases e375;have hn375_0:ad375.block≠Wb:=Kd.own_blk (Kd.R_ne HO368.out Wi.out (by decide));have hn375_1:ad375.block≠Wb:=Kd.own_blk (Kd.R_ne HO368.out Wi.out (by decide));have hn375_2:ad375.block≠Wb:=Kd.own_blk (Kd.R_ne HO368.out Wi.out (by decide));replace hx375_0:=(cell_far (p:=⟨Wb,0,none⟩) (by first|(rw[add_block];exact hn375_0)|(show (Addr.add _ _).block≠_;rw[add_block];exact hn375_0)|exact hn375_0) (.slice (some ad375) t366.length co17)).trans hx375_0;replace hx375_0:=(cell_far (p:=⟨Wb,1,none⟩) (by first|(rw[add_block];exact hn375_1)|(show (Addr.add _ _).block≠_;rw[add_block];exact hn375_1)|exact hn375_1) (.slice (some ad374) t369.length co20)).trans hx375_0;replace hx375_0:=(cell_far (p:=⟨Wb,2,none⟩) (by first|(rw[add_block];exact hn375_2)|(show (Addr.add _ _).block≠_;rw[add_block];exact hn375_2)|exact hn375_2) (.bool t372)).trans hx375_0;clear hn375_0 hn375_1 hn375_2;replace p375:=eq_true p375;replace q375:=eq_true q375;go_wp2;go_meet
    case rel=>exact⟨_,(decide ((rd t366 a2)>a3)),(by first|rfl|(simp;done)|(simp[*];done)),H',⟨by have:=HK1.out;first|omega|exact Nat.le_refl _⟩,⟨by(with_reducible repeat(first|apply Yr|apply Yq|apply Yp));exact Kd.R_mono (Kd.R_far (p:=⟨Wb,2,none⟩) (Kd.R_far (p:=⟨Wb,1,none⟩) (Kd.R_far (p:=⟨Wb,0,none⟩) (Kd.R_types HO_9.out Wi.out (by decide)) (fun _ hk=>hk.2) (.slice (some ad375) t366.length co17)) (fun _ hk=>hk.2) (.slice (some ad374) t369.length co20)) (fun _ hk=>hk.2) (.bool t372)) (fun _ hk=>hk.1.2)⟩,⟨by(with_reducible repeat(first|apply Yr|apply Yq|apply Yp));exact Kd.R_mono (Kd.R_far (p:=⟨Wb,2,none⟩) (Kd.R_far (p:=⟨Wb,1,none⟩) (Kd.R_far (p:=⟨Wb,0,none⟩) (Kd.R_types HO368.out Wi.out (by decide)) (fun _ hk=>hk.2) (.slice (some ad375) t366.length co17)) (fun _ hk=>hk.2) (.slice (some ad374) t369.length co20)) (fun _ hk=>hk.2) (.bool t372)) (fun _ hk=>hk.1.2)⟩,⟨by(with_reducible repeat(first|apply Yr|apply Yq|apply Yp));exact Kd.R_mono (Kd.R_far (p:=⟨Wb,2,none⟩) (Kd.R_far (p:=⟨Wb,1,none⟩) (Kd.R_far (p:=⟨Wb,0,none⟩) (Kd.R_types HO371.out Wi.out (by decide)) (fun _ hk=>hk.2) (.slice (some ad375) t366.length co17)) (fun _ hk=>hk.2) (.slice (some ad374) t369.length co20)) (fun _ hk=>hk.2) (.bool t372)) (fun _ hk=>trivial)⟩,⟨by(with_reducible repeat(first|refine Yl ?_ _|refine Ym ?_|refine Yj ?_ _));refine blk_far ?_ Jz.out _;(with_reducible repeat(first|refine Yl ?_ _|refine Ym ?_|refine Yj ?_ _));refine blk_far ?_ Jz.out _;(with_reducible repeat(first|refine Yl ?_ _|refine Ym ?_|refine Yj ?_ _));refine blk_far ?_ Jz.out _;(with_reducible repeat(first|refine Yl ?_ _|refine Ym ?_|refine Yj ?_ _));exact Wo.out⟩,⟨by(with_reducible repeat(first|refine Yl ?_ _|refine Ym ?_|refine Yj ?_ _));refine YA (cs:= #[.slice (some ad375) t366.length co17, .slice (some ad374) t369.length co20, .bool false]) ?_ 2 _ rfl;(with_reducible repeat(first|refine Yl ?_ _|refine Ym ?_|refine Yj ?_ _));refine YA (cs:= #[.slice (some ad375) t366.length co17, .slice none 0 0, .bool false]) ?_ 1 _ rfl;(with_reducible repeat(first|refine Yl ?_ _|refine Ym ?_|refine Yj ?_ _));refine YA (cs:= #[.slice none 0 0, .slice none 0 0, .bool false]) ?_ 0 _ rfl;(with_reducible repeat(first|refine Yl ?_ _|refine Ym ?_|refine Yj ?_ _));exact Wi.out⟩,⟨bl⟩⟩
   case rest=>
    clear HC12;try clear c5
    try clear c5b0
    try clear c5b1
    try clear c6
    try clear c6b0
    try clear c6b1
    try clear c21
    try clear c21b0
    try clear c22
    try clear c22b0
    try clear c24
    try clear c25
    try clear c25b0
    try clear hcz13_0
    try clear hcz13_1
    try clear hcz13_2
    try clear hcz19_0
    try clear hcz19_1
    try clear hcz19_2
    try clear hcz27_0
    try clear hcz27_1
    try clear hcz27_2
    try clear hcz29_0
    try clear hcz29_1
    try clear hcz29_2
    try clear Jq
    try clear Jr
    try clear hcz8_2
    try clear hfz13_0
    try clear hfz13_1
    try clear hfz13_2
    try clear hfz19_0
    try clear hfz19_1
    try clear hfz19_2
    try clear hfz27_0
    try clear hfz27_1
    try clear hfz27_2
    try clear hfz29_0
    try clear hfz29_1
    try clear hfz29_2
    try clear Js
    try clear Jt
    try clear hfz8_2
    try clear Jb
    try clear hx375_0
    try clear p374
    try clear p375
    try clear q374
    try clear q375
    obtain⟨kq,x34_11,rfl,HA,HJ11,HO_9,HO_374000,HO_374001,Wo,Wi,HB⟩:=hcut;cases kq with
    |zero=>exact absurd HA.out (by simp[ebbtideref12_Best.j1])
    |succ kj11=>
     have H:=HA.out;clear HA;simp only[ebbtideref12_Best.j1] at H;by_cases c30:x34_11=true
     ·subst c30
      first|rw[Yx rfl] at H|rw[Yx trivial] at H
      obtain rfl:=Option.some.inj H;go_wp2;go_ret;exact⟨_,by first|rfl|(simp[errW_none,errW_some]<;>rfl)|(simp[*,errW_none,errW_some]<;>rfl),by(with_reducible repeat(first|apply Yr|apply Yq|apply Yp));exact Kd.R_mono HO_9.out (fun _ hk=>trivial),HB.out⟩
     replace c30:=Bool.eq_false_iff.mpr c30;subst c30;rw[Yy (show ¬ (false=true) by decide)] at H;replace H:=Option.bind_eq_some_iff.mp H;obtain⟨t376,A310,H⟩:=H;try dsimp only at H
     have A31:=Ya A310;clear A310;replace H:=Option.bind_eq_some_iff.mp H;obtain⟨t379,A320,H⟩:=H;try dsimp only at H
     have A32:=Ya A320;clear A320;replace H:=Option.bind_eq_some_iff.mp H;obtain⟨t380,A330,H⟩:=H;try dsimp only at H
     have A33:=Ya A330;clear A330;have H':=Ya H;clear H;have hnb34:=Jz.out;have hnc34:=NB373_362.out;have hcz35_0:wc.cell? ⟨gb362,0,none⟩=some (.int .i64 Zb):=bc Wo 0;have hcz35_1:wc.cell? ⟨gb362,1,none⟩=some (.bool Zc):=bc Wo 1;have hcz35_2:wc.cell? ⟨gb362,2,none⟩=some (.slice Ze Za.length Zd):=bc Wo 2;have hfz35_0:=Yf Wo.out 0;have hfz35_1:=Yf Wo.out 1;have hfz35_2:=Yf Wo.out 2;have hcz36_0:wc.cell? ⟨Wb,0,none⟩=some (.slice Ao17 t366.length co17):=bc Wi 0;have hcz36_1:wc.cell? ⟨Wb,1,none⟩=some (.slice Ao20 t369.length co20):=bc Wi 1;have hcz36_2:wc.cell? ⟨Wb,2,none⟩=some (.bool t372):=bc Wi 2;have hfz36_0:=Yf Wi.out 0;have hfz36_1:=Yf Wi.out 1;have hfz36_2:=Yf Wi.out 2;go_wp2_with (first|((with_reducible refine gate_callee (f:=64) rfl ?_);refine gl (some 41) Try.func64 #[.agg #[.int .i64 Zb, .bool Zc, .slice Ze Za.length Zd], .slice Ao14 x9_1.length co14, .int .i64 a1, .int .i64 a2, .agg #[.slice Ao17 t366.length co17, .slice Ao20 t369.length co20, .bool t372]] ?_;(with_reducible refine(ebbtideref12_nearest.calls kj11 Zb Zc _ _ Za _ _ x9_1 a1 a2 _ _ t366 _ _ t369 t372 t376 _ ?side1 ?side2 ?side3 ?side4 ?side5 ?side6 ?side7 ?side8 (by first|exact A31.out|(have h_:=A31.out;rw[← Nbq23.out] at h_;exact h_))).mono ?_);(case side1=>exact kC (Yt Zh.out HB.out));(case side2=>exact Zo.out);(case side3=>exact kC (Kd.R_reads' HO_9.out).2.2);(case side4=>exact(Kd.R_reads' HO_9.out).2.1);(case side5=>exact kC (Kd.R_reads' HO_374000.out).2.2);(case side6=>exact(Kd.R_reads' HO_374000.out).2.1);(case side7=>exact kC (Kd.R_reads' HO_374001.out).2.2);(case side8=>exact(Kd.R_reads' HO_374001.out).2.1);rintro e w37 ⟨v377,rfl,ho0,hb⟩;refine⟨_,rfl,?_⟩;replace HO_9:=Ya (Ys (kR HO_9) hb);replace HO_374000:=Ya (Ys (kR HO_374000) hb);replace HO_374001:=Ya (Ys (kR HO_374001) hb);have HO378:=Ya (Kd.R_lower ho0 (Yi bl));replace Wo:=Ya (Yn (bk Wo) hb);replace Wi:=Ya (Yn (bk Wi) hb);replace HB:=Ya (Yk bl hb);(try clear hb);(try clear ho0);have hcz38_0:w37.cell? ⟨gb362,0,none⟩=some (.int .i64 Zb):=bc Wo 0;have hcz38_1:w37.cell? ⟨gb362,1,none⟩=some (.bool Zc):=bc Wo 1;have hcz38_2:w37.cell? ⟨gb362,2,none⟩=some (.slice Ze Za.length Zd):=bc Wo 2;have hfz38_0:=Yf Wo.out 0;have hfz38_1:=Yf Wo.out 1;have hfz38_2:=Yf Wo.out 2;obtain⟨Ao39,co39,eo39⟩:=Kd.R_slice HO378.out;subst eo39)|((with_reducible refine gate_callee (f:=60) rfl ?_);refine gl (some 47) Try.func60 #[.agg #[.int .i64 Zb, .bool Zc, .slice Ze Za.length Zd], .slice Ao14 x9_1.length co14, .slice Ao39 t376.length co39] ?_;(with_reducible refine(ebbtideref08_Bottle.calls kj11 Zb Zc _ _ Za _ _ x9_1 _ _ t376 t379 _ ?side1 ?side2 ?side3 ?side4 ?side5 ?side6 A32.out).mono ?_);(case side1=>exact kC (Yt Zh.out HB.out));(case side2=>exact Zo.out);(case side3=>exact kC (Kd.R_reads' HO_9.out).2.2);(case side4=>exact(Kd.R_reads' HO_9.out).2.1);(case side5=>exact kC (Kd.R_reads' HO378.out).2.2);(case side6=>exact(Kd.R_reads' HO378.out).2.1);rintro e w40 ⟨rfl,hb⟩;refine⟨_,rfl,?_⟩;replace HO_9:=Ya (Ys (kR HO_9) hb);replace HO_374000:=Ya (Ys (kR HO_374000) hb);replace HO_374001:=Ya (Ys (kR HO_374001) hb);replace HO378:=Ya (Ys (kR HO378) hb);replace Wo:=Ya (Yn (bk Wo) hb);replace Wi:=Ya (Yn (bk Wi) hb);replace HB:=Ya (Yk bl hb);(try clear hb);(try clear hb2);(try clear hk);(try clear hi))|((with_reducible refine gate_callee (f:=59) rfl ?_);refine gl (some 48) Try.func59 #[.slice Ao14 x9_1.length co14, .slice Ao39 t376.length co39, .int .i64 t379] ?_;(with_reducible refine(ebbtideref07_Pushed.calls kj11 _ _ x9_1 _ _ t376 t379 t380 _ ?side1 ?side2 ?side3 ?side4 A33.out).mono ?_);(case side1=>exact kC (Kd.R_reads' HO_9.out).2.2);(case side2=>exact(Kd.R_reads' HO_9.out).2.1);(case side3=>exact kC (Kd.R_reads' HO378.out).2.2);(case side4=>exact(Kd.R_reads' HO378.out).2.1);rintro e w41 ⟨v381,rfl,ho0,hb⟩;refine⟨_,rfl,?_⟩;replace HO_374001:=Ya (Ys (kR HO_374001) hb);replace HO378:=Ya (Ys (kR HO378) hb);have HO382:=Ya (Kd.R_lower (Kd.R_new' (Kd.R_new' ho0 (Kd.R_lt (kR HO_9))) (Kd.R_lt (kR HO_374000))) (Yi bl));replace HO_9:=Ya (Kd.R_elder' (kR HO_9) (Kd.R_base ho0) hb);replace HO_374000:=Ya (Kd.R_elder' (kR HO_374000) (Kd.R_base ho0) hb);replace Wo:=Ya (Yn (bk Wo) hb);replace Wi:=Ya (Yn (bk Wi) hb);replace HB:=Ya (Yk bl hb);(try clear hb);(try clear hb2);(try clear hk);(try clear hi);(try clear ho0)));go_roundg kj11
     case measure=>have:=HK1.out;have:=HJ11.out;omega
     case rel=>exact⟨(t380),H',⟨by have:=HK1.out;have:=HJ11.out;omega⟩,⟨by(with_reducible repeat(first|apply Yr|apply Yq|apply Yp));exact Kd.R_mono HO382.out (fun _ hk=>trivial)⟩,⟨Wo.out⟩,⟨HB.out⟩⟩
end P
end Go.Proofs.Ytoedkglggapggaa
