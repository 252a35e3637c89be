/- What the law's row needs of these texts, taken out of them by wip/tool/mini.py: P57 P59 P60 P61 P62 QFewWalk QRoomRef QCheckRef QWayFact QMostLaw QWorthLaw QSpanMostLaw QSpanRefLaw QSpanFewC P915 QOpen QLSpanMost. -/
import Derived.Test.YtoedkglggapggaaMlghifl
import Derived.Test.YtoedkglggapggaaMoimgel
import Derived.Test.YtoedkglggapggaaMkhlhhf
import Derived.Test.YtoedkglggapggaaMhjfkpj
import Derived.Deep.DeepCutAuto
import Derived.Test.YtoedkglggapggaaMnlbhhf
import Derived.Test.YtoedkglggapggaaVkigfaf
import Derived.Deep.Slices
import Derived.Deep.Fields
import Derived.ChangeSame
import Derived.ChangeArms
import Derived.OpenShut
set_option linter.unusedVariables false
set_option linter.unusedSimpArgs false
open Go.RowKit Go.Proofs.YtoedkglggapggaaW.PrintWords Go.Proofs.YtoedkglggapggaaW.PrintLast Go.Proofs.YtoedkglggapggaaW.PrintMore
namespace Go.Proofs.Ytoedkglggapggaa
namespace P
attribute [local go_sem] max2_int min2_int max_two min_two max_three min_three max_four min_four
def ebbtideref12_Most.f (k:Nat) (Zb:Int) (Zc:Bool) (Za:List (S50)) (a1:Int) (a2:Int) (a3:Int):Option (Int × Int):=(ebbtideref12_Asked.f k Zb Zc Za a1 a2 a3).bind fun t384=>(if t384=0 then((ebbtideref12_Best.f k Zb Zc Za a1 a2 a3).bind fun t385=>((ebbtideref12_Worth.f k Zb Zc Za a1 a2 t385 a3).bind fun bt388=>(some (bt388.1,bt388.2)))) else(some (0,t384)))
def ebbtideref12_Most.T4:Bool × List (List Nat × List Nat):=(true,[([],[]),([],[]),([],[]),([],[]),([],[]),([],[]),([],[]),([3,4,5,6],[3,4,5,6]),([],[]),([0,1,2,7,8,7],[0,1,2,7,8]),([9],[9]),([9],[9]),([10,9,0,1,2,3,4,5,6,7,8,9,10,11],[10]),([11,12,0,1,2,3,4,5,6,7,8,9,10,11,12],[11])])
def ebbtideref12_Most.B4:List Nat:=[0,0,0,0,0,0,0,120,0,511,1023,1023,4095,8191]
theorem ebbtideref12_Most.tab4:rtab .any (opsOf Try.f11 4)=ebbtideref12_Most.T4:=by kernel_rfl
theorem ebbtideref12_Most.bits4:waitsOk ebbtideref12_Most.T4.2 ebbtideref12_Most.B4=true:=by kernel_rfl
set_option maxHeartbeats 8000000 in
set_option maxRecDepth 100000 in
theorem ebbtideref12_Most.calls (k:Nat) (Zb:Int) (Zc:Bool) (Ze:Option Addr) (Zd:Nat) (Za:List (S50)) (a1:Int) (a2:Int) (a3:Int) (r1:Int) (r2:Int) (w:World) (Zp:Kd.C k50 w Ze Za.length Za) (Zq:Za.length≤Zd) (h:ebbtideref12_Most.f k Zb Zc Za a1 a2 a3=some (r1,r2)):
  Calls Try.prog 11 #[.agg #[.int .i64 Zb, .bool Zc, .slice Ze Za.length Zd], .int .i64 a1, .int .i64 a2, .int .i64 a3] w fun e w'=>e= .returned (.tuple #[.int .i64 r1, .int .i64 r2])∧Below w.heap.size w w':=by
 have hu24:=Try.underlying24;have Zh:=Ya Zp;have Zo:=Ya Zq;clear Zp Zq;have HB:=Ya (Yo w.heap.size w);have H:=h;unfold ebbtideref12_Most.f at H;clear h;replace H:=Option.bind_eq_some_iff.mp H;obtain⟨t384,A50,H⟩:=H;try dsimp only at H
 have A5:=Ya A50;clear A50;by_cases c6:t384=0
 rotate_left
 ·rw[Yy c6] at H
  have c6b0:(t384 == 0)=false:=beq_eq_false_iff_ne.mpr c6;have c6b1:(t384 != 0)=true:=bne_iff_ne.mpr c6;simp only[Option.some.injEq,Prod.mk.injEq] at H;obtain⟨rfl,rfl⟩:=H;go_enter Try.func11,Try.ntmps11;go_wp2_with (first|(refine bx 4 24 #[.int .i64 Zb, .bool Zc, .slice Ze Za.length Zd] ?_;intro gb383 hg w16 Zf hb;have Vx:=Ya (Zf);have GW383:=Ya ((sz hg));have GE383:=Ya ((sz hg));replace HB:=Ya (Yk bl hb);clear hb Zf hg;have Vz:w16.cell? ⟨gb383,0,none⟩=some (.int .i64 Zb):=bc Vx 0;have Ua:w16.cell? ⟨gb383,1,none⟩=some (.bool Zc):=bc Vx 1;have hcz17_2:w16.cell? ⟨gb383,2,none⟩=some (.slice Ze Za.length Zd):=bc Vx 2;have Ub:=Yf Vx.out 0;have Uc:=Yf Vx.out 1;have hfz17_2:=Yf Vx.out 2)|((with_reducible refine gate_callee (f:=14) rfl ?_);refine gl (some 15) Try.func14 #[.agg #[.int .i64 Zb, .bool Zc, .slice Ze Za.length Zd], .int .i64 a1, .int .i64 a2, .int .i64 a3] ?_;(with_reducible refine(ebbtideref12_Asked.calls k Zb Zc _ _ Za a1 a2 a3 t384 _ ?side1 ?side2 A5.out).mono ?_);(case side1=>exact kC (Yt Zh.out HB.out));(case side2=>exact Zo.out);rintro e w18 ⟨rfl,hb⟩;refine⟨_,rfl,?_⟩;replace Vx:=Ya (Yn (bk Vx) hb);replace HB:=Ya (Yk bl hb);(try clear hb)));go_ret2;exact⟨by first|rfl|(simp[errW_none,errW_some]<;>rfl)|(simp[*,errW_none,errW_some]<;>rfl),HB.out⟩
 rw[Yx c6] at H;have c6b0:(t384 == 0)=true:=beq_iff_eq.mpr c6;have c6b1:(t384 != 0)=false:=bne_eq_false_iff_eq.mpr c6;clear c6;replace H:=Option.bind_eq_some_iff.mp H;obtain⟨t385,A70,H⟩:=H;try dsimp only at H
 have A7:=Ya A70;clear A70;replace H:=Option.bind_eq_some_iff.mp H;obtain⟨⟨t388,t389⟩,A80,H⟩:=H;try dsimp only at H
 have A8:=Ya A80;clear A80;simp only[Option.some.injEq,Prod.mk.injEq] at H;obtain⟨rfl,rfl⟩:=H;go_enter Try.func11,Try.ntmps11;try go_wp2_with (first|(refine bx 4 24 #[.int .i64 Zb, .bool Zc, .slice Ze Za.length Zd] ?_;intro gb383 hg w9 Zf hb;have Vx:=Ya (Zf);have GW383:=Ya ((sz hg));have GE383:=Ya ((sz hg));replace HB:=Ya (Yk bl hb);clear hb Zf hg;have Wu:w9.cell? ⟨gb383,0,none⟩=some (.int .i64 Zb):=bc Vx 0;have Wv:w9.cell? ⟨gb383,1,none⟩=some (.bool Zc):=bc Vx 1;have Vl:w9.cell? ⟨gb383,2,none⟩=some (.slice Ze Za.length Zd):=bc Vx 2;have Ww:=Yf Vx.out 0;have Wx:=Yf Vx.out 1;have Vm:=Yf Vx.out 2)|((with_reducible refine gate_callee (f:=14) rfl ?_);refine gl (some 15) Try.func14 #[.agg #[.int .i64 Zb, .bool Zc, .slice Ze Za.length Zd], .int .i64 a1, .int .i64 a2, .int .i64 a3] ?_;(with_reducible refine(ebbtideref12_Asked.calls k Zb Zc _ _ Za a1 a2 a3 t384 _ ?side1 ?side2 A5.out).mono ?_);(case side1=>exact kC (Yt Zh.out HB.out));(case side2=>exact Zo.out);rintro e w11 ⟨rfl,hb⟩;refine⟨_,rfl,?_⟩;replace Vx:=Ya (Yn (bk Vx) hb);replace HB:=Ya (Yk bl hb);(try clear hb)))
 replace Vx:=Ya (Ym Vx.out);replace HB:=Ya (Yg HB.out);refine start_ (n:=14) (S:=fun w'=>w'.cell? ⟨gb383,0,none⟩=some (.int .i64 Zb)∧w'.cell? ⟨gb383,1,none⟩=some (.bool Zc)∧w'.cell? ⟨gb383,2,none⟩=some (.slice Ze Za.length Zd)) (ds:=[]) #[false,false,false,false,false,false,false,false,false,false,false,false,false,false] (by kernel_rfl) rfl rfl ⟨(Yc Vx.out 0).trans rfl,(Yc Vx.out 1).trans rfl,(Yc Vx.out 2).trans rfl⟩ (fun hHeld=> ?_);refine with_tabW ebbtideref12_Most.tab4 ebbtideref12_Most.bits4 (fun HT_ HW_=> ?_);generalize w11.drew=w12 at Vx HB hHeld ⊢;refine pu 1 20 (bm 14 2) ?_;refine pu 2 21 (bm 14 6) ?_;refine pu 4 23 (bm 14 22) ?_;refine pu 5 24 (bm 14 54) ?_;refine pu 6 25 (bm 14 118) ?_;refine pu 8 27 (bm 14 374) ?_;refine ta 0 19 (bm 14 375) hHeld ?_;refine ta 3 22 (bm 14 383) hHeld ?_;refine on 7 (some 26) (bm 14 511) fun K hK=> ?_
 refine gs Try.func32 #[.agg #[.int .i64 Zb, .bool Zc, .slice Ze Za.length Zd], .int .i64 a1, .int .i64 a2, .int .i64 a3] ?_
 with_reducible refine(ebbtideref12_Best.calls k Zb Zc _ _ Za a1 a2 a3 t385 _ ?side1 ?side2 A7.out).mono ?_
 (case side1=>exact(Yt Zh.out HB.out))
 (case side2=>exact Zo.out)
 rintro e w13 ⟨v386,rfl,ho0,hb⟩;refine⟨_,rfl,?_⟩;have HO387:=Ya (Kd.R_lower ho0 (Yi HB.out));replace Vx:=Ya (Yn Vx.out hb);replace HB:=Ya (Yk HB.out hb)
 (try clear hb)
 (try clear hb2)
 (try clear hk)
 (try clear hi)
 (try clear ho0)
 obtain⟨Ao14,co14,eo14⟩:=Kd.R_slice HO387.out
 (first|subst eo14|(injection eo14 with f1_ f2_ f3_;have f4_:=f1_.symm;have f5_:=f3_.symm;clear f1_ f2_ f3_;subst f4_;subst f5_))
 refine hK.out _ _ ⟨bc Vx 0,bc Vx 1,bc Vx 2⟩ (fun hHeld=> ?_);clear hK K;refine nm ?_;refine on 9 (some 28) (bm 14 1023) fun K hK=> ?_
 refine gs Try.func15 #[.agg #[.int .i64 Zb, .bool Zc, .slice Ze Za.length Zd], .int .i64 a1, .int .i64 a2, .slice Ao14 t385.length co14, .int .i64 a3] ?_
 with_reducible refine(ebbtideref12_Worth.calls k Zb Zc _ _ Za a1 a2 _ _ t385 a3 t388 t389 _ ?side1 ?side2 ?side3 ?side4 A8.out).mono ?_
 (case side1=>exact(Yt Zh.out HB.out))
 (case side2=>exact Zo.out)
 (case side3=>exact(Kd.R_reads' HO387.out).2.2)
 (case side4=>exact(Kd.R_reads' HO387.out).2.1)
 rintro e w15 ⟨rfl,hb⟩;refine⟨_,rfl,?_⟩;replace HO387:=Ya (Ys HO387.out hb);replace Vx:=Ya (Yn Vx.out hb);replace HB:=Ya (Yk HB.out hb)
 (try clear hb)
 (try clear hb2)
 (try clear hk)
 (try clear hi)
 refine hK.out _ _ ⟨bc Vx 0,bc Vx 1,bc Vx 2⟩ (fun hHeld=> ?_);clear hK K;refine nm ?_;refine pu 10 29 (bm 14 2047) ?_;refine pu 11 30 (bm 14 4095) ?_;refine pu 12 8 (bm 14 8191) ?_;refine pu 13 9 (bm 14 16383) ?_;refine done_ (done_of HT_.out (by kernel_rfl)) ?_;try go_wp2
 go_ret2;exact⟨by first|rfl|(simp[errW_none,errW_some]<;>rfl)|(simp[*,errW_none,errW_some]<;>rfl),HB.out⟩
end P
namespace P
attribute [local go_sem] max2_int min2_int max_two min_two max_three min_three max_four min_four
def static_Balance.l0:Nat→List Int→List Int→List (S50)→Int→Int→Option (List Int × Int)
 |0,_,_,_,_,_=>none
 |k+1,x1,x7,x20,x21,x22=>if x22<x21 then(if 0≤x22 then(if x22<(x20.length:Int) then(if 0≤((rd_T50 x20 x22).f0) then(if ((rd_T50 x20 x22).f0)<(x7.length:Int) then(if x22<(x1.length:Int) then((some (x7.set (((rd_T50 x20 x22).f0):Int).toNat (wrap64 ((rd x7 ((rd_T50 x20 x22).f0))+(rd x1 x22))):List Int)).bind fun y403=>(if 0≤((rd_T50 x20 x22).f1) then(if ((rd_T50 x20 x22).f1)<(x7.length:Int) then(static_Balance.l0 k x1 (y403.set (((rd_T50 x20 x22).f1):Int).toNat (wrap64 ((rd y403 ((rd_T50 x20 x22).f1)) - (rd x1 x22)))) x20 x21 (wrap64 (x22+1))) else(none)) else(none))) else(none)) else(none)) else(none)) else(none)) else(none)) else(some (x7,0))
def static_Balance.f (k:Nat) (Zb:Int) (Zc:Bool) (Za:List (S50)) (l1:List Int):Option (List Int × Int):=(static_Asked.f k Zb Zc Za l1).bind fun t395=>(if t395=0 then(if 0≤Zb then(if (Zb:Int).toNat≤35184372088832 then(static_Balance.l0 k l1 (List.replicate (Zb:Int).toNat 0) Za (Za.length:Int) 0) else(none)) else(none)) else(some (([]:List Int),t395)))
def static_Balance.T8:Bool × List (List Nat × List Nat):=(true,[([],[]),([],[]),([1],[1]),([0,2],[0,2]),([3],[3]),([],[]),([],[]),([5,6],[5,6]),([7],[7]),([4,8],[4,8]),([0,2,0,1,2,3,4,5,6,7,8,9],[0,2]),([10,9,0,1,2,3,4,5,6,7,8,9],[9,10])])
def static_Balance.B8:List Nat:=[0,0,2,7,15,0,0,96,224,511,1023,2047]
theorem static_Balance.tab8:rtab .any (opsOf Try.f73 8)=static_Balance.T8:=by kernel_rfl
theorem static_Balance.bits8:waitsOk static_Balance.T8.2 static_Balance.B8=true:=by kernel_rfl
def static_Balance.T9:Bool × List (List Nat × List Nat):=(true,[([],[]),([],[]),([1],[1]),([0,2],[0,2]),([3],[3]),([],[]),([],[]),([5,6],[5,6]),([7],[7]),([4,8],[4,8]),([0,2,0,1,2,3,4,5,6,7,8,9],[0,2]),([10,9,0,1,2,3,4,5,6,7,8,9],[9,10])])
def static_Balance.B9:List Nat:=[0,0,2,7,15,0,0,96,224,511,1023,2047]
theorem static_Balance.tab9:rtab .any (opsOf Try.f73 9)=static_Balance.T9:=by kernel_rfl
theorem static_Balance.bits9:waitsOk static_Balance.T9.2 static_Balance.B9=true:=by kernel_rfl
set_option maxHeartbeats 8000000 in
set_option maxRecDepth 100000 in
theorem static_Balance.calls (k:Nat) (Zb:Int) (Zc:Bool) (Ze:Option Addr) (Zd:Nat) (Za:List (S50)) (A1:Option Addr) (c1:Nat) (l1:List Int) (r1:List Int) (r2:Int) (w:World) (Zp:Kd.C k50 w Ze Za.length Za) (Zq:Za.length≤Zd) (hr1:Kd.C (Kd.int .i64) w A1 l1.length l1) (hc1:l1.length≤c1) (h:static_Balance.f k Zb Zc Za l1=some (r1,r2)):
  Calls Try.prog 73 #[.agg #[.int .i64 Zb, .bool Zc, .slice Ze Za.length Zd], .slice A1 l1.length c1] w fun e w'=> ∃ v0_:Value,e= .returned (.tuple #[v0_, .int .i64 r2])∧Kd.R (Kd.int .i64) 3 w' w.heap.size (fun _=>True) v0_ r1∧Below w.heap.size w w':=by
 have hu24:=Try.underlying24;have hu50:=Try.underlying50;have Zh:=Ya Zp;have Zo:=Ya Zq;clear Zp Zq;have HR1:=Ya hr1;have HC1:=Ya hc1;clear hr1 hc1;have HB:=Ya (Yo w.heap.size w);have H:=h;unfold static_Balance.f at H;clear h;replace H:=Option.bind_eq_some_iff.mp H;obtain⟨t395,A30,H⟩:=H;try dsimp only at H
 have A3:=Ya A30;clear A30;by_cases c4:t395=0
 rotate_left
 ·rw[Yy c4] at H
  have c4b0:(t395 == 0)=false:=beq_eq_false_iff_ne.mpr c4;have c4b1:(t395 != 0)=true:=bne_iff_ne.mpr c4;simp only[Option.some.injEq,Prod.mk.injEq] at H;obtain⟨rfl,rfl⟩:=H;go_enter Try.func73,Try.ntmps73;go_wp2_with (first|(refine bx 2 24 #[.int .i64 Zb, .bool Zc, .slice Ze Za.length Zd] ?_;intro gb394 hg w34 Zf hb;have Wc:=Ya (Zf);have GW394:=Ya (by rw[hg];exact(Yi HB.out):w.heap.size≤gb394);have GE394:=Ya (by rw[hg];exact(Yi HB.out):w.heap.size≤gb394);replace HB:=Ya (Yk HB.out hb);clear hb Zf hg;have hcz35_0:w34.cell? ⟨gb394,0,none⟩=some (.int .i64 Zb):=bc Wc 0;have hcz35_1:w34.cell? ⟨gb394,1,none⟩=some (.bool Zc):=bc Wc 1;have hcz35_2:w34.cell? ⟨gb394,2,none⟩=some (.slice Ze Za.length Zd):=bc Wc 2;have hfz35_0:=Yf Wc.out 0;have hfz35_1:=Yf Wc.out 1;have hfz35_2:=Yf Wc.out 2)|((with_reducible refine gate_callee (f:=90) rfl ?_);refine gl (some 12) Try.func90 #[.agg #[.int .i64 Zb, .bool Zc, .slice Ze Za.length Zd], .slice A1 l1.length c1] ?_;(with_reducible refine(static_Asked.calls k Zb Zc _ _ Za _ _ l1 t395 _ ?side1 ?side2 ?side3 ?side4 A3.out).mono ?_);(case side1=>exact kC (Yt Zh.out HB.out));(case side2=>exact Zo.out);(case side3=>exact kC (Yt HR1.out HB.out));(case side4=>exact HC1.out);rintro e w36 ⟨rfl,hb⟩;refine⟨_,rfl,?_⟩;replace Wc:=Ya (Yn Wc.out hb);replace HB:=Ya (Yk HB.out hb);(try clear hb)));go_ret2;exact⟨_,by first|rfl|(simp[errW_none,errW_some]<;>rfl)|(simp[*,errW_none,errW_some]<;>rfl),by first|exact Kd.R_nil _ _ _ _ _|exact Kd.N_nil _ _ _ _ _|exact Kd.V_nil _ _ _ _ _|exact Kd.Q_nil _ _ _ _ _|exact Kd.S_nil _ _ _ _ _,HB.out⟩
 rw[Yx c4] at H;have c4b0:(t395 == 0)=true:=beq_iff_eq.mpr c4;have c4b1:(t395 != 0)=false:=bne_eq_false_iff_eq.mpr c4;clear c4;by_cases c5:0≤Zb
 rotate_left
 ·rw[Yy c5] at H
  exact absurd H (by simp)
 rw[Yx c5] at H;have c5b0:=eq_true c5;have c5b1:decide (0≤Zb)=true:=Yv c5;clear c5;by_cases c6:(Zb:Int).toNat≤35184372088832
 rotate_left
 ·rw[Yy c6] at H
  exact absurd H (by simp)
 rw[Yx c6] at H;have c6b0:=eq_true c6;have c6b1:decide ((Zb:Int).toNat≤35184372088832)=true:=Yv c6;clear c6;obtain⟨y396,hy396⟩: ∃ y_:List Int,y_=(List.replicate (Zb:Int).toNat 0):=⟨_,rfl⟩;rw[← hy396] at H;have Ny396:=Ya hy396;clear hy396;have H':=Ya H;clear H;go_enter Try.func73,Try.ntmps73;go_wp2_with (first|(refine bx 2 24 #[.int .i64 Zb, .bool Zc, .slice Ze Za.length Zd] ?_;intro gb394 hg w7 Zf hb;have Wc:=Ya (Zf);have GW394:=Ya (by rw[hg];exact(Yi HB.out):w.heap.size≤gb394);have GE394:=Ya (by rw[hg];exact(Yi HB.out):w.heap.size≤gb394);replace HB:=Ya (Yk HB.out hb);clear hb Zf hg;have Jq:w7.cell? ⟨gb394,0,none⟩=some (.int .i64 Zb):=bc Wc 0;have Jr:w7.cell? ⟨gb394,1,none⟩=some (.bool Zc):=bc Wc 1;have hcz8_2:w7.cell? ⟨gb394,2,none⟩=some (.slice Ze Za.length Zd):=bc Wc 2;have Js:=Yf Wc.out 0;have Jt:=Yf Wc.out 1;have hfz8_2:=Yf Wc.out 2)|((with_reducible refine gate_callee (f:=90) rfl ?_);refine gl (some 12) Try.func90 #[.agg #[.int .i64 Zb, .bool Zc, .slice Ze Za.length Zd], .slice A1 l1.length c1] ?_;(with_reducible refine(static_Asked.calls k Zb Zc _ _ Za _ _ l1 t395 _ ?side1 ?side2 ?side3 ?side4 A3.out).mono ?_);(case side1=>exact kC (Yt Zh.out HB.out));(case side2=>exact Zo.out);(case side3=>exact kC (Yt HR1.out HB.out));(case side4=>exact HC1.out);rintro e w9 ⟨rfl,hb⟩;refine⟨_,rfl,?_⟩;replace Wc:=Ya (Yn Wc.out hb);replace HB:=Ya (Yk HB.out hb);(try clear hb);have Wu:w9.cell? ⟨gb394,0,none⟩=some (.int .i64 Zb):=bc Wc 0;have Wv:w9.cell? ⟨gb394,1,none⟩=some (.bool Zc):=bc Wc 1;have Vl:w9.cell? ⟨gb394,2,none⟩=some (.slice Ze Za.length Zd):=bc Wc 2;have Ww:=Yf Wc.out 0;have Wx:=Yf Wc.out 1;have Vm:=Yf Wc.out 2)|((with_reducible refine gate_dst (N:=18) rfl ?_);refine Kd.R_make (Kd.int .i64) _ 3 rfl (N:=18) rfl 31 _ _ rfl Zb rfl rfl Try.underlying31 (.int .i64 0) 8 info3 rfl (by decide) (by omega) 0 (ok:=fun _=>True) (okp:=fun _=>True) rfl (fun _ hk=>hk) trivial (Yu (by first|(with_reducible assumption)|assumption)) (Nat.le_trans (Nat.mul_le_mul_right _ (Yu (by first|(with_reducible assumption)|assumption):Zb.toNat≤35184372088832)) (by omega)) (Yo _ _) (Nat.le_refl _) ?_;intro v397 w11 ho12 hb hg_ hnew_;clear hg_ hnew_;(first|rw[← Ny396.out] at ho12|(simp only[Int.reduceToNat] at ho12;rw[← Ny396.out] at ho12));have HO398:=Ya (Kd.R_lower ho12 (Yi HB.out));replace Wc:=Ya (Yn Wc.out hb);replace HB:=Ya (Yk HB.out hb);clear hb ho12;have hcz13_0:w11.cell? ⟨gb394,0,none⟩=some (.int .i64 Zb):=bc Wc 0;have hcz13_1:w11.cell? ⟨gb394,1,none⟩=some (.bool Zc):=bc Wc 1;have hcz13_2:w11.cell? ⟨gb394,2,none⟩=some (.slice Ze Za.length Zd):=bc Wc 2;have hfz13_0:=Yf Wc.out 0;have hfz13_1:=Yf Wc.out 1;have hfz13_2:=Yf Wc.out 2));go_loopg [22] k (fun kq v22 w'=> ∃ (Xu:List Int) (Zr:Int),v22= .int .i64 Zr∧Aside0 (static_Balance.l0 kq l1 Xu Za (Za.length:Int) Zr=some (r1,r2))∧Aside0 (kq≤k)∧Aside0 (Kd.R (Kd.int .i64) 3 w' w.heap.size (fun _=>True) v397 Xu)∧Aside0 (w'.heap[gb394]? =some (.cells #[.int .i64 Zb, .bool Zc,(.slice Ze Za.length Zd)] 24 (0,0)))∧Aside0 (Below w.heap.size w w'))
 case atStart=>exact⟨(y396),(0),(by first|rfl|(simp;done)|(simp[*];done)),H',⟨Nat.le_refl _⟩,⟨HO398.out⟩,⟨Wc.out⟩,⟨HB.out⟩⟩
 case round=>
  clear H';try clear c1
  try clear c4
  try clear c4b0
  try clear c4b1
  try clear c5
  try clear c5b0
  try clear c5b1
  try clear c6
  try clear c6b0
  try clear c6b1
  try clear Wu
  try clear Wv
  try clear Vl
  try clear hcz13_0
  try clear hcz13_1
  try clear hcz13_2
  try clear Jq
  try clear Jr
  try clear hcz8_2
  try clear Ww
  try clear Wx
  try clear Vm
  try clear hfz13_0
  try clear hfz13_1
  try clear hfz13_2
  try clear Js
  try clear Jt
  try clear hfz8_2
  obtain⟨Xu,Zr,rfl,HA,HK1,HO_7,Wc,HB⟩:=hrel;cases gk with
  |zero=>exact absurd HA.out (by simp[static_Balance.l0])
  |succ k1=>
   have H:=HA.out;clear HA;simp only[static_Balance.l0] at H;by_cases c14:Zr<(Za.length:Int)
   rotate_left
   ·rw[Yy c14] at H
    have c14b0:decide (Zr<(Za.length:Int))=false:=Yw c14;clear c14;simp only[Option.some.injEq,Prod.mk.injEq] at H;obtain⟨rfl,rfl⟩:=H;go_wp2;go_ret2;exact⟨_,by first|rfl|(simp[errW_none,errW_some]<;>rfl)|(simp[*,errW_none,errW_some]<;>rfl),by(with_reducible repeat(first|apply Yr|apply Yq|apply Yp));exact HO_7.out,HB.out⟩
   rw[Yx c14] at H;have c14b0:decide (Zr<(Za.length:Int))=true:=Yv c14;clear c14;by_cases c15:0≤Zr
   rotate_left
   ·rw[Yy c15] at H
    exact absurd H (by simp)
   rw[Yx c15] at H;have c15b0:decide (0≤Zr)=true:=Yv c15;clear c15;by_cases c16:Zr<(Za.length:Int)
   rotate_left
   ·rw[Yy c16] at H
    exact absurd H (by simp)
   rw[Yx c16] at H;have c16b0:decide (Zr<(Za.length:Int))=true:=Yv c16;clear c16;by_cases c17:0≤((rd_T50 Za Zr).f0)
   rotate_left
   ·rw[Yy c17] at H
    exact absurd H (by simp)
   rw[Yx c17] at H;have c17b0:decide (0≤((rd_T50 Za Zr).f0))=true:=Yv c17;clear c17;by_cases c18:((rd_T50 Za Zr).f0)<(Xu.length:Int)
   rotate_left
   ·rw[Yy c18] at H
    exact absurd H (by simp)
   rw[Yx c18] at H;have c18b0:decide (((rd_T50 Za Zr).f0)<(Xu.length:Int))=true:=Yv c18;clear c18;by_cases c19:Zr<(l1.length:Int)
   rotate_left
   ·rw[Yy c19] at H
    exact absurd H (by simp)
   rw[Yx c19] at H;have c19b0:decide (Zr<(l1.length:Int))=true:=Yv c19;clear c19;obtain⟨y403,hy403⟩: ∃ y_:List Int,y_=(Xu.set (((rd_T50 Za Zr).f0):Int).toNat (wrap64 ((rd Xu ((rd_T50 Za Zr).f0))+(rd l1 Zr)))):=⟨_,rfl⟩;rw[Option.bind_some, ← hy403] at H;have Ny403:=Ya hy403;clear hy403;by_cases c21:0≤((rd_T50 Za Zr).f1)
   rotate_left
   ·rw[Yy c21] at H
    exact absurd H (by simp)
   rw[Yx c21] at H;have c21b0:decide (0≤((rd_T50 Za Zr).f1))=true:=Yv c21;clear c21;by_cases c22:((rd_T50 Za Zr).f1)<(Xu.length:Int)
   rotate_left
   ·rw[Yy c22] at H
    exact absurd H (by simp)
   rw[Yx c22] at H;have c22b0:decide (((rd_T50 Za Zr).f1)<(Xu.length:Int))=true:=Yv c22;clear c22;obtain⟨y406,hy406⟩: ∃ y_:List Int,y_=(y403.set (((rd_T50 Za Zr).f1):Int).toNat (wrap64 ((rd y403 ((rd_T50 Za Zr).f1)) - (rd l1 Zr)))):=⟨_,rfl⟩;rw[← hy406] at H;have Ny406:=Ya hy406;clear hy406;have H':=Ya H;clear H;have p399:0≤(Zr:Int):=od;have q399:Zr<(Za.length:Int):=od;obtain⟨ad399,e399,hx399_0,hx399_1,hx399_2,hx399_3⟩:=at_T50 Zh.out Zr p399 q399;cases e399;replace hx399_0:=hc HB hx399_0;replace hx399_1:=hc HB hx399_1;replace hx399_2:=hc HB hx399_2;replace hx399_3:=hc HB hx399_3;replace p399:=eq_true p399;replace q399:=eq_true q399;try go_wp2_with (first|(refine bx 9 50 #[.int .i64 0, .int .i64 0, .int .i64 0, .int .i64 0] ?_;intro Va hg w24 Zf hb;replace HO_7:=Ya (Ys HO_7.out hb);have Ur:=Ya (Zf);have GW400:=Ya (by rw[hg];exact(Yi HB.out):w.heap.size≤Va);have GE400:=Ya (by rw[hg];exact(Yi HB.out):w.heap.size≤Va);replace HB:=Ya (Yk HB.out hb);have NB394_400:=Ya (by rw[hg];exact Nat.ne_of_lt (blk_lt Wc.out):gb394≠Va);have NB400_394:=Ya (by rw[hg];exact Nat.ne_of_gt (blk_lt Wc.out):Va≠gb394);replace Wc:=Ya (Yn Wc.out hb);clear hb Zf hg;have hnb25:=NB400_394.out;have hnc25:=NB394_400.out;have hcz26_0:w24.cell? ⟨Va,0,none⟩=some (.int .i64 0):=bc Ur 0;have hcz26_1:w24.cell? ⟨Va,1,none⟩=some (.int .i64 0):=bc Ur 1;have hcz26_2:w24.cell? ⟨Va,2,none⟩=some (.int .i64 0):=bc Ur 2;have hcz26_3:w24.cell? ⟨Va,3,none⟩=some (.int .i64 0):=bc Ur 3;have hfz26_0:=Yf Ur.out 0;have hfz26_1:=Yf Ur.out 1;have hfz26_2:=Yf Ur.out 2;have hfz26_3:=Yf Ur.out 3))
   have n0_:Aside0 (Kd.R (Kd.int .i64) 3 ((((w24.setCell ⟨Va,0,none⟩ (.int .i64 ((rd_T50 Za Zr).f0))).setCell ⟨Va,1,none⟩ (.int .i64 ((rd_T50 Za Zr).f1))).setCell ⟨Va,2,none⟩ (.int .i64 ((rd_T50 Za Zr).f2))).setCell ⟨Va,3,none⟩ (.int .i64 ((rd_T50 Za Zr).f3))) w.heap.size (fun _=>True) v397 Xu):=⟨by(with_reducible repeat(first|apply Yr|apply Yq|apply Yp));exact Kd.R_mono (Kd.R_far (p:=⟨Va,3,none⟩) (Kd.R_far (p:=⟨Va,2,none⟩) (Kd.R_far (p:=⟨Va,1,none⟩) (Kd.R_far (p:=⟨Va,0,none⟩) (Kd.R_types HO_7.out Ur.out (by decide)) (fun _ hk=>hk.2) (.int .i64 ((rd_T50 Za Zr).f0))) (fun _ hk=>hk.2) (.int .i64 ((rd_T50 Za Zr).f1))) (fun _ hk=>hk.2) (.int .i64 ((rd_T50 Za Zr).f2))) (fun _ hk=>hk.2) (.int .i64 ((rd_T50 Za Zr).f3))) (fun _ hk=>trivial)⟩;have n1_:Aside0 (((((w24.setCell ⟨Va,0,none⟩ (.int .i64 ((rd_T50 Za Zr).f0))).setCell ⟨Va,1,none⟩ (.int .i64 ((rd_T50 Za Zr).f1))).setCell ⟨Va,2,none⟩ (.int .i64 ((rd_T50 Za Zr).f2))).setCell ⟨Va,3,none⟩ (.int .i64 ((rd_T50 Za Zr).f3))).heap[gb394]? =some (.cells #[.int .i64 Zb, .bool Zc, .slice (some ad399) Za.length Zd] 24 (0,0))):=⟨by(with_reducible repeat(first|refine Yl ?_ _|refine Ym ?_|refine Yj ?_ _));refine blk_far ?_ NB394_400.out _;(with_reducible repeat(first|refine Yl ?_ _|refine Ym ?_|refine Yj ?_ _));refine blk_far ?_ NB394_400.out _;(with_reducible repeat(first|refine Yl ?_ _|refine Ym ?_|refine Yj ?_ _));refine blk_far ?_ NB394_400.out _;(with_reducible repeat(first|refine Yl ?_ _|refine Ym ?_|refine Yj ?_ _));refine blk_far ?_ NB394_400.out _;(with_reducible repeat(first|refine Yl ?_ _|refine Ym ?_|refine Yj ?_ _));exact Wc.out⟩;have n2_:Aside0 (((((w24.setCell ⟨Va,0,none⟩ (.int .i64 ((rd_T50 Za Zr).f0))).setCell ⟨Va,1,none⟩ (.int .i64 ((rd_T50 Za Zr).f1))).setCell ⟨Va,2,none⟩ (.int .i64 ((rd_T50 Za Zr).f2))).setCell ⟨Va,3,none⟩ (.int .i64 ((rd_T50 Za Zr).f3))).heap[Va]? =some (.cells #[.int .i64 ((rd_T50 Za Zr).f0), .int .i64 ((rd_T50 Za Zr).f1), .int .i64 ((rd_T50 Za Zr).f2), .int .i64 ((rd_T50 Za Zr).f3)] 50 (0,0))):=⟨by(with_reducible repeat(first|refine Yl ?_ _|refine Ym ?_|refine Yj ?_ _));refine YA (cs:= #[.int .i64 ((rd_T50 Za Zr).f0), .int .i64 ((rd_T50 Za Zr).f1), .int .i64 ((rd_T50 Za Zr).f2), .int .i64 0]) ?_ 3 _ rfl;(with_reducible repeat(first|refine Yl ?_ _|refine Ym ?_|refine Yj ?_ _));refine YA (cs:= #[.int .i64 ((rd_T50 Za Zr).f0), .int .i64 ((rd_T50 Za Zr).f1), .int .i64 0, .int .i64 0]) ?_ 2 _ rfl;(with_reducible repeat(first|refine Yl ?_ _|refine Ym ?_|refine Yj ?_ _));refine YA (cs:= #[.int .i64 ((rd_T50 Za Zr).f0), .int .i64 0, .int .i64 0, .int .i64 0]) ?_ 1 _ rfl;(with_reducible repeat(first|refine Yl ?_ _|refine Ym ?_|refine Yj ?_ _));refine YA (cs:= #[.int .i64 0, .int .i64 0, .int .i64 0, .int .i64 0]) ?_ 0 _ rfl;(with_reducible repeat(first|refine Yl ?_ _|refine Ym ?_|refine Yj ?_ _));exact Ur.out⟩;have n3_:Aside0 (Below w.heap.size w ((((w24.setCell ⟨Va,0,none⟩ (.int .i64 ((rd_T50 Za Zr).f0))).setCell ⟨Va,1,none⟩ (.int .i64 ((rd_T50 Za Zr).f1))).setCell ⟨Va,2,none⟩ (.int .i64 ((rd_T50 Za Zr).f2))).setCell ⟨Va,3,none⟩ (.int .i64 ((rd_T50 Za Zr).f3)))):=⟨bl⟩
   (try clear HO_7)
   (try clear Wc)
   (try clear Ur)
   (try clear HB)
   generalize ((((w24.setCell ⟨Va,0,none⟩ (.int .i64 ((rd_T50 Za Zr).f0))).setCell ⟨Va,1,none⟩ (.int .i64 ((rd_T50 Za Zr).f1))).setCell ⟨Va,2,none⟩ (.int .i64 ((rd_T50 Za Zr).f2))).setCell ⟨Va,3,none⟩ (.int .i64 ((rd_T50 Za Zr).f3)))=w27 at n0_ n1_ n2_ n3_ ⊢;have HO_7:=n0_;have Wc:=n1_;have Ur:=n2_;have HB:=n3_;clear n0_ n1_ n2_ n3_;replace HO_7:=Ya (Yp HO_7.out);replace Wc:=Ya (Ym Wc.out);replace Ur:=Ya (Ym Ur.out);replace HB:=Ya (Yg HB.out);obtain⟨Ao29,co29,eo29⟩:=Kd.R_slice HO_7.out
   (first|subst eo29|(injection eo29 with f1_ f2_ f3_;have f4_:=f1_.symm;have f5_:=f3_.symm;clear f1_ f2_ f3_;subst f4_;subst f5_))
   have p401:0≤(((rd_T50 Za Zr).f0):Int):=od;have q401:((rd_T50 Za Zr).f0)<(Xu.length:Int):=od;obtain⟨ad401,e401,hx401_0⟩:=Kd.at_int (Kd.R_reads' HO_7.out).2.2 ((rd_T50 Za Zr).f0) p401 q401;cases e401;replace p401:=eq_true p401;replace q401:=eq_true q401;have p402:0≤(Zr:Int):=od;have q402:Zr<(l1.length:Int):=od;obtain⟨ad402,e402,hx402_0⟩:=Kd.at_int HR1.out Zr p402 q402;have hw402_0:=hx402_0;cases e402;replace hx402_0:=hc HB hx402_0;replace p402:=eq_true p402;replace q402:=eq_true q402;have p20:0≤(((rd_T50 Za Zr).f0):Int):=od;have q20:(((rd_T50 Za Zr).f0):Int)<((Xu.length:Int):Int):=od;obtain⟨go20,co20,eo20,gb20,gl20,cl20,HG20⟩:=Kd.R_form HO_7.out (by omega)
   (first|cases eo20|(injection eo20 with ea_ en_ ec_;(first|subst ea_|(injection ea_ with ea_;subst ea_));subst ec_;clear en_))
   have GB20:=Ya gb20;have GG20:=Ya HG20;clear gb20 gl20 HG20
   (first|simp only[add_plain] at hx401_0|skip)
   obtain⟨hx20_0,hf20_0⟩:=Kd.R_celln 0 HO_7.out (((rd_T50 Za Zr).f0):Int) p20 q20;replace p20:=eq_true p20;replace q20:=eq_true q20;have HP30:=Kd.R_putn HO_7.out (((rd_T50 Za Zr).f0):Int) (wrap64 ((rd Xu ((rd_T50 Za Zr).f0))+(rd l1 Zr)));rw[← Ny403.out] at HP30;have HQ30:=Ya HP30;clear HP30;refine start_ (n:=12) (S:=fun w'=>w'.cell? ⟨Va,0,none⟩=some (.int .i64 ((rd_T50 Za Zr).f0))∧w'.cell? ⟨Va,1,none⟩=some (.int .i64 ((rd_T50 Za Zr).f1))∧w'.cell? ⟨Va,2,none⟩=some (.int .i64 ((rd_T50 Za Zr).f2))∧w'.cell? ⟨Va,3,none⟩=some (.int .i64 ((rd_T50 Za Zr).f3))∧w'.cell? ⟨go20,(((rd_T50 Za Zr).f0)).toNat,none⟩=some (.int .i64 (rd Xu ((rd_T50 Za Zr).f0)))∧w'.cell? (ad402.add (Zr).toNat)=some (.int .i64 (rd l1 Zr))) (ds:=[11]) #[false,false,false,false,false,false,false,false,false,false,false,false] (by kernel_rfl) rfl rfl ⟨(Yc Ur.out 0).trans rfl,(Yc Ur.out 1).trans rfl,(Yc Ur.out 2).trans rfl,(Yc Ur.out 3).trans rfl,hx401_0,((HB.out.cell (Yb w _ hw402_0)).trans hw402_0)⟩ (fun hHeld=> ?_);refine with_tabW static_Balance.tab8 static_Balance.bits8 (fun HT_ HW_=> ?_);generalize w27.drew=w28 at HO_7 Wc Ur HB GG20 HQ30 hf20_0 hx20_0 hx401_0 hx402_0 hHeld ⊢;refine pu 0 27 (bm 12 1) ?_;refine pu 1 28 (bm 12 3) ?_;refine pu 5 32 (bm 12 35) ?_;refine pu 6 33 (bm 12 99) ?_;refine pu 7 34 (bm 12 227) ?_;refine ta 2 29 (bm 12 231) hHeld ?_;refine pu 3 30 (bm 12 239) ?_;refine ta 4 31 (bm 12 255) hHeld ?_;refine ta 8 35 (bm 12 511) hHeld ?_;refine pu 9 36 (bm 12 1023) ?_;refine pu 10 37 (bm 12 2047) ?_;refine last_ (i:=11) (N:=none) #[true,true,true,true,true,true,true,true,true,true,true,true] rfl rfl (one_of HT_.out (by kernel_rfl)) (by decide) (fun K hK=> ?_);refine skip_ (w1:= ?_) (by rfl) rfl ?_ ?_
   rotate_left
   ·go_simp
    rfl
   refine hK.out _ _ ?_;clear hK K;refine done_ (done_of HT_.out (by kernel_rfl)) ?_;try go_wp2
   have n0_:Aside0 (Kd.R (Kd.int .i64) 3 (w28.setCell ⟨go20,(((rd_T50 Za Zr).f0):Int).toNat,none⟩ (.int .i64 (wrap64 ((rd Xu ((rd_T50 Za Zr).f0))+(rd l1 Zr))))) w.heap.size (fun _=>True) (.slice (some ⟨go20,0,none⟩) Xu.length co29) y403):=⟨HQ30.out⟩;have n1_:Aside0 ((w28.setCell ⟨go20,(((rd_T50 Za Zr).f0):Int).toNat,none⟩ (.int .i64 (wrap64 ((rd Xu ((rd_T50 Za Zr).f0))+(rd l1 Zr))))).heap[gb394]? =some (.cells #[.int .i64 Zb, .bool Zc, .slice (some ad399) Za.length Zd] 24 (0,0))):=⟨by(with_reducible repeat(first|refine Yl ?_ _|refine Ym ?_|refine Yj ?_ _));refine blk_far ?_ (by have h_:=Kd.R_ne HO_7.out Wc.out (by decide);intro e_;exact h_ (by rw[e_];rfl)) _;(with_reducible repeat(first|refine Yl ?_ _|refine Ym ?_|refine Yj ?_ _));exact Wc.out⟩;have n2_:Aside0 ((w28.setCell ⟨go20,(((rd_T50 Za Zr).f0):Int).toNat,none⟩ (.int .i64 (wrap64 ((rd Xu ((rd_T50 Za Zr).f0))+(rd l1 Zr))))).heap[Va]? =some (.cells #[.int .i64 ((rd_T50 Za Zr).f0), .int .i64 ((rd_T50 Za Zr).f1), .int .i64 ((rd_T50 Za Zr).f2), .int .i64 ((rd_T50 Za Zr).f3)] 50 (0,0))):=⟨by(with_reducible repeat(first|refine Yl ?_ _|refine Ym ?_|refine Yj ?_ _));refine blk_far ?_ (by have h_:=Kd.R_ne HO_7.out Ur.out (by decide);intro e_;exact h_ (by rw[e_];rfl)) _;(with_reducible repeat(first|refine Yl ?_ _|refine Ym ?_|refine Yj ?_ _));exact Ur.out⟩;have n3_:Aside0 (Below w.heap.size w (w28.setCell ⟨go20,(((rd_T50 Za Zr).f0):Int).toNat,none⟩ (.int .i64 (wrap64 ((rd Xu ((rd_T50 Za Zr).f0))+(rd l1 Zr)))))):=⟨bl⟩
   (try clear HO_7)
   (try clear Wc)
   (try clear Ur)
   (try clear HB)
   generalize (w28.setCell ⟨go20,(((rd_T50 Za Zr).f0):Int).toNat,none⟩ (.int .i64 (wrap64 ((rd Xu ((rd_T50 Za Zr).f0))+(rd l1 Zr)))))=w31 at n0_ n1_ n2_ n3_ ⊢;have HO_7:=n0_;have Wc:=n1_;have Ur:=n2_;have HB:=n3_;clear n0_ n1_ n2_ n3_;replace HO_7:=Ya (Yp HO_7.out);replace Wc:=Ya (Ym Wc.out);replace Ur:=Ya (Ym Ur.out);replace HB:=Ya (Yg HB.out);have p404:0≤(((rd_T50 Za Zr).f1):Int):=od;have q404:((rd_T50 Za Zr).f1)<(y403.length:Int):=(by have h_:(((rd_T50 Za Zr).f1):Int)<((Xu.length:Int):Int):=od;first|(have e_:=(Kd.R_reads' HO_7.out).1;omega)|simpa only[Ny403.out,List.length_set] using h_);have ql404:((((rd_T50 Za Zr).f1):Int)<((Xu.length:Int):Int))=True:=eq_true (Yu (by first|(with_reducible assumption)|assumption));obtain⟨ad404,e404,hx404_0⟩:=Kd.at_int (Kd.R_reads' HO_7.out).2.2 ((rd_T50 Za Zr).f1) p404 q404;obtain rfl:(⟨go20,0,none⟩:Addr)=ad404:=(by injection e404)
   (first|simp only[add_plain] at hx404_0|simp only[add_at] at hx404_0|simp only[Addr.add,Nat.zero_add] at hx404_0|skip)
   replace p404:=eq_true p404;replace q404:=eq_true q404;have p405:0≤(Zr:Int):=od;have q405:Zr<(l1.length:Int):=od;obtain⟨ad405,e405,hx405_0⟩:=Kd.at_int HR1.out Zr p405 q405;have hw405_0:=hx405_0;obtain rfl:ad402=ad405:=(by injection e405);replace hx405_0:=hc HB hx405_0;replace p405:=eq_true p405;replace q405:=eq_true q405;have p23:0≤(((rd_T50 Za Zr).f1):Int):=od;have q23:(((rd_T50 Za Zr).f1):Int)<((Xu.length:Int):Int):=od;obtain⟨hx23_0,hf23_0⟩:=Kd.R_celln 0 HO_7.out (((rd_T50 Za Zr).f1):Int) p23 q23;replace p23:=eq_true p23;replace q23:=eq_true q23;have HP33:=Kd.R_putn HO_7.out (((rd_T50 Za Zr).f1):Int) (wrap64 ((rd y403 ((rd_T50 Za Zr).f1)) - (rd l1 Zr)));rw[← Ny406.out] at HP33;have HQ33:=Ya HP33;clear HP33;refine start_ (n:=12) (S:=fun w'=>w'.cell? ⟨Va,0,none⟩=some (.int .i64 ((rd_T50 Za Zr).f0))∧w'.cell? ⟨Va,1,none⟩=some (.int .i64 ((rd_T50 Za Zr).f1))∧w'.cell? ⟨Va,2,none⟩=some (.int .i64 ((rd_T50 Za Zr).f2))∧w'.cell? ⟨Va,3,none⟩=some (.int .i64 ((rd_T50 Za Zr).f3))∧w'.cell? ⟨go20,(((rd_T50 Za Zr).f1)).toNat,none⟩=some (.int .i64 (rd y403 ((rd_T50 Za Zr).f1)))∧w'.cell? (ad402.add (Zr).toNat)=some (.int .i64 (rd l1 Zr))) (ds:=[11]) #[false,false,false,false,false,false,false,false,false,false,false,false] (by kernel_rfl) rfl rfl ⟨(Yc Ur.out 0).trans rfl,(Yc Ur.out 1).trans rfl,(Yc Ur.out 2).trans rfl,(Yc Ur.out 3).trans rfl,hx404_0,((HB.out.cell (Yb w _ hw405_0)).trans hw405_0)⟩ (fun hHeld=> ?_);refine with_tabW static_Balance.tab9 static_Balance.bits9 (fun HT_ HW_=> ?_);generalize w31.drew=w32 at HO_7 Wc Ur HB HQ30 HQ33 hf23_0 hx23_0 hx404_0 hx405_0 hHeld ⊢;refine pu 0 38 (bm 12 1) ?_;refine pu 1 39 (bm 12 3) ?_;refine pu 5 43 (bm 12 35) ?_;refine pu 6 44 (bm 12 99) ?_;refine pu 7 45 (bm 12 227) ?_;refine ta 2 40 (bm 12 231) hHeld ?_;refine pu 3 41 (bm 12 239) ?_;refine ta 4 42 (bm 12 255) hHeld ?_;refine ta 8 46 (bm 12 511) hHeld ?_;refine pu 9 47 (bm 12 1023) ?_;refine pu 10 48 (bm 12 2047) ?_;refine last_ (i:=11) (N:=none) #[true,true,true,true,true,true,true,true,true,true,true,true] rfl rfl (one_of HT_.out (by kernel_rfl)) (by decide) (fun K hK=> ?_);refine skip_ (w1:= ?_) (by rfl) rfl ?_ ?_
   rotate_left
   ·go_simp
    rfl
   refine hK.out _ _ ?_;clear hK K;refine done_ (done_of HT_.out (by kernel_rfl)) ?_;try go_wp2
   go_roundg k1
   case measure=>have:=HK1.out;omega
   case rel=>exact⟨(y406),(wrap64 (Zr+1)),(by first|rfl|(simp;done)|(simp[*];done)),H',⟨by have:=HK1.out;omega⟩,⟨kR HQ33⟩,⟨by(with_reducible repeat(first|refine Yl ?_ _|refine Ym ?_|refine Yj ?_ _));refine blk_far ?_ (by have h_:=Kd.R_ne HO_7.out Wc.out (by decide);intro e_;exact h_ (by rw[e_];rfl)) _;(with_reducible repeat(first|refine Yl ?_ _|refine Ym ?_|refine Yj ?_ _));exact Wc.out⟩,⟨bl⟩⟩
end P
namespace P
attribute [local go_sem] max2_int min2_int max_two min_two max_three min_three max_four min_four
def static_Check.l0:Nat→Int→Int→List Int→List Int→Int→Int→Option (Int × Int)
 |0,_,_,_,_,_,_=>none
 |k+1,x1,x2,x10,x29,x30,x31=>if x31<x30 then(if 0≤x31 then(if x31<(x29.length:Int) then(if (rd x29 x31)=0 then(static_Check.l0 k x1 x2 x10 x29 x30 (wrap64 (x31+1))) else(if x31=x1 then(static_Check.l0 k x1 x2 x10 x29 x30 (wrap64 (x31+1))) else(if x31=x2 then(static_Check.l0 k x1 x2 x10 x29 x30 (wrap64 (x31+1))) else(some (0,71))))) else(none)) else(none)) else(if 0≤x1 then(if x1<(x10.length:Int) then(some (rd x10 x1,0)) else(none)) else(none))
def static_Check.f (k:Nat) (Zb:Int) (Zc:Bool) (Za:List (S50)) (a1:Int) (a2:Int) (l3:List Int):Option (Int × Int):=(static_Ends.f k Zb Zc Za a1 a2).bind fun t408=>(if t408=0 then((static_Balance.f k Zb Zc Za l3).bind fun bt409=>(if bt409.2=0 then(static_Check.l0 k a1 a2 bt409.1 bt409.1 (bt409.1.length:Int) 0) else(some (0,bt409.2)))) else(some (0,t408)))
set_option maxHeartbeats 8000000 in
set_option maxRecDepth 100000 in
theorem static_Check.calls (k:Nat) (Zb:Int) (Zc:Bool) (Ze:Option Addr) (Zd:Nat) (Za:List (S50)) (a1:Int) (a2:Int) (A3:Option Addr) (c3:Nat) (l3:List Int) (r1:Int) (r2:Int) (w:World) (Zp:Kd.C k50 w Ze Za.length Za) (Zq:Za.length≤Zd) (hr3:Kd.C (Kd.int .i64) w A3 l3.length l3) (hc3:l3.length≤c3) (h:static_Check.f k Zb Zc Za a1 a2 l3=some (r1,r2)):
  Calls Try.prog 46 #[.agg #[.int .i64 Zb, .bool Zc, .slice Ze Za.length Zd], .int .i64 a1, .int .i64 a2, .slice A3 l3.length c3] w fun e w'=>e= .returned (.tuple #[.int .i64 r1, .int .i64 r2])∧Below w.heap.size w w':=by
 have hu24:=Try.underlying24;have Zh:=Ya Zp;have Zo:=Ya Zq;clear Zp Zq;have HR3:=Ya hr3;have HC3:=Ya hc3;clear hr3 hc3;have HB:=Ya (Yo w.heap.size w);have H:=h;unfold static_Check.f at H;clear h;replace H:=Option.bind_eq_some_iff.mp H;obtain⟨t408,A50,H⟩:=H;try dsimp only at H
 have A5:=Ya A50;clear A50;by_cases c6:t408=0
 rotate_left
 ·rw[Yy c6] at H
  have c6b0:(t408 == 0)=false:=beq_eq_false_iff_ne.mpr c6;have c6b1:(t408 != 0)=true:=bne_iff_ne.mpr c6;simp only[Option.some.injEq,Prod.mk.injEq] at H;obtain⟨rfl,rfl⟩:=H;go_enter Try.func46,Try.ntmps46;go_wp2_with (first|(refine bx 4 24 #[.int .i64 Zb, .bool Zc, .slice Ze Za.length Zd] ?_;intro gb407 hg w28 Zf hb;have Wn:=Ya (Zf);have GW407:=Ya (by rw[hg];exact(Yi HB.out):w.heap.size≤gb407);have GE407:=Ya (by rw[hg];exact(Yi HB.out):w.heap.size≤gb407);replace HB:=Ya (Yk HB.out hb);clear hb Zf hg;have hcz29_0:w28.cell? ⟨gb407,0,none⟩=some (.int .i64 Zb):=bc Wn 0;have hcz29_1:w28.cell? ⟨gb407,1,none⟩=some (.bool Zc):=bc Wn 1;have hcz29_2:w28.cell? ⟨gb407,2,none⟩=some (.slice Ze Za.length Zd):=bc Wn 2;have hfz29_0:=Yf Wn.out 0;have hfz29_1:=Yf Wn.out 1;have hfz29_2:=Yf Wn.out 2)|((with_reducible refine gate_callee (f:=65) rfl ?_);refine gl (some 16) Try.func65 #[.agg #[.int .i64 Zb, .bool Zc, .slice Ze Za.length Zd], .int .i64 a1, .int .i64 a2] ?_;(with_reducible refine(static_Ends.calls k Zb Zc _ _ Za a1 a2 t408 _ ?side1 ?side2 A5.out).mono ?_);(case side1=>exact kC (Yt Zh.out HB.out));(case side2=>exact Zo.out);rintro e w30 ⟨rfl,hb⟩;refine⟨_,rfl,?_⟩;replace Wn:=Ya (Yn Wn.out hb);replace HB:=Ya (Yk HB.out hb);(try clear hb)));go_ret2;exact⟨by first|rfl|(simp[errW_none,errW_some]<;>rfl)|(simp[*,errW_none,errW_some]<;>rfl),HB.out⟩
 rw[Yx c6] at H;have c6b0:(t408 == 0)=true:=beq_iff_eq.mpr c6;have c6b1:(t408 != 0)=false:=bne_eq_false_iff_eq.mpr c6;clear c6;replace H:=Option.bind_eq_some_iff.mp H;obtain⟨⟨t409,t412⟩,A70,H⟩:=H;try dsimp only at H
 have A7:=Ya A70;clear A70;by_cases c8:t412=0
 rotate_left
 ·rw[Yy c8] at H
  have c8b0:(t412 == 0)=false:=beq_eq_false_iff_ne.mpr c8;have c8b1:(t412 != 0)=true:=bne_iff_ne.mpr c8;simp only[Option.some.injEq,Prod.mk.injEq] at H;obtain⟨rfl,rfl⟩:=H;go_enter Try.func46,Try.ntmps46;go_wp2_with (first|(refine bx 4 24 #[.int .i64 Zb, .bool Zc, .slice Ze Za.length Zd] ?_;intro gb407 hg w23 Zf hb;have Wn:=Ya (Zf);have GW407:=Ya (by rw[hg];exact(Yi HB.out):w.heap.size≤gb407);have GE407:=Ya (by rw[hg];exact(Yi HB.out):w.heap.size≤gb407);replace HB:=Ya (Yk HB.out hb);clear hb Zf hg;have hcz24_0:w23.cell? ⟨gb407,0,none⟩=some (.int .i64 Zb):=bc Wn 0;have hcz24_1:w23.cell? ⟨gb407,1,none⟩=some (.bool Zc):=bc Wn 1;have hcz24_2:w23.cell? ⟨gb407,2,none⟩=some (.slice Ze Za.length Zd):=bc Wn 2;have hfz24_0:=Yf Wn.out 0;have hfz24_1:=Yf Wn.out 1;have hfz24_2:=Yf Wn.out 2)|((with_reducible refine gate_callee (f:=65) rfl ?_);refine gl (some 16) Try.func65 #[.agg #[.int .i64 Zb, .bool Zc, .slice Ze Za.length Zd], .int .i64 a1, .int .i64 a2] ?_;(with_reducible refine(static_Ends.calls k Zb Zc _ _ Za a1 a2 t408 _ ?side1 ?side2 A5.out).mono ?_);(case side1=>exact kC (Yt Zh.out HB.out));(case side2=>exact Zo.out);rintro e w25 ⟨rfl,hb⟩;refine⟨_,rfl,?_⟩;replace Wn:=Ya (Yn Wn.out hb);replace HB:=Ya (Yk HB.out hb);(try clear hb);have hcz26_0:w25.cell? ⟨gb407,0,none⟩=some (.int .i64 Zb):=bc Wn 0;have hcz26_1:w25.cell? ⟨gb407,1,none⟩=some (.bool Zc):=bc Wn 1;have hcz26_2:w25.cell? ⟨gb407,2,none⟩=some (.slice Ze Za.length Zd):=bc Wn 2;have hfz26_0:=Yf Wn.out 0;have hfz26_1:=Yf Wn.out 1;have hfz26_2:=Yf Wn.out 2)|((with_reducible refine gate_callee (f:=73) rfl ?_);refine gl (some 23) Try.func73 #[.agg #[.int .i64 Zb, .bool Zc, .slice Ze Za.length Zd], .slice A3 l3.length c3] ?_;(with_reducible refine(static_Balance.calls k Zb Zc _ _ Za _ _ l3 t409 t412 _ ?side1 ?side2 ?side3 ?side4 A7.out).mono ?_);(case side1=>exact kC (Yt Zh.out HB.out));(case side2=>exact Zo.out);(case side3=>exact kC (Yt HR3.out HB.out));(case side4=>exact HC3.out);rintro e w27 ⟨v410,rfl,ho0,hb⟩;refine⟨_,rfl,?_⟩;have HO411:=Ya (Kd.R_lower ho0 (Yi HB.out));replace Wn:=Ya (Yn Wn.out hb);replace HB:=Ya (Yk HB.out hb);(try clear hb);(try clear hb2);(try clear hk);(try clear hi);(try clear ho0)));go_ret2;exact⟨by first|rfl|(simp[errW_none,errW_some]<;>rfl)|(simp[*,errW_none,errW_some]<;>rfl),HB.out⟩
 rw[Yx c8] at H;have c8b0:(t412 == 0)=true:=beq_iff_eq.mpr c8;have c8b1:(t412 != 0)=false:=bne_eq_false_iff_eq.mpr c8;clear c8;have H':=Ya H;clear H;go_enter Try.func46,Try.ntmps46;go_wp2_with (first|(refine bx 4 24 #[.int .i64 Zb, .bool Zc, .slice Ze Za.length Zd] ?_;intro gb407 hg w9 Zf hb;have Wn:=Ya (Zf);have GW407:=Ya (by rw[hg];exact(Yi HB.out):w.heap.size≤gb407);have GE407:=Ya (by rw[hg];exact(Yi HB.out):w.heap.size≤gb407);replace HB:=Ya (Yk HB.out hb);clear hb Zf hg;have Wu:w9.cell? ⟨gb407,0,none⟩=some (.int .i64 Zb):=bc Wn 0;have Wv:w9.cell? ⟨gb407,1,none⟩=some (.bool Zc):=bc Wn 1;have Vl:w9.cell? ⟨gb407,2,none⟩=some (.slice Ze Za.length Zd):=bc Wn 2;have Ww:=Yf Wn.out 0;have Wx:=Yf Wn.out 1;have Vm:=Yf Wn.out 2)|((with_reducible refine gate_callee (f:=65) rfl ?_);refine gl (some 16) Try.func65 #[.agg #[.int .i64 Zb, .bool Zc, .slice Ze Za.length Zd], .int .i64 a1, .int .i64 a2] ?_;(with_reducible refine(static_Ends.calls k Zb Zc _ _ Za a1 a2 t408 _ ?side1 ?side2 A5.out).mono ?_);(case side1=>exact kC (Yt Zh.out HB.out));(case side2=>exact Zo.out);rintro e w11 ⟨rfl,hb⟩;refine⟨_,rfl,?_⟩;replace Wn:=Ya (Yn Wn.out hb);replace HB:=Ya (Yk HB.out hb);(try clear hb);have hcz12_0:w11.cell? ⟨gb407,0,none⟩=some (.int .i64 Zb):=bc Wn 0;have hcz12_1:w11.cell? ⟨gb407,1,none⟩=some (.bool Zc):=bc Wn 1;have hcz12_2:w11.cell? ⟨gb407,2,none⟩=some (.slice Ze Za.length Zd):=bc Wn 2;have hfz12_0:=Yf Wn.out 0;have hfz12_1:=Yf Wn.out 1;have hfz12_2:=Yf Wn.out 2)|((with_reducible refine gate_callee (f:=73) rfl ?_);refine gl (some 23) Try.func73 #[.agg #[.int .i64 Zb, .bool Zc, .slice Ze Za.length Zd], .slice A3 l3.length c3] ?_;(with_reducible refine(static_Balance.calls k Zb Zc _ _ Za _ _ l3 t409 t412 _ ?side1 ?side2 ?side3 ?side4 A7.out).mono ?_);(case side1=>exact kC (Yt Zh.out HB.out));(case side2=>exact Zo.out);(case side3=>exact kC (Yt HR3.out HB.out));(case side4=>exact HC3.out);rintro e w13 ⟨v410,rfl,ho0,hb⟩;refine⟨_,rfl,?_⟩;have HO411:=Ya (Kd.R_lower ho0 (Yi HB.out));replace Wn:=Ya (Yn Wn.out hb);replace HB:=Ya (Yk HB.out hb);(try clear hb);(try clear hb2);(try clear hk);(try clear hi);(try clear ho0);obtain⟨Ao14,co14,eo14⟩:=Kd.R_slice HO411.out;subst eo14));go_loopg [31] k (fun kq v31 w'=> ∃ (Vf:Int),v31= .int .i64 Vf∧Aside0 (static_Check.l0 kq a1 a2 t409 t409 (t409.length:Int) Vf=some (r1,r2))∧Aside0 (kq≤k)∧Aside0 (Kd.R (Kd.int .i64) 3 w' w.heap.size (fun _=>True) (.slice Ao14 t409.length co14) t409)∧Aside0 (Kd.R (Kd.int .i64) 3 w' w.heap.size (fun _=>True) (.slice Ao14 t409.length co14) t409)∧Aside0 (w'.heap[gb407]? =some (.cells #[.int .i64 Zb, .bool Zc,(.slice Ze Za.length Zd)] 24 (0,0)))∧Aside0 (Below w.heap.size w w'))
 case atStart=>exact⟨(0),(by first|rfl|(simp;done)|(simp[*];done)),H',⟨Nat.le_refl _⟩,⟨HO411.out⟩,⟨HO411.out⟩,⟨Wn.out⟩,⟨HB.out⟩⟩
 case round=>
  clear H';try clear c3
  try clear c6
  try clear c6b0
  try clear c6b1
  try clear c8
  try clear c8b0
  try clear c8b1
  try clear Wu
  try clear Wv
  try clear Vl
  try clear hcz12_0
  try clear hcz12_1
  try clear hcz12_2
  try clear Ww
  try clear Wx
  try clear Vm
  try clear hfz12_0
  try clear hfz12_1
  try clear hfz12_2
  obtain⟨Vf,rfl,HA,HK1,HO_10,HO_29,Wn,HB⟩:=hrel;cases gk with
  |zero=>exact absurd HA.out (by simp[static_Check.l0])
  |succ k1=>
   have H:=HA.out;clear HA;simp only[static_Check.l0] at H;by_cases c15:Vf<(t409.length:Int)
   rotate_left
   ·rw[Yy c15] at H
    have c15b0:decide (Vf<(t409.length:Int))=false:=Yw c15;clear c15;by_cases c21:0≤a1
    rotate_left
    ·rw[Yy c21] at H
     exact absurd H (by simp)
    rw[Yx c21] at H;have c21b0:decide (0≤a1)=true:=Yv c21;clear c21;by_cases c22:a1<(t409.length:Int)
    rotate_left
    ·rw[Yy c22] at H
     exact absurd H (by simp)
    rw[Yx c22] at H;have c22b0:decide (a1<(t409.length:Int))=true:=Yv c22;clear c22;simp only[Option.some.injEq,Prod.mk.injEq] at H;obtain⟨rfl,rfl⟩:=H;have p414:0≤(a1:Int):=od;have q414:a1<(t409.length:Int):=od;obtain⟨ad414,e414,hx414_0⟩:=Kd.at_int (Kd.R_reads' HO_10.out).2.2 a1 p414 q414;cases e414;replace p414:=eq_true p414;replace q414:=eq_true q414;go_wp2;go_ret2;exact⟨by first|rfl|(simp[errW_none,errW_some]<;>rfl)|(simp[*,errW_none,errW_some]<;>rfl),HB.out⟩
   rw[Yx c15] at H;have c15b0:decide (Vf<(t409.length:Int))=true:=Yv c15;clear c15;by_cases c16:0≤Vf
   rotate_left
   ·rw[Yy c16] at H
    exact absurd H (by simp)
   rw[Yx c16] at H;have c16b0:decide (0≤Vf)=true:=Yv c16;clear c16;by_cases c17:Vf<(t409.length:Int)
   rotate_left
   ·rw[Yy c17] at H
    exact absurd H (by simp)
   rw[Yx c17] at H;have c17b0:decide (Vf<(t409.length:Int))=true:=Yv c17;clear c17;by_cases c18:(rd t409 Vf)=0
   ·rw[Yx c18] at H
    have c18b0:((rd t409 Vf) == 0)=true:=beq_iff_eq.mpr c18;have c18b1:((rd t409 Vf) != 0)=false:=bne_eq_false_iff_eq.mpr c18;clear c18;have H':=Ya H;clear H;have p413:0≤(Vf:Int):=od;have q413:Vf<(t409.length:Int):=od;obtain⟨ad413,e413,hx413_0⟩:=Kd.at_int (Kd.R_reads' HO_29.out).2.2 Vf p413 q413;cases e413;replace p413:=eq_true p413;replace q413:=eq_true q413;go_wp2;go_roundg k1
    case measure=>have:=HK1.out;omega
    case rel=>exact⟨(wrap64 (Vf+1)),(by first|rfl|(simp;done)|(simp[*];done)),H',⟨by have:=HK1.out;omega⟩,⟨HO_10.out⟩,⟨HO_29.out⟩,⟨Wn.out⟩,⟨HB.out⟩⟩
   rw[Yy c18] at H;have c18b0:((rd t409 Vf) == 0)=false:=beq_eq_false_iff_ne.mpr c18;have c18b1:((rd t409 Vf) != 0)=true:=bne_iff_ne.mpr c18;by_cases c19:Vf=a1
   ·rw[Yx c19] at H
    have c19b0:(Vf == a1)=true:=beq_iff_eq.mpr c19;have c19b1:(Vf != a1)=false:=bne_eq_false_iff_eq.mpr c19;clear c19;have H':=Ya H;clear H;have p413:0≤(Vf:Int):=od;have q413:Vf<(t409.length:Int):=od;obtain⟨ad413,e413,hx413_0⟩:=Kd.at_int (Kd.R_reads' HO_29.out).2.2 Vf p413 q413;cases e413;replace p413:=eq_true p413;replace q413:=eq_true q413;go_wp2;go_roundg k1
    case measure=>have:=HK1.out;omega
    case rel=>exact⟨(wrap64 (Vf+1)),(by first|rfl|(simp;done)|(simp[*];done)),H',⟨by have:=HK1.out;omega⟩,⟨HO_10.out⟩,⟨HO_29.out⟩,⟨Wn.out⟩,⟨HB.out⟩⟩
   rw[Yy c19] at H;have c19b0:(Vf == a1)=false:=beq_eq_false_iff_ne.mpr c19;have c19b1:(Vf != a1)=true:=bne_iff_ne.mpr c19;by_cases c20:Vf=a2
   rotate_left
   ·rw[Yy c20] at H
    have c20b0:(Vf == a2)=false:=beq_eq_false_iff_ne.mpr c20;have c20b1:(Vf != a2)=true:=bne_iff_ne.mpr c20;simp only[Option.some.injEq,Prod.mk.injEq] at H;obtain⟨rfl,rfl⟩:=H;have p413:0≤(Vf:Int):=od;have q413:Vf<(t409.length:Int):=od;obtain⟨ad413,e413,hx413_0⟩:=Kd.at_int (Kd.R_reads' HO_29.out).2.2 Vf p413 q413;cases e413;replace p413:=eq_true p413;replace q413:=eq_true q413;go_wp2;go_ret2;exact⟨by first|rfl|(simp[errW_none,errW_some]<;>rfl)|(simp[*,errW_none,errW_some]<;>rfl),HB.out⟩
   rw[Yx c20] at H;have c20b0:(Vf == a2)=true:=beq_iff_eq.mpr c20;have c20b1:(Vf != a2)=false:=bne_eq_false_iff_eq.mpr c20;clear c20;have H':=Ya H;clear H;have p413:0≤(Vf:Int):=od;have q413:Vf<(t409.length:Int):=od;obtain⟨ad413,e413,hx413_0⟩:=Kd.at_int (Kd.R_reads' HO_29.out).2.2 Vf p413 q413;cases e413;replace p413:=eq_true p413;replace q413:=eq_true q413;go_wp2;go_roundg k1
   case measure=>have:=HK1.out;omega
   case rel=>exact⟨(wrap64 (Vf+1)),(by first|rfl|(simp;done)|(simp[*];done)),H',⟨by have:=HK1.out;omega⟩,⟨HO_10.out⟩,⟨HO_29.out⟩,⟨Wn.out⟩,⟨HB.out⟩⟩
end P
namespace P
attribute [local go_sem] max2_int min2_int max_two min_two max_three min_three max_four min_four
def span_Worth.f (k:Nat) (Zb:Int) (Zc:Bool) (Za:List (S50)) (a1:Int) (a2:Int) (l3:List Int) (a4:Int):Option (Int × Int):=(span_Asked.f k Zb Zc Za a1 a2 a4).bind fun t416=>(if t416=0 then((static_Check.f k Zb Zc Za a1 a2 l3).bind fun bt417=>(if bt417.2=0 then((span_paid.f k Zb Zc Za l3).bind fun t419=>(some (wrap64 ((wrap64 ((wrap64 (a4+1)) * bt417.1)) - t419),0))) else(some (0,bt417.2)))) else(some (0,t416)))
set_option maxHeartbeats 8000000 in
set_option maxRecDepth 100000 in
theorem span_Worth.calls (k:Nat) (Zb:Int) (Zc:Bool) (Ze:Option Addr) (Zd:Nat) (Za:List (S50)) (a1:Int) (a2:Int) (A3:Option Addr) (c3:Nat) (l3:List Int) (a4:Int) (r1:Int) (r2:Int) (w:World) (Zp:Kd.C k50 w Ze Za.length Za) (Zq:Za.length≤Zd) (hr3:Kd.C (Kd.int .i64) w A3 l3.length l3) (hc3:l3.length≤c3) (h:span_Worth.f k Zb Zc Za a1 a2 l3 a4=some (r1,r2)):
  Calls Try.prog 33 #[.agg #[.int .i64 Zb, .bool Zc, .slice Ze Za.length Zd], .int .i64 a1, .int .i64 a2, .slice A3 l3.length c3, .int .i64 a4] w fun e w'=>e= .returned (.tuple #[.int .i64 r1, .int .i64 r2])∧Below w.heap.size w w':=by
 have hu24:=Try.underlying24;have Zh:=Ya Zp;have Zo:=Ya Zq;clear Zp Zq;have HR3:=Ya hr3;have HC3:=Ya hc3;clear hr3 hc3;have HB:=Ya (Yo w.heap.size w);have H:=h;unfold span_Worth.f at H;clear h;replace H:=Option.bind_eq_some_iff.mp H;obtain⟨t416,A60,H⟩:=H;try dsimp only at H
 have A6:=Ya A60;clear A60;by_cases c7:t416=0
 rotate_left
 ·rw[Yy c7] at H
  have c7b0:(t416 == 0)=false:=beq_eq_false_iff_ne.mpr c7;have c7b1:(t416 != 0)=true:=bne_iff_ne.mpr c7;simp only[Option.some.injEq,Prod.mk.injEq] at H;obtain⟨rfl,rfl⟩:=H;go_enter Try.func33,Try.ntmps33;go_wp2_with (first|(refine bx 5 24 #[.int .i64 Zb, .bool Zc, .slice Ze Za.length Zd] ?_;intro gb415 hg w23 Zf hb;have Wg:=Ya (Zf);have GW415:=Ya ((sz hg));have GE415:=Ya ((sz hg));replace HB:=Ya (Yk bl hb);clear hb Zf hg;have hcz24_0:w23.cell? ⟨gb415,0,none⟩=some (.int .i64 Zb):=bc Wg 0;have hcz24_1:w23.cell? ⟨gb415,1,none⟩=some (.bool Zc):=bc Wg 1;have hcz24_2:w23.cell? ⟨gb415,2,none⟩=some (.slice Ze Za.length Zd):=bc Wg 2;have hfz24_0:=Yf Wg.out 0;have hfz24_1:=Yf Wg.out 1;have hfz24_2:=Yf Wg.out 2)|((with_reducible refine gate_callee (f:=34) rfl ?_);refine gl (some 19) Try.func34 #[.agg #[.int .i64 Zb, .bool Zc, .slice Ze Za.length Zd], .int .i64 a1, .int .i64 a2, .int .i64 a4] ?_;(with_reducible refine(span_Asked.calls k Zb Zc _ _ Za a1 a2 a4 t416 _ ?side1 ?side2 A6.out).mono ?_);(case side1=>exact kC (Yt Zh.out HB.out));(case side2=>exact Zo.out);rintro e w25 ⟨rfl,hb⟩;refine⟨_,rfl,?_⟩;replace Wg:=Ya (Yn (bk Wg) hb);replace HB:=Ya (Yk bl hb);(try clear hb)));go_ret2;exact⟨by first|rfl|(simp[errW_none,errW_some]<;>rfl)|(simp[*,errW_none,errW_some]<;>rfl),HB.out⟩
 rw[Yx c7] at H;have c7b0:(t416 == 0)=true:=beq_iff_eq.mpr c7;have c7b1:(t416 != 0)=false:=bne_eq_false_iff_eq.mpr c7;clear c7;replace H:=Option.bind_eq_some_iff.mp H;obtain⟨⟨t417,t418⟩,A80,H⟩:=H;try dsimp only at H
 have A8:=Ya A80;clear A80;by_cases c9:t418=0
 rotate_left
 ·rw[Yy c9] at H
  have c9b0:(t418 == 0)=false:=beq_eq_false_iff_ne.mpr c9;have c9b1:(t418 != 0)=true:=bne_iff_ne.mpr c9;simp only[Option.some.injEq,Prod.mk.injEq] at H;obtain⟨rfl,rfl⟩:=H;go_enter Try.func33,Try.ntmps33;go_wp2_with (first|(refine bx 5 24 #[.int .i64 Zb, .bool Zc, .slice Ze Za.length Zd] ?_;intro gb415 hg w18 Zf hb;have Wg:=Ya (Zf);have GW415:=Ya ((sz hg));have GE415:=Ya ((sz hg));replace HB:=Ya (Yk bl hb);clear hb Zf hg;have hcz19_0:w18.cell? ⟨gb415,0,none⟩=some (.int .i64 Zb):=bc Wg 0;have hcz19_1:w18.cell? ⟨gb415,1,none⟩=some (.bool Zc):=bc Wg 1;have hcz19_2:w18.cell? ⟨gb415,2,none⟩=some (.slice Ze Za.length Zd):=bc Wg 2;have hfz19_0:=Yf Wg.out 0;have hfz19_1:=Yf Wg.out 1;have hfz19_2:=Yf Wg.out 2)|((with_reducible refine gate_callee (f:=34) rfl ?_);refine gl (some 19) Try.func34 #[.agg #[.int .i64 Zb, .bool Zc, .slice Ze Za.length Zd], .int .i64 a1, .int .i64 a2, .int .i64 a4] ?_;(with_reducible refine(span_Asked.calls k Zb Zc _ _ Za a1 a2 a4 t416 _ ?side1 ?side2 A6.out).mono ?_);(case side1=>exact kC (Yt Zh.out HB.out));(case side2=>exact Zo.out);rintro e w20 ⟨rfl,hb⟩;refine⟨_,rfl,?_⟩;replace Wg:=Ya (Yn (bk Wg) hb);replace HB:=Ya (Yk bl hb);(try clear hb);have hcz21_0:w20.cell? ⟨gb415,0,none⟩=some (.int .i64 Zb):=bc Wg 0;have hcz21_1:w20.cell? ⟨gb415,1,none⟩=some (.bool Zc):=bc Wg 1;have hcz21_2:w20.cell? ⟨gb415,2,none⟩=some (.slice Ze Za.length Zd):=bc Wg 2;have hfz21_0:=Yf Wg.out 0;have hfz21_1:=Yf Wg.out 1;have hfz21_2:=Yf Wg.out 2)|((with_reducible refine gate_callee (f:=46) rfl ?_);refine gl (some 28) Try.func46 #[.agg #[.int .i64 Zb, .bool Zc, .slice Ze Za.length Zd], .int .i64 a1, .int .i64 a2, .slice A3 l3.length c3] ?_;(with_reducible refine(static_Check.calls k Zb Zc _ _ Za a1 a2 _ _ l3 t417 t418 _ ?side1 ?side2 ?side3 ?side4 A8.out).mono ?_);(case side1=>exact kC (Yt Zh.out HB.out));(case side2=>exact Zo.out);(case side3=>exact kC (Yt HR3.out HB.out));(case side4=>exact HC3.out);rintro e w22 ⟨rfl,hb⟩;refine⟨_,rfl,?_⟩;replace Wg:=Ya (Yn (bk Wg) hb);replace HB:=Ya (Yk bl hb);(try clear hb);(try clear hb2);(try clear hk);(try clear hi)));go_ret2;exact⟨by first|rfl|(simp[errW_none,errW_some]<;>rfl)|(simp[*,errW_none,errW_some]<;>rfl),HB.out⟩
 rw[Yx c9] at H;have c9b0:(t418 == 0)=true:=beq_iff_eq.mpr c9;have c9b1:(t418 != 0)=false:=bne_eq_false_iff_eq.mpr c9;clear c9;replace H:=Option.bind_eq_some_iff.mp H;obtain⟨t419,A100,H⟩:=H;try dsimp only at H
 have A10:=Ya A100;clear A100;simp only[Option.some.injEq,Prod.mk.injEq] at H;obtain⟨rfl,rfl⟩:=H;go_enter Try.func33,Try.ntmps33;go_wp2_with (first|(refine bx 5 24 #[.int .i64 Zb, .bool Zc, .slice Ze Za.length Zd] ?_;intro gb415 hg w11 Zf hb;have Wg:=Ya (Zf);have GW415:=Ya ((sz hg));have GE415:=Ya ((sz hg));replace HB:=Ya (Yk bl hb);clear hb Zf hg;have hcz12_0:w11.cell? ⟨gb415,0,none⟩=some (.int .i64 Zb):=bc Wg 0;have hcz12_1:w11.cell? ⟨gb415,1,none⟩=some (.bool Zc):=bc Wg 1;have hcz12_2:w11.cell? ⟨gb415,2,none⟩=some (.slice Ze Za.length Zd):=bc Wg 2;have hfz12_0:=Yf Wg.out 0;have hfz12_1:=Yf Wg.out 1;have hfz12_2:=Yf Wg.out 2)|((with_reducible refine gate_callee (f:=34) rfl ?_);refine gl (some 19) Try.func34 #[.agg #[.int .i64 Zb, .bool Zc, .slice Ze Za.length Zd], .int .i64 a1, .int .i64 a2, .int .i64 a4] ?_;(with_reducible refine(span_Asked.calls k Zb Zc _ _ Za a1 a2 a4 t416 _ ?side1 ?side2 A6.out).mono ?_);(case side1=>exact kC (Yt Zh.out HB.out));(case side2=>exact Zo.out);rintro e w13 ⟨rfl,hb⟩;refine⟨_,rfl,?_⟩;replace Wg:=Ya (Yn (bk Wg) hb);replace HB:=Ya (Yk bl hb);(try clear hb);have Vy:w13.cell? ⟨gb415,0,none⟩=some (.int .i64 Zb):=bc Wg 0;have Ud:w13.cell? ⟨gb415,1,none⟩=some (.bool Zc):=bc Wg 1;have Jo:w13.cell? ⟨gb415,2,none⟩=some (.slice Ze Za.length Zd):=bc Wg 2;have Ue:=Yf Wg.out 0;have Uf:=Yf Wg.out 1;have Jp:=Yf Wg.out 2)|((with_reducible refine gate_callee (f:=46) rfl ?_);refine gl (some 28) Try.func46 #[.agg #[.int .i64 Zb, .bool Zc, .slice Ze Za.length Zd], .int .i64 a1, .int .i64 a2, .slice A3 l3.length c3] ?_;(with_reducible refine(static_Check.calls k Zb Zc _ _ Za a1 a2 _ _ l3 t417 t418 _ ?side1 ?side2 ?side3 ?side4 A8.out).mono ?_);(case side1=>exact kC (Yt Zh.out HB.out));(case side2=>exact Zo.out);(case side3=>exact kC (Yt HR3.out HB.out));(case side4=>exact HC3.out);rintro e w15 ⟨rfl,hb⟩;refine⟨_,rfl,?_⟩;replace Wg:=Ya (Yn (bk Wg) hb);replace HB:=Ya (Yk bl hb);(try clear hb);(try clear hb2);(try clear hk);(try clear hi);have hcz16_0:w15.cell? ⟨gb415,0,none⟩=some (.int .i64 Zb):=bc Wg 0;have hcz16_1:w15.cell? ⟨gb415,1,none⟩=some (.bool Zc):=bc Wg 1;have hcz16_2:w15.cell? ⟨gb415,2,none⟩=some (.slice Ze Za.length Zd):=bc Wg 2;have hfz16_0:=Yf Wg.out 0;have hfz16_1:=Yf Wg.out 1;have hfz16_2:=Yf Wg.out 2)|((with_reducible refine gate_callee (f:=37) rfl ?_);refine gl (some 40) Try.func37 #[.agg #[.int .i64 Zb, .bool Zc, .slice Ze Za.length Zd], .slice A3 l3.length c3] ?_;(with_reducible refine(span_paid.calls k Zb Zc _ _ Za _ _ l3 t419 _ ?side1 ?side2 ?side3 ?side4 A10.out).mono ?_);(case side1=>exact kC (Yt Zh.out HB.out));(case side2=>exact Zo.out);(case side3=>exact kC (Yt HR3.out HB.out));(case side4=>exact HC3.out);rintro e w17 ⟨rfl,hb⟩;refine⟨_,rfl,?_⟩;replace Wg:=Ya (Yn (bk Wg) hb);replace HB:=Ya (Yk bl hb);(try clear hb);(try clear hb2);(try clear hk);(try clear hi)));go_ret2;exact⟨by first|rfl|(simp[errW_none,errW_some]<;>rfl)|(simp[*,errW_none,errW_some]<;>rfl),HB.out⟩
end P
namespace P
attribute [local go_sem] max2_int min2_int max_two min_two max_three min_three max_four min_four
def ebbtidelaw12_awake.f (k:Nat)  :Option (Bool):=(some (([(⟨0,1,2,1⟩:S50),(⟨1,2,2,1⟩:S50)]:List (S50)):List (S50))).bind fun y420=>((span_Most.f k 3 false y420 0 2 1).bind fun bt424=>((span_Most.f k 3 false y420 0 2 5).bind fun bt426=>((span_Worth.f k 3 false y420 0 2 (([1,1]:List Int)) 2).bind fun bt431=>((span_Most.f k 3 false y420 0 2 (-1)).bind fun bt433=>(if bt424.2=0 then(if bt424.1=0 then(if bt426.2=0 then(if bt426.1=8 then(if bt431.2=0 then(if bt431.1=1 then(some (bt433.2 == 1)) else(some false)) else(some false)) else(some false)) else(some false)) else(some false)) else(some false))))))
set_option maxHeartbeats 8000000 in
set_option maxRecDepth 100000 in
theorem ebbtidelaw12_awake.calls (k:Nat)  (r:Bool) (w:World) (h:ebbtidelaw12_awake.f k  =some r) (hrT_:r=true:=by first|rfl|exact Aside0.out (by assumption)):
  Calls Try.prog 12 #[] w fun e w'=>e= .returned (.bool r)∧Below w.heap.size w w':=by
 have HRT:=Ya hrT_;clear hrT_;have hu50:=Try.underlying50;have hu24:=Try.underlying24;have HB:=Ya (Yo w.heap.size w);have H:=h;unfold ebbtidelaw12_awake.f at H;clear h;obtain⟨y420,hy420⟩: ∃ y_:List (S50),y_=(([(⟨0,1,2,1⟩:S50),(⟨1,2,2,1⟩:S50)]:List (S50))):=⟨_,rfl⟩;rw[Option.bind_some, ← hy420] at H;have Ny420:=Ya hy420;clear hy420;replace H:=Option.bind_eq_some_iff.mp H;obtain⟨⟨t424,t425⟩,A10,H⟩:=H;replace H:((span_Most.f k 3 false y420 0 2 5).bind fun bt426=>((span_Worth.f k 3 false y420 0 2 (([1,1]:List Int)) 2).bind fun bt431=>((span_Most.f k 3 false y420 0 2 (-1)).bind fun bt433=>(if t425=0 then(if t424=0 then(if bt426.2=0 then(if bt426.1=8 then(if bt431.2=0 then(if bt431.1=1 then(some (bt433.2 == 1)) else(some false)) else(some false)) else(some false)) else(some false)) else(some false)) else(some false)))))=some r:=H;have A1:=Ya A10;clear A10;replace H:=Option.bind_eq_some_iff.mp H;obtain⟨⟨t426,t427⟩,A20,H⟩:=H;replace H:((span_Worth.f k 3 false y420 0 2 (([1,1]:List Int)) 2).bind fun bt431=>((span_Most.f k 3 false y420 0 2 (-1)).bind fun bt433=>(if t425=0 then(if t424=0 then(if t427=0 then(if t426=8 then(if bt431.2=0 then(if bt431.1=1 then(some (bt433.2 == 1)) else(some false)) else(some false)) else(some false)) else(some false)) else(some false)) else(some false))))=some r:=H;have A2:=Ya A20;clear A20;obtain⟨y428,hy428⟩: ∃ y_:List Int,y_=(([1,1]:List Int)):=⟨_,rfl⟩;replace H:((span_Worth.f k 3 false y420 0 2 y428 2).bind fun bt431=>((span_Most.f k 3 false y420 0 2 (-1)).bind fun bt433=>(if t425=0 then(if t424=0 then(if t427=0 then(if t426=8 then(if bt431.2=0 then(if bt431.1=1 then(some (bt433.2 == 1)) else(some false)) else(some false)) else(some false)) else(some false)) else(some false)) else(some false))))=some r:=by first|(rw[hy428];with_reducible exact H)|(have H2_:=(Option.bind_some _ _).symm.trans H;rw[hy428];with_reducible exact H2_)|(have H2_:=(Option.bind_some _ _).symm.trans H;with_reducible exact H2_)|with_reducible exact H|(rw[hy428];exact H)|exact H
 have Ny428:=Ya hy428;clear hy428;replace H:=Option.bind_eq_some_iff.mp H;obtain⟨⟨t431,t432⟩,A30,H⟩:=H;replace H:((span_Most.f k 3 false y420 0 2 (-1)).bind fun bt433=>(if t425=0 then(if t424=0 then(if t427=0 then(if t426=8 then(if t432=0 then(if t431=1 then(some (bt433.2 == 1)) else(some false)) else(some false)) else(some false)) else(some false)) else(some false)) else(some false)))=some r:=H;have A3:=Ya A30;clear A30;replace H:=Option.bind_eq_some_iff.mp H;obtain⟨⟨t433,t434⟩,A40,H⟩:=H;replace H:(if t425=0 then(if t424=0 then(if t427=0 then(if t426=8 then(if t432=0 then(if t431=1 then(some (t434 == 1)) else(some false)) else(some false)) else(some false)) else(some false)) else(some false)) else(some false))=some r:=H;have A4:=Ya A40;clear A40;by_cases c5:t425=0
 rotate_left
 ·rw[Yy c5] at H
  exact absurd (Option.some.inj H) (by rw[HRT.out];decide)
 rw[Yx c5] at H;have c5b0:(t425 == 0)=true:=beq_iff_eq.mpr c5;have c5b1:(t425 != 0)=false:=bne_eq_false_iff_eq.mpr c5;clear c5;by_cases c6:t424=0
 rotate_left
 ·rw[Yy c6] at H
  exact absurd (Option.some.inj H) (by rw[HRT.out];decide)
 rw[Yx c6] at H;have c6b0:(t424 == 0)=true:=beq_iff_eq.mpr c6;have c6b1:(t424 != 0)=false:=bne_eq_false_iff_eq.mpr c6;clear c6;by_cases c7:t427=0
 rotate_left
 ·rw[Yy c7] at H
  exact absurd (Option.some.inj H) (by rw[HRT.out];decide)
 rw[Yx c7] at H;have c7b0:(t427 == 0)=true:=beq_iff_eq.mpr c7;have c7b1:(t427 != 0)=false:=bne_eq_false_iff_eq.mpr c7;clear c7;by_cases c8:t426=8
 rotate_left
 ·rw[Yy c8] at H
  exact absurd (Option.some.inj H) (by rw[HRT.out];decide)
 rw[Yx c8] at H;have c8b0:(t426 == 8)=true:=beq_iff_eq.mpr c8;have c8b1:(t426 != 8)=false:=bne_eq_false_iff_eq.mpr c8;clear c8;by_cases c9:t432=0
 rotate_left
 ·rw[Yy c9] at H
  exact absurd (Option.some.inj H) (by rw[HRT.out];decide)
 rw[Yx c9] at H;have c9b0:(t432 == 0)=true:=beq_iff_eq.mpr c9;have c9b1:(t432 != 0)=false:=bne_eq_false_iff_eq.mpr c9;clear c9;by_cases c10:t431=1
 rotate_left
 ·rw[Yy c10] at H
  exact absurd (Option.some.inj H) (by rw[HRT.out];decide)
 rw[Yx c10] at H;have c10b0:(t431 == 1)=true:=beq_iff_eq.mpr c10;have c10b1:(t431 != 1)=false:=bne_eq_false_iff_eq.mpr c10;clear c10;obtain rfl:=Option.some.inj H;go_enter Try.func12,Try.ntmps12;go_wp2_with (first|((with_reducible refine gate_dst (N:=12) rfl ?_);refine Kd.R_lit k50 _ 50 ?hg (N:=12) ?hd (xs:=([(⟨0,1,2,1⟩:S50),(⟨1,2,2,1⟩:S50)]:List (S50))) (inner:=[.int .i64 0, .int .i64 1, .int .i64 2, .int .i64 1, .int .i64 1, .int .i64 2, .int .i64 2, .int .i64 1]) (ok:=fun _=>True) (okp:=fun _=>True) ?hr ?hp (fun _ hk=>hk) trivial (Yo _ _) (Nat.le_refl _) (by simp) ?_;(case hd=>rfl);(case hg=>rfl);(case hr=>first|(go_simp;done)|(go_simp;rfl));(case hp=>exact(Reps.c4 (show Kd.M k50 _ _ _ (⟨0,1,2,1⟩:S50) [.int .i64 0, .int .i64 1, .int .i64 2, .int .i64 1] from(k50_mkM _ _ _ (⟨0,1,2,1⟩:S50) )) (Reps.c4 (show Kd.M k50 _ _ _ (⟨1,2,2,1⟩:S50) [.int .i64 1, .int .i64 2, .int .i64 2, .int .i64 1] from(k50_mkM _ _ _ (⟨1,2,2,1⟩:S50) )) (Reps.none _ _))));intro v421 w11 ho12 hb hg_ hnew_;clear hg_ hnew_;(first|rw[← Ny420.out] at ho12|(simp only[Int.reduceToNat] at ho12;rw[← Ny420.out] at ho12));have HO422:=Ya (Kd.R_lower ho12 (Yi bl));replace HB:=Ya (Yk bl hb);clear hb ho12;obtain⟨Ao13,co13,eo13⟩:=Kd.R_slice HO422.out;subst eo13)|(refine bx 1 24 #[.int .i64 0, .bool false, .slice none 0 0] ?_;intro gb423 hg w14 Zf hb;replace HO422:=Ya (Ys (kR HO422) hb);have Vp:=Ya (Zf);have GW423:=Ya ((sz hg));have GE423:=Ya ((sz hg));replace HB:=Ya (Yk bl hb);clear hb Zf hg;have hcz15_0:w14.cell? ⟨gb423,0,none⟩=some (.int .i64 0):=bc Vp 0;have hcz15_1:w14.cell? ⟨gb423,1,none⟩=some (.bool false):=bc Vp 1;have hcz15_2:w14.cell? ⟨gb423,2,none⟩=some (.slice none 0 0):=bc Vp 2;have hfz15_0:=Yf Vp.out 0;have hfz15_1:=Yf Vp.out 1;have hfz15_2:=Yf Vp.out 2)|((with_reducible refine gate_callee (f:=10) rfl ?_);refine gl (some 16) Try.func10 #[.agg #[.int .i64 3, .bool false, .slice Ao13 y420.length co13], .int .i64 0, .int .i64 2, .int .i64 1] ?_;(with_reducible refine(span_Most.calls k 3 false _ _ y420 0 2 1 t424 t425 _ ?side1 ?side2 A1.out).mono ?_);(case side1=>refine(Kd.R_reads' (e:=50) (base:=w.heap.size) (ok:=fun k_=>True) (n:=y420.length) (c:=co13) ?_).2.2;exact(by(with_reducible repeat(first|apply Yr|apply Yq|apply Yp));exact(Kd.R_mono (Kd.R_far (p:=⟨gb423,2,none⟩) (Kd.R_far (p:=⟨gb423,1,none⟩) (Kd.R_far (p:=⟨gb423,0,none⟩) (Kd.R_types HO422.out Vp.out (by decide)) (fun _ hk=>hk.2) (.int .i64 3)) (fun _ hk=>hk.2) (.bool false)) (fun _ hk=>hk.2) (.slice Ao13 y420.length co13)) (fun _ h_=>h_.1))));(case side2=>exact(Kd.R_reads' HO422.out).2.1);rintro e w16 ⟨rfl,hb⟩;refine⟨_,rfl,?_⟩;replace HO422:=Ya (Ys (by(with_reducible repeat(first|apply Yr|apply Yq|apply Yp));exact(Kd.R_mono (Kd.R_far (p:=⟨gb423,2,none⟩) (Kd.R_far (p:=⟨gb423,1,none⟩) (Kd.R_far (p:=⟨gb423,0,none⟩) (Kd.R_types HO422.out Vp.out (by decide)) (fun _ hk=>hk.2) (.int .i64 3)) (fun _ hk=>hk.2) (.bool false)) (fun _ hk=>hk.2) (.slice Ao13 y420.length co13)) (fun _ h_=>h_.1))) hb);replace Vp:=Ya (Yn (g:=gb423) (o:= .cells #[.int .i64 3, .bool false, .slice Ao13 y420.length co13] 24 (0,0)) (by(with_reducible repeat(first|refine Yl ?_ _|refine Ym ?_|refine Yj ?_ _));refine YA (cs:= #[.int .i64 3, .bool false, .slice none 0 0]) ?_ 2 _ rfl;(with_reducible repeat(first|refine Yl ?_ _|refine Ym ?_|refine Yj ?_ _));refine YA (cs:= #[.int .i64 3, .bool false, .slice none 0 0]) ?_ 1 _ rfl;(with_reducible repeat(first|refine Yl ?_ _|refine Ym ?_|refine Yj ?_ _));refine YA (cs:= #[.int .i64 0, .bool false, .slice none 0 0]) ?_ 0 _ rfl;(with_reducible repeat(first|refine Yl ?_ _|refine Ym ?_|refine Yj ?_ _));exact Vp.out) hb);replace HB:=Ya (Yk bl hb);(try clear hb);(try clear hk);have Vz:w16.cell? ⟨gb423,0,none⟩=some (.int .i64 3):=bc Vp 0;have Ua:w16.cell? ⟨gb423,1,none⟩=some (.bool false):=bc Vp 1;have hcz17_2:w16.cell? ⟨gb423,2,none⟩=some (.slice Ao13 y420.length co13):=bc Vp 2;have Ub:=Yf Vp.out 0;have Uc:=Yf Vp.out 1;have hfz17_2:=Yf Vp.out 2)|((with_reducible refine gate_callee (f:=10) rfl ?_);refine gl (some 21) Try.func10 #[.agg #[.int .i64 3, .bool false, .slice Ao13 y420.length co13], .int .i64 0, .int .i64 2, .int .i64 5] ?_;(with_reducible refine(span_Most.calls k 3 false _ _ y420 0 2 5 t426 t427 _ ?side1 ?side2 A2.out).mono ?_);(case side1=>exact kC (Kd.R_reads' HO422.out).2.2);(case side2=>exact(Kd.R_reads' HO422.out).2.1);rintro e w18 ⟨rfl,hb⟩;refine⟨_,rfl,?_⟩;replace HO422:=Ya (Ys (kR HO422) hb);replace Vp:=Ya (Yn (bk Vp) hb);replace HB:=Ya (Yk bl hb);(try clear hb);(try clear hb2);(try clear hk);(try clear hi);have hcz19_0:w18.cell? ⟨gb423,0,none⟩=some (.int .i64 3):=bc Vp 0;have hcz19_1:w18.cell? ⟨gb423,1,none⟩=some (.bool false):=bc Vp 1;have hcz19_2:w18.cell? ⟨gb423,2,none⟩=some (.slice Ao13 y420.length co13):=bc Vp 2;have hfz19_0:=Yf Vp.out 0;have hfz19_1:=Yf Vp.out 1;have hfz19_2:=Yf Vp.out 2)|((with_reducible refine gate_dst (N:=26) rfl ?_);refine Kd.R_lit (Kd.int .i64) _ 3 ?hg (N:=26) ?hd (xs:=([1,1]:List Int)) (inner:=[.int .i64 1, .int .i64 1]) (ok:=fun _=>True) (okp:=fun _=>True) ?hr ?hp (fun _ hk=>hk) trivial (Yo _ _) (Nat.le_refl _) (by simp) ?_;(case hd=>rfl);(case hg=>rfl);(case hr=>first|(go_simp;done)|(go_simp;rfl));(case hp=>exact(Reps.one (show Kd.M (Kd.int .i64) _ _ _ 1 [.int .i64 1] from rfl) (Reps.one (show Kd.M (Kd.int .i64) _ _ _ 1 [.int .i64 1] from rfl) (Reps.none _ _))));intro v429 w20 ho21 hb hg_ hnew_;clear hg_ hnew_;(first|rw[← Ny428.out] at ho21|(simp only[Int.reduceToNat] at ho21;rw[← Ny428.out] at ho21));replace HO422:=Ya (Ys (kR HO422) hb);have HO430:=Ya (Kd.R_lower ho21 (Yi bl));replace Vp:=Ya (Yn (bk Vp) hb);replace HB:=Ya (Yk bl hb);clear hb ho21;obtain⟨Ao22,co22,eo22⟩:=Kd.R_slice HO430.out;subst eo22)|((with_reducible refine gate_callee (f:=33) rfl ?_);refine gl (some 27) Try.func33 #[.agg #[.int .i64 3, .bool false, .slice Ao13 y420.length co13], .int .i64 0, .int .i64 2, .slice Ao22 y428.length co22, .int .i64 2] ?_;(with_reducible refine(span_Worth.calls k 3 false _ _ y420 0 2 _ _ y428 2 t431 t432 _ ?side1 ?side2 ?side3 ?side4 A3.out).mono ?_);(case side1=>exact kC (Kd.R_reads' HO422.out).2.2);(case side2=>exact(Kd.R_reads' HO422.out).2.1);(case side3=>exact kC (Kd.R_reads' HO430.out).2.2);(case side4=>exact(Kd.R_reads' HO430.out).2.1);rintro e w23 ⟨rfl,hb⟩;refine⟨_,rfl,?_⟩;replace HO422:=Ya (Ys (kR HO422) hb);replace HO430:=Ya (Ys (kR HO430) hb);replace Vp:=Ya (Yn (bk Vp) hb);replace HB:=Ya (Yk bl hb);(try clear hb);(try clear hb2);(try clear hk);(try clear hi);have hcz24_0:w23.cell? ⟨gb423,0,none⟩=some (.int .i64 3):=bc Vp 0;have hcz24_1:w23.cell? ⟨gb423,1,none⟩=some (.bool false):=bc Vp 1;have hcz24_2:w23.cell? ⟨gb423,2,none⟩=some (.slice Ao13 y420.length co13):=bc Vp 2;have hfz24_0:=Yf Vp.out 0;have hfz24_1:=Yf Vp.out 1;have hfz24_2:=Yf Vp.out 2)|((with_reducible refine gate_callee (f:=10) rfl ?_);refine gl (some 32) Try.func10 #[.agg #[.int .i64 3, .bool false, .slice Ao13 y420.length co13], .int .i64 0, .int .i64 2, .int .i64 (-1)] ?_;(with_reducible refine(span_Most.calls k 3 false _ _ y420 0 2 (-1) t433 t434 _ ?side1 ?side2 A4.out).mono ?_);(case side1=>exact kC (Kd.R_reads' HO422.out).2.2);(case side2=>exact(Kd.R_reads' HO422.out).2.1);rintro e w25 ⟨rfl,hb⟩;refine⟨_,rfl,?_⟩;replace HO422:=Ya (Ys (kR HO422) hb);replace HO430:=Ya (Ys (kR HO430) hb);replace Vp:=Ya (Yn (bk Vp) hb);replace HB:=Ya (Yk bl hb);(try clear hb);(try clear hb2);(try clear hk);(try clear hi)));go_ret;exact⟨by first|rfl|(simp[errW_none,errW_some]<;>rfl)|(simp[*,errW_none,errW_some]<;>rfl),HB.out⟩
end P
namespace H
open P
def fewN (n nd:Int):Int:=if nd<n∧n≤50 then nd else n
def fewL (l:List S50) (ar:Nat):List S50:=if ar<l.length∧l.length≤200 then l.take ar else l
theorem fewL_C {w:World} {A:Option Addr} {l:List S50} (h:Kd.C k50 w A l.length l) (ar:Nat):Kd.C k50 w A (fewL l ar).length (fewL l ar):=by
 unfold fewL;split
 ·exact Kd.C_take h (by omega)
 ·exact h
theorem fewL_le (l:List S50) (ar:Nat):(fewL l ar).length≤l.length:=by
 unfold fewL;split
 ·rw[List.length_take];omega
 ·exact Nat.le_refl _
set_option maxHeartbeats 4000000 in
set_option maxRecDepth 100000 in
theorem few_calls (n:Int) (b:Bool) (A:Option Addr) (c:Nat) (l:List S50) (nd:Int) (ar:Nat) (w:World) (har:ar≤200) (hc:l.length≤c) (hC:Kd.C k50 w A l.length l):
  Calls Try.prog 9 #[.agg #[.int .i64 n, .bool b, .slice A l.length c], .int .i64 nd, .int .i64 (ar:Int)] w fun e w'=>e= .returned (.agg #[.int .i64 (fewN n nd), .bool b, .slice A (fewL l ar).length c])∧Below w.heap.size w w':=by
 have hu24:=Try.underlying24;have hu22:=Try.underlying22;have hA:0<l.length→ ∃ ad,A=some ad:=fun h=>by obtain⟨ad,e,_⟩:=hC.2.2 h;exact⟨ad,e⟩
 have HAD:=Ya hA;clear hA hC;go_enter Try.func9,Try.ntmps9;go_upto_region 1 with (first|((with_reducible refine gate_dst (N:=3) rfl ?_);refine Yz ?hg (N:=3) ?hd (cs:= #[.int .i64 n, .bool b, .slice A l.length c]) (t:=24) ?hr ?_;(case hd=>rfl);(case hg=>rfl);(case hr=>first|(go_simp;done)|(go_simp;rfl));intro g3 hg3 w5 Zf hb;have B3:=Ya Zf;have HB:=Ya hb;have HG3:=Ya hg3;clear hg3 Zf hb)|fail)
 have B6:Aside0 ((w5.alloc (.cells #[.int .i64 0, .bool false, .slice none 0 0] 24)).heap[w5.heap.size]? =some (.cells #[.int .i64 0, .bool false, .slice none 0 0] 24 (0,0))):=⟨heap_alloc_new w5 _⟩;have m0_:=Ya (Yn B3.out (Ye (Yo _ _) (.cells #[.int .i64 0, .bool false, .slice none 0 0] 24)));have m1_:=Ya (Ye HB.out (.cells #[.int .i64 0, .bool false, .slice none 0 0] 24));have hg36:g3<w5.heap.size:=blk_lt B3.out;have hgw:w.heap.size≤g3:=by have:=HG3.out;omega
 clear B3 HB HG3;have B3:=m0_;have HB:=m1_;clear m0_ m1_;generalize w5.alloc (.cells #[.int .i64 0, .bool false, .slice none 0 0] 24)=w6 at *;generalize w5.heap.size=g6 at *;have h0:w6.cell? ⟨g3,0,none⟩=some (.int .i64 n):=(Yc B3.out 0).trans rfl;have h1:w6.cell? ⟨g3,1,none⟩=some (.bool b):=(Yc B3.out 1).trans rfl;have h2:w6.cell? ⟨g3,2,none⟩=some (.slice A l.length c):=(Yc B3.out 2).trans rfl;have f0:=Yf B3.out 0;have hg63:g6≠g3:=by omega
 have hgw6:w.heap.size≤g6:=by omega
 by_cases hn:nd<n
 ·have e1:decide (nd<n)=true:=Yv hn
  by_cases h50:n≤50
  ·have e2:decide (n≤50)=true:=Yv h50
   have e3:fewN n nd=nd:=by unfold fewN;rw[Yx ⟨hn,h50⟩]
   have E3:=Ya e3;clear e3;go_upto_region 3 with fail
   have C3:Aside0 ((w6.setCell ⟨g3,0,none⟩ (.int .i64 nd)).heap[g3]? =some (.cells #[.int .i64 nd, .bool b, .slice A l.length c] 24 (0,0))):=⟨(blk_set B3.out 0 (.int .i64 nd)).trans rfl⟩;have C6:Aside0 ((w6.setCell ⟨g3,0,none⟩ (.int .i64 nd)).heap[g6]? =some (.cells #[.int .i64 0, .bool false, .slice none 0 0] 24 (0,0))):=⟨blk_far B6.out (p:=⟨g3,0,none⟩) hg63 _⟩;have HC:Aside0 (Below w.heap.size w (w6.setCell ⟨g3,0,none⟩ (.int .i64 nd))):=⟨Yh HB.out hgw⟩;clear B3 B6 HB h0 h1 h2 f0;generalize w6.setCell ⟨g3,0,none⟩ (.int .i64 nd)=w7 at *;have f2:=Yf C3.out 2;have x2:w7.cell? ⟨g3,2,none⟩=some (.slice A l.length c):=(Yc C3.out 2).trans rfl;by_cases hl:ar<l.length
   ·have d1:decide ((ar:Int)<(l.length:Int))=true:=Yv (by omega)
    by_cases hl2:l.length≤200
    ·have d2:decide ((l.length:Int)≤200)=true:=Yv (by omega)
     obtain⟨ad,rfl⟩:=HAD.out (by omega);have r1:(0:Int)≤(ar:Int):=by omega
     have r2:(ar:Int)≤(c:Int):=by omega
     have e4:(fewL l ar).length=ar:=by unfold fewL;rw[Yx ⟨hl,hl2⟩,List.length_take];omega
     have E4:=Ya e4;clear e4;go_upto_region 5 with fail
     have D3:Aside0 ((w7.setCell ⟨g3,2,none⟩ (.slice (some ad) ar c)).heap[g3]? =some (.cells #[.int .i64 nd, .bool b, .slice (some ad) ar c] 24 (0,0))):=⟨(blk_set C3.out 2 _).trans rfl⟩;have D6:Aside0 ((w7.setCell ⟨g3,2,none⟩ (.slice (some ad) ar c)).heap[g6]? =some (.cells #[.int .i64 0, .bool false, .slice none 0 0] 24 (0,0))):=⟨blk_far C6.out (p:=⟨g3,2,none⟩) hg63 _⟩;have HD:Aside0 (Below w.heap.size w (w7.setCell ⟨g3,2,none⟩ (.slice (some ad) ar c))):=⟨Yh HC.out hgw⟩;clear C3 C6 HC f2 x2;generalize w7.setCell ⟨g3,2,none⟩ (.slice (some ad) ar c)=w8 at *;have C3:=D3;have C6:=D6;have HC:=HD;clear D3 D6 HD;have k0:w8.cell? ⟨g3,0,none⟩=some (.int .i64 nd):=(Yc C3.out 0).trans rfl;have k1:w8.cell? ⟨g3,1,none⟩=some (.bool b):=(Yc C3.out 1).trans rfl;have k2:w8.cell? ⟨g3,2,none⟩=some (.slice (some ad) ar c):=(Yc C3.out 2).trans rfl;have j0:w8.cell? ⟨g6,0,none⟩=some (.int .i64 0):=(Yc C6.out 0).trans rfl;have j1:w8.cell? ⟨g6,1,none⟩=some (.bool false):=(Yc C6.out 1).trans rfl;have j2:w8.cell? ⟨g6,2,none⟩=some (.slice none 0 0):=(Yc C6.out 2).trans rfl;have q0:=Yf C6.out 0;have q1:=Yf C6.out 1;have q2:=Yf C6.out 2;go_wp2_with fail;refine bodyPost_ret (results_cell_row rfl _ _ g6 24 #[.int .i64 nd, .bool b, .slice (some ad) ar c] (0,0) _ rfl (YA (cs:= #[.int .i64 nd, .bool b, .slice none 0 0]) (YA (cs:= #[.int .i64 nd, .bool false, .slice none 0 0]) (YA (cs:= #[.int .i64 0, .bool false, .slice none 0 0]) C6.out 0 _ rfl) 1 _ rfl) 2 _ rfl) Try.underlying24 rfl (by kernel_rfl)) rfl ?_;exact⟨by rw[E3.out,E4.out],Yh (Yh (Yh HC.out hgw6) hgw6) hgw6⟩
    ·have d2:decide ((l.length:Int)≤200)=false:=Yw (by omega)
     have e4:fewL l ar=l:=by unfold fewL;rw[Yy (fun h=>by omega)]
     have E4:=Ya e4;clear e4;go_upto_region 5 with fail
     clear f2 x2;have k0:w7.cell? ⟨g3,0,none⟩=some (.int .i64 nd):=(Yc C3.out 0).trans rfl;have k1:w7.cell? ⟨g3,1,none⟩=some (.bool b):=(Yc C3.out 1).trans rfl;have k2:w7.cell? ⟨g3,2,none⟩=some (.slice A l.length c):=(Yc C3.out 2).trans rfl;have j0:w7.cell? ⟨g6,0,none⟩=some (.int .i64 0):=(Yc C6.out 0).trans rfl;have j1:w7.cell? ⟨g6,1,none⟩=some (.bool false):=(Yc C6.out 1).trans rfl;have j2:w7.cell? ⟨g6,2,none⟩=some (.slice none 0 0):=(Yc C6.out 2).trans rfl;have q0:=Yf C6.out 0;have q1:=Yf C6.out 1;have q2:=Yf C6.out 2;go_wp2_with fail;refine bodyPost_ret (results_cell_row rfl _ _ g6 24 #[.int .i64 nd, .bool b, .slice A l.length c] (0,0) _ rfl (YA (cs:= #[.int .i64 nd, .bool b, .slice none 0 0]) (YA (cs:= #[.int .i64 nd, .bool false, .slice none 0 0]) (YA (cs:= #[.int .i64 0, .bool false, .slice none 0 0]) C6.out 0 _ rfl) 1 _ rfl) 2 _ rfl) Try.underlying24 rfl (by kernel_rfl)) rfl ?_;exact⟨by rw[E3.out,E4.out],Yh (Yh (Yh HC.out hgw6) hgw6) hgw6⟩
   ·have d1:decide ((ar:Int)<(l.length:Int))=false:=Yw (by omega)
    have e4:fewL l ar=l:=by unfold fewL;rw[Yy (fun h=>by omega)]
    have E4:=Ya e4;clear e4;go_upto_region 5 with fail
    clear f2 x2;have k0:w7.cell? ⟨g3,0,none⟩=some (.int .i64 nd):=(Yc C3.out 0).trans rfl;have k1:w7.cell? ⟨g3,1,none⟩=some (.bool b):=(Yc C3.out 1).trans rfl;have k2:w7.cell? ⟨g3,2,none⟩=some (.slice A l.length c):=(Yc C3.out 2).trans rfl;have j0:w7.cell? ⟨g6,0,none⟩=some (.int .i64 0):=(Yc C6.out 0).trans rfl;have j1:w7.cell? ⟨g6,1,none⟩=some (.bool false):=(Yc C6.out 1).trans rfl;have j2:w7.cell? ⟨g6,2,none⟩=some (.slice none 0 0):=(Yc C6.out 2).trans rfl;have q0:=Yf C6.out 0;have q1:=Yf C6.out 1;have q2:=Yf C6.out 2;go_wp2_with fail;refine bodyPost_ret (results_cell_row rfl _ _ g6 24 #[.int .i64 nd, .bool b, .slice A l.length c] (0,0) _ rfl (YA (cs:= #[.int .i64 nd, .bool b, .slice none 0 0]) (YA (cs:= #[.int .i64 nd, .bool false, .slice none 0 0]) (YA (cs:= #[.int .i64 0, .bool false, .slice none 0 0]) C6.out 0 _ rfl) 1 _ rfl) 2 _ rfl) Try.underlying24 rfl (by kernel_rfl)) rfl ?_;exact⟨by rw[E3.out,E4.out],Yh (Yh (Yh HC.out hgw6) hgw6) hgw6⟩
  ·have e2:decide (n≤50)=false:=Yw h50
   have e3:fewN n nd=n:=by unfold fewN;rw[Yy (fun h=>by omega)]
   have E3:=Ya e3;clear e3 h0 h1 h2 f0;have C3:=B3;have C6:=B6;have HC:=HB;clear B3 B6 HB;have h0:w6.cell? ⟨g3,0,none⟩=some (.int .i64 n):=(Yc C3.out 0).trans rfl;go_upto_region 3 with fail
   clear h0;have f2:=Yf C3.out 2;have x2:w6.cell? ⟨g3,2,none⟩=some (.slice A l.length c):=(Yc C3.out 2).trans rfl;by_cases hl:ar<l.length
   ·have d1:decide ((ar:Int)<(l.length:Int))=true:=Yv (by omega)
    by_cases hl2:l.length≤200
    ·have d2:decide ((l.length:Int)≤200)=true:=Yv (by omega)
     obtain⟨ad,rfl⟩:=HAD.out (by omega);have r1:(0:Int)≤(ar:Int):=by omega
     have r2:(ar:Int)≤(c:Int):=by omega
     have e4:(fewL l ar).length=ar:=by unfold fewL;rw[Yx ⟨hl,hl2⟩,List.length_take];omega
     have E4:=Ya e4;clear e4;go_upto_region 5 with fail
     have D3:Aside0 ((w6.setCell ⟨g3,2,none⟩ (.slice (some ad) ar c)).heap[g3]? =some (.cells #[.int .i64 n, .bool b, .slice (some ad) ar c] 24 (0,0))):=⟨(blk_set C3.out 2 _).trans rfl⟩;have D6:Aside0 ((w6.setCell ⟨g3,2,none⟩ (.slice (some ad) ar c)).heap[g6]? =some (.cells #[.int .i64 0, .bool false, .slice none 0 0] 24 (0,0))):=⟨blk_far C6.out (p:=⟨g3,2,none⟩) hg63 _⟩;have HD:Aside0 (Below w.heap.size w (w6.setCell ⟨g3,2,none⟩ (.slice (some ad) ar c))):=⟨Yh HC.out hgw⟩;clear C3 C6 HC f2 x2;generalize w6.setCell ⟨g3,2,none⟩ (.slice (some ad) ar c)=w8 at *;have C3:=D3;have C6:=D6;have HC:=HD;clear D3 D6 HD;have k0:w8.cell? ⟨g3,0,none⟩=some (.int .i64 n):=(Yc C3.out 0).trans rfl;have k1:w8.cell? ⟨g3,1,none⟩=some (.bool b):=(Yc C3.out 1).trans rfl;have k2:w8.cell? ⟨g3,2,none⟩=some (.slice (some ad) ar c):=(Yc C3.out 2).trans rfl;have j0:w8.cell? ⟨g6,0,none⟩=some (.int .i64 0):=(Yc C6.out 0).trans rfl;have j1:w8.cell? ⟨g6,1,none⟩=some (.bool false):=(Yc C6.out 1).trans rfl;have j2:w8.cell? ⟨g6,2,none⟩=some (.slice none 0 0):=(Yc C6.out 2).trans rfl;have q0:=Yf C6.out 0;have q1:=Yf C6.out 1;have q2:=Yf C6.out 2;go_wp2_with fail;refine bodyPost_ret (results_cell_row rfl _ _ g6 24 #[.int .i64 n, .bool b, .slice (some ad) ar c] (0,0) _ rfl (YA (cs:= #[.int .i64 n, .bool b, .slice none 0 0]) (YA (cs:= #[.int .i64 n, .bool false, .slice none 0 0]) (YA (cs:= #[.int .i64 0, .bool false, .slice none 0 0]) C6.out 0 _ rfl) 1 _ rfl) 2 _ rfl) Try.underlying24 rfl (by kernel_rfl)) rfl ?_;exact⟨by rw[E3.out,E4.out],Yh (Yh (Yh HC.out hgw6) hgw6) hgw6⟩
    ·have d2:decide ((l.length:Int)≤200)=false:=Yw (by omega)
     have e4:fewL l ar=l:=by unfold fewL;rw[Yy (fun h=>by omega)]
     have E4:=Ya e4;clear e4;go_upto_region 5 with fail
     clear f2 x2;have k0:w6.cell? ⟨g3,0,none⟩=some (.int .i64 n):=(Yc C3.out 0).trans rfl;have k1:w6.cell? ⟨g3,1,none⟩=some (.bool b):=(Yc C3.out 1).trans rfl;have k2:w6.cell? ⟨g3,2,none⟩=some (.slice A l.length c):=(Yc C3.out 2).trans rfl;have j0:w6.cell? ⟨g6,0,none⟩=some (.int .i64 0):=(Yc C6.out 0).trans rfl;have j1:w6.cell? ⟨g6,1,none⟩=some (.bool false):=(Yc C6.out 1).trans rfl;have j2:w6.cell? ⟨g6,2,none⟩=some (.slice none 0 0):=(Yc C6.out 2).trans rfl;have q0:=Yf C6.out 0;have q1:=Yf C6.out 1;have q2:=Yf C6.out 2;go_wp2_with fail;refine bodyPost_ret (results_cell_row rfl _ _ g6 24 #[.int .i64 n, .bool b, .slice A l.length c] (0,0) _ rfl (YA (cs:= #[.int .i64 n, .bool b, .slice none 0 0]) (YA (cs:= #[.int .i64 n, .bool false, .slice none 0 0]) (YA (cs:= #[.int .i64 0, .bool false, .slice none 0 0]) C6.out 0 _ rfl) 1 _ rfl) 2 _ rfl) Try.underlying24 rfl (by kernel_rfl)) rfl ?_;exact⟨by rw[E3.out,E4.out],Yh (Yh (Yh HC.out hgw6) hgw6) hgw6⟩
   ·have d1:decide ((ar:Int)<(l.length:Int))=false:=Yw (by omega)
    have e4:fewL l ar=l:=by unfold fewL;rw[Yy (fun h=>by omega)]
    have E4:=Ya e4;clear e4;go_upto_region 5 with fail
    clear f2 x2;have k0:w6.cell? ⟨g3,0,none⟩=some (.int .i64 n):=(Yc C3.out 0).trans rfl;have k1:w6.cell? ⟨g3,1,none⟩=some (.bool b):=(Yc C3.out 1).trans rfl;have k2:w6.cell? ⟨g3,2,none⟩=some (.slice A l.length c):=(Yc C3.out 2).trans rfl;have j0:w6.cell? ⟨g6,0,none⟩=some (.int .i64 0):=(Yc C6.out 0).trans rfl;have j1:w6.cell? ⟨g6,1,none⟩=some (.bool false):=(Yc C6.out 1).trans rfl;have j2:w6.cell? ⟨g6,2,none⟩=some (.slice none 0 0):=(Yc C6.out 2).trans rfl;have q0:=Yf C6.out 0;have q1:=Yf C6.out 1;have q2:=Yf C6.out 2;go_wp2_with fail;refine bodyPost_ret (results_cell_row rfl _ _ g6 24 #[.int .i64 n, .bool b, .slice A l.length c] (0,0) _ rfl (YA (cs:= #[.int .i64 n, .bool b, .slice none 0 0]) (YA (cs:= #[.int .i64 n, .bool false, .slice none 0 0]) (YA (cs:= #[.int .i64 0, .bool false, .slice none 0 0]) C6.out 0 _ rfl) 1 _ rfl) 2 _ rfl) Try.underlying24 rfl (by kernel_rfl)) rfl ?_;exact⟨by rw[E3.out,E4.out],Yh (Yh (Yh HC.out hgw6) hgw6) hgw6⟩
 ·have e1:decide (nd<n)=false:=Yw hn
  have e3:fewN n nd=n:=by unfold fewN;rw[Yy (fun h=>by omega)]
  have E3:=Ya e3;clear e3 h0 h1 h2 f0;have C3:=B3;have C6:=B6;have HC:=HB;clear B3 B6 HB;have h0:w6.cell? ⟨g3,0,none⟩=some (.int .i64 n):=(Yc C3.out 0).trans rfl;go_upto_region 3 with fail
  clear h0;have f2:=Yf C3.out 2;have x2:w6.cell? ⟨g3,2,none⟩=some (.slice A l.length c):=(Yc C3.out 2).trans rfl;by_cases hl:ar<l.length
  ·have d1:decide ((ar:Int)<(l.length:Int))=true:=Yv (by omega)
   by_cases hl2:l.length≤200
   ·have d2:decide ((l.length:Int)≤200)=true:=Yv (by omega)
    obtain⟨ad,rfl⟩:=HAD.out (by omega);have r1:(0:Int)≤(ar:Int):=by omega
    have r2:(ar:Int)≤(c:Int):=by omega
    have e4:(fewL l ar).length=ar:=by unfold fewL;rw[Yx ⟨hl,hl2⟩,List.length_take];omega
    have E4:=Ya e4;clear e4;go_upto_region 5 with fail
    have D3:Aside0 ((w6.setCell ⟨g3,2,none⟩ (.slice (some ad) ar c)).heap[g3]? =some (.cells #[.int .i64 n, .bool b, .slice (some ad) ar c] 24 (0,0))):=⟨(blk_set C3.out 2 _).trans rfl⟩;have D6:Aside0 ((w6.setCell ⟨g3,2,none⟩ (.slice (some ad) ar c)).heap[g6]? =some (.cells #[.int .i64 0, .bool false, .slice none 0 0] 24 (0,0))):=⟨blk_far C6.out (p:=⟨g3,2,none⟩) hg63 _⟩;have HD:Aside0 (Below w.heap.size w (w6.setCell ⟨g3,2,none⟩ (.slice (some ad) ar c))):=⟨Yh HC.out hgw⟩;clear C3 C6 HC f2 x2;generalize w6.setCell ⟨g3,2,none⟩ (.slice (some ad) ar c)=w8 at *;have C3:=D3;have C6:=D6;have HC:=HD;clear D3 D6 HD;have k0:w8.cell? ⟨g3,0,none⟩=some (.int .i64 n):=(Yc C3.out 0).trans rfl;have k1:w8.cell? ⟨g3,1,none⟩=some (.bool b):=(Yc C3.out 1).trans rfl;have k2:w8.cell? ⟨g3,2,none⟩=some (.slice (some ad) ar c):=(Yc C3.out 2).trans rfl;have j0:w8.cell? ⟨g6,0,none⟩=some (.int .i64 0):=(Yc C6.out 0).trans rfl;have j1:w8.cell? ⟨g6,1,none⟩=some (.bool false):=(Yc C6.out 1).trans rfl;have j2:w8.cell? ⟨g6,2,none⟩=some (.slice none 0 0):=(Yc C6.out 2).trans rfl;have q0:=Yf C6.out 0;have q1:=Yf C6.out 1;have q2:=Yf C6.out 2;go_wp2_with fail;refine bodyPost_ret (results_cell_row rfl _ _ g6 24 #[.int .i64 n, .bool b, .slice (some ad) ar c] (0,0) _ rfl (YA (cs:= #[.int .i64 n, .bool b, .slice none 0 0]) (YA (cs:= #[.int .i64 n, .bool false, .slice none 0 0]) (YA (cs:= #[.int .i64 0, .bool false, .slice none 0 0]) C6.out 0 _ rfl) 1 _ rfl) 2 _ rfl) Try.underlying24 rfl (by kernel_rfl)) rfl ?_;exact⟨by rw[E3.out,E4.out],Yh (Yh (Yh HC.out hgw6) hgw6) hgw6⟩
   ·have d2:decide ((l.length:Int)≤200)=false:=Yw (by omega)
    have e4:fewL l ar=l:=by unfold fewL;rw[Yy (fun h=>by omega)]
    have E4:=Ya e4;clear e4;go_upto_region 5 with fail
    clear f2 x2;have k0:w6.cell? ⟨g3,0,none⟩=some (.int .i64 n):=(Yc C3.out 0).trans rfl;have k1:w6.cell? ⟨g3,1,none⟩=some (.bool b):=(Yc C3.out 1).trans rfl;have k2:w6.cell? ⟨g3,2,none⟩=some (.slice A l.length c):=(Yc C3.out 2).trans rfl;have j0:w6.cell? ⟨g6,0,none⟩=some (.int .i64 0):=(Yc C6.out 0).trans rfl;have j1:w6.cell? ⟨g6,1,none⟩=some (.bool false):=(Yc C6.out 1).trans rfl;have j2:w6.cell? ⟨g6,2,none⟩=some (.slice none 0 0):=(Yc C6.out 2).trans rfl;have q0:=Yf C6.out 0;have q1:=Yf C6.out 1;have q2:=Yf C6.out 2;go_wp2_with fail;refine bodyPost_ret (results_cell_row rfl _ _ g6 24 #[.int .i64 n, .bool b, .slice A l.length c] (0,0) _ rfl (YA (cs:= #[.int .i64 n, .bool b, .slice none 0 0]) (YA (cs:= #[.int .i64 n, .bool false, .slice none 0 0]) (YA (cs:= #[.int .i64 0, .bool false, .slice none 0 0]) C6.out 0 _ rfl) 1 _ rfl) 2 _ rfl) Try.underlying24 rfl (by kernel_rfl)) rfl ?_;exact⟨by rw[E3.out,E4.out],Yh (Yh (Yh HC.out hgw6) hgw6) hgw6⟩
  ·have d1:decide ((ar:Int)<(l.length:Int))=false:=Yw (by omega)
   have e4:fewL l ar=l:=by unfold fewL;rw[Yy (fun h=>by omega)]
   have E4:=Ya e4;clear e4;go_upto_region 5 with fail
   clear f2 x2;have k0:w6.cell? ⟨g3,0,none⟩=some (.int .i64 n):=(Yc C3.out 0).trans rfl;have k1:w6.cell? ⟨g3,1,none⟩=some (.bool b):=(Yc C3.out 1).trans rfl;have k2:w6.cell? ⟨g3,2,none⟩=some (.slice A l.length c):=(Yc C3.out 2).trans rfl;have j0:w6.cell? ⟨g6,0,none⟩=some (.int .i64 0):=(Yc C6.out 0).trans rfl;have j1:w6.cell? ⟨g6,1,none⟩=some (.bool false):=(Yc C6.out 1).trans rfl;have j2:w6.cell? ⟨g6,2,none⟩=some (.slice none 0 0):=(Yc C6.out 2).trans rfl;have q0:=Yf C6.out 0;have q1:=Yf C6.out 1;have q2:=Yf C6.out 2;go_wp2_with fail;refine bodyPost_ret (results_cell_row rfl _ _ g6 24 #[.int .i64 n, .bool b, .slice A l.length c] (0,0) _ rfl (YA (cs:= #[.int .i64 n, .bool b, .slice none 0 0]) (YA (cs:= #[.int .i64 n, .bool false, .slice none 0 0]) (YA (cs:= #[.int .i64 0, .bool false, .slice none 0 0]) C6.out 0 _ rfl) 1 _ rfl) 2 _ rfl) Try.underlying24 rfl (by kernel_rfl)) rfl ?_;exact⟨by rw[E3.out,E4.out],Yh (Yh (Yh HC.out hgw6) hgw6) hgw6⟩
end H
namespace Q
open P
open H (stRoom)
theorem rdStep_nat (l:List S79) (i:Nat):rd_T79 l (i:Int)=l.getD i z79:=by unfold rd_T79;rw[Int.toNat_natCast]
end Q
namespace Q
open P
open H (endsErr Right right_of StepOf stRoom IsFlow leastR pushW stRoom_in)
theorem endsE_ok {n:Int} {l:List S50} {s t:Int} (h:endsErr n l s t=0):NetOk n l∧0≤s∧s<n∧0≤t∧t<n∧s≠t:=by
 unfold endsErr at h;by_cases hn:netErr n l=0
 ·rw[Yx hn] at h
  split at h
  ·rename_i he
   exact⟨netErr_ok hn,he⟩
  ·cases h
 ·rw[Yy hn] at h;exact absurd h hn
theorem endsE_of {n:Int} {l:List S50} {s t:Int} (hn:NetOk n l) (h:0≤s∧s<n∧0≤t∧t<n∧s≠t):endsErr n l s t=0:=by
 unfold endsErr;rw[Yx (netOk_err hn),Yx h]
def evenB (s t:Int):List Int→Int→Bool
 |[],_=>true
 |x::l,i=>if i=s then evenB s t l (i+1) else if i=t then evenB s t l (i+1) else if x=0 then evenB s t l (i+1) else false
def valRes (n:Int) (l:List S50) (s t:Int) (f:List Int):Int × Int:=
 if endsErr n l s t=0 then(if askErr n l f=0 then(if evenB s t (balOf n l f) 0=true then(bal l f s,0) else(0,71)) else(0,askErr n l f)) else(0,endsErr n l s t)
theorem evenB_iff (s t:Int) (X:List Int): ∀ i:Int,evenB s t X i=true↔ ∀ j:Nat,j<X.length→i+j≠s→i+j≠t→X.getD j 0=0:=by
 induction X with
 |nil=>intro i;simp[evenB]
 |cons x X ih=>
  intro i;have key:evenB s t X (i+1)=true↔ ∀ j:Nat,j+1<(x::X).length→i+(j+1:Nat)≠s→i+(j+1:Nat)≠t→(x::X).getD (j+1) 0=0:=by
   rw[ih (i+1)];constructor
   ·intro h j h1 h2 h3
    rw[List.getD_cons_succ];exact h j (by simpa using h1) (by omega) (by omega)
   ·intro h j h1 h2 h3
    have:=h j (by simpa using h1) (by omega) (by omega)
    rwa [List.getD_cons_succ] at this
  have all:(i≠s→i≠t→x=0)→(evenB s t X (i+1)=true↔ ∀ j:Nat,j<(x::X).length→i+j≠s→i+j≠t→(x::X).getD j 0=0):=by
   intro hx;rw[key];constructor
   ·intro h j h1 h2 h3
    cases j with
    |zero=>exact hx (by simpa using h2) (by simpa using h3)
    |succ j=>exact h j h1 h2 h3
   ·intro h j h1 h2 h3
    exact h (j+1) h1 h2 h3
  unfold evenB;by_cases h1:i=s
  ·rw[Yx h1];exact all (fun h=>absurd h1 h)
  rw[Yy h1];by_cases h2:i=t
  ·rw[Yx h2];exact all (fun _ h=>absurd h2 h)
  rw[Yy h2];by_cases h3:x=0
  ·rw[Yx h3];exact all (fun _ _=>h3)
  ·rw[Yy h3]
   constructor
   ·intro h;cases h
   ·intro h
    exact absurd (h 0 (by simp) (by simpa using h1) (by simpa using h2)) h3
theorem ref_check2_l0 (n:Int) (p:Bool) (l:List S50) (s t:Int) (b:List Int) (hb:b.length≤50) (hbn:n=b.length) (hs:0≤s) (hsn:s<b.length) (d:Nat): ∀ i:Nat,i+d=b.length→
  Ev (fun k=>ebbtideref07_Check.l0 k s t b (i:Int) n p l) (if evenB s t (b.drop i) i=true then(rd b s,0) else(0,71)):=by
 induction d with
 |zero=>
  intro i hi;refine Ev.succ ?_;simp only[ebbtideref07_Check.l0];refine Ev.neg (by omega) ?_;refine Ev.pos (by omega) ?_;refine Ev.pos (by omega) ?_;rw[List.drop_of_length_le (by omega)];exact Ev.now _
 |succ d ih=>
  intro i hi;refine Ev.succ ?_;simp only[ebbtideref07_Check.l0];refine Ev.pos (by omega) ?_;rw[drop_getD b i 0 (by omega),rd_nat,wrap_succ (n:=b.length) (by omega) (by omega)];unfold evenB;have:=ih (i+1) (by omega);rw[show ((i+1:Nat):Int)=(i:Int)+1 by omega] at this ⊢;refine Ev.ite (fun g1=> ?_) (fun g1=> ?_)
  ·rw[Yx g1];exact this
  rw[Yy g1];refine Ev.ite (fun g2=> ?_) (fun g2=> ?_)
  ·rw[Yx g2];exact this
  rw[Yy g2];refine Ev.pos (by omega) ?_;refine Ev.pos (by omega) ?_;refine Ev.ite (fun g=> ?_) (fun g=> ?_)
  ·rw[Yx g];exact this
  rw[Yy g];exact Ev.now _
theorem ref_value_ev (n:Int) (b:Bool) (l:List S50) (s t:Int) (f:List Int):Ev (fun k=>ebbtideref07_Check.f k n b l s t f) (valRes n l s t f):=by
 unfold ebbtideref07_Check.f valRes;refine Ev.bind (ref_ends_ev n b l s t) ?_;refine Ev.ite (fun h=> ?_) (fun h=> ?_)
 ·rw[Yx h]
  obtain⟨hn,he⟩:=endsE_ok h;have:=hn.lo;have:=hn.hi;refine Ev.bind (ref_balance_ev n b l f) ?_;by_cases g:askErr n l f=0
  ·rw[Yx g,balRes_ok g]
   refine Ev.pos rfl ?_;refine Ev.eq (ref_check2_l0 n b l s t (balOf n l f) (by rw[balOf_len];omega) (by rw[balOf_len];omega) (by omega) (by rw[balOf_len];omega) _ 0 (Nat.zero_add _)) ?_;rw[rd_balOf (by omega) (by omega),List.drop_zero];rfl
  ·rw[Yy g,balRes_no g]
   exact Ev.neg g (Ev.now _)
 ·rw[Yy h]
  exact Ev.now _
theorem flowOk_of {l:List S50} {F:List Int} {n:Nat} (hr:Right l F n):FlowOk l F:=by
 refine⟨hr.len,fun i hi=> ?_⟩;have:=hr.nums i (by rw[← hr.len];exact hi);rw[rd_nat];exact⟨this.2.2.1,this.2.2.2.1⟩
theorem even_flow {n:Nat} {l:List S50} {F:List Int} {s t:Int} (hr:Right l F n):evenB s t (balOf n l F) 0=true↔IsFlow l F n s t:=by
 rw[evenB_iff];have hlen:=balOf_len (n:Int) l F;rw[Int.toNat_natCast] at hlen;have hg: ∀ v:Nat,v<n→(balOf n l F).getD v 0=bal l F v:=fun v hv=>by
  have h_:=rd_balOf (n:=(n:Int)) (l:=l) (f:=F) (v:=(v:Int)) (by omega) (by omega);rw[rd_nat] at h_;exact h_
 constructor
 ·intro h
  refine⟨hr,fun v h0 h1 h2 h3=> ?_⟩;obtain⟨v,rfl⟩: ∃ v':Nat,v=v':=⟨v.toNat,by omega⟩;rw[← hg v (by omega)];exact h v (by omega) (by omega) (by omega)
 ·intro h v hv h2 h3
  rw[hg v (by omega)];exact h.keeps v (by omega) (by omega) (by omega) (by omega)
theorem val_flow {n:Nat} {l:List S50} {F:List Int} {s t:Int} (hn:NetOk n l) (he:0≤s∧s<n∧0≤t∧t<n∧s≠t) (hf:IsFlow l F n s t):valRes n l s t F=(bal l F s,0):=by
 unfold valRes;rw[Yx (endsE_of hn he),Yx (ask_of hn (flowOk_of hf.right)),Yx ((even_flow hf.right).2 hf)]
theorem flow_val {n:Int} {l:List S50} {F:List Int} {s t:Int} (h:(valRes n l s t F).2=0):endsErr n l s t=0∧askErr n l F=0∧ ∃ n0:Nat,n=n0∧IsFlow l F n0 s t∧valRes n l s t F=(bal l F s,0):=by
 unfold valRes at h ⊢;by_cases h1:endsErr n l s t=0
 ·rw[Yx h1] at h ⊢
  by_cases h2:askErr n l F=0
  ·rw[Yx h2] at h ⊢
   obtain⟨n0,rfl,hr⟩:=right_of h2;by_cases h3:evenB s t (balOf n0 l F) 0=true
   ·rw[Yx h3]
    exact⟨h1,h2,n0,rfl,(even_flow hr).1 h3,rfl⟩
   ·rw[Yy h3] at h;cases h
  ·rw[Yy h2] at h;exact absurd h h2
 ·rw[Yy h1] at h;exact absurd h h1
section
variable {l:List S50} {F:List Int} {n:Nat}
theorem left_rt (hr:Right l F n) {s:S79} (hs:StepOf l s) (m:Int) (b:Bool):ebbtideref07_Left.f m b l F s.f0 s.f1=some (stRoom l F s):=by
 have h0:=stRoom_in hr hs;have hl:=hr.len;obtain⟨i,h1,h2⟩:=hs;unfold ebbtideref07_Left.f;unfold stRoom at *;by_cases g:s.f1=true
 ·simp only[Yx g] at h0 ⊢
  rw[Yx (by omega),Yx (by omega)];rfl
 ·simp only[Yy g] at h0 ⊢
  rw[Yx (by omega),Yx (by omega),Yx (by omega)];have e:rd F s.f0=F.getD s.f0.toNat 0:=rfl;rw[e,wrap_id (by omega) (by omega)]
def minR (l:List S50) (F:List Int):Int→List S79→Int
 |a,[]=>a
 |a,s::L=>minR l F (min a (stRoom l F s)) L
theorem minR_least (l:List S50) (F:List Int): ∀ (L:List S79) (a:Int),L≠[]→minR l F a L=min a (leastR l F L)
 |[],a,h=>absurd rfl h
 |[s],a,_=>rfl
 |s::t::L,a,_=>by
  show minR l F (min a (stRoom l F s)) (t::L)=_;rw[minR_least l F (t::L) _ (by simp)];show _=min a (min (stRoom l F s) (leastR l F (t::L)));omega
theorem bottle_l0 (hr:Right l F n) (b:Bool) (m:Int) {W:List S79} (hW: ∀ s,s∈W→StepOf l s) (hl:W.length≤1000000) (d:Nat): ∀ (i:Nat) (a:Int),i+d=W.length→
  Ev (fun k=>ebbtideref08_Bottle.l0 k F W a (i:Int) m b l) (minR l F a (W.drop i)):=by
 induction d with
 |zero=>
  intro i a hi;refine Ev.succ ?_;simp only[ebbtideref08_Bottle.l0];refine Ev.neg (by omega) ?_;exact Ev.done (by rw[List.drop_of_length_le (by omega)];rfl)
 |succ d ih=>
  intro i a hi;refine Ev.succ ?_;simp only[ebbtideref08_Bottle.l0];refine Ev.pos (by omega) ?_;refine Ev.pos (by omega) ?_;rw[rdStep_nat];have hm:W.getD i z79∈W:=by rw[List.getD_eq_getElem?_getD,List.getElem?_eq_getElem (by omega)];exact List.getElem_mem _
  refine Ev.call (left_rt hr (hW _ hm) m b) ?_;rw[wrap_succ (n:=W.length) (by omega) (by omega),drop_getD W i z79 (by omega)];have e:mn a (stRoom l F (W.getD i z79))=min a (stRoom l F (W.getD i z79)):=by unfold mn;split<;>omega
  rw[e];exact ih (i+1) _ (by omega)
theorem bottle_ev (hr:Right l F n) (b:Bool) (m:Int) {W:List S79} (hW: ∀ s,s∈W→StepOf l s) (hl:W.length≤1000000) (hne:W≠[]):Ev (fun k=>ebbtideref08_Bottle.f k m b l F W) (leastR l F W):=by
 cases W with
 |nil=>exact absurd rfl hne
 |cons s W=>
  unfold ebbtideref08_Bottle.f;refine Ev.pos (by simp) ?_;have e0:rd_T79 (s::W) 0=s:=rfl;rw[e0];refine Ev.call (left_rt hr (hW s List.mem_cons_self) m b) ?_;refine Ev.eq (bottle_l0 hr b m hW hl W.length 1 (stRoom l F s) (by simp;omega)) ?_;show minR l F (stRoom l F s) W=_;cases W with
  |nil=>rfl
  |cons t W=>
   rw[minR_least l F (t::W) _ (by simp)];rfl
end
end Q
namespace Q
open P
open H (Right dOf nodes wayL frP toP esP backL backL_spec stFrom stTo stRoom mem_esP stL_of StepOf Leads fds_lt dOf_mem fnd fnd_some)
theorem leads_imp {α:Type} {to_:α→Nat} {es es':Nat→List α} (h: ∀ u e,e∈es u→e∈es' u): ∀ {L:List α} {u t:Nat},Leads to_ es u L t→Leads to_ es' u L t
 |[],u,t,hl=>hl
 |e::L,u,t,hl=>⟨h _ _ hl.1,leads_imp h hl.2⟩
end Q
namespace Q
open P
open H (endsErr Right right_of StepOf stRoom IsFlow leastR pushW nodes stepsR steps_ev dOf frP toP)
theorem value_l0 (m:Int) (l:List S50) (f:List Int) (hn:NetOk m l) (hf:FlowOk l f) (v:Int) (d:Nat): ∀ (i:Nat) (acc:Int),i+d=l.length→ -(i * 2097152)≤acc→acc≤i * 2097152→
  Ev (fun k=>maxflow_Value.l0 k v f acc l (l.length:Int) (i:Int)) (acc+bal (l.drop i) (f.drop i) v):=by
 have hlen:=hf.len;have hl:=hn.len
 induction d with
 |zero=>
  intro i acc hi h0 h1;refine Ev.succ ?_;simp only[maxflow_Value.l0];repeat(first|exact Ev.now _|with_reducible refine Ev.pos (by first|assumption|omega) ?_|with_reducible refine Ev.neg (by first|assumption|omega) ?_|with_reducible refine Ev.let_ ?_)
  rw[List.drop_of_length_le (by omega)];exact Ev.done (by simp[bal])
 |succ d ih=>
  intro i acc hi h0 h1;have hs:=hf.small hn (i:=(i:Int)) (by omega) (by omega);refine Ev.succ ?_;simp only[maxflow_Value.l0];repeat(first|exact Ev.now _|with_reducible refine Ev.pos (by first|assumption|omega) ?_|with_reducible refine Ev.neg (by first|assumption|omega) ?_|with_reducible refine Ev.let_ ?_)
  rw[wrap_succ (n:=l.length) (by omega) (by omega),drop_getD l i z50 (by omega),drop_getD f i 0 (by omega), ← rdArc_nat, ← rd_nat,bal_cons];refine Ev.ite (fun g=> ?_) (fun g=> ?_)
  ·rw[Yx g]
   refine Ev.pos (by omega) ?_;refine Ev.ite (fun g2=> ?_) (fun g2=> ?_)
   ·rw[Yx g2,wrap_id (x:=acc+rd f (i:Int)) (by omega) (by omega),wrap_id (by omega) (by omega)]
    exact Ev.eq (ih (i+1) _ (by omega) (by omega) (by omega)) (by omega)
   ·rw[Yy g2,wrap_id (x:=acc+rd f (i:Int)) (by omega) (by omega)]
    exact Ev.eq (ih (i+1) _ (by omega) (by omega) (by omega)) (by omega)
  ·rw[Yy g]
   refine Ev.ite (fun g2=> ?_) (fun g2=> ?_)
   ·refine Ev.pos (by omega) ?_
    rw[Yx g2,wrap_id (x:=acc - rd f (i:Int)) (by omega) (by omega)];exact Ev.eq (ih (i+1) _ (by omega) (by omega) (by omega)) (by omega)
   ·rw[Yy g2]
    exact Ev.eq (ih (i+1) _ (by omega) (by omega) (by omega)) (by omega)
theorem value_ev (n m:Int) (b:Bool) (l:List S50) (f:List Int) (hn:NetOk m l) (hf:FlowOk l f) (v:Int):Ev (fun k=>maxflow_Value.f k n b l v f) (bal l f v):=by
 unfold maxflow_Value.f;exact Ev.eq (value_l0 m l f hn hf v l.length 0 0 (by omega) (by omega) (by omega)) (by rw[List.drop_zero,List.drop_zero];omega)
theorem pushed_l0 {l:List S50} {n:Nat} {c:Int} (h0:0≤c) {W:List S79} (hl:W.length≤1000000) (d:Nat): ∀ (i:Nat) (X:List Int),i+d=W.length→Right l X n→(∀ s,s∈W.drop i→StepOf l s∧c≤stRoom l X s)→(W.drop i).Pairwise (fun a b=>a.f0≠b.f0)→
  Ev (fun k=>ebbtideref07_Pushed.l0 k W c X (i:Int)) (pushW X c (W.drop i)):=by
 induction d with
 |zero=>
  intro i X hi _ _ _;refine Ev.succ ?_;simp only[ebbtideref07_Pushed.l0];refine Ev.neg (by omega) ?_;exact Ev.done (by rw[List.drop_of_length_le (by omega)];rfl)
 |succ d ih=>
  intro i X hi hr hst hp;have hd:=drop_getD W i z79 (by omega);obtain⟨e,hee⟩: ∃ e,e=W.getD i z79:=⟨_,rfl⟩;rw[← hee] at hd;rw[hd] at hst hp ⊢;rw[List.pairwise_cons] at hp;obtain⟨hso,hrm⟩:=hst e List.mem_cons_self;have hgo:=hr.go hso h0 hrm;have hXl:=hr.len;have hnx:=ih (i+1) (H.goS X e c) (by omega) hgo (fun x hx=>by
   have hx2:=hst x (List.mem_cons_of_mem _ hx);exact⟨hx2.1,by rw[H.room_other hso hx2.1 c (hp.1 x hx)];exact hx2.2⟩) hp.2
  obtain⟨j,hj,hje⟩:=hso;have hgn:=hgo.nums j hj;have hin:=hr.nums j hj;have hroom:=H.stRoom_in hr ⟨j,hj,hje⟩;refine Ev.succ ?_;simp only[ebbtideref07_Pushed.l0];refine Ev.pos (by omega) ?_;refine Ev.pos (by omega) ?_;rw[rdStep_nat, ← hee];have e1:rd X e.f0=X.getD j 0:=by rw[hje,rd_nat]
  have e2:X.getD e.f0.toNat 0=X.getD j 0:=by rw[hje,Int.toNat_natCast]
  rw[wrap_succ (n:=W.length) (by omega) (by omega)];unfold stRoom at hrm;unfold H.goS at hnx;refine Ev.ite (fun g=> ?_) (fun g=> ?_)
  ·rw[Yx g] at hrm hnx
   refine Ev.pos (by omega) ?_;refine Ev.pos (by omega) ?_;rw[e1,wrap_id (by omega) (by omega), ← e2];show Ev _ (pushW (H.goS X e c) c (W.drop (i+1)));unfold H.goS;rw[Yx g];exact hnx
  ·rw[Yy g] at hrm hnx
   have hf2:=hin.2.2.2.2;rw[hje] at hrm;rw[Int.toNat_natCast] at hrm;refine Ev.pos (by omega) ?_;refine Ev.pos (by omega) ?_;rw[e1,wrap_id (by omega) (by omega), ← e2];show Ev _ (pushW (H.goS X e c) c (W.drop (i+1)));unfold H.goS;rw[Yy g];exact hnx
theorem pushed_ev {l:List S50} {F:List Int} {n:Nat} (hr:Right l F n) {c:Int} (h0:0≤c) {W:List S79} (hl:W.length≤1000000) (hst: ∀ s,s∈W→StepOf l s∧c≤stRoom l F s) (hp:W.Pairwise (fun a b=>a.f0≠b.f0)):
  Ev (fun k=>ebbtideref07_Pushed.f k F W c) (pushW F c W):=by
 have hF:=hr.len;have har:=hr.arcs;unfold ebbtideref07_Pushed.f;refine Ev.pos (by simp;omega) ?_;rw[List.nil_append];exact pushed_l0 h0 hl W.length 0 F (by omega) hr hst hp
end Q
namespace Q
open P
open H (endsErr Right right_of IsFlow payS worthS)
theorem balance_l0 (n:Int) (l:List S50) (f:List Int) (hn:NetOk n l) (hf:FlowOk l f) (d:Nat): ∀ (i:Nat) (x:List Int),i+d=l.length→x.length=n.toNat→(∀ v:Nat,v<x.length→ -(i * 2097152)≤rd x v∧rd x v≤i * 2097152)→
  ∃ r,Ev (fun k=>static_Balance.l0 k f x l (l.length:Int) (i:Int)) (r,0)∧r.length=x.length∧ ∀ v:Nat,v<x.length→rd r v=rd x v+bal (l.drop i) (f.drop i) v:=by
 have hlen:=hf.len;have hl:=hn.len
 induction d with
 |zero=>
  intro i x hi hx hb;refine⟨x,?_,rfl,fun v hv=> ?_⟩
  ·refine Ev.succ ?_;simp only[static_Balance.l0]
   repeat(first|exact Ev.now _|with_reducible refine Ev.pos (by first|assumption|omega) ?_|with_reducible refine Ev.neg (by first|assumption|omega) ?_|with_reducible refine Ev.let_ ?_)
  ·rw[List.drop_of_length_le (by omega)]
   simp[bal]
 |succ d ih=>
  intro i x hi hx hb;have ha:=hn.at_ (i:=(i:Int)) (by omega) (by omega);have hs:=hf.small hn (i:=(i:Int)) (by omega) (by omega);have h1:=ha.f0;have h2:=ha.f1;have h3:=ha.h0;have h4:=ha.h1;have hb1:=hb (rd_T50 l (i:Int)).f0.toNat (by omega);have e1:(((rd_T50 l (i:Int)).f0.toNat:Nat):Int)=(rd_T50 l (i:Int)).f0:=by omega
  have e2:(((rd_T50 l (i:Int)).f1.toNat:Nat):Int)=(rd_T50 l (i:Int)).f1:=by omega
  rw[e1] at hb1;have hb2:=hb (rd_T50 l (i:Int)).f1.toNat (by omega);rw[e2] at hb2;obtain⟨r,hr,hrl,hrv⟩:=ih (i+1) ((x.set (rd_T50 l (i:Int)).f0.toNat (wrap64 (rd x (rd_T50 l (i:Int)).f0+rd f (i:Int)))).set (rd_T50 l (i:Int)).f1.toNat
    (wrap64 (rd (x.set (rd_T50 l (i:Int)).f0.toNat (wrap64 (rd x (rd_T50 l (i:Int)).f0+rd f (i:Int)))) (rd_T50 l (i:Int)).f1 - rd f (i:Int)))) (by omega) (by simpa using hx) (by
   intro v hv;have hv':v<x.length:=by simpa using hv
   have hbv:=hb v hv';rw[rd_set _ _ _ _ h2 (by simp;omega) (by omega),rd_set _ _ _ _ h1 (by omega) h2,rd_set _ _ _ _ h1 (by omega) (by omega)];have w1:wrap64 (rd x (rd_T50 l (i:Int)).f0+rd f (i:Int))=rd x (rd_T50 l (i:Int)).f0+rd f (i:Int):=wrap_id (by omega) (by omega);rw[w1];split
   ·split
    ·rename_i h5 h6
     rw[wrap_id (by omega) (by omega)];omega
    ·rename_i h5 h6
     rw[wrap_id (by omega) (by omega)];omega
   ·split
    ·omega
    ·omega)
  refine⟨r,?_,by simpa using hrl,fun v hv=> ?_⟩
  ·refine Ev.succ ?_;simp only[static_Balance.l0]
   repeat(first|exact Ev.now _|with_reducible refine Ev.pos (by first|assumption|omega) ?_|with_reducible refine Ev.neg (by first|assumption|omega) ?_|with_reducible refine Ev.let_ ?_)
   rw[wrap_succ (n:=l.length) (by omega) (by omega)];exact hr
  ·rw[hrv v (by simpa using hv),rd_set _ _ _ _ h2 (by simp;omega) (by omega),rd_set _ _ _ _ h1 (by omega) h2,rd_set _ _ _ _ h1 (by omega) (by omega)]
   have w1:wrap64 (rd x (rd_T50 l (i:Int)).f0+rd f (i:Int))=rd x (rd_T50 l (i:Int)).f0+rd f (i:Int):=wrap_id (by omega) (by omega);rw[w1,drop_getD l i z50 (by omega),drop_getD f i 0 (by omega), ← rdArc_nat, ← rd_nat,bal_cons];by_cases h5:(rd_T50 l (i:Int)).f1=(v:Int)
   ·rw[Yx h5,Yx h5]
    by_cases h6:(rd_T50 l (i:Int)).f0=(v:Int)
    ·rw[Yx (by omega),Yx h6,wrap_id (by omega) (by omega),h6]
     omega
    ·rw[Yy (by omega),Yy h6,wrap_id (by omega) (by omega),h5]
     omega
   ·rw[Yy h5,Yy h5]
    by_cases h6:(rd_T50 l (i:Int)).f0=(v:Int)
    ·rw[Yx h6,Yx h6,h6]
     omega
    ·rw[Yy h6,Yy h6]
     omega
theorem rd_zeros (m:Nat) (v:Int):rd (List.replicate m 0) v=0:=by
 unfold rd;rw[List.getD_eq_getElem?_getD,List.getElem?_replicate];split<;>rfl
theorem balance_ev (n:Int) (b:Bool) (l:List S50) (f:List Int):Ev (fun k=>static_Balance.f k n b l f) (balRes n l f):=by
 unfold static_Balance.f balRes;refine Ev.bind (asked_ev n b l f) ?_;refine Ev.ite (fun h=> ?_) (fun h=> ?_)
 ·rw[Yx h]
  obtain⟨hn,hf⟩:=askErr_ok h;have:=hn.lo;have:=hn.hi;repeat(first|exact Ev.now _|with_reducible refine Ev.pos (by first|assumption|omega) ?_|with_reducible refine Ev.neg (by first|assumption|omega) ?_|with_reducible refine Ev.let_ ?_)
  obtain⟨r,hr,hrl,hrv⟩:=balance_l0 n l f hn hf l.length 0 (List.replicate n.toNat 0) (by omega) (by simp) (fun v hv=>by rw[rd_zeros];omega);refine Ev.eq hr ?_;rw[List.length_replicate] at hrl hrv;congr 1;refine ext_rd (by rw[hrl,balOf_len]) fun v hv=> ?_
  rw[hrv v (by omega),rd_zeros,rd_balOf (by omega) (by omega),List.drop_zero,List.drop_zero];omega
 ·rw[Yy h]
  exact Ev.now _
theorem check2_l0 (s t:Int) (b:List Int) (hb:b.length≤50) (hs:0≤s) (hsn:s<b.length) (d:Nat): ∀ i:Nat,i+d=b.length→
  Ev (fun k=>static_Check.l0 k s t b b (b.length:Int) (i:Int)) (if evenB s t (b.drop i) i=true then(rd b s,0) else(0,71)):=by
 induction d with
 |zero=>
  intro i hi;refine Ev.succ ?_;simp only[static_Check.l0];repeat(first|exact Ev.now _|with_reducible refine Ev.pos (by first|assumption|omega) ?_|with_reducible refine Ev.neg (by first|assumption|omega) ?_|with_reducible refine Ev.let_ ?_)
  rw[List.drop_of_length_le (by omega)];exact Ev.now _
 |succ d ih=>
  intro i hi;refine Ev.succ ?_;simp only[static_Check.l0];repeat(first|exact Ev.now _|with_reducible refine Ev.pos (by first|assumption|omega) ?_|with_reducible refine Ev.neg (by first|assumption|omega) ?_|with_reducible refine Ev.let_ ?_)
  rw[drop_getD b i 0 (by omega),rd_nat,wrap_succ (n:=b.length) (by omega) (by omega)];unfold evenB;have:=ih (i+1) (by omega);rw[show ((i+1:Nat):Int)=(i:Int)+1 by omega] at this ⊢;refine Ev.ite (fun g=> ?_) (fun g=> ?_)
  ·rw[Yx g,ite_self,ite_self];exact this
  refine Ev.ite (fun g2=> ?_) (fun g2=> ?_)
  ·rw[Yx g2];exact this
  rw[Yy g2];refine Ev.ite (fun g3=> ?_) (fun g3=> ?_)
  ·rw[Yx g3];exact this
  rw[Yy g3,Yy g];exact Ev.now _
theorem stat_value_ev (n:Int) (b:Bool) (l:List S50) (s t:Int) (f:List Int):Ev (fun k=>static_Check.f k n b l s t f) (valRes n l s t f):=by
 unfold static_Check.f valRes;refine Ev.bind (ends_ev n b l s t) ?_;refine Ev.ite (fun h=> ?_) (fun h=> ?_)
 ·rw[Yx h]
  obtain⟨hn,he1,he2,he3,he4,he5⟩:=endsE_ok h;have:=hn.lo;have:=hn.hi;refine Ev.bind (balance_ev n b l f) ?_;by_cases g:askErr n l f=0
  ·rw[Yx g,balRes_ok g]
   refine Ev.pos rfl ?_;refine Ev.eq (check2_l0 s t (balOf n l f) (by rw[balOf_len];omega) (by omega) (by rw[balOf_len];omega) _ 0 (Nat.zero_add _)) ?_;rw[rd_balOf (by omega) (by omega),List.drop_zero];rfl
  ·rw[Yy g,balRes_no g]
   exact Ev.neg g (Ev.now _)
 ·rw[Yy h]
  exact Ev.now _
theorem pay_mul {x t:Int} (h0:0≤x) (h1:x≤1048576) (h2:0≤t) (h3:t≤1048576):0≤x * t∧x * t≤1099511627776:=by
 refine⟨Int.mul_nonneg h0 h2,?_⟩;have:=Int.mul_le_mul h1 h3 h2 (show (0:Int)≤1048576 by decide);omega
theorem pay_bd {l:List S50} {F:List Int} {n:Nat} (hr:Right l F n) (d:Nat): ∀ (i:Nat),i+d=l.length→0≤payS (l.drop i) (F.drop i)∧payS (l.drop i) (F.drop i)≤1099511627776 * (d:Int):=by
 have hl:=hr.len
 induction d with
 |zero=>
  intro i hi;rw[List.drop_of_length_le (show l.length≤i by omega),List.drop_of_length_le (show F.length≤i by omega)];simp[payS]
 |succ d ih=>
  intro i hi;have hn:=hr.nums i (by omega);have hb:=pay_mul hn.2.2.1 (by omega) hn.1 hn.2.1;have:=ih (i+1) (by omega);rw[drop_getD l i z50 (by omega),drop_getD F i 0 (by omega),H.payS_cons, ← rdArc_nat];omega
theorem ref_pay_l0 {l:List S50} {F:List Int} {n:Nat} (hr:Right l F n) (b:Bool) (d:Nat): ∀ (i:Nat) (k:Int),i+d=l.length→0≤k→k≤1099511627776 * (i:Int)→
  Ev (fun m=>ebbtideref07_Cost.l0 m F k (i:Int) n b l) (k+payS (l.drop i) (F.drop i),0):=by
 have hl:=hr.len;have hl2:=hr.arcs
 induction d with
 |zero=>
  intro i k hi h0 h1;refine Ev.succ ?_;simp only[ebbtideref07_Cost.l0];refine Ev.neg (by omega) ?_;rw[List.drop_of_length_le (show l.length≤i by omega),List.drop_of_length_le (show F.length≤i by omega)];exact Ev.done (by simp[payS])
 |succ d ih=>
  intro i k hi h0 h1;have hn:=hr.nums i (by omega);have hb:=pay_mul hn.2.2.1 (by omega) hn.1 hn.2.1;have e1:rd F (i:Int)=F.getD i 0:=rd_nat F i;refine Ev.succ ?_;simp only[ebbtideref07_Cost.l0];refine Ev.pos (by omega) ?_;refine Ev.pos (by omega) ?_;refine Ev.pos (by omega) ?_;rw[e1,wrap_succ (n:=200) (by omega) (by omega),wrap_id (x:=F.getD i 0 * (rd_T50 l i).f3) (by omega) (by omega),wrap_id (x:=k+F.getD i 0 * (rd_T50 l i).f3) (by omega) (by omega)];refine Ev.eq (ih (i+1) _ (by omega) (by omega) (by omega)) ?_;rw[drop_getD l i z50 (by omega),drop_getD F i 0 (by omega),H.payS_cons, ← rdArc_nat];congr 1;omega
theorem ref_pay_ev (n:Int) (b:Bool) (l:List S50) (F:List Int) (h:askErr n l F=0):Ev (fun m=>ebbtideref07_Cost.f m n b l F) (payS l F,0):=by
 unfold ebbtideref07_Cost.f;refine Ev.bind (ref_asked_ev n b l F) ?_;refine Ev.pos h ?_;obtain⟨n0,rfl,hr⟩:=right_of h;have:=ref_pay_l0 hr b l.length 0 0 (by omega) (by omega) (by omega);exact Ev.eq this (by rw[List.drop_zero,List.drop_zero,Int.zero_add])
theorem pay_l0 {l:List S50} {F:List Int} {n:Nat} (hr:Right l F n) (d:Nat): ∀ (i:Nat) (k:Int),i+d=l.length→0≤k→k≤1099511627776 * (i:Int)→
  Ev (fun m=>span_paid.l0 m F k l (l.length:Int) (i:Int)) (k+payS (l.drop i) (F.drop i)):=by
 have hl:=hr.len;have hl2:=hr.arcs
 induction d with
 |zero=>
  intro i k hi h0 h1;refine Ev.succ ?_;simp only[span_paid.l0];refine Ev.neg (by omega) ?_;rw[List.drop_of_length_le (show l.length≤i by omega),List.drop_of_length_le (show F.length≤i by omega)];exact Ev.done (by simp[payS])
 |succ d ih=>
  intro i k hi h0 h1;have hn:=hr.nums i (by omega);have hb:=pay_mul hn.2.2.1 (by omega) hn.1 hn.2.1;have e1:rd F (i:Int)=F.getD i 0:=rd_nat F i;refine Ev.succ ?_;simp only[span_paid.l0];refine Ev.pos (by omega) ?_;refine Ev.pos (by omega) ?_;refine Ev.pos (by omega) ?_;refine Ev.pos (by omega) ?_;rw[e1,wrap_succ (n:=200) (by omega) (by omega),wrap_id (x:=F.getD i 0 * (rd_T50 l i).f3) (by omega) (by omega),wrap_id (x:=k+F.getD i 0 * (rd_T50 l i).f3) (by omega) (by omega)];refine Ev.eq (ih (i+1) _ (by omega) (by omega) (by omega)) ?_;rw[drop_getD l i z50 (by omega),drop_getD F i 0 (by omega),H.payS_cons, ← rdArc_nat];omega
theorem pay_ev (n m:Int) (n0:Nat) (b:Bool) (l:List S50) (F:List Int) (hr:Right l F n0):Ev (fun m=>span_paid.f m n b l F) (payS l F):=by
 unfold span_paid.f;have:=pay_l0 hr l.length 0 0 (by omega) (by omega) (by omega);exact Ev.eq this (by rw[List.drop_zero,List.drop_zero,Int.zero_add])
def horErr (h:Int):Int:=if h<0 then 1 else if h>1024 then 2 else 0
def spanErr (n:Int) (l:List S50) (s t h:Int):Int:=if endsErr n l s t=0 then horErr h else endsErr n l s t
theorem hor_ok {h:Int} (e:horErr h=0):0≤h∧h≤1024:=by
 unfold horErr at e;split at e
 ·cases e
 ·split at e
  ·cases e
  ·omega
theorem spanErr_ok {n:Int} {l:List S50} {s t h:Int} (e:spanErr n l s t h=0):endsErr n l s t=0∧0≤h∧h≤1024:=by
 unfold spanErr at e;by_cases g:endsErr n l s t=0
 ·rw[Yx g] at e;exact⟨g,hor_ok e⟩
 ·rw[Yy g] at e;exact absurd e g
theorem span_asked_ev (n:Int) (b:Bool) (l:List S50) (s t h:Int):Ev (fun k=>span_Asked.f k n b l s t h) (spanErr n l s t h):=by
 unfold span_Asked.f spanErr;refine Ev.bind (ends_ev n b l s t) ?_;refine Ev.ite (fun g=> ?_) (fun g=> ?_)
 ·rw[Yx g]
  have e:span_Horizon.f h=some (horErr h):=by
   unfold span_Horizon.f horErr;split
   ·rfl
   ·split<;>rfl
  rw[e];exact Ev.now _
 ·rw[Yy g];exact Ev.now _
theorem ref_span_asked_ev (n:Int) (b:Bool) (l:List S50) (s t h:Int):Ev (fun k=>ebbtideref12_Asked.f k n b l s t h) (spanErr n l s t h):=by
 unfold ebbtideref12_Asked.f spanErr;refine Ev.bind (ref_ends_ev n b l s t) ?_;refine Ev.ite (fun g=> ?_) (fun g=> ?_)
 ·rw[Yx g]
  have e:ebbtideref12_Span.f h=some (horErr h):=by
   unfold ebbtideref12_Span.f horErr;repeat' (first|rfl|split)
   all_goals (first|rfl|omega)
  rw[e];exact Ev.now _
 ·rw[Yy g];exact Ev.now _
def worthR (n:Int) (l:List S50) (s t:Int) (F:List Int) (h:Int):Int × Int:=
 if spanErr n l s t h=0 then(if (valRes n l s t F).2=0 then(wrap64 (wrap64 (wrap64 (h+1) * (valRes n l s t F).1) - payS l F),0) else(0,(valRes n l s t F).2)) else(0,spanErr n l s t h)
theorem worth_ev (n:Int) (b:Bool) (l:List S50) (s t:Int) (F:List Int) (h:Int):Ev (fun k=>span_Worth.f k n b l s t F h) (worthR n l s t F h):=by
 unfold span_Worth.f worthR;refine Ev.bind (span_asked_ev n b l s t h) ?_;refine Ev.ite (fun g=> ?_) (fun g=> ?_)
 ·rw[Yx g]
  refine Ev.bind (stat_value_ev n b l s t F) ?_;refine Ev.ite (fun g2=> ?_) (fun g2=> ?_)
  ·rw[Yx g2]
   obtain⟨h1,h2,_⟩:=flow_val g2;obtain⟨n0,rfl,hr⟩:=right_of h2;refine Ev.bind (pay_ev n0 n0 n0 b l F hr) ?_;exact Ev.now _
  ·rw[Yy g2];exact Ev.now _
 ·rw[Yy g];exact Ev.now _
theorem ref_worth_ev (n:Int) (b:Bool) (l:List S50) (s t:Int) (F:List Int) (h:Int):Ev (fun k=>ebbtideref12_Worth.f k n b l s t F h) (worthR n l s t F h):=by
 unfold ebbtideref12_Worth.f worthR;refine Ev.bind (ref_span_asked_ev n b l s t h) ?_;refine Ev.ite (fun g=> ?_) (fun g=> ?_)
 ·rw[Yx g]
  refine Ev.bind (ref_value_ev n b l s t F) ?_;refine Ev.ite (fun g2=> ?_) (fun g2=> ?_)
  ·rw[Yx g2]
   obtain⟨h1,h2,_⟩:=flow_val g2;refine Ev.bind (ref_pay_ev n b l F h2) ?_;exact Ev.now _
  ·rw[Yy g2];exact Ev.now _
 ·rw[Yy g];exact Ev.now _
end Q
namespace Q
open P
open H (endsErr Right right_of IsFlow payS worthS SpanTop fillS fillRes fillS_top)
theorem span_top {l:List S50} {n s t:Nat} {h:Int} (hr:Right l (List.replicate l.length 0) n) (hs:s<n) (ht:t<n) (hst:s≠t) (hH:0≤h):SpanTop l (fillS l n s t h) n s t h:=(fillS_top hr hs ht hst hH).1
theorem bal_bd {l:List S50} {F:List Int} {n s t:Nat} (hf:IsFlow l F n s t) (hs:s<n) (ht:t<n) (hst:s≠t): -209715200≤bal l F s∧bal l F s≤209715200:=by
 have h1:=H.flow_top hf hs hst;have h2:=H.flow_ends hf hs ht hst;have h3:=H.flow_top (s:=t) (t:=s) ⟨hf.right,fun v a b c d=>hf.keeps v a b d c⟩ ht (fun e=>hst e.symm);omega
theorem times_bd {h v:Int} (h0:0≤h) (h1:h≤1026) (a: -209715200≤v) (b:v≤209715200): -216006656000≤(h+1) * v∧(h+1) * v≤216006656000:=by
 have e1:=Int.mul_le_mul_of_nonneg_left b (show 0≤h+1 by omega);have e2:=Int.mul_le_mul_of_nonneg_left a (show 0≤h+1 by omega);omega
theorem worth_wrap {l:List S50} {F:List Int} {n s t:Nat} {h:Int} (hf:IsFlow l F n s t) (hs:s<n) (ht:t<n) (hst:s≠t) (h0:0≤h) (h1:h≤1024):wrap64 (wrap64 (wrap64 (h+1) * bal l F s) - payS l F)=worthS l F s (h+1):=by
 obtain⟨b1,b2⟩:=bal_bd hf hs ht hst;obtain⟨c1,c2⟩:=times_bd h0 (by omega) b1 b2;have har:=hf.right.arcs;obtain⟨p1,p2⟩:=pay_bd hf.right l.length 0 (by omega);rw[List.drop_zero,List.drop_zero] at p1 p2;unfold worthS;rw[wrap_id (x:=h+1) (by omega) (by omega),wrap_id (x:=(h+1) * bal l F s) (by omega) (by omega),wrap_id (by omega) (by omega)]
def sbestR (n:Int) (l:List S50) (s t h:Int):List Int × Int × Int:=
 if spanErr n l s t h=0 then(fillS l n.toNat s.toNat t.toNat h,worthS l (fillS l n.toNat s.toNat t.toNat h) s.toNat (h+1),0) else([],0,spanErr n l s t h)
def smostR (n:Int) (l:List S50) (s t h:Int):Int × Int:=
 if spanErr n l s t h=0 then(worthS l (fillS l n.toNat s.toNat t.toNat h) s.toNat (h+1),0) else(0,spanErr n l s t h)
theorem sbest_ev (n:Int) (b:Bool) (l:List S50) (s t h:Int):Ev (fun k=>span_Best.f k n b l s t h) (sbestR n l s t h):=by
 unfold span_Best.f sbestR;refine Ev.bind (span_asked_ev n b l s t h) ?_;by_cases g:spanErr n l s t h=0
 ·rw[Yx g]
  refine Ev.pos g ?_;obtain⟨g1,g2,g3⟩:=spanErr_ok g;refine Ev.call (show span_Fill.f n b l s t h=some (fillRes l n.toNat s.toNat t.toNat h) by unfold span_Fill.f;rw[Yx ⟨g1,g2⟩]) ?_;obtain⟨n0,s0,t0,rfl,rfl,rfl,hs,ht,hst,hn,hr⟩:=ends_zero g1;simp only[Int.toNat_natCast];have hf:=(span_top hr hs ht hst g2).ok.flow;refine Ev.bind (value_ev n0 n0 b l _ hn (flowOk_of hf.right) s0) ?_;refine Ev.bind (pay_ev n0 n0 n0 b l _ hf.right) ?_;refine Ev.done ?_;show (fillS l n0 s0 t0 h,wrap64 (wrap64 (wrap64 (h+1) * bal l (fillS l n0 s0 t0 h) s0) - payS l (fillS l n0 s0 t0 h)),(0:Int))=_;rw[worth_wrap hf hs ht hst g2 g3]
 ·rw[Yy g]
  refine Ev.neg g ?_;exact Ev.now _
theorem smost_ev (n:Int) (b:Bool) (l:List S50) (s t h:Int):Ev (fun k=>span_Most.f k n b l s t h) (smostR n l s t h):=by
 unfold span_Most.f;refine Ev.bind (sbest_ev n b l s t h) ?_;refine Ev.done ?_;unfold sbestR smostR;split<;>rfl
theorem smostR_nat {l:List S50} {n s t:Nat} {h:Int} (g:spanErr (n:Int) l (s:Int) (t:Int) h=0):smostR n l s t h=(worthS l (fillS l n s t h) s (h+1),0):=by
 unfold smostR;rw[Yx g];simp only[Int.toNat_natCast]
def line:List S50:=[(⟨0,1,2,1⟩:S50),(⟨1,2,2,1⟩:S50)]
theorem line_right:Right line (List.replicate line.length 0) 3:=by
 obtain⟨n0,h1,h2⟩:=right_of (n:=3) (l:=line) (F:=List.replicate line.length 0) (by decide +kernel);obtain rfl:n0=3:=by omega
 exact h2
theorem line_top (h:Int) (h0:0≤h):SpanTop line (fillS line 3 0 2 h) 3 0 2 h:=span_top line_right (by decide) (by decide) (by decide) h0
theorem line_flow:IsFlow line [2,2] 3 0 2:=by
 obtain⟨n0,h1,h2⟩:=right_of (n:=3) (l:=line) (F:=[2,2]) (by decide +kernel);obtain rfl:n0=3:=by omega
 refine⟨h2,fun v a b c d=> ?_⟩;obtain rfl:v=1:=by omega
 decide +kernel
theorem line_worth {F:List Int} (hf:IsFlow line F 3 0 2) (c:Int): ∃ x:Int,0≤x∧x≤2∧worthS line F 0 c=c * x - 2 * x:=by
 have hl:F.length=2:=hf.right.len
 match F,hl with
 |[x,y],_=>
  have n0:=hf.right.nums 0 (by decide);have hk:=hf.keeps 1 (by decide) (by decide) (by decide) (by decide);have e1:bal line [x,y] 1=(0 - x)+((y - 0)+0):=rfl;have e0:bal line [x,y] ((0:Nat):Int)=(x - 0)+((0 - 0)+0):=rfl;have ep:payS line [x,y]=x * 1+(y * 1+0):=rfl;have q:(0:Int)≤x∧x≤2:=by
   have e2:(rd_T50 line ((0:Nat):Int)).f2=2:=rfl;have e3:[x,y].getD 0 0=x:=rfl;rw[e2,e3] at n0;omega
  refine⟨x,q.1,q.2,?_⟩;unfold worthS;rw[e0,ep];rw[e1] at hk;have:x - 0+(0 - 0+0)=x:=by omega
  rw[this];omega
theorem awake12_ev:Ev (fun k=>ebbtidelaw12_awake.f k) true:=by
 have e1:spanErr 3 line 0 2 1=0:=by decide +kernel
 have e2:spanErr 3 line 0 2 5=0:=by decide +kernel
 have m1:smostR 3 line 0 2 1=(0,0):=by
  have h_:smostR 3 line 0 2 1=(worthS line (fillS line 3 0 2 1) 0 (1+1),0):=smostR_nat (n:=3) (l:=line) (s:=0) (t:=2) e1;obtain⟨x,x0,x1,hx⟩:=line_worth (line_top 1 (by decide)).ok.flow (1+1);rw[h_,hx];have:(1+1) * x - 2 * x=0:=by omega
  rw[this]
 have m2:smostR 3 line 0 2 5=(8,0):=by
  have h_:smostR 3 line 0 2 5=(worthS line (fillS line 3 0 2 5) 0 (5+1),0):=smostR_nat (n:=3) (l:=line) (s:=0) (t:=2) e2;obtain⟨x,x0,x1,hx⟩:=line_worth (line_top 5 (by decide)).ok.flow (5+1);have hle:=(line_top 5 (by decide)).le line_flow (by decide) (by decide) (by decide);have e8:worthS line [2,2] 0 (5+1)=8:=by decide +kernel
  rw[e8,hx] at hle;rw[h_,hx];have:(5+1) * x - 2 * x=8:=by omega
  rw[this]
 have m3:worthR 3 line 0 2 [1,1] 2=(1,0):=by decide +kernel
 have m4:smostR 3 line 0 2 (-1)=(0,1):=by
  have e4:spanErr 3 line 0 2 (-1)=1:=by decide +kernel
  unfold smostR;rw[e4];rfl
 unfold ebbtidelaw12_awake.f;refine Ev.let_ ?_;refine Ev.bind (smost_ev 3 false line 0 2 1) ?_;refine Ev.bind (smost_ev 3 false line 0 2 5) ?_;refine Ev.bind (worth_ev 3 false line 0 2 [1,1] 2) ?_;refine Ev.bind (smost_ev 3 false line 0 2 (-1)) ?_;rw[m1,m2,m3,m4];refine Ev.pos rfl ?_;refine Ev.pos rfl ?_;refine Ev.pos rfl ?_;refine Ev.pos rfl ?_;refine Ev.pos rfl ?_;refine Ev.pos rfl ?_;exact Ev.now _
end Q
namespace Q
open P
open H (endsErr Right right_of IsFlow worthS SpanTop SpanOk TightO TightWay reachS ReachOk reach_ok wayS wayS_ok nearS absR refF Bd itF visF roundF startF stepsR stepsR_of StepOf StepsOk stRoom stFrom stTo stTime frP toP esP mem_esP mem_stepsR Leads wayRes bfL nodes esL leastR pushW)
theorem span_itF_bd {l:List S50} {F:List Int} {n:Nat} (hr:Right l F n) (S:List S79) (hS: ∀ s,s∈S→StepOf l s) (hSl:S.length≤400) (k:Nat): ∀ (x:H.Rf) (c:Int),x.Ok n→0≤c→Bd x.D c→Bd (itF l S k x).D (c+400 * (k:Int)):=by
 induction k with
 |zero=>intro x c _ _ hb;exact hb.mono (by omega)
 |succ k ih=>
  intro x c hx hc hb;obtain⟨h1,h2⟩:=H.foldF_bd hr S hS { x with OK:=true } c ⟨hx.hD,hx.hI⟩ hc hb;exact(ih (roundF l S x) (c+S.length) h1 (by omega) h2).mono (by omega)
def tB (l:List S50) (D:List Int) (I:List Bool) (e:S79):Bool:=I.getD (stFrom l e).toNat false && (I.getD (stTo l e).toNat false && decide (D.getD (stTo l e).toNat 0=D.getD (stFrom l e).toNat 0+stTime l e))
def tL (l:List S50) (F:List Int) (n s:Nat):List S79:=(stepsR l F F.length).filter (tB l (reachS l F n s).D (reachS l F n s).I)
theorem steps_okS {l:List S50} {F:List Int} {n:Nat} (hr:Right l F n):StepsOk l n (stepsR l F F.length):=
 ⟨hr.ends,hr.arcs,fun s hs=>stepsR_of hr s hs,by have:=H.stepsR_len l F F.length;have:=hr.len;have:=hr.arcs;omega⟩
theorem filter_okS {l:List S50} {n:Nat} {T:List S79} (h:StepsOk l n T) (p:S79→Bool):StepsOk l n (T.filter p):=
 ⟨h.ends,h.arcs,fun s hs=>h.of s (List.mem_filter.1 hs).1,by have:=List.length_filter_le p T;have:=h.len;omega⟩
theorem near_l0 {l:List S50} {F:List Int} {n:Nat} (hr:Right l F n) (b o:Bool) {T:List S79} (hT:StepsOk l n T) {D:List Int} {I:List Bool} (hD:D.length=n) (hI:I.length=n) (hb:Bd D 30000) {s:Nat} (hs:s<n) (t:Int) (d:Nat): ∀ i:Nat,i+d=T.length→
  Ev (fun k=>ebbtideref12_nearest.l0 k (s:Int) t ((T.take i).filter (tB l D I)) T (i:Int) (n:Int) b l D I o) (wayRes l (T.filter (tB l D I)) n s t).1:=by
 have hTl:=hT.len;have hn:=hr.fifty
 induction d with
 |zero=>
  intro i hi;refine Ev.succ ?_;simp only[ebbtideref12_nearest.l0];refine Ev.neg (by omega) ?_;rw[List.take_of_length_le (by omega)];refine Ev.call (show ebbtideref08_Way.f (n:Int) b l (s:Int) t (T.filter (tB l D I))=some (wayRes l (T.filter (tB l D I)) n s t) by unfold ebbtideref08_Way.f;rw[H.wayF_eq (filter_okS hT _) hs hn]) ?_;exact Ev.now _
 |succ d ih=>
  intro i hi;have hx:=ih (i+1) (by omega);obtain⟨e,hee⟩: ∃ e,e=T.getD i z79:=⟨_,rfl⟩;have hmem:e∈T:=by
   rw[hee,List.getD_eq_getElem?_getD,List.getElem?_eq_getElem (show i<T.length by omega)];exact List.getElem_mem _
  have et:T.take (i+1)=T.take i ++ [e]:=by
   rw[hee,List.take_add_one,List.getD_eq_getElem?_getD];simp[List.getElem?_eq_getElem (show i<T.length by omega)]
  rw[et,List.filter_append] at hx;have f1:=hT.from_in hmem;have f2:=hT.to_in hmem;have hso:=hT.of e hmem;have htm: -1048576≤stTime l e∧stTime l e≤1048576:=by
   obtain⟨j,h1,h2⟩:=hso;have h3:=hr.nums j h1;unfold stTime;rw[h2];cases e.f1<;>simp<;>omega
  have b1:=hb (stFrom l e).toNat
  have hlen:((T.take i).filter (tB l D I)).length≤400:=by
   have:=List.length_filter_le (tB l D I) (T.take i);rw[List.length_take] at this;omega
  have yes:tB l D I e=true→List.filter (tB l D I) [e]=[e]:=fun h=>by rw[List.filter_cons_of_pos h];rfl
  have no:tB l D I e=false→List.filter (tB l D I) [e]=[]:=fun h=>by rw[List.filter_cons_of_neg (by rw[h];simp)];rfl
  refine Ev.succ ?_;simp only[ebbtideref12_nearest.l0];refine Ev.pos (by omega) ?_;refine Ev.pos (by omega) ?_;rw[rdStep_nat, ← hee,wrap_succ (n:=400) (by omega) (by omega)];refine Ev.call (H.rfrom_ok hT hmem _ b) ?_;refine Ev.call (H.rto_ok hT hmem _ b) ?_;refine Ev.pos (by omega) ?_;refine Ev.pos (by omega) ?_;have skip:tB l D I e=false→Ev (fun k=>ebbtideref12_nearest.l0 k (s:Int) t ((T.take i).filter (tB l D I)) T ((i+1:Nat):Int) (n:Int) b l D I o) (wayRes l (T.filter (tB l D I)) n s t).1:=fun h=>by rw[no h,List.append_nil] at hx;exact hx
  have r1: ∀ v:Int,rdOf false I v=I.getD v.toNat false:=fun _=>rfl
  have r2: ∀ v:Int,rd D v=D.getD v.toNat 0:=fun _=>rfl
  refine Ev.ite (fun g=> ?_) (fun g=> ?_)
  ·rw[r1] at g
   refine Ev.pos (by omega) ?_;refine Ev.pos (by omega) ?_;refine Ev.ite (fun g2=> ?_) (fun g2=> ?_)
   ·rw[r1] at g2
    refine Ev.pos (by omega) ?_;refine Ev.pos (by omega) ?_;refine Ev.call (H.rtime_f hr hso _ b) ?_;rw[r2,r2,wrap_id (x:=D.getD (stFrom l e).toNat 0+stTime l e) (by omega) (by omega)];refine Ev.ite (fun g3=> ?_) (fun g3=> ?_)
    ·refine Ev.pos (by omega) ?_
     rw[yes (by unfold tB;rw[g,g2,Yv g3];rfl)] at hx;exact hx
    ·exact skip (by unfold tB;rw[Yw g3,Bool.and_false,Bool.and_false])
   ·rw[r1] at g2
    exact skip (by unfold tB;simp only[Bool.not_eq_true] at g2;rw[g2,Bool.false_and,Bool.and_false])
  ·rw[r1] at g
   exact skip (by unfold tB;simp only[Bool.not_eq_true] at g;rw[g,Bool.false_and])
theorem esP_iff {l:List S50} {F:List Int} {n:Nat} (hr:Right l F n) {u:Nat} {e:S79} :e∈esP l F u↔e∈stepsR l F F.length∧stFrom l e=(u:Int):=by
 have h:=H.es_same l F u l.length;unfold esP;rw[h,List.mem_filter,decide_eq_true_eq,hr.len]
theorem span_way {l:List S50} {F:List Int} {n s t:Nat} (hr:Right l F n) (hs:s<n) (ht:t<n) (hR:ReachOk l F n s (reachS l F n s)) (hI:(reachS l F n s).I.getD t false=true):
  TightWay l F s t (absR (reachS l F n s)) (wayRes l (tL l F n s) n s (t:Int)).1∧(wayRes l (tL l F n s) n s (t:Int)).1.length≤50:=by
 have hok:StepsOk l n (tL l F n s):=filter_okS (steps_okS hr) _;have hN:=H.esL_to hok;have hu:H.Fds (frP l) (toP l) (esL l (tL l F n s)) s (bfL l (tL l F n s) n s):=(H.bfsN_upto (fr:=frP l) (z:=z79) hN hs).fds;obtain⟨hW,_⟩:=wayS_ok hr hR ht hI
 -- a step with room that takes just so long is one of them
 have mem_of: ∀ (u:Nat) (e:S79),e∈esP l F u→(∃ x,absR (reachS l F n s) (frP l e)=some x∧absR (reachS l F n s) (toP l e)=some (x+stTime l e))→e∈esL l (tL l F n s) u:=by
  intro u e he hx;obtain⟨h1,h2⟩:=(esP_iff hr).1 he;obtain⟨x,x1,x2⟩:=hx;unfold absR at x1 x2;split at x1
  ·rename_i i1
   split at x2
   ·rename_i i2
    injection x1 with x1
    injection x2 with x2
    unfold esL tL;refine List.mem_filter.2 ⟨List.mem_filter.2 ⟨h1,?_⟩,Yv h2⟩;unfold tB;unfold frP at i1 x1;unfold toP at i2 x2;rw[i1,i2,x2, ← x1];simp
   ·cases x2
  ·cases x1
 have reach: ∀ (L:List S79) (u:Nat),Leads (toP l) (esP l F) u L t→(∀ e,e∈L→ ∃ x,absR (reachS l F n s) (frP l e)=some x∧absR (reachS l F n s) (toP l e)=some (x+stTime l e))→u∈nodes (bfL l (tL l F n s) n s)→t∈nodes (bfL l (tL l F n s) n s):=by
  intro L
  induction L with
  |nil=>intro u h _ hu;rw[← (show u=t from h)];exact hu
  |cons e L ih=>
   intro u h hx hu;obtain⟨y,hy,hyu⟩:=List.mem_map.1 hu;have he:=mem_of u e h.1 (hx e List.mem_cons_self);rw[← hyu] at he;obtain⟨z,hz,hzv,_⟩:=H.bfsN_closed (z:=z79) hN hs hy he;exact ih (toP l e) h.2 (fun e he=>hx e (List.mem_cons_of_mem _ he)) (List.mem_map.2 ⟨z,hz,hzv⟩)
 have hs0:s∈nodes (bfL l (tL l F n s) n s):=by
  obtain⟨x,r,h1,h2,_⟩:=hu.head;exact List.mem_map.2 ⟨x,by rw[h1];exact List.mem_cons_self,h2⟩
 have htn:=reach _ s hW.leads hW.tight hs0;rw[H.way_nat,Yx htn];obtain⟨x,hx,hxt⟩:=List.mem_map.1 htn;obtain⟨hlen,hlead⟩:=H.backL_spec hu H.esL_fr (bfL l (tL l F n s) n s).length hx (Nat.le_of_lt (H.lv_lt hu hx));rw[hxt] at hlen hlead;have hmem: ∀ (u:Nat) (e:S79),e∈esL l (tL l F n s) u→e∈esP l F u∧tB l (reachS l F n s).D (reachS l F n s).I e=true:=by
  intro u e he;unfold esL tL at he;obtain⟨h1,h2⟩:=List.mem_filter.1 he;obtain⟨h3,h4⟩:=List.mem_filter.1 h1;exact⟨(esP_iff hr).2 ⟨h3,Yu h2⟩,h4⟩
 have hleads:Leads (toP l) (esP l F) s (H.backL (frP l) (bfL l (tL l F n s) n s) s (bfL l (tL l F n s) n s).length t).reverse t:=leads_imp (fun u e he=>(hmem u e he).1) hlead;have hback:=fun e he=>H.backL_lv hu H.esL_fr (bfL l (tL l F n s) n s).length hx e (by rw[hxt];exact he)
 refine⟨⟨hleads,?_,?_⟩,?_⟩
 ·refine(H.rise_apart (fun v=>match H.fnd (bfL l (tL l F n s) n s) v with|some y=>y.lv|none=>0) (H.leads_trail hr (rows:=esP l F) (fun u e h=>(mem_esP.1 h).1) hleads) (fun e he=> ?_)).1
  obtain⟨y,z,hy,hz,e1,e2,e3,_⟩:=hback e (List.mem_reverse.1 he);rw[← e1, ← e2,H.fnd_of hu.nodup hy,H.fnd_of hu.nodup hz];show z.lv<y.lv;omega
 ·intro e he
  obtain⟨y,z,hy,hz,e1,e2,e3,e4⟩:=hback e (List.mem_reverse.1 he);have ht:=(hmem _ e e4).2;unfold tB at ht;simp only[Bool.and_eq_true,decide_eq_true_eq] at ht;refine⟨(reachS l F n s).D.getD (frP l e) 0,?_,?_⟩
  ·unfold absR;rw[show frP l e=(stFrom l e).toNat from rfl,Yx ht.1]
  ·unfold absR;rw[show toP l e=(stTo l e).toNat from rfl,Yx ht.2.1,ht.2.2];rfl
 ·show (H.wayL _ _ _ _).length≤50
  unfold H.wayL;rw[List.length_reverse,hlen];have:=H.fds_len hu hN hs;have h5:=hr.fifty;have h6:=H.lv_lt hu hx;unfold bfL at *;omega
theorem sref_best_l0 {l:List S50} {n s t:Nat} {h:Int} (b:Bool) (hs:s<n) (ht:t<n) (hst:s≠t) (d:Nat): ∀ F:List Int,SpanOk l F n s t (h+1)→209715200 - bal l F s<d→
  ∃ G,SpanTop l G n s t h∧Ev (fun k=>ebbtideref12_Best.l0 k (s:Int) (t:Int) h F (n:Int) b l) G:=by
 induction d with
 |zero=>intro F hf hd;have:=H.flow_top hf.flow hs hst;omega
 |succ d ih=>
  intro F hf hd;have hr:=hf.flow.right;obtain⟨q,hq,_⟩:=hf.nums;have hng:=H.tightP_noGain hr hq;obtain⟨_,hR⟩:=reach_ok hr hs hng;have hOK:=H.noGain_refs hr hng s hs;obtain⟨_,hsame⟩:=H.far_same hr hs;obtain⟨d1,d2⟩:=hsame hOK;have d1:(reachS l F n s).D=(refF l F n s).D:=d1;have d2:(reachS l F n s).I=(refF l F n s).I:=d2;have hfrom:=H.from_ev hr b s hs;rw[← d1, ← d2] at hfrom;have hD:=hR.ok.hD;have hI:=hR.ok.hI;have hbd:Bd (reachS l F n s).D 30000:=by
   rw[d1];have hn:=hr.fifty;have hsl:=H.stepsR_len l F F.length;have hl2:=hr.len;have hl3:=hr.arcs;exact(span_itF_bd hr _ (stepsR_of hr) (by omega) (n+1) (startF n s) 0 (H.startF_ok n s) (by omega) (H.bd_zero n)).mono (by omega)
  by_cases hn:nearS l F n s t h
  ·have hn2:=hn
   unfold nearS at hn2;obtain⟨hW,h50⟩:=span_way hr hs ht hR hn.1;obtain⟨g1,g2,g3,g4,g5,g6,g7⟩:=H.push_way hf.flow hst hW.leads hW.apart;have hx:absR (reachS l F n s) t=some ((reachS l F n s).D.getD t 0):=by unfold absR;rw[Yx hn.1]
   obtain⟨p1,p2⟩:=H.span_push hf hs hst hR.tight hR.start hx (by omega) hW;obtain⟨G,e1,e2⟩:=ih _ p1 (by omega);refine⟨G,e1,?_⟩;refine Ev.succ ?_;simp only[ebbtideref12_Best.l0];refine Ev.bind hfrom ?_;refine Ev.pos (by omega) ?_;refine Ev.pos (by show (t:Int)<((reachS l F n s).I.length:Int);omega) ?_;refine Ev.pos (by show (reachS l F n s).I.getD (t:Int).toNat false=true;rw[Int.toNat_natCast];exact hn.1) ?_;refine Ev.pos (by show (t:Int)<((reachS l F n s).D.length:Int);omega) ?_;have e0:decide (rd (reachS l F n s).D (t:Int)>h)=false:=Yw (by rw[rd_nat];omega);show Ev (fun k=>ebbtideref12_Best.j1 k (s:Int) (t:Int) h F (decide (rd (reachS l F n s).D (t:Int)>h)) (n:Int) b l (reachS l F n s).D (reachS l F n s).I (refF l F n s).OK) G;rw[e0];refine Ev.succ ?_;simp only[ebbtideref12_Best.j1];refine Ev.neg (by simp) ?_;have hnr:Ev (fun k=>ebbtideref12_nearest.f k (n:Int) b l F (s:Int) (t:Int) (reachS l F n s).D (reachS l F n s).I (refF l F n s).OK) (wayRes l (tL l F n s) n s (t:Int)).1:=by
    unfold ebbtideref12_nearest.f;refine Ev.bind (H.steps_ev hr _ b) ?_;exact near_l0 hr b (refF l F n s).OK (steps_okS hr) hD hI hbd hs (t:Int) (stepsR l F F.length).length 0 (by omega)
   refine Ev.bind hnr ?_;refine Ev.bind (bottle_ev hr b _ g5 (by omega) g3) ?_;refine Ev.bind (pushed_ev hr (c:=leastR l F (wayRes l (tL l F n s) n s (t:Int)).1) (by omega) (by omega) (fun e he=>⟨g5 e he,H.leastR_le he⟩) hW.apart) ?_;exact e2
  ·refine⟨F,H.spanS_top hs ht hst hf hn,?_⟩
   refine Ev.succ ?_;simp only[ebbtideref12_Best.l0];refine Ev.bind hfrom ?_;refine Ev.pos (by omega) ?_;refine Ev.pos (by show (t:Int)<((reachS l F n s).I.length:Int);omega) ?_;refine Ev.ite (fun g=> ?_) (fun g=> ?_)
   ·have g:(reachS l F n s).I.getD (t:Int).toNat false=true:=g
    rw[Int.toNat_natCast] at g;refine Ev.pos (by show (t:Int)<((reachS l F n s).D.length:Int);omega) ?_;have e0:decide (rd (reachS l F n s).D (t:Int)>h)=true:=Yv (by rw[rd_nat];have: ¬ (reachS l F n s).D.getD t 0≤h:=fun hh=>hn ⟨g,hh⟩;omega);show Ev (fun k=>ebbtideref12_Best.j1 k (s:Int) (t:Int) h F (decide (rd (reachS l F n s).D (t:Int)>h)) (n:Int) b l (reachS l F n s).D (reachS l F n s).I (refF l F n s).OK) F;rw[e0];refine Ev.succ ?_;simp only[ebbtideref12_Best.j1];refine Ev.pos (by first|trivial|rfl) ?_;exact Ev.now _
   ·refine Ev.succ ?_;simp only[ebbtideref12_Best.j1]
    refine Ev.pos (by first|trivial|rfl) ?_;exact Ev.now _
theorem sref_most_ev (n:Int) (b:Bool) (l:List S50) (s t h:Int):Ev (fun k=>ebbtideref12_Most.f k n b l s t h) (smostR n l s t h):=by
 unfold ebbtideref12_Most.f;refine Ev.bind (ref_span_asked_ev n b l s t h) ?_;by_cases g:spanErr n l s t h=0
 ·refine Ev.pos g ?_
  obtain⟨g1,h0,h1⟩:=spanErr_ok g;obtain⟨n0,s0,t0,rfl,rfl,rfl,hs,ht,hst,hn,hr⟩:=ends_zero g1;have har:=hr.arcs;obtain⟨z1,z2⟩:=H.zeros_of (s:=s0) (t:=t0) hr;obtain⟨G,q1,q2⟩:=sref_best_l0 (h:=h) b hs ht hst 300000000 _ (H.span_zero (t:=t0) (s:=s0) hr (c:=h+1) (by omega)) (by omega);have hb:Ev (fun k=>ebbtideref12_Best.f k (n0:Int) b l (s0:Int) (t0:Int) h) G:=by
   unfold ebbtideref12_Best.f;refine Ev.pos (by omega) ?_;refine Ev.pos (by omega) ?_;rw[Int.toNat_natCast];exact q2
  refine Ev.bind hb ?_;refine Ev.bind (ref_worth_ev n0 b l s0 t0 G h) ?_;refine Ev.done ?_;rw[smostR_nat g];have hT:=span_top hr hs ht hst h0;have e1:=hT.le q1.ok.flow hs ht hst;have e2:=q1.le hT.ok.flow hs ht hst;have hv:=val_flow hn (endsE_ok g1).2 q1.ok.flow;have e3:worthR n0 l s0 t0 G h=(worthS l G s0 (h+1),0):=by
   unfold worthR;rw[Yx g,hv,Yx rfl];rw[worth_wrap q1.ok.flow hs ht hst h0 h1]
  rw[e3];show (worthS l G s0 (h+1),(0:Int))=_;rw[show worthS l G s0 (h+1)=worthS l (H.fillS l n0 s0 t0 h) s0 (h+1) by omega]
 ·refine Ev.neg g ?_
  refine Ev.done ?_;unfold smostR;rw[Yy g]
end Q
namespace H
open P
open Q (smostR smost_ev sref_most_ev awake12_ev)
set_option maxHeartbeats 4000000 in
set_option maxRecDepth 100000 in
theorem ebbtidelaw12_SpanMost_calls (Zb:Int) (Zc:Bool) (Ze:Option Addr) (Zd:Nat) (Za:List S50) (a1:Int) (a2:Int) (a3:Int) (r:Bool) (w:World) (Zp:Kd.C k50 w Ze Za.length Za) (Zq:Za.length≤Zd) (h:some true=some r):
  Calls Try.prog 3 #[.agg #[.int .i64 Zb, .bool Zc, .slice Ze Za.length Zd], .int .i64 a1, .int .i64 a2, .int .i64 a3] w fun e w'=>e= .returned (.bool r)∧Below w.heap.size w w':=by
 have hu24:=Try.underlying24;injection h with h
 subst h;obtain⟨n1,hn1⟩: ∃ n_,n_=fewN Zb 8:=⟨_,rfl⟩;obtain⟨l1,hl1⟩: ∃ l_,l_=fewL Za 20:=⟨_,rfl⟩;obtain⟨⟨v,e⟩,hve⟩: ∃ p,p=smostR n1 l1 a1 a2 a3:=⟨_,rfl⟩;obtain⟨K1,hK1⟩:=smost_ev n1 Zc l1 a1 a2 a3;have hm1:=hK1 K1 (Nat.le_refl _);obtain⟨K2,hK2⟩:=sref_most_ev n1 Zc l1 a1 a2 a3;have hm2:=hK2 K2 (Nat.le_refl _);obtain⟨K3,hK3⟩:=awake12_ev;have hm3:=hK3 K3 (Nat.le_refl _);rw[← hve] at hm1 hm2;have HM1:=Ya hm1;have HM2:=Ya hm2;have HM3:=Ya hm3;have HN1:=Ya hn1;have HL1:=Ya hl1;have H2:=Ya Zp;have HC2:=Ya Zq;have HLC:Aside0 (Kd.C k50 w Ze l1.length l1):=⟨by rw[hl1];exact fewL_C Zp 20⟩;have HLE:Aside0 (l1.length≤Zd):=⟨by rw[hl1];exact Nat.le_trans (fewL_le Za 20) Zq⟩;clear hve hK1 hK2 hK3 hm1 hm2 hm3 hn1 hl1 Zp Zq;go_enter Try.func3,Try.ntmps3;go_upto_region 2 with (first|((with_reducible refine gate_dst (N:=4) rfl ?_);refine Yz ?hg (N:=4) ?hd (cs:= #[.int .i64 Zb, .bool Zc, .slice Ze Za.length Zd]) (t:=24) ?hr ?_;(case hd=>rfl);(case hg=>rfl);(case hr=>first|(go_simp;done)|(go_simp;rfl));intro g3 hg3 w5 Zf hb;have B3:=Ya Zf;have HB:=Ya hb;have HG3:Aside0 (w.heap.size≤g3):=⟨Nat.le_of_eq hg3.symm⟩;clear hg3 Zf hb;have x0:w5.cell? ⟨g3,0,none⟩=some (.int .i64 Zb):=(Yc B3.out 0).trans rfl;have x1:w5.cell? ⟨g3,1,none⟩=some (.bool Zc):=(Yc B3.out 1).trans rfl;have x2:w5.cell? ⟨g3,2,none⟩=some (.slice Ze Za.length Zd):=(Yc B3.out 2).trans rfl)|(go_at_call 9;refine(few_calls Zb Zc Ze Zd Za 8 20 _ (by decide) HC2.out (Yt H2.out HB.out)).mono ?_;rintro e_ w6 ⟨rfl,hb⟩;have m0_:=Ya (Yk HB.out hb);have m1_:=Ya (Yn B3.out hb);clear HB B3 hb x0 x1 x2;have HB:=m0_;have B3:=m1_;clear m0_ m1_;have x0:w6.cell? ⟨g3,0,none⟩=some (.int .i64 Zb):=(Yc B3.out 0).trans rfl;have x1:w6.cell? ⟨g3,1,none⟩=some (.bool Zc):=(Yc B3.out 1).trans rfl;have x2:w6.cell? ⟨g3,2,none⟩=some (.slice Ze Za.length Zd):=(Yc B3.out 2).trans rfl;have f0:=Yf B3.out 0;have f1:=Yf B3.out 1;have f2:=Yf B3.out 2)|fail)
 have B3':Aside0 ((((w6.setCell ⟨g3,0,none⟩ (.int .i64 (fewN Zb 8))).setCell ⟨g3,1,none⟩ (.bool Zc)).setCell ⟨g3,2,none⟩ (.slice Ze (fewL Za 20).length Zd)).heap[g3]? =some (.cells #[.int .i64 n1, .bool Zc, .slice Ze l1.length Zd] 24 (0,0))):=⟨by rw[HN1.out,HL1.out];exact YA (YA (YA B3.out 0 _ rfl) 1 _ rfl) 2 _ rfl⟩;have HB':Aside0 (Below w.heap.size w (((w6.setCell ⟨g3,0,none⟩ (.int .i64 (fewN Zb 8))).setCell ⟨g3,1,none⟩ (.bool Zc)).setCell ⟨g3,2,none⟩ (.slice Ze (fewL Za 20).length Zd))):=⟨Yh (Yh (Yh HB.out HG3.out) HG3.out) HG3.out⟩;clear B3 HB x0 x1 x2 f0 f1 f2;generalize ((w6.setCell ⟨g3,0,none⟩ (.int .i64 (fewN Zb 8))).setCell ⟨g3,1,none⟩ (.bool Zc)).setCell ⟨g3,2,none⟩ (.slice Ze (fewL Za 20).length Zd)=w7 at *;have B3:=B3';have HB:=HB';clear B3' HB';have x0:w7.cell? ⟨g3,0,none⟩=some (.int .i64 n1):=(Yc B3.out 0).trans rfl;have x1:w7.cell? ⟨g3,1,none⟩=some (.bool Zc):=(Yc B3.out 1).trans rfl;have x2:w7.cell? ⟨g3,2,none⟩=some (.slice Ze l1.length Zd):=(Yc B3.out 2).trans rfl;go_wp2_with (first|(go_at_call 10;refine(span_Most.calls K1 n1 Zc Ze Zd l1 a1 a2 a3 v e _ (Yt HLC.out HB.out) HLE.out HM1.out).mono ?_;rintro e_ w8 ⟨rfl,hb⟩;have m0_:=Ya (Yk HB.out hb);have m1_:=Ya (Yn B3.out hb);clear HB B3 hb x0 x1 x2;have HB:=m0_;have B3:=m1_;clear m0_ m1_;have x0:w8.cell? ⟨g3,0,none⟩=some (.int .i64 n1):=(Yc B3.out 0).trans rfl;have x1:w8.cell? ⟨g3,1,none⟩=some (.bool Zc):=(Yc B3.out 1).trans rfl;have x2:w8.cell? ⟨g3,2,none⟩=some (.slice Ze l1.length Zd):=(Yc B3.out 2).trans rfl)|(go_at_call 11;refine(ebbtideref12_Most.calls K2 n1 Zc Ze Zd l1 a1 a2 a3 v e _ (Yt HLC.out HB.out) HLE.out HM2.out).mono ?_;rintro e_ w9 ⟨rfl,hb⟩;have m0_:=Ya (Yk HB.out hb);have m1_:=Ya (Yn B3.out hb);clear HB B3 hb x0 x1 x2;have HB:=m0_;have B3:=m1_;clear m0_ m1_;have x0:w9.cell? ⟨g3,0,none⟩=some (.int .i64 n1):=(Yc B3.out 0).trans rfl;have x1:w9.cell? ⟨g3,1,none⟩=some (.bool Zc):=(Yc B3.out 1).trans rfl;have x2:w9.cell? ⟨g3,2,none⟩=some (.slice Ze l1.length Zd):=(Yc B3.out 2).trans rfl)|(go_at_call 12;refine(ebbtidelaw12_awake.calls K3 true _ HM3.out).mono ?_;rintro e_ w10 ⟨rfl,hb⟩;have m0_:=Ya (Yk HB.out hb);have m1_:=Ya (Yn B3.out hb);clear HB B3 hb x0 x1 x2;have HB:=m0_;have B3:=m1_;clear m0_ m1_;have x0:w10.cell? ⟨g3,0,none⟩=some (.int .i64 n1):=(Yc B3.out 0).trans rfl;have x1:w10.cell? ⟨g3,1,none⟩=some (.bool Zc):=(Yc B3.out 1).trans rfl;have x2:w10.cell? ⟨g3,2,none⟩=some (.slice Ze l1.length Zd):=(Yc B3.out 2).trans rfl)|fail);go_ret;exact⟨rfl,HB.out⟩
end H
namespace P
def ebbtidelaw12_SpanMost.f (Zb:Int) (Zc:Bool) (Za:List S50) (a1:Int) (a2:Int) (a3:Int):Option (Bool):=some true
theorem ebbtidelaw12_SpanMost.calls (Zb:Int) (Zc:Bool) (Ze:Option Addr) (Zd:Nat) (Za:List S50) (a1:Int) (a2:Int) (a3:Int) (r:Bool) (w:World) (Zp:Kd.C k50 w Ze Za.length Za) (Zq:Za.length≤Zd) (h:ebbtidelaw12_SpanMost.f Zb Zc Za a1 a2 a3=some r):
  Calls Try.prog 3 #[.agg #[.int .i64 Zb, .bool Zc, .slice Ze Za.length Zd], .int .i64 a1, .int .i64 a2, .int .i64 a3] w fun e w'=>e= .returned (.bool r)∧Below w.heap.size w w':=H.ebbtidelaw12_SpanMost_calls Zb Zc Ze Zd Za a1 a2 a3 r w Zp Zq h
end P
namespace Opn
open Go.ChangeShapes Go.WideShapes Go.Deep 
def Opens (P:Program) (t:TypeId) {α:Type} (d:Kd α) (ok:α→Prop):Prop:=
 ∀ (H:Type) (enc:TypeId × Value→H) (w:World) (base:Nat) (spare:Nat→Bool) (held:Bool) (fuel:Nat) (cs:List Value) (x:DataW H × List MemPlace),
  DataW.trod enc P w base spare held fuel t cs=some x→ ∃ a:α,d.K w a cs∧ok a
theorem opens_int {P:Program} {t:TypeId} {k:IntKind} (ht:P.underlying t=some (.int k)):Opens P t (Kd.int k) (fun n=>(Lit.int k n).wf=true):=by
 intro H enc w base spare held fuel cs x h;obtain⟨n,rfl,_,hw⟩:=DataW.trod_int ht h;exact⟨n,rfl,hw⟩
theorem opens_bool {P:Program} {t:TypeId} (ht:P.underlying t=some .bool):Opens P t Kd.bool (fun _=>True):=by
 intro H enc w base spare held fuel cs x h;obtain⟨b,rfl,_⟩:=DataW.trod_bool ht h;exact⟨b,rfl,trivial⟩
theorem opens_slice {P:Program} {t e:TypeId} {α:Type} {d:Kd α} {ok:α→Prop} (ht:P.underlying t=some (.slice e)) (hc:P.cellsOf e=d.sz) (h:Opens P e d ok):
  Opens P t (Kd.slice e d) (fun l=>l.length≤9223372036854775807∧ ∀ x∈l,ok x):=by
 intro H enc w base spare held fuel cs x hx;rcases open_slice ht hx with ⟨rfl,_⟩|⟨a,len,cap,m,n,D,Pl,rfl,hb,hl,hm,hmm,_,hi⟩
 ·exact⟨[],⟨none,0,rfl,Nat.le_refl _,rfl,by simp,fun h=>absurd h (by simp)⟩,by simp,by simp⟩
 ·have hlm:len≤m:=by rw[hmm];split<;>omega
  have hel: ∀ i:Nat,i<len→ ∃ a':α,ok a'∧ ∃ c,c.length=d.sz∧d.K w a' c∧ ∀ j u,c[j]? =some u→w.cell? (a.add (i * d.sz+j))=some u:=by
   intro i hil;obtain⟨cs',hcs,htr⟩:=hi i (by omega);obtain⟨a',hK,hok⟩:=h H enc w base spare held n cs' _ htr;rw[hc] at hcs;obtain⟨_,hcl,hat⟩:=World.cells?_some hcs;refine⟨a',hok,cs',hcl,hK,fun j u hu=> ?_⟩;have hj:j<d.sz:=by have:=(List.getElem?_eq_some_iff.1 hu).1;omega
   have:=hat j hj;rw[← Go.Deep.add_add,this,hu]
  have hrow: ∀ k:Nat,k≤len→ ∃ xs:List α,xs.length=k∧(∀ x∈xs,ok x)∧ ∀ j p,xs[j]? =some p→ ∃ c,c.length=d.sz∧d.K w p c∧ ∀ i u,c[i]? =some u→w.cell? (a.add (j * d.sz+i))=some u:=by
   intro k
   induction k with
   |zero=>exact fun _=>⟨[],rfl,by simp,by simp⟩
   |succ k ih=>
    intro hk;obtain⟨xs,h1,h2,h3⟩:=ih (by omega);obtain⟨a',ho,c,hcl,hK,hcell⟩:=hel k (by omega);refine⟨xs ++ [a'],by simp[h1],fun x hx=> ?_,fun j p hj=> ?_⟩
    ·rcases List.mem_append.1 hx with h|h
     ·exact h2 x h
     ·rw[List.mem_singleton.1 h];exact ho
    ·by_cases hjk:j<xs.length
     ·rw[List.getElem?_append_left hjk] at hj
      exact h3 j p hj
     ·have hjl:=(List.getElem?_eq_some_iff.1 hj).1
      simp at hjl;have hje:j=k:=by omega
      subst hje;rw[← h1,List.getElem?_concat_length] at hj;obtain rfl:=Option.some.inj hj;exact⟨c,hcl,hK,hcell⟩
  obtain⟨xs,h1,h2,h3⟩:=hrow len (Nat.le_refl _);have hmx:len≤9223372036854775807:=by unfold maxLen at hm;omega
  subst h1;exact⟨xs,⟨some a,cap,rfl,hl,rfl,hmx,fun _=>⟨a,rfl,h3⟩⟩,hmx,h2⟩
theorem opens_iso {P:Program} {t:TypeId} {α β:Type} {d:Kd α} {ok:α→Prop} (h:Opens P t d ok) (f:β→α) (g:α→β) (hfg: ∀ x,f (g x)=x):Opens P t (Kd.iso d f) (fun y=>ok (f y)):=by
 intro H enc w base spare held fuel cs x hx;obtain⟨a,hK,hok⟩:=h H enc w base spare held fuel cs x hx;exact⟨g a,by show d.K w (f (g a)) cs;rw[hfg];exact hK,by show ok (f (g a));rw[hfg];exact hok⟩
def OpensFs (P:Program) (fs:List Field) (off:Nat) {α:Type} (d:Kd α) (ok:α→Prop):Prop:=
 ∀ (H:Type) (enc:TypeId × Value→H) (w:World) (base:Nat) (spare:Nat→Bool) (held:Bool) (n:Nat) (cs:List Value),cs.length=off+d.sz→
  (∀ f∈fs, ∃ y,DataW.trod enc P w base spare held n f.type ((cs.drop f.offset).take (P.cellsOf f.type))=some y)→ ∃ a:α,d.K w a (cs.drop off)∧ok a
theorem fs_one {P:Program} {f:Field} {off:Nat} {α:Type} {d:Kd α} {ok:α→Prop} (ho:f.offset=off) (hc:P.cellsOf f.type=d.sz) (h:Opens P f.type d ok):OpensFs P [f] off d ok:=by
 intro H enc w base spare held n cs hl hf;obtain⟨y,hy⟩:=hf f (by simp);rw[ho,hc,List.take_of_length_le (by simp;omega)] at hy;exact h H enc w base spare held n _ y hy
theorem fs_cons {P:Program} {f:Field} {fs:List Field} {off:Nat} {α β:Type} {d:Kd α} {d':Kd β} {ok:α→Prop} {ok':β→Prop} (ho:f.offset=off) (hc:P.cellsOf f.type=d.sz) (h:Opens P f.type d ok)
  (hr:OpensFs P fs (off+d.sz) d' ok'):OpensFs P (f::fs) off (Kd.pair d d') (fun x=>ok x.1∧ok' x.2):=by
 intro H enc w base spare held n cs hl hf;have hsz:(Kd.pair d d').sz=d.sz+d'.sz:=rfl;rw[hsz] at hl;obtain⟨y,hy⟩:=hf f (by simp);rw[ho,hc] at hy;obtain⟨a,hK,hok⟩:=h H enc w base spare held n _ y hy;obtain⟨b,hKb,hokb⟩:=hr H enc w base spare held n cs (by omega) (fun f' hf'=>hf f' (List.mem_cons_of_mem _ hf'));refine⟨(a,b),⟨_,_,?_,hK,hKb⟩,hok,hokb⟩;rw[← List.drop_drop];exact(List.take_append_drop _ _).symm
theorem opens_struct {P:Program} {t:TypeId} {fs:Array Field} {α:Type} {d:Kd α} {ok:α→Prop} (hs:P.underlying t=some (.struct fs)) (hC:P.cellsOf t=d.sz) (h:OpensFs P fs.toList 0 d ok):Opens P t d ok:=by
 intro H enc w base spare held fuel cs x hx;obtain⟨xs,n,_,_,hl,hlen,hf⟩:=DataW.trod_struct hs hx;obtain⟨a,hK,hok⟩:=h H enc w base spare held n cs (by rw[hl,hC,Nat.zero_add]) (fun f hfm=>by
  obtain⟨j,hj⟩:=List.getElem?_of_mem hfm;have hj':fs[j]? =some f:=by rw[← hj];simp
  have hjl:j<xs.length:=by rw[hlen];exact(Array.getElem?_eq_some_iff.1 hj').1
  have h1:=hf j f hj';rw[List.getElem?_eq_getElem hjl] at h1;exact⟨_,h1⟩)
 exact⟨a,hK,hok⟩
theorem arg_struct {H:Type} {enc:TypeId × Value→H} {P:Program} {w:World} {base b0:Nat} {spare:Nat→Bool} {held:Bool} {r:Reach} {t:TypeId} {fs:Array Field} {v:Value} {dd:DataW H} {p:List MemPlace} {α:Type} {d:Kd α} {ok:α→Prop}
  (hs:P.underlying t=some (.struct fs)) (ho:Opens P t d ok) (hv:Value.okWide P w r b0 t v) (h:DataW.Trod enc P w base spare held t v dd p): ∃ a cs,v= .agg cs∧d.K w a cs.toList∧ok a:=by
 obtain⟨cs,rfl,hsz⟩:=okWide_struct hs hv;obtain⟨fuel,hf⟩:=h;obtain⟨a,hK,hok⟩:=ho H enc w base spare held fuel _ _ hf;exact⟨a,cs,rfl,by simpa [Value.cells] using hK,hok⟩
end Opn
namespace Q
open P
theorem spanMost_ev (n:Int) (b:Bool) (l:List S50) (s t:Int) (h:Int):Ev (fun _=>ebbtidelaw12_SpanMost.f n b l s t h) true:=Ev.now _
end Q
end Go.Proofs.Ytoedkglggapggaa
