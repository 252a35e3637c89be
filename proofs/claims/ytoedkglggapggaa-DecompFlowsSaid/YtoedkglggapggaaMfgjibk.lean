/- What the law's row needs of these texts, taken out of them by wip/tool/mini.py: P100 QMostLaw QCheapLaw QFromWalk QCostLaw QByLaw QSpanRun QWorthLaw QSplitWalk P83 P85 P86 P87 P88 P91 P92 P93 P94. -/
import Derived.Test.YtoedkglggapggaaMjjigcl
import Derived.Test.YtoedkglggapggaaMhpemop
import Derived.Test.YtoedkglggapggaaMchdgch
import Derived.Test.YtoedkglggapggaaMgjbbed
import Derived.Test.YtoedkglggapggaaProg
import Derived.RegionTactic
import Derived.ChangeAlike
import Derived.BigRegion
import Derived.LoopTactic
import Derived.WalkKit
import Derived.WalkMore
import Derived.Test.YtoedkglggapggaaVnllcin
import Derived.Deep.RegionHeld3
import Derived.Deep.DeepCutAuto
set_option linter.unusedVariables false
set_option linter.unusedSimpArgs false
open Go.RowKit Go.Proofs.YtoedkglggapggaaW.PrintWords Go.Proofs.YtoedkglggapggaaW.PrintLast Go.Proofs.YtoedkglggapggaaW.PrintMore
namespace Go.Proofs.Ytoedkglggapggaa
namespace P
attribute [local go_sem] max2_int min2_int max_two min_two max_three min_three max_four min_four
def ebbtideref09_Best.l0:Nat→Int→Int→List Int→Int→Bool→List (S50)→Option (List Int)
 |0,_,_,_,_,_,_=>none
 |k+1,x1,x2,x7,x685000,x685001,x685002=>(ebbtideref07_Steps.f k x685000 x685001 x685002 x7).bind fun t688=>((ebbtideref08_Way.f x685000 x685001 x685002 x1 x2 t688).bind fun bt691=>(if bt691.2=true then((ebbtideref08_Bottle.f k x685000 x685001 x685002 x7 bt691.1).bind fun t695=>((ebbtideref07_Pushed.f k x7 bt691.1 t695).bind fun t696=>(ebbtideref09_Best.l0 k x1 x2 t696 x685000 x685001 x685002))) else(some x7)))
def ebbtideref09_Best.f (k:Nat) (Zc:Int) (Zb:Bool) (Za:List (S50)) (a1:Int) (a2:Int):Option (List Int):=if 0≤(Za.length:Int) then(if ((Za.length:Int):Int).toNat≤35184372088832 then(ebbtideref09_Best.l0 k a1 a2 (List.replicate ((Za.length:Int):Int).toNat 0) Zc Zb Za) else(none)) else(none)
def ebbtideref09_Best.T2:Bool × List (List Nat × List Nat):=(true,[([],[]),([],[]),([],[]),([],[]),([],[]),([3,4],[3,4]),([0,1,2,5,5],[0,1,2,5]),([6],[6]),([7],[7]),([7],[7]),([8,6,0,1,2,3,4,5,6,7,8],[8]),([9,10,0,1,2,3,4,5,6,7,8,9,10],[9])])
def ebbtideref09_Best.B2:List Nat:=[0,0,0,0,0,24,63,127,255,255,511,2047]
theorem ebbtideref09_Best.tab2:rtab .any (opsOf Try.f28 2)=ebbtideref09_Best.T2:=by kernel_rfl
theorem ebbtideref09_Best.bits2:waitsOk ebbtideref09_Best.T2.2 ebbtideref09_Best.B2=true:=by kernel_rfl
set_option maxHeartbeats 8000000 in
set_option maxRecDepth 100000 in
theorem ebbtideref09_Best.calls (k:Nat) (Zc:Int) (Zb:Bool) (Ze:Option Addr) (Zd:Nat) (Za:List (S50)) (a1:Int) (a2:Int) (r:List Int) (w:World) (Zp:Kd.C k50 w Ze Za.length Za) (Zq:Za.length≤Zd) (h:ebbtideref09_Best.f k Zc Zb Za a1 a2=some r):
  Calls Try.prog 28 #[.agg #[.int .i64 Zc, .bool Zb, .slice Ze Za.length Zd], .int .i64 a1, .int .i64 a2] w fun e w'=> ∃ v0_:Value,e= .returned (v0_)∧Kd.R (Kd.int .i64) 3 w' w.heap.size (fun _=>True) v0_ r∧Below w.heap.size w w':=by
 have hu24:=Try.underlying24;have Zj:=Ya Zp;have Zs:=Ya Zq;clear Zp Zq;have HB:=Ya (Yo w.heap.size w);have H:=h;unfold ebbtideref09_Best.f at H;clear h;by_cases c4:0≤(Za.length:Int)
 rotate_left
 ·rw[Yy c4] at H
  exact absurd H (by simp)
 rw[Yx c4] at H;have c4b0:=eq_true c4;have c4b1:decide (0≤(Za.length:Int))=true:=Yv c4;clear c4;by_cases c5:((Za.length:Int):Int).toNat≤35184372088832
 rotate_left
 ·rw[Yy c5] at H
  exact absurd H (by simp)
 rw[Yx c5] at H;have c5b0:=eq_true c5;have c5b1:decide (((Za.length:Int):Int).toNat≤35184372088832)=true:=Yv c5;clear c5;obtain⟨y685,hy685⟩: ∃ y_:List Int,y_=(List.replicate ((Za.length:Int):Int).toNat 0):=⟨_,rfl⟩;rw[← hy685] at H;have Ny685:=Ya hy685;clear hy685;have H':=Ya H;clear H;go_enter Try.func28,Try.ntmps28;go_wp2_with (first|(refine bx 3 24 #[.int .i64 Zc, .bool Zb, .slice Ze Za.length Zd] ?_;intro gb684 hg w6 Zf hb;have Xs:=Ya (Zf);have GW684:=Ya ((sz hg));have GE684:=Ya ((sz hg));replace HB:=Ya (Yk bl hb);clear hb Zf hg;have hcz7_0:w6.cell? ⟨gb684,0,none⟩=some (.int .i64 Zc):=bc Xs 0;have hcz7_1:w6.cell? ⟨gb684,1,none⟩=some (.bool Zb):=bc Xs 1;have hcz7_2:w6.cell? ⟨gb684,2,none⟩=some (.slice Ze Za.length Zd):=bc Xs 2;have hfz7_0:=Yf Xs.out 0;have hfz7_1:=Yf Xs.out 1;have hfz7_2:=Yf Xs.out 2)|((with_reducible refine gate_dst (N:=13) rfl ?_);refine Kd.R_make (Kd.int .i64) _ 3 rfl (N:=13) rfl 31 _ _ rfl (Za.length:Int) rfl rfl Try.underlying31 (.int .i64 0) 8 info3 rfl (by decide) (by omega) 0 (ok:=fun _=>True) (okp:=fun _=>True) rfl (fun _ hk=>hk) trivial (Yu (by first|(with_reducible assumption)|assumption)) (Nat.le_trans (Nat.mul_le_mul_right _ (Yu (by first|(with_reducible assumption)|assumption):(Za.length:Int).toNat≤35184372088832)) (by omega)) (Yo _ _) (Nat.le_refl _) ?_;intro v686 w8 ho9 hb hg_ hnew_;clear hg_ hnew_;(first|rw[← Ny685.out] at ho9|(simp only[Int.reduceToNat] at ho9;rw[← Ny685.out] at ho9));have HO687:=Ya (Kd.R_lower ho9 (Yi bl));replace Xs:=Ya (Yn (bk Xs) hb);replace HB:=Ya (Yk bl hb);clear hb ho9));go_loopg [7] k (fun kq v7 w'=> ∃ (Xc:List Int),Aside0 (ebbtideref09_Best.l0 kq a1 a2 Xc Zc Zb Za=some r)∧Aside0 (kq≤k)∧Aside0 (Kd.R (Kd.int .i64) 3 w' w.heap.size (fun _=>True) v7 Xc)∧Aside0 (w'.heap[gb684]? =some (.cells #[.int .i64 Zc, .bool Zb,(.slice Ze Za.length Zd)] 24 (0,0)))∧Aside0 (Below w.heap.size w w'))
 case atStart=>exact⟨(y685),H',⟨Nat.le_refl _⟩,⟨HO687.out⟩,⟨Xs.out⟩,⟨HB.out⟩⟩
 case round=>
  clear H';try clear c4
  try clear c4b0
  try clear c4b1
  try clear c5
  try clear c5b0
  try clear c5b1
  try clear hcz7_0
  try clear hcz7_1
  try clear hcz7_2
  try clear hfz7_0
  try clear hfz7_1
  try clear hfz7_2
  obtain⟨Xc,HA,HK1,HO_7,Xs,HB⟩:=hrel;cases gk with
  |zero=>exact absurd HA.out (by simp[ebbtideref09_Best.l0])
  |succ k1=>
   have H:=HA.out;clear HA;simp only[ebbtideref09_Best.l0] at H;replace H:=Option.bind_eq_some_iff.mp H;obtain⟨t688,A100,H⟩:=H;try dsimp only at H
   have A10:=Ya A100;clear A100;replace H:=Option.bind_eq_some_iff.mp H;obtain⟨⟨t691,t694⟩,A110,H⟩:=H;try dsimp only at H
   have A11:=Ya A110;clear A110;by_cases c12:t694=true
   rotate_left
   ·replace c12:=Bool.eq_false_iff.mpr c12
    subst c12;rw[Yy (show ¬ (false=true) by decide)] at H;obtain rfl:=Option.some.inj H;try go_wp2
    replace HO_7:=Ya (Yp HO_7.out);replace Xs:=Ya (Ym Xs.out);replace HB:=Ya (Yg HB.out);obtain⟨Ao25,co25,eo25⟩:=Kd.R_slice HO_7.out
    (first|subst eo25|(injection eo25 with f1_ f2_ f3_;have f4_:=f1_.symm;have f5_:=f3_.symm;clear f1_ f2_ f3_;subst f4_;subst f5_))
    refine start_ (n:=12) (S:=fun w'=>w'.cell? ⟨gb684,0,none⟩=some (.int .i64 Zc)∧w'.cell? ⟨gb684,1,none⟩=some (.bool Zb)∧w'.cell? ⟨gb684,2,none⟩=some (.slice Ze Za.length Zd)) (ds:=[]) #[false,false,false,false,false,false,false,false,false,false,false,false] (by kernel_rfl) rfl rfl ⟨(Yc Xs.out 0).trans rfl,(Yc Xs.out 1).trans rfl,(Yc Xs.out 2).trans rfl⟩ (fun hHeld=> ?_);refine with_tabW ebbtideref09_Best.tab2 ebbtideref09_Best.bits2 (fun HT_ HW_=> ?_);generalize wr.drew=w24 at HO_7 Xs HB hHeld ⊢;refine pu 1 16 (bm 12 2) ?_;refine pu 2 17 (bm 12 6) ?_;refine pu 4 19 (bm 12 22) ?_;refine ta 0 15 (bm 12 23) hHeld ?_;refine ta 3 18 (bm 12 31) hHeld ?_;refine on 5 (some 20) (bm 12 63) fun K hK=> ?_
    refine gs Try.func41 #[.agg #[.int .i64 Zc, .bool Zb, .slice Ze Za.length Zd], .slice Ao25 Xc.length co25] ?_
    with_reducible refine(ebbtideref07_Steps.calls k1 Zc Zb _ _ Za _ _ Xc t688 _ ?side1 ?side2 ?side3 ?side4 A10.out).mono ?_
    (case side1=>exact(Yt Zj.out HB.out))
    (case side2=>exact Zs.out)
    (case side3=>exact(Kd.R_reads' HO_7.out).2.2)
    (case side4=>exact(Kd.R_reads' HO_7.out).2.1)
    rintro e w26 ⟨v689,rfl,ho0,hb⟩;refine⟨_,rfl,?_⟩;replace HO_7:=Ya (Ys HO_7.out hb);have HO690:=Ya (Kd.R_lower ho0 (Yi HB.out));replace Xs:=Ya (Yn Xs.out hb);replace HB:=Ya (Yk HB.out hb)
    (try clear hb)
    (try clear hb2)
    (try clear hk)
    (try clear hi)
    (try clear ho0)
    obtain⟨Ao27,co27,eo27⟩:=Kd.R_slice HO690.out
    (first|subst eo27|(injection eo27 with f1_ f2_ f3_;have f4_:=f1_.symm;have f5_:=f3_.symm;clear f1_ f2_ f3_;subst f4_;subst f5_))
    refine hK.out _ _ ⟨bc Xs 0,bc Xs 1,bc Xs 2⟩ (fun hHeld=> ?_);clear hK K;refine nm ?_;refine on 6 (some 21) (bm 12 127) fun K hK=> ?_
    refine gs Try.func54 #[.agg #[.int .i64 Zc, .bool Zb, .slice Ze Za.length Zd], .int .i64 a1, .int .i64 a2, .slice Ao27 t688.length co27] ?_
    with_reducible refine(ebbtideref08_Way.calls Zc Zb _ _ Za a1 a2 _ _ t688 t691 false _ ?side1 ?side2 ?side3 ?side4 A11.out).mono ?_
    (case side1=>exact(Yt Zj.out HB.out))
    (case side2=>exact Zs.out)
    (case side3=>exact(Kd.R_reads' HO690.out).2.2)
    (case side4=>exact(Kd.R_reads' HO690.out).2.1)
    rintro e w28 ⟨v692,rfl,ho0,hb⟩;refine⟨_,rfl,?_⟩;replace HO_7:=Ya (Ys HO_7.out hb);have HO693:=Ya (Kd.R_lower (Kd.R_new' ho0 (Kd.R_lt HO690.out)) (Yi HB.out));replace HO690:=Ya (Kd.R_elder' HO690.out (Kd.R_base ho0) hb);replace Xs:=Ya (Yn Xs.out hb);replace HB:=Ya (Yk HB.out hb)
    (try clear hb)
    (try clear hb2)
    (try clear hk)
    (try clear hi)
    (try clear ho0)
    refine hK.out _ _ ⟨bc Xs 0,bc Xs 1,bc Xs 2⟩ (fun hHeld=> ?_);clear hK K;refine nm ?_;refine pu 7 14 (bm 12 255) ?_;refine pu 8 22 (bm 12 511) ?_;refine pu 9 23 (bm 12 1023) ?_;refine pu 10 8 (bm 12 2047) ?_;refine pu 11 9 (bm 12 4095) ?_;refine done_ (done_of HT_.out (by kernel_rfl)) ?_;try go_wp2
    go_ret;exact⟨_,by first|rfl|(simp[errW_none,errW_some]<;>rfl)|(simp[*,errW_none,errW_some]<;>rfl),by(with_reducible repeat(first|apply Yr|apply Yq|apply Yp));exact HO_7.out,HB.out⟩
   subst c12;first|rw[Yx rfl] at H|rw[Yx trivial] at H
   replace H:=Option.bind_eq_some_iff.mp H;obtain⟨t695,A130,H⟩:=H;try dsimp only at H
   have A13:=Ya A130;clear A130;replace H:=Option.bind_eq_some_iff.mp H;obtain⟨t696,A140,H⟩:=H;try dsimp only at H
   have A14:=Ya A140;clear A140;have H':=Ya H;clear H;try go_wp2
   replace HO_7:=Ya (Yp HO_7.out);replace Xs:=Ya (Ym Xs.out);replace HB:=Ya (Yg HB.out);obtain⟨Ao16,co16,eo16⟩:=Kd.R_slice HO_7.out
   (first|subst eo16|(injection eo16 with f1_ f2_ f3_;have f4_:=f1_.symm;have f5_:=f3_.symm;clear f1_ f2_ f3_;subst f4_;subst f5_))
   refine start_ (n:=12) (S:=fun w'=>w'.cell? ⟨gb684,0,none⟩=some (.int .i64 Zc)∧w'.cell? ⟨gb684,1,none⟩=some (.bool Zb)∧w'.cell? ⟨gb684,2,none⟩=some (.slice Ze Za.length Zd)) (ds:=[]) #[false,false,false,false,false,false,false,false,false,false,false,false] (by kernel_rfl) rfl rfl ⟨(Yc Xs.out 0).trans rfl,(Yc Xs.out 1).trans rfl,(Yc Xs.out 2).trans rfl⟩ (fun hHeld=> ?_);refine with_tabW ebbtideref09_Best.tab2 ebbtideref09_Best.bits2 (fun HT_ HW_=> ?_);generalize wr.drew=w15 at HO_7 Xs HB hHeld ⊢;refine pu 1 16 (bm 12 2) ?_;refine pu 2 17 (bm 12 6) ?_;refine pu 4 19 (bm 12 22) ?_;refine ta 0 15 (bm 12 23) hHeld ?_;refine ta 3 18 (bm 12 31) hHeld ?_;refine on 5 (some 20) (bm 12 63) fun K hK=> ?_
   refine gs Try.func41 #[.agg #[.int .i64 Zc, .bool Zb, .slice Ze Za.length Zd], .slice Ao16 Xc.length co16] ?_
   with_reducible refine(ebbtideref07_Steps.calls k1 Zc Zb _ _ Za _ _ Xc t688 _ ?side1 ?side2 ?side3 ?side4 A10.out).mono ?_
   (case side1=>exact(Yt Zj.out HB.out))
   (case side2=>exact Zs.out)
   (case side3=>exact(Kd.R_reads' HO_7.out).2.2)
   (case side4=>exact(Kd.R_reads' HO_7.out).2.1)
   rintro e w17 ⟨v689,rfl,ho0,hb⟩;refine⟨_,rfl,?_⟩;replace HO_7:=Ya (Ys HO_7.out hb);have HO690:=Ya (Kd.R_lower ho0 (Yi HB.out));replace Xs:=Ya (Yn Xs.out hb);replace HB:=Ya (Yk HB.out hb)
   (try clear hb)
   (try clear hb2)
   (try clear hk)
   (try clear hi)
   (try clear ho0)
   obtain⟨Ao18,co18,eo18⟩:=Kd.R_slice HO690.out
   (first|subst eo18|(injection eo18 with f1_ f2_ f3_;have f4_:=f1_.symm;have f5_:=f3_.symm;clear f1_ f2_ f3_;subst f4_;subst f5_))
   refine hK.out _ _ ⟨bc Xs 0,bc Xs 1,bc Xs 2⟩ (fun hHeld=> ?_);clear hK K;refine nm ?_;refine on 6 (some 21) (bm 12 127) fun K hK=> ?_
   refine gs Try.func54 #[.agg #[.int .i64 Zc, .bool Zb, .slice Ze Za.length Zd], .int .i64 a1, .int .i64 a2, .slice Ao18 t688.length co18] ?_
   with_reducible refine(ebbtideref08_Way.calls Zc Zb _ _ Za a1 a2 _ _ t688 t691 true _ ?side1 ?side2 ?side3 ?side4 A11.out).mono ?_
   (case side1=>exact(Yt Zj.out HB.out))
   (case side2=>exact Zs.out)
   (case side3=>exact(Kd.R_reads' HO690.out).2.2)
   (case side4=>exact(Kd.R_reads' HO690.out).2.1)
   rintro e w19 ⟨v692,rfl,ho0,hb⟩;refine⟨_,rfl,?_⟩;replace HO_7:=Ya (Ys HO_7.out hb);have HO693:=Ya (Kd.R_lower (Kd.R_new' ho0 (Kd.R_lt HO690.out)) (Yi HB.out));replace HO690:=Ya (Kd.R_elder' HO690.out (Kd.R_base ho0) hb);replace Xs:=Ya (Yn Xs.out hb);replace HB:=Ya (Yk HB.out hb)
   (try clear hb)
   (try clear hb2)
   (try clear hk)
   (try clear hi)
   (try clear ho0)
   refine hK.out _ _ ⟨bc Xs 0,bc Xs 1,bc Xs 2⟩ (fun hHeld=> ?_);clear hK K;refine nm ?_;refine pu 7 14 (bm 12 255) ?_;refine pu 8 22 (bm 12 511) ?_;refine pu 9 23 (bm 12 1023) ?_;refine pu 10 8 (bm 12 2047) ?_;refine pu 11 9 (bm 12 4095) ?_;refine done_ (done_of HT_.out (by kernel_rfl)) ?_;have hcz20_0:w19.cell? ⟨gb684,0,none⟩=some (.int .i64 Zc):=bc Xs 0;have hcz20_1:w19.cell? ⟨gb684,1,none⟩=some (.bool Zb):=bc Xs 1;have hcz20_2:w19.cell? ⟨gb684,2,none⟩=some (.slice Ze Za.length Zd):=bc Xs 2;have hfz20_0:=Yf Xs.out 0;have hfz20_1:=Yf Xs.out 1;have hfz20_2:=Yf Xs.out 2;obtain⟨Ao21,co21,eo21⟩:=Kd.R_slice HO693.out;subst eo21;try go_wp2_with (first|((with_reducible refine gate_callee (f:=60) rfl ?_);refine gl (some 32) Try.func60 #[.agg #[.int .i64 Zc, .bool Zb, .slice Ze Za.length Zd], .slice Ao16 Xc.length co16, .slice Ao21 t691.length co21] ?_;(with_reducible refine(ebbtideref08_Bottle.calls k1 Zc Zb _ _ Za _ _ Xc _ _ t691 t695 _ ?side1 ?side2 ?side3 ?side4 ?side5 ?side6 A13.out).mono ?_);(case side1=>exact kC (Yt Zj.out HB.out));(case side2=>exact Zs.out);(case side3=>exact kC (Kd.R_reads' HO_7.out).2.2);(case side4=>exact(Kd.R_reads' HO_7.out).2.1);(case side5=>exact kC (Kd.R_reads' HO693.out).2.2);(case side6=>exact(Kd.R_reads' HO693.out).2.1);rintro e w22 ⟨rfl,hb⟩;refine⟨_,rfl,?_⟩;replace HO_7:=Ya (Ys (kR HO_7) hb);replace HO690:=Ya (Ys (kR HO690) hb);replace HO693:=Ya (Ys (kR HO693) hb);replace Xs:=Ya (Yn (bk Xs) hb);replace HB:=Ya (Yk bl hb);(try clear hb))|((with_reducible refine gate_callee (f:=59) rfl ?_);refine gl (some 33) Try.func59 #[.slice Ao16 Xc.length co16, .slice Ao21 t691.length co21, .int .i64 t695] ?_;(with_reducible refine(ebbtideref07_Pushed.calls k1 _ _ Xc _ _ t691 t695 t696 _ ?side1 ?side2 ?side3 ?side4 A14.out).mono ?_);(case side1=>exact kC (Kd.R_reads' HO_7.out).2.2);(case side2=>exact(Kd.R_reads' HO_7.out).2.1);(case side3=>exact kC (Kd.R_reads' HO693.out).2.2);(case side4=>exact(Kd.R_reads' HO693.out).2.1);rintro e w23 ⟨v697,rfl,ho0,hb⟩;refine⟨_,rfl,?_⟩;replace HO690:=Ya (Ys (kR HO690) hb);replace HO693:=Ya (Ys (kR HO693) hb);have HO698:=Ya (Kd.R_lower (Kd.R_new' ho0 (Kd.R_lt (kR HO_7))) (Yi bl));replace HO_7:=Ya (Kd.R_elder' (kR HO_7) (Kd.R_base ho0) hb);replace Xs:=Ya (Yn (bk Xs) hb);replace HB:=Ya (Yk bl hb);(try clear hb);(try clear hb2);(try clear hk);(try clear hi);(try clear ho0)))
   go_roundg k1
   case measure=>have:=HK1.out;omega
   case rel=>exact⟨(t696),H',⟨by have:=HK1.out;omega⟩,⟨by(with_reducible repeat(first|apply Yr|apply Yq|apply Yp));exact Kd.R_mono HO698.out (fun _ hk=>trivial)⟩,⟨Xs.out⟩,⟨HB.out⟩⟩
end P
namespace Q
open P
open H (endsErr Right right_of StepOf stRoom IsFlow MaxF leastR pushW bfP nodes wayP stepsR steps_ev netG dOf frP toP)
theorem pushed_l0 {l:List S50} {n:Nat} {c:Int} (h0:0≤c) {W:List S79} (hl:W.length≤1000000) (d:Nat): ∀ (i:Nat) (X:List Int),i+d=W.length→Right l X n→(∀ s,s∈W.drop i→StepOf l s∧c≤stRoom l X s)→(W.drop i).Pairwise (fun a b=>a.f0≠b.f0)→
  Ev (fun k=>ebbtideref07_Pushed.l0 k W c X (i:Int)) (pushW X c (W.drop i)):=by
 induction d with
 |zero=>
  intro i X hi _ _ _;refine Ev.succ ?_;simp only[ebbtideref07_Pushed.l0];refine Ev.neg (by omega) ?_;exact Ev.done (by rw[List.drop_of_length_le (by omega)];rfl)
 |succ d ih=>
  intro i X hi hr hst hp;have hd:=drop_getD W i z79 (by omega);obtain⟨e,hee⟩: ∃ e,e=W.getD i z79:=⟨_,rfl⟩;rw[← hee] at hd;rw[hd] at hst hp ⊢;rw[List.pairwise_cons] at hp;obtain⟨hso,hrm⟩:=hst e List.mem_cons_self;have hgo:=hr.go hso h0 hrm;have hXl:=hr.len;have hnx:=ih (i+1) (H.goS X e c) (by omega) hgo (fun x hx=>by
   have hx2:=hst x (List.mem_cons_of_mem _ hx);exact⟨hx2.1,by rw[H.room_other hso hx2.1 c (hp.1 x hx)];exact hx2.2⟩) hp.2
  obtain⟨j,hj,hje⟩:=hso;have hgn:=hgo.nums j hj;have hin:=hr.nums j hj;have hroom:=H.stRoom_in hr ⟨j,hj,hje⟩;refine Ev.succ ?_;simp only[ebbtideref07_Pushed.l0];refine Ev.pos (by omega) ?_;refine Ev.pos (by omega) ?_;rw[rdStep_nat, ← hee];have e1:rd X e.f0=X.getD j 0:=by rw[hje,rd_nat]
  have e2:X.getD e.f0.toNat 0=X.getD j 0:=by rw[hje,Int.toNat_natCast]
  rw[wrap_succ (n:=W.length) (by omega) (by omega)];unfold stRoom at hrm;unfold H.goS at hnx;refine Ev.ite (fun g=> ?_) (fun g=> ?_)
  ·rw[Yx g] at hrm hnx
   refine Ev.pos (by omega) ?_;refine Ev.pos (by omega) ?_;rw[e1,wrap_id (by omega) (by omega), ← e2];show Ev _ (pushW (H.goS X e c) c (W.drop (i+1)));unfold H.goS;rw[Yx g];exact hnx
  ·rw[Yy g] at hrm hnx
   have hf2:=hin.2.2.2.2;rw[hje] at hrm;rw[Int.toNat_natCast] at hrm;refine Ev.pos (by omega) ?_;refine Ev.pos (by omega) ?_;rw[e1,wrap_id (by omega) (by omega), ← e2];show Ev _ (pushW (H.goS X e c) c (W.drop (i+1)));unfold H.goS;rw[Yy g];exact hnx
theorem pushed_ev {l:List S50} {F:List Int} {n:Nat} (hr:Right l F n) {c:Int} (h0:0≤c) {W:List S79} (hl:W.length≤1000000) (hst: ∀ s,s∈W→StepOf l s∧c≤stRoom l F s) (hp:W.Pairwise (fun a b=>a.f0≠b.f0)):
  Ev (fun k=>ebbtideref07_Pushed.f k F W c) (pushW F c W):=by
 have hF:=hr.len;have har:=hr.arcs;unfold ebbtideref07_Pushed.f;refine Ev.pos (by simp;omega) ?_;rw[List.nil_append];exact pushed_l0 h0 hl W.length 0 F (by omega) hr hst hp
theorem wayP_len50 {l:List S50} {F:List Int} {n:Nat} (hr:Right l F n) {s:Nat} (hs:s<n) {t:Nat} (h:t∈nodes (bfP l F n s)):(wayP l F n s t).length≤50:=by
 obtain⟨x,hx,rfl⟩:=List.mem_map.1 h;have hu:=(H.bfP_upto hr hs).fds;have h3:=H.lv_lt hu hx;have h4:=H.fds_len hu (H.esP_to hr) hs;have h5:=hr.fifty;unfold wayP;rw[Yx h];unfold H.wayL;rw[List.length_reverse,(H.backL_spec hu H.esP_fr _ hx (Nat.le_of_lt h3)).1];omega
theorem best_l0 {l:List S50} {n s t:Nat} (b:Bool) (hs:s<n) (ht:t<n) (hst:s≠t) (d:Nat): ∀ F:List Int,IsFlow l F n s t→209715200 - bal l F s<d→
  ∃ G,MaxF l G n s t∧Ev (fun k=>ebbtideref09_Best.l0 k (s:Int) (t:Int) F (n:Int) b l) G:=by
 induction d with
 |zero=>intro F hf hd;have:=H.flow_top hf hs hst;omega
 |succ d ih=>
  intro F hf hd;have hr:=hf.right;by_cases hm:t∈nodes (bfP l F n s)
  ·obtain⟨hL,ha⟩:=wayP_fact hr hs hm
   obtain⟨g1,g2,g3,g4,g5,g6,g7⟩:=H.push_found hf hr hs hst hL ha;obtain⟨G,q1,q2⟩:=ih _ g1 (by omega);refine⟨G,q1,?_⟩;have h50:=wayP_len50 hr hs hm;refine Ev.succ ?_;simp only[ebbtideref09_Best.l0];refine Ev.bind (steps_ev hr _ b) ?_;refine Ev.call (way_ref_eq hr hs b t) ?_;refine Ev.pos (Yv hm) ?_;refine Ev.bind (bottle_ev hr b _ g6 (by show (wayP l F n s t).length≤1000000;omega) g3) ?_;refine Ev.bind (pushed_ev hr (c:=leastR l F (wayP l F n s t)) (by omega) (by show (wayP l F n s t).length≤1000000;omega) (fun e he=>⟨g6 e he,H.leastR_le he⟩) g5) ?_;exact q2
  ·refine⟨F,⟨hf,hm⟩,?_⟩
   refine Ev.succ ?_;simp only[ebbtideref09_Best.l0];refine Ev.bind (steps_ev hr _ b) ?_;refine Ev.call (way_ref_eq hr hs b t) ?_;refine Ev.neg (by simpa using hm) ?_;exact Ev.now _
theorem best_ev {l:List S50} {n s t:Nat} (b:Bool) (hr:Right l (List.replicate l.length 0) n) (hs:s<n) (ht:t<n) (hst:s≠t): ∃ G,MaxF l G n s t∧Ev (fun k=>ebbtideref09_Best.f k (n:Int) b l (s:Int) (t:Int)) G:=by
 obtain⟨h1,h2⟩:=H.zeros_of (s:=s) (t:=t) hr;obtain⟨G,g1,g2⟩:=best_l0 b hs ht hst 300000000 _ h1 (by omega);refine⟨G,g1,?_⟩;have har:=hr.arcs;unfold ebbtideref09_Best.f;refine Ev.pos (by omega) ?_;refine Ev.pos (by omega) ?_;rw[Int.toNat_natCast];exact g2
end Q
namespace H
structure Two where
 a:Nat
 b:Nat
 t:Int
 f:Int
 g:Int
end H
namespace H
open Go.RowKit Go.Proofs.YtoedkglggapggaaW.PrintWords Go.Proofs.YtoedkglggapggaaW.PrintLast Go.Proofs.YtoedkglggapggaaW.PrintMore P
def startR (n s:Nat):Rch:=⟨List.replicate n 0,(List.replicate n false).set s true,List.replicate n z79,false⟩
theorem startR_ok (n s:Nat):(startR n s).Ok n:=⟨by simp[startR],by simp[startR],by simp[startR]⟩
end H
namespace H
open P Q
theorem stTo_lt {l:List S50} {F:List Int} {n:Nat} (hr:Right l F n): ∀ (v:Nat) (s:S79),s∈stL l v l.length→(stTo l s).toNat<n:=by
 intro v s hs;have:=stTo_in hr (stL_of hs);omega
theorem start_abs (n s:Nat) (hs:s<n) (v:Nat):absR (startR n s) v=if v=s then some 0 else none:=by
 unfold absR startR;simp only;by_cases e:v=s
 ·subst e
  rw[getD_set_eq _ _ _ _ (by rw[List.length_replicate];exact hs),Yx rfl,Yx rfl,List.getD_eq_getElem?_getD,List.getElem?_replicate,Yx hs];rfl
 ·rw[getD_set_ne _ _ _ _ _ (Ne.symm e),Yy e,List.getD_eq_getElem?_getD,List.getElem?_replicate]
  split<;>simp
end H
namespace H
open P Q
structure Par (l:List S50) (F:List Int) (n s:Nat) (x:Rch) (rk:Nat→Nat) (T:Nat):Prop where
 lt: ∀ v,rk v<T
 is_: ∀ v,v<n→x.I.getD v false=true→v≠s→StepOf l (x.B.getD v z79)∧0<stRoom l F (x.B.getD v z79)∧toP l (x.B.getD v z79)=v∧x.I.getD (frP l (x.B.getD v z79)) false=true∧
  (x.D.getD (frP l (x.B.getD v z79)) 0+stTime l (x.B.getD v z79)<x.D.getD v 0∨(x.D.getD v 0=x.D.getD (frP l (x.B.getD v z79)) 0+stTime l (x.B.getD v z79)∧rk (frP l (x.B.getD v z79))<rk v))
theorem getD_set_if {β:Type} (L:List β) (i j:Nat) (x d:β) (h:i<L.length):(L.set i x).getD j d=if j=i then x else L.getD j d:=by
 by_cases e:j=i
 ·subst e;rw[Yx rfl,getD_set_eq _ _ _ _ h]
 ·rw[Yy e,getD_set_ne _ _ _ _ _ (Ne.symm e)]
theorem par_vis {l:List S50} {F:List Int} {n s v:Nat} {x:Rch} {rk:Nat→Nat} {T:Nat} (h:Par l F n s x rk T) (hk:x.Ok n) (hI:x.I.getD v false=true) {e:S79} (he:e∈stL l v l.length) (hw:toP l e<n):
  ∃ rk' T',Par l F n s (visR l F v x e) rk' T':=by
 unfold visR;by_cases hc:visC l F v x e=true
 ·rw[Yx hc]
  unfold visC at hc;rw[Bool.and_eq_true,decide_eq_true_eq] at hc;obtain⟨hroom,hcond⟩:=hc;have hfr:frP l e=v:=frP_of he;obtain⟨w,hwd⟩: ∃ w,w=toP l e:=⟨_,rfl⟩;have hwt:(stTo l e).toNat=w:=by rw[hwd];rfl
  rw[hwt] at hcond ⊢;rw[← hwd] at hw;have hwD:w<x.D.length:=by rw[hk.hD];exact hw
  have hwI:w<x.I.length:=by rw[hk.hI];exact hw
  have hwB:w<x.B.length:=by rw[hk.hB];exact hw
  have hless:x.I.getD w false=true→x.D.getD v 0+stTime l e<x.D.getD w 0:=by
   intro hi;rw[hi] at hcond
   simpa using hcond
  refine⟨fun u=>if u=w then T else rk u,T+1,⟨fun u=> ?_,fun u hu hIu hne=> ?_⟩⟩
  ·show (if u=w then T else rk u)<T+1
   split
   ·omega
   ·have:=h.lt u;omega
  ·simp only[getD_set_if _ _ _ _ _ hwB,getD_set_if _ _ _ _ _ hwD,getD_set_if _ _ _ _ _ hwI] at hIu ⊢
   by_cases huw:u=w
   ·subst huw
    simp only[if_true];rw[hfr];refine⟨stL_of he,hroom,hwd.symm,?_,?_⟩
    ·by_cases hvw:v=u
     ·rw[Yx hvw]
     ·rw[Yy hvw];exact hI
    ·by_cases hvw:v=u
     ·subst hvw
      left;simp only[if_true];have:=hless hI;omega
     ·right
      simp only[Yy hvw];exact⟨trivial,h.lt v⟩
   ·simp only[Yy huw] at hIu ⊢
    obtain⟨g1,g2,g3,g4,g5⟩:=h.is_ u hu hIu hne;refine⟨g1,g2,g3,?_,?_⟩
    ·split
     ·rfl
     ·exact g4
    ·by_cases hfw:frP l (x.B.getD u z79)=w
     ·left
      rw[Yx hfw];rw[hfw] at g4 g5;have:=hless g4;rcases g5 with g5|⟨g5,_⟩<;>omega
     ·rw[Yy hfw]
      rcases g5 with g5|⟨g5,g6⟩
      ·exact .inl g5
      ·exact .inr ⟨g5,by rw[Yy hfw];exact g6⟩
 ·rw[Yy hc];exact⟨rk,T,h⟩
theorem visR_keeps {l:List S50} {F:List Int} {n v:Nat} {x:Rch} (hk:x.Ok n) (e:S79) (hw:toP l e<n) {u:Nat} (hI:x.I.getD u false=true):(visR l F v x e).I.getD u false=true:=by
 unfold visR;split
 ·show (x.I.set (toP l e) true).getD u false=true
  rw[getD_set_if _ _ _ _ _ (by rw[hk.hI];exact hw)];split
  ·rfl
  ·exact hI
 ·exact hI
theorem par_fold {l:List S50} {F:List Int} {n s v:Nat} (r:List S79): ∀ {x:Rch} {rk:Nat→Nat} {T:Nat},(∀ e,e∈r→e∈stL l v l.length∧toP l e<n)→Par l F n s x rk T→x.Ok n→x.I.getD v false=true→
  ∃ rk' T',Par l F n s (r.foldl (visR l F v) x) rk' T':=by
 induction r with
 |nil=>intro x rk T _ h _ _;exact⟨rk,T,h⟩
 |cons e r ih=>
  intro x rk T hr h hk hI;obtain⟨h1,h2⟩:=hr e List.mem_cons_self;obtain⟨rk',T',h3⟩:=par_vis h hk hI h1 h2;exact ih (fun e he=>hr e (List.mem_cons_of_mem _ he)) h3 (visR_ok hk e) (visR_keeps hk e h2 hI)
theorem par_row {l:List S50} {F:List Int} {n s v:Nat} {x:Rch} {rk:Nat→Nat} {T:Nat} (hw: ∀ e,e∈stL l v l.length→toP l e<n) (h:Par l F n s x rk T) (hk:x.Ok n): ∃ rk' T',Par l F n s (rowR l F x v) rk' T':=by
 unfold rowR;by_cases hI:x.I.getD v false=true
 ·rw[Yx hI];exact par_fold _ (fun e he=>⟨he,hw e he⟩) h hk hI
 ·rw[Yy hI];exact⟨rk,T,h⟩
theorem par_rows {l:List S50} {F:List Int} {n s:Nat} (hw: ∀ (v:Nat) (e:S79),e∈stL l v l.length→toP l e<n) (vs:List Nat): ∀ {x:Rch} {rk:Nat→Nat} {T:Nat},Par l F n s x rk T→x.Ok n→ ∃ rk' T',Par l F n s (vs.foldl (rowR l F) x) rk' T':=by
 induction vs with
 |nil=>intro x rk T h _;exact⟨rk,T,h⟩
 |cons v vs ih=>
  intro x rk T h hk;obtain⟨rk',T',h1⟩:=par_row (hw v) h hk;exact ih h1 (rowR_ok hk)
theorem par_round {l:List S50} {F:List Int} {n s:Nat} (hw: ∀ (v:Nat) (e:S79),e∈stL l v l.length→toP l e<n) {x:Rch} {rk:Nat→Nat} {T:Nat} (h:Par l F n s x rk T) (hk:x.Ok n): ∃ rk' T',Par l F n s (roundR l F n x) rk' T':=
 par_rows hw _ (x:= { x with still:=true }) ⟨h.lt,h.is_⟩ ⟨hk.hD,hk.hI,hk.hB⟩
theorem par_goes {l:List S50} {F:List Int} {n s:Nat} (hr:Right l F n) (k:Nat): ∀ {x:Rch} {rk:Nat→Nat} {T:Nat},Par l F n s x rk T→x.Ok n→ ∃ rk' T',Par l F n s (goesR l F n k x).1 rk' T':=by
 have hw: ∀ v e,e∈stL l (v:Nat) l.length→toP l e<n:=fun v e he=>toP_lt hr (stL_of he)
 induction k with
 |zero=>intro x rk T h _;exact⟨rk,T,h⟩
 |succ k ih=>
  intro x rk T h hk;obtain⟨rk',T',h1⟩:=par_round hw h hk;have hk1:=(roundR_abs (F:=F) (stTo_lt hr) hk).1;unfold goesR;split
  ·exact⟨rk',T',h1⟩
  ·exact ih h1 hk1
theorem startR_I {n s v:Nat} (hs:s<n):(startR n s).I.getD v false=decide (v=s):=by
 have h:=start_abs n s hs v;unfold absR at h;by_cases e:v=s
 ·rw[Yx e] at h
  rw[Yv e];cases hI:(startR n s).I.getD v false with
  |true=>rfl
  |false=>rw[hI] at h;cases h
 ·rw[Yy e] at h
  rw[Yw e];cases hI:(startR n s).I.getD v false with
  |false=>rfl
  |true=>rw[hI,Yx rfl] at h;cases h
theorem par_start (l:List S50) (F:List Int) {n s:Nat} (hs:s<n):Par l F n s (startR n s) (fun _=>0) 1:=
 ⟨fun _=>Nat.lt_succ_self _,fun v hv hI hne=>by rw[startR_I hs,decide_eq_true_eq] at hI;exact absurd hI hne⟩
def reachS (l:List S50) (F:List Int) (n s:Nat):Rch:=(goesR l F n (n+1) (startR n s)).1
structure ByOk (l:List S50) (F:List Int) (n s:Nat) (x:Rch) (rk:Nat→Nat):Prop where
 is_: ∀ v,v<n→x.I.getD v false=true→v≠s→StepOf l (x.B.getD v z79)∧0<stRoom l F (x.B.getD v z79)∧toP l (x.B.getD v z79)=v∧x.I.getD (frP l (x.B.getD v z79)) false=true∧x.D.getD v 0=x.D.getD (frP l (x.B.getD v z79)) 0+stTime l (x.B.getD v z79)∧rk (frP l (x.B.getD v z79))<rk v
theorem by_ok {l:List S50} {F:List Int} {n s:Nat} (hr:Right l F n) (hs:s<n) (h2:(goesR l F n (n+1) (startR n s)).2=true): ∃ rk,ByOk l F n s (reachS l F n s) rk:=by
 obtain⟨rk,T,h⟩:=par_goes hr (n+1) (par_start l F hs) (startR_ok n s);obtain⟨_,_,g3,_⟩:=goesR_spec (F:=F) (stTo_lt hr) (n+1) (startR_ok n s);have hq:=g3 h2;refine⟨rk,⟨fun v hv hI hne=> ?_⟩⟩;have h:Par l F n s (reachS l F n s) rk T:=h;obtain⟨a1,a2,a3,a4,a5⟩:=h.is_ v hv hI hne;have hfl:=frP_lt hr a1;have hmem:=(mem_esP.1 (esP_of hr a1 a2)).1;have he:edgeS l (frP l ((reachS l F n s).B.getD v z79)) ((reachS l F n s).B.getD v z79)∈liveE l F n:=by
  unfold liveE;refine List.mem_flatMap.2 ⟨_,List.mem_range.2 hfl,?_⟩;unfold liveS;exact List.mem_map.2 ⟨_,List.mem_filter.2 ⟨hmem,Yv a2⟩,rfl⟩
 have ht:=hq _ he;have hx:absR (reachS l F n s) (frP l ((reachS l F n s).B.getD v z79))=some ((reachS l F n s).D.getD (frP l ((reachS l F n s).B.getD v z79)) 0):=by unfold absR;rw[Yx a4]
 obtain⟨y,hy,hle⟩:=trig_off ht hx;have hv2:absR (reachS l F n s) v=some ((reachS l F n s).D.getD v 0):=by unfold absR;rw[Yx hI]
 have hy2:absR (reachS l F n s) (toP l ((reachS l F n s).B.getD v z79))=some y:=hy;rw[show toP l ((reachS l F n s).B.getD v z79)=v from a3,hv2] at hy2;injection hy2 with hy2
 have hle:y≤(reachS l F n s).D.getD (frP l ((reachS l F n s).B.getD v z79)) 0+stTime l ((reachS l F n s).B.getD v z79):=hle;refine⟨a1,a2,a3,a4,?_,?_⟩
 ·rcases a5 with a5|⟨a5,_⟩
  ·have a5:(reachS l F n s).D.getD (frP l ((reachS l F n s).B.getD v z79)) 0+stTime l ((reachS l F n s).B.getD v z79)<(reachS l F n s).D.getD v 0:=a5
   omega
  ·exact a5
 ·rcases a5 with a5|⟨_,a6⟩
  ·have a5:(reachS l F n s).D.getD (frP l ((reachS l F n s).B.getD v z79)) 0+stTime l ((reachS l F n s).B.getD v z79)<(reachS l F n s).D.getD v 0:=a5
   omega
  ·exact a6
end H
namespace H
open P Q
def nearS (l:List S50) (F:List Int) (n s t:Nat) (H:Int):Prop:=(reachS l F n s).I.getD t false=true∧(reachS l F n s).D.getD t 0≤H
instance (l:List S50) (F:List Int) (n s t:Nat) (H:Int):Decidable (nearS l F n s t H):=by unfold nearS;exact inferInstance
end H
namespace Q
open P
open H (endsErr Right right_of IsFlow)
theorem balance_l0 (n:Int) (l:List S50) (f:List Int) (hn:NetOk n l) (hf:FlowOk l f) (d:Nat): ∀ (i:Nat) (x:List Int),i+d=l.length→x.length=n.toNat→(∀ v:Nat,v<x.length→ -(i * 2097152)≤rd x v∧rd x v≤i * 2097152)→
  ∃ r,Ev (fun k=>static_Balance.l0 k f x l (l.length:Int) (i:Int)) (r,0)∧r.length=x.length∧ ∀ v:Nat,v<x.length→rd r v=rd x v+bal (l.drop i) (f.drop i) v:=by
 have hlen:=hf.len;have hl:=hn.len
 induction d with
 |zero=>
  intro i x hi hx hb;refine⟨x,?_,rfl,fun v hv=> ?_⟩
  ·refine Ev.succ ?_;simp only[static_Balance.l0]
   repeat(first|exact Ev.now _|with_reducible refine Ev.pos (by first|assumption|omega) ?_|with_reducible refine Ev.neg (by first|assumption|omega) ?_|with_reducible refine Ev.let_ ?_)
  ·rw[List.drop_of_length_le (by omega)]
   simp[bal]
 |succ d ih=>
  intro i x hi hx hb;have ha:=hn.at_ (i:=(i:Int)) (by omega) (by omega);have hs:=hf.small hn (i:=(i:Int)) (by omega) (by omega);have h1:=ha.f0;have h2:=ha.f1;have h3:=ha.h0;have h4:=ha.h1;have hb1:=hb (rd_T50 l (i:Int)).f0.toNat (by omega);have e1:(((rd_T50 l (i:Int)).f0.toNat:Nat):Int)=(rd_T50 l (i:Int)).f0:=by omega
  have e2:(((rd_T50 l (i:Int)).f1.toNat:Nat):Int)=(rd_T50 l (i:Int)).f1:=by omega
  rw[e1] at hb1;have hb2:=hb (rd_T50 l (i:Int)).f1.toNat (by omega);rw[e2] at hb2;obtain⟨r,hr,hrl,hrv⟩:=ih (i+1) ((x.set (rd_T50 l (i:Int)).f0.toNat (wrap64 (rd x (rd_T50 l (i:Int)).f0+rd f (i:Int)))).set (rd_T50 l (i:Int)).f1.toNat
    (wrap64 (rd (x.set (rd_T50 l (i:Int)).f0.toNat (wrap64 (rd x (rd_T50 l (i:Int)).f0+rd f (i:Int)))) (rd_T50 l (i:Int)).f1 - rd f (i:Int)))) (by omega) (by simpa using hx) (by
   intro v hv;have hv':v<x.length:=by simpa using hv
   have hbv:=hb v hv';rw[rd_set _ _ _ _ h2 (by simp;omega) (by omega),rd_set _ _ _ _ h1 (by omega) h2,rd_set _ _ _ _ h1 (by omega) (by omega)];have w1:wrap64 (rd x (rd_T50 l (i:Int)).f0+rd f (i:Int))=rd x (rd_T50 l (i:Int)).f0+rd f (i:Int):=wrap_id (by omega) (by omega);rw[w1];split
   ·split
    ·rename_i h5 h6
     rw[wrap_id (by omega) (by omega)];omega
    ·rename_i h5 h6
     rw[wrap_id (by omega) (by omega)];omega
   ·split
    ·omega
    ·omega)
  refine⟨r,?_,by simpa using hrl,fun v hv=> ?_⟩
  ·refine Ev.succ ?_;simp only[static_Balance.l0]
   repeat(first|exact Ev.now _|with_reducible refine Ev.pos (by first|assumption|omega) ?_|with_reducible refine Ev.neg (by first|assumption|omega) ?_|with_reducible refine Ev.let_ ?_)
   rw[wrap_succ (n:=l.length) (by omega) (by omega)];exact hr
  ·rw[hrv v (by simpa using hv),rd_set _ _ _ _ h2 (by simp;omega) (by omega),rd_set _ _ _ _ h1 (by omega) h2,rd_set _ _ _ _ h1 (by omega) (by omega)]
   have w1:wrap64 (rd x (rd_T50 l (i:Int)).f0+rd f (i:Int))=rd x (rd_T50 l (i:Int)).f0+rd f (i:Int):=wrap_id (by omega) (by omega);rw[w1,drop_getD l i z50 (by omega),drop_getD f i 0 (by omega), ← rdArc_nat, ← rd_nat,bal_cons];by_cases h5:(rd_T50 l (i:Int)).f1=(v:Int)
   ·rw[Yx h5,Yx h5]
    by_cases h6:(rd_T50 l (i:Int)).f0=(v:Int)
    ·rw[Yx (by omega),Yx h6,wrap_id (by omega) (by omega),h6]
     omega
    ·rw[Yy (by omega),Yy h6,wrap_id (by omega) (by omega),h5]
     omega
   ·rw[Yy h5,Yy h5]
    by_cases h6:(rd_T50 l (i:Int)).f0=(v:Int)
    ·rw[Yx h6,Yx h6,h6]
     omega
    ·rw[Yy h6,Yy h6]
     omega
theorem rd_zeros (m:Nat) (v:Int):rd (List.replicate m 0) v=0:=by
 unfold rd;rw[List.getD_eq_getElem?_getD,List.getElem?_replicate];split<;>rfl
theorem balance_ev (n:Int) (b:Bool) (l:List S50) (f:List Int):Ev (fun k=>static_Balance.f k n b l f) (balRes n l f):=by
 unfold static_Balance.f balRes;refine Ev.bind (asked_ev n b l f) ?_;refine Ev.ite (fun h=> ?_) (fun h=> ?_)
 ·rw[Yx h]
  obtain⟨hn,hf⟩:=askErr_ok h;have:=hn.lo;have:=hn.hi;repeat(first|exact Ev.now _|with_reducible refine Ev.pos (by first|assumption|omega) ?_|with_reducible refine Ev.neg (by first|assumption|omega) ?_|with_reducible refine Ev.let_ ?_)
  obtain⟨r,hr,hrl,hrv⟩:=balance_l0 n l f hn hf l.length 0 (List.replicate n.toNat 0) (by omega) (by simp) (fun v hv=>by rw[rd_zeros];omega);refine Ev.eq hr ?_;rw[List.length_replicate] at hrl hrv;congr 1;refine ext_rd (by rw[hrl,balOf_len]) fun v hv=> ?_
  rw[hrv v (by omega),rd_zeros,rd_balOf (by omega) (by omega),List.drop_zero,List.drop_zero];omega
 ·rw[Yy h]
  exact Ev.now _
theorem check2_l0 (s t:Int) (b:List Int) (hb:b.length≤50) (hs:0≤s) (hsn:s<b.length) (d:Nat): ∀ i:Nat,i+d=b.length→
  Ev (fun k=>static_Check.l0 k s t b b (b.length:Int) (i:Int)) (if evenB s t (b.drop i) i=true then(rd b s,0) else(0,71)):=by
 induction d with
 |zero=>
  intro i hi;refine Ev.succ ?_;simp only[static_Check.l0];repeat(first|exact Ev.now _|with_reducible refine Ev.pos (by first|assumption|omega) ?_|with_reducible refine Ev.neg (by first|assumption|omega) ?_|with_reducible refine Ev.let_ ?_)
  rw[List.drop_of_length_le (by omega)];exact Ev.now _
 |succ d ih=>
  intro i hi;refine Ev.succ ?_;simp only[static_Check.l0];repeat(first|exact Ev.now _|with_reducible refine Ev.pos (by first|assumption|omega) ?_|with_reducible refine Ev.neg (by first|assumption|omega) ?_|with_reducible refine Ev.let_ ?_)
  rw[drop_getD b i 0 (by omega),rd_nat,wrap_succ (n:=b.length) (by omega) (by omega)];unfold evenB;have:=ih (i+1) (by omega);rw[show ((i+1:Nat):Int)=(i:Int)+1 by omega] at this ⊢;refine Ev.ite (fun g=> ?_) (fun g=> ?_)
  ·rw[Yx g,ite_self,ite_self];exact this
  refine Ev.ite (fun g2=> ?_) (fun g2=> ?_)
  ·rw[Yx g2];exact this
  rw[Yy g2];refine Ev.ite (fun g3=> ?_) (fun g3=> ?_)
  ·rw[Yx g3];exact this
  rw[Yy g3,Yy g];exact Ev.now _
theorem stat_value_ev (n:Int) (b:Bool) (l:List S50) (s t:Int) (f:List Int):Ev (fun k=>static_Check.f k n b l s t f) (valRes n l s t f):=by
 unfold static_Check.f valRes;refine Ev.bind (ends_ev n b l s t) ?_;refine Ev.ite (fun h=> ?_) (fun h=> ?_)
 ·rw[Yx h]
  obtain⟨hn,he1,he2,he3,he4,he5⟩:=endsE_ok h;have:=hn.lo;have:=hn.hi;refine Ev.bind (balance_ev n b l f) ?_;by_cases g:askErr n l f=0
  ·rw[Yx g,balRes_ok g]
   refine Ev.pos rfl ?_;refine Ev.eq (check2_l0 s t (balOf n l f) (by rw[balOf_len];omega) (by omega) (by rw[balOf_len];omega) _ 0 (Nat.zero_add _)) ?_;rw[rd_balOf (by omega) (by omega),List.drop_zero];rfl
  ·rw[Yy g,balRes_no g]
   exact Ev.neg g (Ev.now _)
 ·rw[Yy h]
  exact Ev.now _
end Q
namespace H
open P
open Q (valRes stat_value_ev)
def ChR (n0:Nat) (Zb:Bool) (l:List S50) (gx gz gA:Nat) (A:Option Addr) (cA base s t:Nat) (R:List S47) (w:World) (v8:Value) (w':World) (k:Nat):Prop:=
 ∃ (G:List Int) (O:List S47),Right l G n0∧posN G<k∧O.length+posN G≤200∧O ++ (chF l n0 s t k G).1=R∧Kd.S k47 47 w' w.heap.size (fun k=>w.heap.size≤k) v8 O∧Sp n0 Zb l gx gz gA A cA base G w'∧Ks (fun b=>b=gA) w w'
set_option maxHeartbeats 20000000 in
set_option maxRecDepth 100000 in
theorem decomp_Split_calls (Zc:Int) (Zb:Bool) (Ze:Option Addr) (Zd:Nat) (l:List S50) (a1:Int) (a2:Int) (A3:Option Addr) (c3:Nat) (f:List Int) (r1:List S47) (r2:List S47) (r3:Int) (w:World) (Zp:Kd.C k50 w Ze l.length l) (Zq:l.length≤Zd) (hr3:Kd.C (Kd.int .i64) w A3 f.length f) (hc3:f.length≤c3) (h:some (splitR Zc l a1 a2 f)=some (r1,r2,r3)):
  Calls Try.prog 19 #[.agg #[.int .i64 Zc, .bool Zb, .slice Ze l.length Zd], .int .i64 a1, .int .i64 a2, .slice A3 f.length c3] w fun e w'=> ∃ v0_ v1_:Value,e= .returned (.tuple #[v0_,v1_, .int .i64 r3])∧Kd.S k47 47 w' w.heap.size (fun k_=>some k_≠(v1_:Value).ownBlock) v0_ r1∧Kd.S k47 47 w' w.heap.size (fun k_=>some k_≠(v0_:Value).ownBlock) v1_ r2∧Below w.heap.size w w':=by
 have hu24:=Try.underlying24;injection h with h
 obtain⟨K,hK⟩:=stat_value_ev Zc Zb l a1 a2 f;have hA:=hK K (Nat.le_refl _);obtain⟨k,hk⟩: ∃ k_,k_=K:=⟨_,rfl⟩;rw[← hk] at hA;clear hK hk K;have H2:=Ya Zp;have H3:=Ya hr3;have HC2:=Ya Zq;have HC3:=Ya hc3;clear Zp hr3 Zq hc3;by_cases he:(splitR Zc l a1 a2 f).2.2=0
 ·obtain⟨n0,s0,t0,rfl,rfl,rfl,hs,ht,hst,hn,hfl,hv0,hval,hsp,_⟩:=split_ok he
  have hok:=split_parts hs ht hst hfl hv0;rw[hsp] at h;injection h with q1 q2
  injection q2 with q2 q3
  subst q3;rw[hval] at hA;obtain⟨vv,hvv⟩: ∃ v,v=Q.bal l f s0:=⟨_,rfl⟩;rw[← hvv] at hA hv0;obtain⟨ee,hee⟩: ∃ e:Int,e=0:=⟨0,rfl⟩;rw[← hee] at hA;have HA:=Ya hA;have hR:=hfl.right;have HRT:=Ya hR;have Q1:=Ya q1;have Q2:=Ya q2;have HOK:=Ya hok;have e1:decide (vv<0)=false:=Yw (by omega);have hp0:posN (cycF l n0 1000 0 f).2≤200:=by have h_:=posN_len (cycF l n0 1000 0 f).2;have h2:=hok.cyc.right.len;have h3:=hok.cyc.right.arcs;have h4:(cycF l n0 1000 0 f).2.length=l.length:=h2;omega
  have HP0:=Ya hp0;subst hee;clear he hn hfl hval hsp hok q1 q2 hA hvv hR hp0;go_enter Try.func19,Try.ntmps19;go_upto_region 6 with (first|((with_reducible refine gate_dst (N:=4) rfl ?_);refine Yz ?hg (N:=4) ?hd (cs:= #[.int .i64 (n0:Int), .bool Zb, .slice Ze l.length Zd]) (t:=24) ?hr ?_;(case hd=>rfl);(case hg=>rfl);(case hr=>first|(go_simp;done)|(go_simp;rfl));intro g4 hg w5 Zf hb;have B4:=Ya Zf;have HB:=Ya hb;clear hg Zf hb;have x0:w5.cell? ⟨g4,0,none⟩=some (.int .i64 (n0:Int)):=(Yc B4.out 0).trans rfl;have x1:w5.cell? ⟨g4,1,none⟩=some (.bool Zb):=(Yc B4.out 1).trans rfl;have x2:w5.cell? ⟨g4,2,none⟩=some (.slice Ze l.length Zd):=(Yc B4.out 2).trans rfl)|(go_at_call 46;refine(static_Check.calls k (n0:Int) Zb Ze Zd l (s0:Int) (t0:Int) A3 c3 f vv 0 _ (Yt H2.out HB.out) HC2.out (Yt H3.out HB.out) HC3.out HA.out).mono ?_;rintro e_ w6 ⟨rfl,hb⟩;have m0_:=Ya (Yk HB.out hb);have m1_:=Ya (Yn B4.out hb);clear HB B4 hb x0 x1 x2;have HB:=m0_;have B4:=m1_;clear m0_ m1_;have x0:w6.cell? ⟨g4,0,none⟩=some (.int .i64 (n0:Int)):=(Yc B4.out 0).trans rfl;have x1:w6.cell? ⟨g4,1,none⟩=some (.bool Zb):=(Yc B4.out 1).trans rfl;have x2:w6.cell? ⟨g4,2,none⟩=some (.slice Ze l.length Zd):=(Yc B4.out 2).trans rfl)|fail)
  have HBG:=Ya (begun_calls n0 Zb Ze Zd l A3 c3 f w6 HRT.out (Yt H2.out HB.out) HC2.out (Yt H3.out HB.out) HC3.out);go_upto_region 8 with (first|(go_at_call 47;refine HBG.out.mono ?_;rintro e_ w7 ⟨gx,gz,gA,A,cA,rfl,hsp,hb7,hg1,hg2⟩;have HSP:=Ya hsp;have HB7:=Ya hb7;have HGA:Aside0 (w6.heap.size≤gA∧gA<w7.heap.size):=⟨⟨hg1,hg2⟩⟩;clear hsp hb7 hg1 hg2 x0 x1 x2)|(go_at_call 48;refine(cycles_calls n0 Zb l gx gz gA A cA _ f _ HRT.out HSP.out).mono ?_;rintro e_ w8 ⟨v9,rfl,hcs,hsp,hks⟩;have HCS:=Ya hcs;have HSP8:=Ya hsp;have HKS:=Ya hks;clear hcs hsp hks)|fail)
  have HLW2:Aside0 (gx<w8.heap.size∧gz<w8.heap.size∧gA<w8.heap.size):=⟨⟨blk_lt HSP8.out.x,HSP8.out.zero.lt,by have:=HGA.out.2;have:=HKS.out.size;omega⟩⟩;obtain⟨F1,hF1⟩: ∃ F,F=(cycF l n0 1000 0 f).2:=⟨_,rfl⟩;obtain⟨CY,hCY⟩: ∃ C,C=(cycF l n0 1000 0 f).1:=⟨_,rfl⟩;have HR1:Aside0 (Right l F1 n0):=⟨by rw[hF1];exact HOK.out.cyc.right⟩;rw[← hF1] at HSP8 Q1 HP0;rw[← hCY] at HCS Q2;clear hF1 hCY HOK;go_loopw [8,9] (fun v8 v9' w'=>v9'=v9∧ ∃ k,ChR n0 Zb l gx gz gA A cA w6.heap.size s0 t0 r1 w8 v8 w' k) (fun v8 _ w'=>least (ChR n0 Zb l gx gz gA A cA w6.heap.size s0 t0 r1 w8 v8 w'))
  case atStart=>exact⟨rfl,1000,F1,[],HR1.out,by have:=HP0.out;omega,by have:=HP0.out;show 0+_≤200;omega,by rw[List.nil_append];exact Q1.out,Kd.S_nil _ _ _ _ _,HSP8.out,Ks.refl _ _⟩
  case round=>
   clear HP0 HR1 Q1;obtain⟨rfl,hrel⟩:=hrel;have hsp:=least_spec hrel;obtain⟨K,hK⟩: ∃ K,K=least (ChR n0 Zb l gx gz gA A cA w6.heap.size s0 t0 r1 w8 u8 wr):=⟨_,rfl⟩;rw[← hK] at hsp;have HLE:=Ya hK;clear hK hrel;obtain⟨G,O,hRG,hk,hlen,hres,hO,hSG,hKG⟩:=hsp;obtain⟨kk,rfl⟩: ∃ k,K=k+1:=⟨K - 1,by omega⟩;have HRG:=Ya hRG;have HO:=Ya hO;have HSG:=Ya hSG;have HKG:=Ya hKG;have HLN:=Ya hlen;have HKK:=Ya hk;have HRES:=Ya hres;have HKW:=Ya (sway_calls n0 Zb l gx gz gA A cA w6.heap.size G s0 t0 wr HRG.out hs ht hst HSG.out);clear hRG hO hSG hKG hlen hk hres;have HWZ:Aside0 (w8.heap.size≤wr.heap.size):=⟨HKG.out.size⟩;by_cases hr:t0∈reach l G n0 s0
   ·have HLK:=Ya (chain_link HRG.out hs hst hr)
    have HR:=Ya hr;obtain⟨b,hb⟩: ∃ b,b=decide (t0∈reach l G n0 s0):=⟨_,rfl⟩;have hbt:b=true:=by rw[hb];exact Yv hr
    rw[← hb] at HKW;obtain⟨ax,hax⟩: ∃ ax,ax=arcsOf (wayA l G n0 s0 t0):=⟨_,rfl⟩;have HAX:=Ya hax;rw[← hax] at HKW HLK;have HBT:=Ya hbt;clear hr hb hax;subst hbt;go_wp2_with (first|(go_at_call 49;refine HKW.out.mono ?_;rintro e_ w9 ⟨vw,rfl,hv,hb⟩;obtain⟨A1,c1,ev⟩:=Kd.R_slice hv;subst ev;have HRW:=Ya hv;have HB9:=Ya hb;have HWZ9:Aside0 (wr.heap.size≤w9.heap.size):=⟨hb.size⟩;clear hv hb)|(go_at_call 50;refine(take_calls n0 Zb l gx gz gA A cA w6.heap.size G _ _ ax A1 c1 _ HRG.out HLK.out (HSG.out.below HB9.out) (Kd.R_reads' HRW.out).2.1 (Kd.F_mono (Kd.R_F (Kd.R_bound HRW.out)) (fun k hk=>⟨hk.2.2.1,by have:=hk.2.1;have:=HLW2.out;have:=HWZ.out;omega⟩))).mono ?_;rintro e_ w14 ⟨rfl,hsp,hks⟩;have HSP4:=Ya hsp;have HR2:Aside0 (Kd.R (Kd.int .i64) 3 w14 w8.heap.size (fun k=>wr.heap.size≤k) (.slice A1 ax.length c1) ax):=⟨Kd.R_mono (Kd.R_lower (Kd.R_step (Kd.R_bound HRW.out) (fun k hk hlt2=>hks.block k hlt2 (fun e=>by have e:k=gA:=e;have:=hk.2.1;have:=HLW2.out;have:=HWZ.out;omega))) HWZ.out) (fun k hk=>hk.2.1)⟩;have HO4:Aside0 (Kd.S k47 47 w14 w8.heap.size (fun k=>w8.heap.size≤k∧ ¬ wr.heap.size≤k) u8 O):=⟨Kd.S_mono (Kd.S_step (Kd.S_old HO.out HB9.out) (fun k hk hlt2=>hks.block k hlt2 (fun e=>by have e:k=gA:=e;have:=HLW2.out;omega))) (fun k hk=>⟨hk.1,by omega⟩)⟩;have HKG1:=Ya ((HKG.out.below HB9.out).trans hks (fun b hb _=>hb));have HSZ4:Aside0 (w8.heap.size≤w14.heap.size):=⟨HKG1.out.size⟩;clear hsp hks HRW HB9)|((with_reducible refine gate_builtin (b:= .append) (xs:= #[.tmp 46, .tmp 50]) rfl ?_);at_builtin;refine Kd.S_append k47 (w0:=w14) w8.heap.size rfl (.tmp 46) (.tmp 50) 42 47 (.agg #[(.slice none 0 0),(.int .i64 0)]) 32 rfl Try.underlying42 info47 rfl (by decide) (by omega) u8 O ⟨ax,amt G ax⟩ [.slice A1 ax.length c1, .int .i64 (amt G ax)] (fun k=>w8.heap.size≤k) (fun k=>wr.heap.size≤k) rfl rfl ?aP ?aQ ?aF ?aO ?aB ?aS ?aL ?_;(case aP=>exact k47_mkM _ _ _ _ HR2.out);(case aQ=>exact(fun k hk=>⟨Nat.le_trans HWZ.out hk,fun e=>by have:=Kd.S_lt HO.out k e.symm;omega⟩));(case aF=>exact(fun k hk=>Nat.le_trans HSZ4.out hk));(case aO=>exact HO4.out);(case aB=>exact Yo _ _);(case aS=>exact HSZ4.out);(case aL=>have:=HLN.out;omega);intro v3 w15 ho hb hg_ hat_;have HO3:=Ya ho;have HSG2:=Ya (HSP4.out.keep hb HLW2.out);have HKG2:=Ya (ks_b HKG1.out hb);clear ho hb hg_ hat_)|fail);have h:ChR n0 Zb l gx gz gA A cA w6.heap.size s0 t0 r1 w8 v3 w15 kk:=by
     have htk:=HLK.out.taken HRG.out;have hfw:=htk.fewer;have h1:=HKK.out;have h2:=HLN.out;have e:chF l n0 s0 t0 (kk+1) G=(⟨ax,amt G ax⟩::(chF l n0 s0 t0 kk (lessA G (amt G ax) ax)).1,(chF l n0 s0 t0 kk (lessA G (amt G ax) ax)).2):=by rw[chF,Yx HR.out, ← HAX.out]
     have h3:=HRES.out;rw[e] at h3;exact⟨_,_,htk.right,by omega,by rw[List.length_append,List.length_singleton];omega,by rw[List.append_assoc];exact h3,HO3.out,HSG2.out,HKG2.out⟩
    go_roundw
    case rel=>exact⟨rfl,kk,h⟩
    case measure=>exact least_lt h (by rw[← HLE.out];exact Nat.lt_succ_self kk)
   ·obtain⟨b,hb⟩: ∃ b,b=decide (t0∈reach l G n0 s0):=⟨_,rfl⟩
    have hbf:b=false:=by rw[hb];exact Yw hr
    rw[← hb] at HKW;have hO2:O=r1:=by
     have h_:=HRES.out;rw[chF,Yy hr,List.append_nil] at h_;exact h_
    have HO2:=Ya hO2;clear hr hb hO2;subst hbf;go_wp2_with (first|(go_at_call 49;refine HKW.out.mono ?_;rintro e_ w9 ⟨vw,rfl,hv,hb⟩;have HB9:=Ya hb;clear hv hb)|fail);go_ret3;have s1:=HB.out.size;have s2:=HB7.out.size;have s3:=HKS.out.size;have s4:=HWZ.out;have s5:=HGA.out;have b1:=Yk HB.out HB7.out;have b2:=HKS.out.toBelow b1 b1.size (fun b hb=>by have hb:b=gA:=hb;omega);have b3:=HKG.out.toBelow b2 b2.size (fun b hb=>by have hb:b=gA:=hb;omega);refine⟨_,_,rfl,?_,?_,Yk b3 HB9.out⟩
    ·rw[← HO2.out]
     exact Kd.S_mono (Kd.S_lower (Kd.S_below HO.out HB9.out) (by omega)) (fun k hk e=>by have:=Kd.S_lt HCS.out k e.symm;omega)
    ·rw[← Q2.out]
     exact Kd.S_mono (Kd.S_lower (Kd.S_below (Kd.S_step (Kd.S_bound HCS.out) (fun k hk hlt2=>HKG.out.block k hk.2.2.1 (fun e=>by have e:k=gA:=e;have:=hk.2.1;omega))) HB9.out) (by omega)) (fun k hk e=>by have:=Kd.S_base HO.out k e.symm;have:=hk.2.2.1;omega)
 ·obtain⟨q1,q2,q3⟩:=split_no he
  have hr:splitR Zc l a1 a2 f=([],[],r3):=by
   rw[h] at q1 q2 ⊢;have q1:r1=[]:=q1;have q2:r2=[]:=q2;rw[q1,q2]
  rw[hr] at h;injection h with h1 h2
  injection h2 with h2 h3
  subst h1;subst h2;rw[hr] at he q3;have he: ¬ r3=0:=he;obtain⟨⟨vv,ee⟩,hv⟩: ∃ v,v=valRes Zc l a1 a2 f:=⟨_,rfl⟩;rw[← hv] at hA q3;have HA:=Ya hA;rcases q3 with ⟨q4,q5⟩|⟨q4,q5⟩
  ·have q5:r3=ee:=q5
   subst q5;have e1:(r3 != 0)=true:=by rw[bne_iff_ne];exact he
   clear hv hA q4 he hr h3;go_enter Try.func19,Try.ntmps19;go_wp2_with (first|((with_reducible refine gate_dst (N:=4) rfl ?_);refine Yz ?hg (N:=4) ?hd (cs:= #[.int .i64 Zc, .bool Zb, .slice Ze l.length Zd]) (t:=24) ?hr ?_;(case hd=>rfl);(case hg=>rfl);(case hr=>first|(go_simp;done)|(go_simp;rfl));intro g4 hg w5 Zf hb;have B4:=Ya Zf;have HB:=Ya hb;clear hg Zf hb;have x0:w5.cell? ⟨g4,0,none⟩=some (.int .i64 Zc):=(Yc B4.out 0).trans rfl;have x1:w5.cell? ⟨g4,1,none⟩=some (.bool Zb):=(Yc B4.out 1).trans rfl;have x2:w5.cell? ⟨g4,2,none⟩=some (.slice Ze l.length Zd):=(Yc B4.out 2).trans rfl)|(go_at_call 46;refine(static_Check.calls k Zc Zb Ze Zd l a1 a2 A3 c3 f vv r3 _ (Yt H2.out HB.out) HC2.out (Yt H3.out HB.out) HC3.out HA.out).mono ?_;rintro e_ w6 ⟨rfl,hb⟩;have m0_:=Ya (Yk HB.out hb);have m1_:=Ya (Yn B4.out hb);clear HB B4 hb x0 x1 x2;have HB:=m0_;have B4:=m1_;clear m0_ m1_;have x0:w6.cell? ⟨g4,0,none⟩=some (.int .i64 Zc):=(Yc B4.out 0).trans rfl;have x1:w6.cell? ⟨g4,1,none⟩=some (.bool Zb):=(Yc B4.out 1).trans rfl;have x2:w6.cell? ⟨g4,2,none⟩=some (.slice Ze l.length Zd):=(Yc B4.out 2).trans rfl)|fail);go_ret3;exact⟨_,_,rfl,Kd.S_nil _ _ _ _ _,Kd.S_nil _ _ _ _ _,HB.out⟩
  ·have q4:ee=0:=q4
   have q5:vv<0:=q5;subst q4;have hr3:r3=71:=by
    have h_:=congrArg (fun x=>x.2.2) hr;unfold splitR at h_;rw[← hv] at h_;simp only[Yx,q5] at h_;exact h_.symm
   subst hr3;have e1:decide (vv<0)=true:=Yv q5;clear hv hA q5 he hr h3;go_enter Try.func19,Try.ntmps19;go_wp2_with (first|((with_reducible refine gate_dst (N:=4) rfl ?_);refine Yz ?hg (N:=4) ?hd (cs:= #[.int .i64 Zc, .bool Zb, .slice Ze l.length Zd]) (t:=24) ?hr ?_;(case hd=>rfl);(case hg=>rfl);(case hr=>first|(go_simp;done)|(go_simp;rfl));intro g4 hg w5 Zf hb;have B4:=Ya Zf;have HB:=Ya hb;clear hg Zf hb;have x0:w5.cell? ⟨g4,0,none⟩=some (.int .i64 Zc):=(Yc B4.out 0).trans rfl;have x1:w5.cell? ⟨g4,1,none⟩=some (.bool Zb):=(Yc B4.out 1).trans rfl;have x2:w5.cell? ⟨g4,2,none⟩=some (.slice Ze l.length Zd):=(Yc B4.out 2).trans rfl)|(go_at_call 46;refine(static_Check.calls k Zc Zb Ze Zd l a1 a2 A3 c3 f vv 0 _ (Yt H2.out HB.out) HC2.out (Yt H3.out HB.out) HC3.out HA.out).mono ?_;rintro e_ w6 ⟨rfl,hb⟩;have m0_:=Ya (Yk HB.out hb);have m1_:=Ya (Yn B4.out hb);clear HB B4 hb x0 x1 x2;have HB:=m0_;have B4:=m1_;clear m0_ m1_;have x0:w6.cell? ⟨g4,0,none⟩=some (.int .i64 Zc):=(Yc B4.out 0).trans rfl;have x1:w6.cell? ⟨g4,1,none⟩=some (.bool Zb):=(Yc B4.out 1).trans rfl;have x2:w6.cell? ⟨g4,2,none⟩=some (.slice Ze l.length Zd):=(Yc B4.out 2).trans rfl)|fail);go_ret3;exact⟨_,_,rfl,Kd.S_nil _ _ _ _ _,Kd.S_nil _ _ _ _ _,HB.out⟩
end H
namespace P
attribute [local go_sem] max2_int min2_int max_two min_two max_three min_three max_four min_four
def decomp_Split.f (Zc:Int) (Zb:Bool) (Za:List (S50)) (a1:Int) (a2:Int) (l3:List Int):Option ((List (S47)) × (List (S47)) × Int):=some (H.splitR Zc Za a1 a2 l3)
theorem decomp_Split.calls (Zc:Int) (Zb:Bool) (Ze:Option Addr) (Zd:Nat) (Za:List (S50)) (a1:Int) (a2:Int) (A3:Option Addr) (c3:Nat) (l3:List Int) (r1:List (S47)) (r2:List (S47)) (r3:Int) (w:World) (Zp:Kd.C k50 w Ze Za.length Za) (Zq:Za.length≤Zd) (hr3:Kd.C (Kd.int .i64) w A3 l3.length l3) (hc3:l3.length≤c3) (h:decomp_Split.f Zc Zb Za a1 a2 l3=some (r1,r2,r3)):
  Calls Try.prog 19 #[.agg #[.int .i64 Zc, .bool Zb, .slice Ze Za.length Zd], .int .i64 a1, .int .i64 a2, .slice A3 l3.length c3] w fun e w'=> ∃ v0_ v1_:Value,e= .returned (.tuple #[v0_,v1_, .int .i64 r3])∧Kd.S k47 47 w' w.heap.size (fun k_=>some k_≠(v1_:Value).ownBlock) v0_ r1∧Kd.S k47 47 w' w.heap.size (fun k_=>some k_≠(v0_:Value).ownBlock) v1_ r2∧Below w.heap.size w w':=H.decomp_Split_calls Zc Zb Ze Zd Za a1 a2 A3 c3 l3 r1 r2 r3 w Zp Zq hr3 hc3 h
end P
namespace P
attribute [local go_sem] max2_int min2_int max_two min_two max_three min_three max_four min_four
mutual
def ebbtideref13_Same.l0:Nat→List (S47)→List (S47)→Int→Option (Bool)
 |0,_,_,_=>none
 |k+1,x0,x1,x5=>if x5<(x0.length:Int) then(if 0≤x5 then(if x5<(x1.length:Int) then(if ((rd_T47 x0 x5).f1)=((rd_T47 x1 x5).f1) then(ebbtideref13_Same.j1 k x0 x1 x5 ((((rd_T47 x0 x5).f0).length:Int) != (((rd_T47 x1 x5).f0).length:Int))) else(ebbtideref13_Same.j1 k x0 x1 x5 true)) else(none)) else(none)) else(some true)
def ebbtideref13_Same.j1:Nat→List (S47)→List (S47)→Int→Bool→Option (Bool)
 |0,_,_,_,_=>none
 |k+1,x0,x1,x5,x43=>if x43=true then(some false) else(ebbtideref13_Same.l1 k x0 x1 x5 0)
def ebbtideref13_Same.l1:Nat→List (S47)→List (S47)→Int→Int→Option (Bool)
 |0,_,_,_,_=>none
 |k+1,x0,x1,x5,x6=>if 0≤x5 then(if x5<(x0.length:Int) then(if x6<(((rd_T47 x0 x5).f0).length:Int) then(if 0≤x6 then(if x5<(x1.length:Int) then(if x6<(((rd_T47 x1 x5).f0).length:Int) then(if (rd ((rd_T47 x0 x5).f0) x6)=(rd ((rd_T47 x1 x5).f0) x6) then(ebbtideref13_Same.l1 k x0 x1 x5 (wrap64 (x6+1))) else(some false)) else(none)) else(none)) else(none)) else(ebbtideref13_Same.l0 k x0 x1 (wrap64 (x5+1)))) else(none)) else(none)
end
def ebbtideref13_Same.f (k:Nat) (l0:List (S47)) (l1:List (S47)):Option (Bool):=if (l0.length:Int)=(l1.length:Int) then(ebbtideref13_Same.l0 k l0 l1 0) else(some false)
theorem ebbtideref13_Same.mono_l: ∀ k,(∀ y0 y1 y2,LeO (ebbtideref13_Same.l0 k y0 y1 y2) (ebbtideref13_Same.l0 (k+1) y0 y1 y2))∧(∀ y0 y1 y2 y3,LeO (ebbtideref13_Same.j1 k y0 y1 y2 y3) (ebbtideref13_Same.j1 (k+1) y0 y1 y2 y3))∧(∀ y0 y1 y2 y3,LeO (ebbtideref13_Same.l1 k y0 y1 y2 y3) (ebbtideref13_Same.l1 (k+1) y0 y1 y2 y3))
 |0=>⟨fun _ _ _ r h=>by simp[ebbtideref13_Same.l0] at h,fun _ _ _ _ r h=>by simp[ebbtideref13_Same.j1] at h,fun _ _ _ _ r h=>by simp[ebbtideref13_Same.l1] at h⟩
 |k+1=>by
  obtain⟨ih0,ih1,ih2⟩:=ebbtideref13_Same.mono_l k;refine⟨?_,?_,?_⟩
  ·intro y0 y1 y2
   unfold ebbtideref13_Same.l0;repeat' first
   |(with_reducible exact ih0 _ _ _)
   |(with_reducible exact ih1 _ _ _ _)
   |(with_reducible exact ih2 _ _ _ _)
   |(with_reducible exact LeO.refl _)
   |(with_reducible exact LeO.none _)
   |(with_reducible refine LeO.ite ?_ ?_)
   |(with_reducible refine LeO.bind ?_ (fun _=> ?_))
   |refine LeO.ite ?_ ?_
   |refine LeO.bind ?_ (fun _=> ?_)
  ·intro y0 y1 y2 y3
   unfold ebbtideref13_Same.j1;repeat' first
   |(with_reducible exact ih0 _ _ _)
   |(with_reducible exact ih1 _ _ _ _)
   |(with_reducible exact ih2 _ _ _ _)
   |(with_reducible exact LeO.refl _)
   |(with_reducible exact LeO.none _)
   |(with_reducible refine LeO.ite ?_ ?_)
   |(with_reducible refine LeO.bind ?_ (fun _=> ?_))
   |refine LeO.ite ?_ ?_
   |refine LeO.bind ?_ (fun _=> ?_)
  ·intro y0 y1 y2 y3
   unfold ebbtideref13_Same.l1;repeat' first
   |(with_reducible exact ih0 _ _ _)
   |(with_reducible exact ih1 _ _ _ _)
   |(with_reducible exact ih2 _ _ _ _)
   |(with_reducible exact LeO.refl _)
   |(with_reducible exact LeO.none _)
   |(with_reducible refine LeO.ite ?_ ?_)
   |(with_reducible refine LeO.bind ?_ (fun _=> ?_))
   |refine LeO.ite ?_ ?_
   |refine LeO.bind ?_ (fun _=> ?_)
theorem ebbtideref13_Same.mono: ∀ a0 a1 k,LeO (ebbtideref13_Same.f k a0 a1) (ebbtideref13_Same.f (k+1) a0 a1):=by
 intro a0 a1 k;obtain⟨ih0,ih1,ih2⟩:=ebbtideref13_Same.mono_l k;unfold ebbtideref13_Same.f;repeat' first
   |(with_reducible exact ih0 _ _ _)
   |(with_reducible exact ih1 _ _ _ _)
   |(with_reducible exact ih2 _ _ _ _)
   |(with_reducible exact LeO.refl _)
   |(with_reducible exact LeO.none _)
   |(with_reducible refine LeO.ite ?_ ?_)
   |(with_reducible refine LeO.bind ?_ (fun _=> ?_))
   |refine LeO.ite ?_ ?_
   |refine LeO.bind ?_ (fun _=> ?_)
set_option maxHeartbeats 8000000 in
set_option maxRecDepth 100000 in
theorem ebbtideref13_Same.calls (k:Nat) (A0:Option Addr) (c0:Nat) (l0:List (S47)) (A1:Option Addr) (c1:Nat) (l1:List (S47)) (r:Bool) (w:World) (hr0:Kd.C k47 w A0 l0.length l0) (hc0:l0.length≤c0) (hr1:Kd.C k47 w A1 l1.length l1) (hc1:l1.length≤c1) (h:ebbtideref13_Same.f k l0 l1=some r):
  Calls Try.prog 26 #[.slice A0 l0.length c0, .slice A1 l1.length c1] w fun e w'=>e= .returned (.bool r)∧Drawn0 w w':=by
 have HR0:=Ya hr0;have HC0:=Ya hc0;clear hr0 hc0;have HR1:=Ya hr1;have HC1:=Ya hc1;clear hr1 hc1;have H:=h;unfold ebbtideref13_Same.f at H;clear h;by_cases c3:(l0.length:Int)=(l1.length:Int)
 rotate_left
 ·rw[Yy c3] at H
  have c3b0:((l0.length:Int) == (l1.length:Int))=false:=beq_eq_false_iff_ne.mpr c3;have c3b1:((l0.length:Int) != (l1.length:Int))=true:=bne_iff_ne.mpr c3;have c3b2:(l0.length == l1.length)=false:=by first|simpa using c3|(simp at c3 ⊢;omega)
  obtain rfl:=Option.some.inj H;go_enter Try.func26,Try.ntmps26;go_wp2;repeat(go_quiet (fail);try go_wp2)
  go_ret;exact⟨by first|rfl|(simp;done)|(simp[*];done),by repeat(first|exact Drawn0.refl _|apply Drawn0.step)⟩
 rw[Yx c3] at H;have c3b0:((l0.length:Int) == (l1.length:Int))=true:=beq_iff_eq.mpr c3;have c3b1:((l0.length:Int) != (l1.length:Int))=false:=bne_eq_false_iff_eq.mpr c3;have c3b2:(l0.length == l1.length)=true:=by first|simpa using c3|(simp at c3 ⊢;omega)
 clear c3;have H':=Ya H;clear H;go_enter Try.func26,Try.ntmps26;go_wp2;repeat(go_quiet (fail);try go_wp2)
 go_loopg [5] k (fun kq v5 w'=> ∃ (Zl:Int),v5= .int .i64 Zl∧Aside0 (ebbtideref13_Same.l0 kq l0 l1 Zl=some r)∧Aside0 (kq≤k)∧Drawn0 w w')
 case atStart=>exact⟨(0),(by first|rfl|(simp;done)|(simp[*];done)),H',⟨Nat.le_refl _⟩,by repeat(first|exact Drawn0.refl _|apply Drawn0.step)⟩
 case round=>
  clear H';try clear c1
  try clear c3
  try clear c3b0
  try clear c3b1
  try clear c3b2
  obtain⟨Zl,rfl,HA,HK1,⟨m1,rfl⟩⟩:=hrel;cases gk with
  |zero=>exact absurd HA.out (by simp[ebbtideref13_Same.l0])
  |succ k1=>
   have H:=HA.out;clear HA;simp only[ebbtideref13_Same.l0] at H;by_cases c4:Zl<(l0.length:Int)
   rotate_left
   ·rw[Yy c4] at H
    have c4b0:decide (Zl<(l0.length:Int))=false:=Yw c4;clear c4;obtain rfl:=Option.some.inj H;go_wp2;repeat(go_quiet (fail);try go_wp2)
    go_ret;exact⟨by first|rfl|(simp;done)|(simp[*];done),by repeat(first|exact Drawn0.refl _|apply Drawn0.step)⟩
   rw[Yx c4] at H;have c4b0:decide (Zl<(l0.length:Int))=true:=Yv c4;clear c4;have HC5:=Ya H;clear H;go_upto_region 6 with (fail)
   repeat(go_quiet (fail);go_upto_region 6 with (fail))
   go_cut [43] (fun v43 wc=> ∃ (kq:Nat) (x43_4:Bool),v43= .bool x43_4∧Aside0 (ebbtideref13_Same.j1 kq l0 l1 Zl x43_4=some r)∧Aside0 (kq≤k1)∧Drawn0 w wc)
   case first=>
    have H:=HC5.out;clear HC5;by_cases c6:0≤Zl
    rotate_left
    ·rw[Yy c6] at H
     exact absurd H (by simp)
    rw[Yx c6] at H;have c6b0:decide (0≤Zl)=true:=Yv c6;clear c6
    (first|rw[c6b0]|(simp only[i64_w,i32_w];rw[c6b0])|skip)
    by_cases c7:Zl<(l1.length:Int)
    rotate_left
    ·rw[Yy c7] at H
     exact absurd H (by simp)
    rw[Yx c7] at H;have c7b0:decide (Zl<(l1.length:Int))=true:=Yv c7;clear c7;by_cases c8:((rd_T47 l0 Zl).f1)=((rd_T47 l1 Zl).f1)
    rotate_left
    ·rw[Yy c8] at H
     have c8b0:(((rd_T47 l0 Zl).f1) == ((rd_T47 l1 Zl).f1))=false:=beq_eq_false_iff_ne.mpr c8;have c8b1:(((rd_T47 l0 Zl).f1) != ((rd_T47 l1 Zl).f1))=true:=bne_iff_ne.mpr c8;have H':=Ya H;clear H;have p495:0≤(Zl:Int):=od;have q495:Zl<(l0.length:Int):=od;obtain⟨ad495,A495_0,c495_0,e495,hx495_0,hx495_1,hl495_0,hi495_0⟩:=at_T47 HR0.out Zl p495 q495;cases e495;have HR495_0:=Ya hi495_0;have HC495_0:=Ya hl495_0;clear hi495_0 hl495_0;replace p495:=eq_true p495;replace q495:=eq_true q495;have p496:0≤(Zl:Int):=od;have q496:Zl<(l1.length:Int):=od;obtain⟨ad496,A496_0,c496_0,e496,hx496_0,hx496_1,hl496_0,hi496_0⟩:=at_T47 HR1.out Zl p496 q496;cases e496;have HR496_0:=Ya hi496_0;have HC496_0:=Ya hl496_0;clear hi496_0 hl496_0;replace p496:=eq_true p496;replace q496:=eq_true q496;go_wp2;repeat(go_quiet (fail);try go_wp2)
     go_meet
     case rel=>exact⟨_,(true),(by first|rfl|(simp;done)|(simp[*];done)),H',⟨by have:=HK1.out;first|omega|exact Nat.le_refl _⟩,by repeat(first|exact Drawn0.refl _|apply Drawn0.step)⟩
    rw[Yx c8] at H;have c8b0:(((rd_T47 l0 Zl).f1) == ((rd_T47 l1 Zl).f1))=true:=beq_iff_eq.mpr c8;have c8b1:(((rd_T47 l0 Zl).f1) != ((rd_T47 l1 Zl).f1))=false:=bne_eq_false_iff_eq.mpr c8;clear c8;have H':=Ya H;clear H;have p495:0≤(Zl:Int):=od;have q495:Zl<(l0.length:Int):=od;obtain⟨ad495,A495_0,c495_0,e495,hx495_0,hx495_1,hl495_0,hi495_0⟩:=at_T47 HR0.out Zl p495 q495;cases e495;have HR495_0:=Ya hi495_0;have HC495_0:=Ya hl495_0;clear hi495_0 hl495_0;replace p495:=eq_true p495;replace q495:=eq_true q495;have p496:0≤(Zl:Int):=od;have q496:Zl<(l1.length:Int):=od;obtain⟨ad496,A496_0,c496_0,e496,hx496_0,hx496_1,hl496_0,hi496_0⟩:=at_T47 HR1.out Zl p496 q496;cases e496;have HR496_0:=Ya hi496_0;have HC496_0:=Ya hl496_0;clear hi496_0 hl496_0;replace p496:=eq_true p496;replace q496:=eq_true q496;have p497:0≤(Zl:Int):=od;have q497:Zl<(l0.length:Int):=od;obtain⟨ad497,A497_0,c497_0,e497,hx497_0,hx497_1,hl497_0,hi497_0⟩:=at_T47 HR0.out Zl p497 q497;obtain rfl:ad495=ad497:=(by injection e497);have HR497_0:=Ya hi497_0;have HC497_0:=Ya hl497_0;clear hi497_0 hl497_0;replace p497:=eq_true p497;replace q497:=eq_true q497;have ea_:=Option.some.inj (hx495_0.symm.trans hx497_0);injection ea_ with ea_ en_ ec_
    subst ea_;subst ec_;clear en_;have p498:0≤(Zl:Int):=od;have q498:Zl<(l1.length:Int):=od;obtain⟨ad498,A498_0,c498_0,e498,hx498_0,hx498_1,hl498_0,hi498_0⟩:=at_T47 HR1.out Zl p498 q498;obtain rfl:ad496=ad498:=(by injection e498);have HR498_0:=Ya hi498_0;have HC498_0:=Ya hl498_0;clear hi498_0 hl498_0;replace p498:=eq_true p498;replace q498:=eq_true q498;have ea_:=Option.some.inj (hx496_0.symm.trans hx498_0);injection ea_ with ea_ en_ ec_
    subst ea_;subst ec_;clear en_;go_wp2;repeat(go_quiet (fail);try go_wp2)
    go_meet
    case rel=>exact⟨_,(((((rd_T47 l0 Zl).f0).length:Int) != (((rd_T47 l1 Zl).f0).length:Int))),(by first|rfl|(simp;done)|(simp[*];done)),H',⟨by have:=HK1.out;first|omega|exact Nat.le_refl _⟩,by repeat(first|exact Drawn0.refl _|apply Drawn0.step)⟩
   case rest=>
    clear HC5;try clear c1
    try clear c3
    try clear c3b0
    try clear c3b1
    try clear c3b2
    try clear c4
    try clear c4b0
    try clear c6
    try clear c6b0
    try clear c7
    try clear c7b0
    try clear c8
    try clear c8b0
    try clear c8b1
    try clear hx495_0
    try clear hx495_1
    try clear hx496_0
    try clear hx496_1
    try clear hx497_0
    try clear hx497_1
    try clear hx498_0
    try clear hx498_1
    try clear p495
    try clear p496
    try clear p497
    try clear p498
    try clear q495
    try clear q496
    try clear q497
    try clear q498
    obtain⟨kq,x43_4,rfl,HA,HJ4,⟨mc4,rfl⟩⟩:=hcut;cases kq with
    |zero=>exact absurd HA.out (by simp[ebbtideref13_Same.j1])
    |succ kj4=>
     have H:=HA.out;clear HA;simp only[ebbtideref13_Same.j1] at H;by_cases c9:x43_4=true
     ·subst c9
      first|rw[Yx rfl] at H|rw[Yx trivial] at H
      obtain rfl:=Option.some.inj H;go_wp2;repeat(go_quiet (fail);try go_wp2)
      go_ret;exact⟨by first|rfl|(simp;done)|(simp[*];done),by repeat(first|exact Drawn0.refl _|apply Drawn0.step)⟩
     replace c9:=Bool.eq_false_iff.mpr c9;subst c9;rw[Yy (show ¬ (false=true) by decide)] at H;have H':=Ya H;clear H;go_wp2;repeat(go_quiet (fail);try go_wp2)
     go_loopg [6] kj4 (fun kq v6 w'=> ∃ (Jk:Int),v6= .int .i64 Jk∧Aside0 (ebbtideref13_Same.l1 kq l0 l1 Zl Jk=some r)∧Aside0 (kq≤kj4)∧Drawn0 w w')
     case atStart=>exact⟨(0),(by first|rfl|(simp;done)|(simp[*];done)),H',⟨Nat.le_refl _⟩,by repeat(first|exact Drawn0.refl _|apply Drawn0.step)⟩
     case round=>
      clear H';try clear c1
      try clear c3
      try clear c3b0
      try clear c3b1
      try clear c3b2
      try clear c4
      try clear c4b0
      try clear c6
      try clear c6b0
      try clear c7
      try clear c7b0
      try clear c8
      try clear c8b0
      try clear c8b1
      try clear c9
      try clear hx495_0
      try clear hx495_1
      try clear hx496_0
      try clear hx496_1
      try clear hx497_0
      try clear hx497_1
      try clear hx498_0
      try clear hx498_1
      try clear p495
      try clear p496
      try clear p497
      try clear p498
      try clear q495
      try clear q496
      try clear q497
      try clear q498
      obtain⟨Jk,rfl,HA,HK3,⟨m3,rfl⟩⟩:=hrel;cases gk with
      |zero=>exact absurd HA.out (by simp[ebbtideref13_Same.l1])
      |succ k3=>
       have H:=HA.out;clear HA;simp only[ebbtideref13_Same.l1] at H;by_cases c10:0≤Zl
       rotate_left
       ·rw[Yy c10] at H
        exact absurd H (by simp)
       rw[Yx c10] at H;have c10b0:decide (0≤Zl)=true:=Yv c10;clear c10;by_cases c11:Zl<(l0.length:Int)
       rotate_left
       ·rw[Yy c11] at H
        exact absurd H (by simp)
       rw[Yx c11] at H;have c11b0:decide (Zl<(l0.length:Int))=true:=Yv c11;clear c11;by_cases c12:Jk<(((rd_T47 l0 Zl).f0).length:Int)
       rotate_left
       ·rw[Yy c12] at H
        have c12b0:decide (Jk<(((rd_T47 l0 Zl).f0).length:Int))=false:=Yw c12;clear c12;have H':=Ya H;clear H;have p499:0≤(Zl:Int):=od;have q499:Zl<(l0.length:Int):=od;obtain⟨ad499,A499_0,c499_0,e499,hx499_0,hx499_1,hl499_0,hi499_0⟩:=at_T47 HR0.out Zl p499 q499;cases e499;have HR499_0:=Ya hi499_0;have HC499_0:=Ya hl499_0;clear hi499_0 hl499_0;replace p499:=eq_true p499;replace q499:=eq_true q499;go_wp2;repeat(go_quiet (fail);try go_wp2)
        go_roundg k3
        case measure=>have:=HK1.out;have:=HJ4.out;have:=HK3.out;omega
        case rel=>exact⟨(wrap64 (Zl+1)),(by first|rfl|(simp;done)|(simp[*];done)),H',⟨by have:=HK1.out;have:=HJ4.out;have:=HK3.out;omega⟩,by repeat(first|exact Drawn0.refl _|apply Drawn0.step)⟩
       rw[Yx c12] at H;have c12b0:decide (Jk<(((rd_T47 l0 Zl).f0).length:Int))=true:=Yv c12;clear c12;by_cases c13:0≤Jk
       rotate_left
       ·rw[Yy c13] at H
        exact absurd H (by simp)
       rw[Yx c13] at H;have c13b0:decide (0≤Jk)=true:=Yv c13;clear c13;by_cases c14:Zl<(l1.length:Int)
       rotate_left
       ·rw[Yy c14] at H
        exact absurd H (by simp)
       rw[Yx c14] at H;have c14b0:decide (Zl<(l1.length:Int))=true:=Yv c14;clear c14;by_cases c15:Jk<(((rd_T47 l1 Zl).f0).length:Int)
       rotate_left
       ·rw[Yy c15] at H
        exact absurd H (by simp)
       rw[Yx c15] at H;have c15b0:decide (Jk<(((rd_T47 l1 Zl).f0).length:Int))=true:=Yv c15;clear c15;by_cases c16:(rd ((rd_T47 l0 Zl).f0) Jk)=(rd ((rd_T47 l1 Zl).f0) Jk)
       rotate_left
       ·rw[Yy c16] at H
        have c16b0:((rd ((rd_T47 l0 Zl).f0) Jk) == (rd ((rd_T47 l1 Zl).f0) Jk))=false:=beq_eq_false_iff_ne.mpr c16;have c16b1:((rd ((rd_T47 l0 Zl).f0) Jk) != (rd ((rd_T47 l1 Zl).f0) Jk))=true:=bne_iff_ne.mpr c16;obtain rfl:=Option.some.inj H;have p499:0≤(Zl:Int):=od;have q499:Zl<(l0.length:Int):=od;obtain⟨ad499,A499_0,c499_0,e499,hx499_0,hx499_1,hl499_0,hi499_0⟩:=at_T47 HR0.out Zl p499 q499;cases e499;have HR499_0:=Ya hi499_0;have HC499_0:=Ya hl499_0;clear hi499_0 hl499_0;replace p499:=eq_true p499;replace q499:=eq_true q499;have p500:0≤(Zl:Int):=od;have q500:Zl<(l0.length:Int):=od;obtain⟨ad500,A500_0,c500_0,e500,hx500_0,hx500_1,hl500_0,hi500_0⟩:=at_T47 HR0.out Zl p500 q500;obtain rfl:ad499=ad500:=(by injection e500);have HR500_0:=Ya hi500_0;have HC500_0:=Ya hl500_0;clear hi500_0 hl500_0;replace p500:=eq_true p500;replace q500:=eq_true q500;have ea_:=Option.some.inj (hx499_0.symm.trans hx500_0);injection ea_ with ea_ en_ ec_
        subst ea_;subst ec_;clear en_;have p501:0≤(Jk:Int):=od;have q501:Jk<(((rd_T47 l0 Zl).f0).length:Int):=od;obtain⟨ad501,e501,hx501_0⟩:=Kd.at_int HR500_0.out Jk p501 q501;cases e501;replace p501:=eq_true p501;replace q501:=eq_true q501;have p502:0≤(Zl:Int):=od;have q502:Zl<(l1.length:Int):=od;obtain⟨ad502,A502_0,c502_0,e502,hx502_0,hx502_1,hl502_0,hi502_0⟩:=at_T47 HR1.out Zl p502 q502;cases e502;have HR502_0:=Ya hi502_0;have HC502_0:=Ya hl502_0;clear hi502_0 hl502_0;replace p502:=eq_true p502;replace q502:=eq_true q502;have p503:0≤(Jk:Int):=od;have q503:Jk<(((rd_T47 l1 Zl).f0).length:Int):=od;obtain⟨ad503,e503,hx503_0⟩:=Kd.at_int HR502_0.out Jk p503 q503;cases e503;replace p503:=eq_true p503;replace q503:=eq_true q503;go_wp2;repeat(go_quiet (fail);try go_wp2)
        go_ret;exact⟨by first|rfl|(simp;done)|(simp[*];done),by repeat(first|exact Drawn0.refl _|apply Drawn0.step)⟩
       rw[Yx c16] at H;have c16b0:((rd ((rd_T47 l0 Zl).f0) Jk) == (rd ((rd_T47 l1 Zl).f0) Jk))=true:=beq_iff_eq.mpr c16;have c16b1:((rd ((rd_T47 l0 Zl).f0) Jk) != (rd ((rd_T47 l1 Zl).f0) Jk))=false:=bne_eq_false_iff_eq.mpr c16;clear c16;have H':=Ya H;clear H;have p499:0≤(Zl:Int):=od;have q499:Zl<(l0.length:Int):=od;obtain⟨ad499,A499_0,c499_0,e499,hx499_0,hx499_1,hl499_0,hi499_0⟩:=at_T47 HR0.out Zl p499 q499;cases e499;have HR499_0:=Ya hi499_0;have HC499_0:=Ya hl499_0;clear hi499_0 hl499_0;replace p499:=eq_true p499;replace q499:=eq_true q499;have p500:0≤(Zl:Int):=od;have q500:Zl<(l0.length:Int):=od;obtain⟨ad500,A500_0,c500_0,e500,hx500_0,hx500_1,hl500_0,hi500_0⟩:=at_T47 HR0.out Zl p500 q500;obtain rfl:ad499=ad500:=(by injection e500);have HR500_0:=Ya hi500_0;have HC500_0:=Ya hl500_0;clear hi500_0 hl500_0;replace p500:=eq_true p500;replace q500:=eq_true q500;have ea_:=Option.some.inj (hx499_0.symm.trans hx500_0);injection ea_ with ea_ en_ ec_
       subst ea_;subst ec_;clear en_;have p501:0≤(Jk:Int):=od;have q501:Jk<(((rd_T47 l0 Zl).f0).length:Int):=od;obtain⟨ad501,e501,hx501_0⟩:=Kd.at_int HR500_0.out Jk p501 q501;cases e501;replace p501:=eq_true p501;replace q501:=eq_true q501;have p502:0≤(Zl:Int):=od;have q502:Zl<(l1.length:Int):=od;obtain⟨ad502,A502_0,c502_0,e502,hx502_0,hx502_1,hl502_0,hi502_0⟩:=at_T47 HR1.out Zl p502 q502;cases e502;have HR502_0:=Ya hi502_0;have HC502_0:=Ya hl502_0;clear hi502_0 hl502_0;replace p502:=eq_true p502;replace q502:=eq_true q502;have p503:0≤(Jk:Int):=od;have q503:Jk<(((rd_T47 l1 Zl).f0).length:Int):=od;obtain⟨ad503,e503,hx503_0⟩:=Kd.at_int HR502_0.out Jk p503 q503;cases e503;replace p503:=eq_true p503;replace q503:=eq_true q503;go_wp2;repeat(go_quiet (fail);try go_wp2)
       go_roundg k3
       case measure=>have:=HK1.out;have:=HJ4.out;have:=HK3.out;omega
       case rel=>exact⟨(wrap64 (Jk+1)),(by first|rfl|(simp;done)|(simp[*];done)),H',⟨by have:=HK1.out;have:=HJ4.out;have:=HK3.out;omega⟩,by repeat(first|exact Drawn0.refl _|apply Drawn0.step)⟩
end P
namespace P
attribute [local go_sem] max2_int min2_int max_two min_two max_three min_three max_four min_four
mutual
def decomp_Lengths.l0:Nat→List Int→List (S47)→Int→Int→Int→Bool→List (S50)→Option (List Int × Int)
 |0,_,_,_,_,_,_,_=>none
 |k+1,x7,x20,x21,x22,x505000,x505001,x505002=>if x22<x21 then(if 0≤x22 then(if x22<(x20.length:Int) then(decomp_Lengths.l1 k x7 x22 x20 x21 x22 ((rd_T47 x20 x22).f0) (((rd_T47 x20 x22).f0).length:Int) 0 x505000 x505001 x505002) else(none)) else(none)) else(some (x7,0))
def decomp_Lengths.l1:Nat→List Int→Int→List (S47)→Int→Int→List Int→Int→Int→Int→Bool→List (S50)→Option (List Int × Int)
 |0,_,_,_,_,_,_,_,_,_,_,_=>none
 |k+1,x7,x8,x20,x21,x22,x28,x29,x30,x505000,x505001,x505002=>if x30<x29 then(if 0≤x30 then(if x30<(x28.length:Int) then(if (rd x28 x30)<0 then(some (([]:List Int),1)) else(if (rd x28 x30)≥(x505002.length:Int) then(some (([]:List Int),1)) else(if 0≤x8 then(if x8<(x7.length:Int) then(if 0≤(rd x28 x30) then(if (rd x28 x30)<(x505002.length:Int) then(decomp_Lengths.l1 k (x7.set (x8:Int).toNat (wrap64 ((rd x7 x8)+((rd_T50 x505002 (rd x28 x30)).f3)))) x8 x20 x21 x22 x28 x29 (wrap64 (x30+1)) x505000 x505001 x505002) else(none)) else(none)) else(none)) else(none)))) else(none)) else(none)) else(decomp_Lengths.l0 k x7 x20 x21 (wrap64 (x22+1)) x505000 x505001 x505002)
end
def decomp_Lengths.f (k:Nat) (Zc:Int) (Zb:Bool) (Za:List (S50)) (l1:List (S47)):Option (List Int × Int):=(netfmt_Check.f k Zc Zb Za).bind fun t505=>(if t505=0 then(if 0≤(l1.length:Int) then(if ((l1.length:Int):Int).toNat≤35184372088832 then(decomp_Lengths.l0 k (List.replicate ((l1.length:Int):Int).toNat 0) l1 (l1.length:Int) 0 Zc Zb Za) else(none)) else(none)) else(some (([]:List Int),t505)))
theorem decomp_Lengths.mono_l: ∀ k,(∀ y0 y1 y2 y3 y4 y5 y6,LeO (decomp_Lengths.l0 k y0 y1 y2 y3 y4 y5 y6) (decomp_Lengths.l0 (k+1) y0 y1 y2 y3 y4 y5 y6))∧(∀ y0 y1 y2 y3 y4 y5 y6 y7 y8 y9 y10,LeO (decomp_Lengths.l1 k y0 y1 y2 y3 y4 y5 y6 y7 y8 y9 y10) (decomp_Lengths.l1 (k+1) y0 y1 y2 y3 y4 y5 y6 y7 y8 y9 y10))
 |0=>⟨fun _ _ _ _ _ _ _ r h=>by simp[decomp_Lengths.l0] at h,fun _ _ _ _ _ _ _ _ _ _ _ r h=>by simp[decomp_Lengths.l1] at h⟩
 |k+1=>by
  obtain⟨ih0,ih1⟩:=decomp_Lengths.mono_l k;refine⟨?_,?_⟩
  ·intro y0 y1 y2 y3 y4 y5 y6
   unfold decomp_Lengths.l0;repeat' first
   |(with_reducible exact ih0 _ _ _ _ _ _ _)
   |(with_reducible exact ih1 _ _ _ _ _ _ _ _ _ _ _)
   |(with_reducible exact netfmt_Check.mono _ _ _ _)
   |(with_reducible exact LeO.refl _)
   |(with_reducible exact LeO.none _)
   |(with_reducible refine LeO.ite ?_ ?_)
   |(with_reducible refine LeO.bind ?_ (fun _=> ?_))
   |refine LeO.ite ?_ ?_
   |refine LeO.bind ?_ (fun _=> ?_)
  ·intro y0 y1 y2 y3 y4 y5 y6 y7 y8 y9 y10
   unfold decomp_Lengths.l1;repeat' first
   |(with_reducible exact ih0 _ _ _ _ _ _ _)
   |(with_reducible exact ih1 _ _ _ _ _ _ _ _ _ _ _)
   |(with_reducible exact netfmt_Check.mono _ _ _ _)
   |(with_reducible exact LeO.refl _)
   |(with_reducible exact LeO.none _)
   |(with_reducible refine LeO.ite ?_ ?_)
   |(with_reducible refine LeO.bind ?_ (fun _=> ?_))
   |refine LeO.ite ?_ ?_
   |refine LeO.bind ?_ (fun _=> ?_)
theorem decomp_Lengths.mono: ∀ a0 a1 a2 a3 k,LeO (decomp_Lengths.f k a0 a1 a2 a3) (decomp_Lengths.f (k+1) a0 a1 a2 a3):=by
 intro a0 a1 a2 a3 k;obtain⟨ih0,ih1⟩:=decomp_Lengths.mono_l k;unfold decomp_Lengths.f;repeat' first
   |(with_reducible exact ih0 _ _ _ _ _ _ _)
   |(with_reducible exact ih1 _ _ _ _ _ _ _ _ _ _ _)
   |(with_reducible exact netfmt_Check.mono _ _ _ _)
   |(with_reducible exact LeO.refl _)
   |(with_reducible exact LeO.none _)
   |(with_reducible refine LeO.ite ?_ ?_)
   |(with_reducible refine LeO.bind ?_ (fun _=> ?_))
   |refine LeO.ite ?_ ?_
   |refine LeO.bind ?_ (fun _=> ?_)
def decomp_Lengths.T13:Bool × List (List Nat × List Nat):=(true,[([],[]),([],[]),([0,1],[0,1]),([2],[2]),([],[]),([4],[4]),([],[]),([5,6],[5,6]),([7],[7]),([8],[8]),([3,9],[3,9]),([0,1,0,1,2,3,4,5,6,7,8,9,10],[0,1]),([11,10,0,1,2,3,4,5,6,7,8,9,10],[10,11])])
def decomp_Lengths.B13:List Nat:=[0,0,3,7,0,16,0,112,240,496,1023,2047,4095]
theorem decomp_Lengths.tab13:rtab .any (opsOf Try.f29 13)=decomp_Lengths.T13:=by kernel_rfl
theorem decomp_Lengths.bits13:waitsOk decomp_Lengths.T13.2 decomp_Lengths.B13=true:=by kernel_rfl
set_option maxHeartbeats 8000000 in
set_option maxRecDepth 100000 in
theorem decomp_Lengths.calls (k:Nat) (Zc:Int) (Zb:Bool) (Ze:Option Addr) (Zd:Nat) (Za:List (S50)) (A1:Option Addr) (c1:Nat) (l1:List (S47)) (r1:List Int) (r2:Int) (w:World) (Zp:Kd.C k50 w Ze Za.length Za) (Zq:Za.length≤Zd) (hr1:Kd.C k47 w A1 l1.length l1) (hc1:l1.length≤c1) (h:decomp_Lengths.f k Zc Zb Za l1=some (r1,r2)):
  Calls Try.prog 29 #[.agg #[.int .i64 Zc, .bool Zb, .slice Ze Za.length Zd], .slice A1 l1.length c1] w fun e w'=> ∃ v0_:Value,e= .returned (.tuple #[v0_, .int .i64 r2])∧Kd.R (Kd.int .i64) 3 w' w.heap.size (fun _=>True) v0_ r1∧Below w.heap.size w w':=by
 have hu24:=Try.underlying24;have hu47:=Try.underlying47;have Zj:=Ya Zp;have Zs:=Ya Zq;clear Zp Zq;have HR1:=Ya hr1;have HC1:=Ya hc1;clear hr1 hc1;have HB:=Ya (Yo w.heap.size w);have H:=h;unfold decomp_Lengths.f at H;clear h;replace H:=Option.bind_eq_some_iff.mp H;obtain⟨t505,A30,H⟩:=H;try dsimp only at H
 have A3:=Ya A30;clear A30;by_cases c4:t505=0
 rotate_left
 ·rw[Yy c4] at H
  have c4b0:(t505 == 0)=false:=beq_eq_false_iff_ne.mpr c4;have c4b1:(t505 != 0)=true:=bne_iff_ne.mpr c4;simp only[Option.some.injEq,Prod.mk.injEq] at H;obtain⟨rfl,rfl⟩:=H;go_enter Try.func29,Try.ntmps29;go_wp2_with (first|((with_reducible refine gate_dst (N:=2) rfl ?_);(try (refine gate_guard (by rfl) ?_;dsimp only));refine Yz ?hg (N:=2) ?hd (cs:= #[.int .i64 Zc, .bool Zb, .slice Ze Za.length Zd]) (t:=24) ?hr ?_;(case hd=>rfl);(case hg=>rfl);(case hr=>first|(go_simp;done)|(go_simp;rfl));intro Uq hg w35 Zf hb;have Xw:=Ya (Zf);have GW504:=Ya (by rw[hg];exact(Yi HB.out):w.heap.size≤Uq);have GE504:=Ya (by rw[hg];exact(Yi HB.out):w.heap.size≤Uq);replace HB:=Ya (Yk HB.out hb);clear hb Zf hg;have hcz36_0:w35.cell? ⟨Uq,0,none⟩=some (.int .i64 Zc):=bc Xw 0;have hcz36_1:w35.cell? ⟨Uq,1,none⟩=some (.bool Zb):=bc Xw 1;have hcz36_2:w35.cell? ⟨Uq,2,none⟩=some (.slice Ze Za.length Zd):=bc Xw 2;have hfz36_0:=Yf Xw.out 0;have hfz36_1:=Yf Xw.out 1;have hfz36_2:=Yf Xw.out 2)|((with_reducible refine gate_callee (f:=61) rfl ?_);refine gl (some 13) Try.func61 #[.agg #[.int .i64 Zc, .bool Zb, .slice Ze Za.length Zd]] ?_;(with_reducible refine(netfmt_Check.calls k Zc Zb _ _ Za t505 _ ?side1 ?side2 A3.out).mono ?_);(case side1=>exact kC (Yt Zj.out HB.out));(case side2=>exact Zs.out);rintro e w37 ⟨rfl,hb⟩;refine⟨_,rfl,?_⟩;replace Xw:=Ya (Yn Xw.out hb);replace HB:=Ya (Yk HB.out hb);(try clear hb)));go_ret2;exact⟨_,by first|rfl|(simp[errW_none,errW_some]<;>rfl)|(simp[*,errW_none,errW_some]<;>rfl),by first|exact Kd.R_nil _ _ _ _ _|exact Kd.N_nil _ _ _ _ _|exact Kd.V_nil _ _ _ _ _|exact Kd.Q_nil _ _ _ _ _|exact Kd.S_nil _ _ _ _ _,HB.out⟩
 rw[Yx c4] at H;have c4b0:(t505 == 0)=true:=beq_iff_eq.mpr c4;have c4b1:(t505 != 0)=false:=bne_eq_false_iff_eq.mpr c4;clear c4;by_cases c5:0≤(l1.length:Int)
 rotate_left
 ·rw[Yy c5] at H
  exact absurd H (by simp)
 rw[Yx c5] at H;have c5b0:=eq_true c5;have c5b1:decide (0≤(l1.length:Int))=true:=Yv c5;clear c5;by_cases c6:((l1.length:Int):Int).toNat≤35184372088832
 rotate_left
 ·rw[Yy c6] at H
  exact absurd H (by simp)
 rw[Yx c6] at H;have c6b0:=eq_true c6;have c6b1:decide (((l1.length:Int):Int).toNat≤35184372088832)=true:=Yv c6;clear c6;obtain⟨y506,hy506⟩: ∃ y_:List Int,y_=(List.replicate ((l1.length:Int):Int).toNat 0):=⟨_,rfl⟩;rw[← hy506] at H;have Ny506:=Ya hy506;clear hy506;have H':=Ya H;clear H;go_enter Try.func29,Try.ntmps29;go_wp2_with (first|((with_reducible refine gate_dst (N:=2) rfl ?_);(try (refine gate_guard (by rfl) ?_;dsimp only));refine Yz ?hg (N:=2) ?hd (cs:= #[.int .i64 Zc, .bool Zb, .slice Ze Za.length Zd]) (t:=24) ?hr ?_;(case hd=>rfl);(case hg=>rfl);(case hr=>first|(go_simp;done)|(go_simp;rfl));intro Uq hg w7 Zf hb;have Xw:=Ya (Zf);have GW504:=Ya (by rw[hg];exact(Yi HB.out):w.heap.size≤Uq);have GE504:=Ya (by rw[hg];exact(Yi HB.out):w.heap.size≤Uq);replace HB:=Ya (Yk HB.out hb);clear hb Zf hg;have Uj:w7.cell? ⟨Uq,0,none⟩=some (.int .i64 Zc):=bc Xw 0;have Uk:w7.cell? ⟨Uq,1,none⟩=some (.bool Zb):=bc Xw 1;have Ja:w7.cell? ⟨Uq,2,none⟩=some (.slice Ze Za.length Zd):=bc Xw 2;have Ul:=Yf Xw.out 0;have Um:=Yf Xw.out 1;have Jb:=Yf Xw.out 2)|((with_reducible refine gate_callee (f:=61) rfl ?_);refine gl (some 13) Try.func61 #[.agg #[.int .i64 Zc, .bool Zb, .slice Ze Za.length Zd]] ?_;(with_reducible refine(netfmt_Check.calls k Zc Zb _ _ Za t505 _ ?side1 ?side2 A3.out).mono ?_);(case side1=>exact kC (Yt Zj.out HB.out));(case side2=>exact Zs.out);rintro e w9 ⟨rfl,hb⟩;refine⟨_,rfl,?_⟩;replace Xw:=Ya (Yn Xw.out hb);replace HB:=Ya (Yk HB.out hb);(try clear hb))|((with_reducible refine gate_dst (N:=19) rfl ?_);(try (refine gate_guard (by rfl) ?_;dsimp only));refine Kd.R_make (Kd.int .i64) _ 3 rfl (N:=19) rfl 31 _ _ rfl (l1.length:Int) rfl rfl Try.underlying31 (.int .i64 0) 8 info3 rfl (by decide) (by omega) 0 (ok:=fun _=>True) (okp:=fun _=>True) rfl (fun _ hk=>hk) trivial (Yu (by first|(with_reducible assumption)|assumption)) (Nat.le_trans (Nat.mul_le_mul_right _ (Yu (by first|(with_reducible assumption)|assumption):(l1.length:Int).toNat≤35184372088832)) (by omega)) (Yo _ _) (Nat.le_refl _) ?_;intro v507 w10 ho11 hb hg_ hnew_;clear hg_ hnew_;(first|rw[← Ny506.out] at ho11|(simp only[Int.reduceToNat] at ho11;rw[← Ny506.out] at ho11));have HO508:=Ya (Kd.R_lower ho11 (Yi HB.out));replace Xw:=Ya (Yn Xw.out hb);replace HB:=Ya (Yk HB.out hb);clear hb ho11));go_loopg [22] k (fun kq v22 w'=> ∃ (Xc:List Int) (Zh:Int),v22= .int .i64 Zh∧Aside0 (decomp_Lengths.l0 kq Xc l1 (l1.length:Int) Zh Zc Zb Za=some (r1,r2))∧Aside0 (kq≤k)∧Aside0 (Kd.R (Kd.int .i64) 3 w' w.heap.size (fun _=>True) v507 Xc)∧Aside0 (w'.heap[Uq]? =some (.cells #[.int .i64 Zc, .bool Zb,(.slice Ze Za.length Zd)] 24 (0,0)))∧Aside0 (Below w.heap.size w w'))
 case atStart=>exact⟨(y506),(0),(by first|rfl|(simp;done)|(simp[*];done)),H',⟨Nat.le_refl _⟩,⟨HO508.out⟩,⟨Xw.out⟩,⟨HB.out⟩⟩
 case round=>
  clear H';try clear c1
  try clear c4
  try clear c4b0
  try clear c4b1
  try clear c5
  try clear c5b0
  try clear c5b1
  try clear c6
  try clear c6b0
  try clear c6b1
  try clear Uj
  try clear Uk
  try clear Ja
  try clear Ul
  try clear Um
  try clear Jb
  obtain⟨Xc,Zh,rfl,HA,HK1,HO_7,Xw,HB⟩:=hrel;cases gk with
  |zero=>exact absurd HA.out (by simp[decomp_Lengths.l0])
  |succ k1=>
   have H:=HA.out;clear HA;simp only[decomp_Lengths.l0] at H;by_cases c12:Zh<(l1.length:Int)
   rotate_left
   ·rw[Yy c12] at H
    have c12b0:decide (Zh<(l1.length:Int))=false:=Yw c12;clear c12;simp only[Option.some.injEq,Prod.mk.injEq] at H;obtain⟨rfl,rfl⟩:=H;go_wp2;go_ret2;exact⟨_,by first|rfl|(simp[errW_none,errW_some]<;>rfl)|(simp[*,errW_none,errW_some]<;>rfl),by(with_reducible repeat(first|apply Yr|apply Yq|apply Yp));exact HO_7.out,HB.out⟩
   rw[Yx c12] at H;have c12b0:decide (Zh<(l1.length:Int))=true:=Yv c12;clear c12;by_cases c13:0≤Zh
   rotate_left
   ·rw[Yy c13] at H
    exact absurd H (by simp)
   rw[Yx c13] at H;have c13b0:decide (0≤Zh)=true:=Yv c13;clear c13;by_cases c14:Zh<(l1.length:Int)
   rotate_left
   ·rw[Yy c14] at H
    exact absurd H (by simp)
   rw[Yx c14] at H;have c14b0:decide (Zh<(l1.length:Int))=true:=Yv c14;clear c14;have H':=Ya H;clear H;have p509:0≤(Zh:Int):=od;have q509:Zh<(l1.length:Int):=od;obtain⟨ad509,A509_0,c509_0,e509,hx509_0,hx509_1,hl509_0,hi509_0⟩:=at_T47 HR1.out Zh p509 q509;cases e509;replace hx509_0:=hc HB hx509_0;replace hx509_1:=hc HB hx509_1;have HR509_0:=Ya hi509_0;have HC509_0:=Ya hl509_0;clear hi509_0 hl509_0;replace p509:=eq_true p509;replace q509:=eq_true q509;go_wp2_with (first|((with_reducible refine gate_dst (N:=9) rfl ?_);(try (refine gate_guard (by rfl) ?_;dsimp only));refine Yz ?hg (N:=9) ?hd (cs:= #[.slice none 0 0, .int .i64 0]) (t:=47) ?hr ?_;(case hd=>rfl);(case hg=>rfl);(case hr=>first|(go_simp;done)|(go_simp;rfl));intro gb510 hg w15 Zf hb;replace HO_7:=Ya (Ys HO_7.out hb);have BK510:=Ya (Zf);have GW510:=Ya (by rw[hg];exact(Yi HB.out):w.heap.size≤gb510);have GE510:=Ya (by rw[hg];exact(Yi HB.out):w.heap.size≤gb510);replace HB:=Ya (Yk HB.out hb);have NB504_510:=Ya (by rw[hg];exact Nat.ne_of_lt (blk_lt Xw.out):Uq≠gb510);have NB510_504:=Ya (by rw[hg];exact Nat.ne_of_gt (blk_lt Xw.out):gb510≠Uq);replace Xw:=Ya (Yn Xw.out hb);clear hb Zf hg;have hnb16:=NB510_504.out;have hnc16:=NB504_510.out;have Ww:w15.cell? ⟨gb510,0,none⟩=some (.slice none 0 0):=bc BK510 0;have Wx:w15.cell? ⟨gb510,1,none⟩=some (.int .i64 0):=bc BK510 1;have Wy:=Yf BK510.out 0;have Wz:=Yf BK510.out 1));go_loopg [30] k1 (fun kq v30 w'=> ∃ (x7_2:List Int) (Wa:Int),v30= .int .i64 Wa∧Aside0 (decomp_Lengths.l1 kq x7_2 Zh l1 (l1.length:Int) Zh ((rd_T47 l1 Zh).f0) (((rd_T47 l1 Zh).f0).length:Int) Wa Zc Zb Za=some (r1,r2))∧Aside0 (kq≤k1)∧Aside0 (Kd.R (Kd.int .i64) 3 w' w.heap.size (fun _=>True) v507 x7_2)∧Aside0 (w'.heap[Uq]? =some (.cells #[.int .i64 Zc, .bool Zb,(.slice Ze Za.length Zd)] 24 (0,0)))∧Aside0 (w'.heap[gb510]? =some (.cells #[(.slice A509_0 ((rd_T47 l1 Zh).f0).length c509_0), .int .i64 ((rd_T47 l1 Zh).f1)] 47 (0,0)))∧Aside0 (Below w.heap.size w w'))
   case atStart=>exact⟨(Xc),(0),(by first|rfl|(simp;done)|(simp[*];done)),H',⟨Nat.le_refl _⟩,⟨by(with_reducible repeat(first|apply Yr|apply Yq|apply Yp));exact Kd.R_mono (Kd.R_far (p:=⟨gb510,1,none⟩) (Kd.R_far (p:=⟨gb510,0,none⟩) (Kd.R_types HO_7.out BK510.out (by decide)) (fun _ hk=>hk.2) (.slice A509_0 ((rd_T47 l1 Zh).f0).length c509_0)) (fun _ hk=>hk.2) (.int .i64 ((rd_T47 l1 Zh).f1))) (fun _ hk=>trivial)⟩,⟨by(with_reducible repeat(first|refine Yl ?_ _|refine Ym ?_|refine Yj ?_ _));refine blk_far ?_ NB504_510.out _;(with_reducible repeat(first|refine Yl ?_ _|refine Ym ?_|refine Yj ?_ _));refine blk_far ?_ NB504_510.out _;(with_reducible repeat(first|refine Yl ?_ _|refine Ym ?_|refine Yj ?_ _));exact Xw.out⟩,⟨by(with_reducible repeat(first|refine Yl ?_ _|refine Ym ?_|refine Yj ?_ _));refine YA (cs:= #[.slice A509_0 ((rd_T47 l1 Zh).f0).length c509_0, .int .i64 0]) ?_ 1 _ rfl;(with_reducible repeat(first|refine Yl ?_ _|refine Ym ?_|refine Yj ?_ _));refine YA (cs:= #[.slice none 0 0, .int .i64 0]) ?_ 0 _ rfl;(with_reducible repeat(first|refine Yl ?_ _|refine Ym ?_|refine Yj ?_ _));exact BK510.out⟩,⟨bl⟩⟩
   case round=>
    clear H';try clear c1
    try clear c4
    try clear c4b0
    try clear c4b1
    try clear c5
    try clear c5b0
    try clear c5b1
    try clear c6
    try clear c6b0
    try clear c6b1
    try clear c12
    try clear c12b0
    try clear c13
    try clear c13b0
    try clear c14
    try clear c14b0
    try clear Ww
    try clear Wx
    try clear Uj
    try clear Uk
    try clear Ja
    try clear Wy
    try clear Wz
    try clear Ul
    try clear Um
    try clear Jb
    try clear hx509_0
    try clear hx509_1
    try clear p509
    try clear q509
    obtain⟨x7_2,Wa,rfl,HA,HK2,HO_7,Xw,BK510,HB⟩:=hrel;cases gk with
    |zero=>exact absurd HA.out (by simp[decomp_Lengths.l1])
    |succ k2=>
     have H:=HA.out;clear HA;simp only[decomp_Lengths.l1] at H;by_cases c18:Wa<(((rd_T47 l1 Zh).f0).length:Int)
     rotate_left
     ·rw[Yy c18] at H
      have c18b0:decide (Wa<(((rd_T47 l1 Zh).f0).length:Int))=false:=Yw c18;clear c18;have H':=Ya H;clear H;go_wp2;go_roundg k2
      case measure=>have:=HK1.out;have:=HK2.out;omega
      case rel=>exact⟨(x7_2),(wrap64 (Zh+1)),(by first|rfl|(simp;done)|(simp[*];done)),H',⟨by have:=HK1.out;have:=HK2.out;omega⟩,⟨HO_7.out⟩,⟨Xw.out⟩,⟨HB.out⟩⟩
     rw[Yx c18] at H;have c18b0:decide (Wa<(((rd_T47 l1 Zh).f0).length:Int))=true:=Yv c18;clear c18;by_cases c19:0≤Wa
     rotate_left
     ·rw[Yy c19] at H
      exact absurd H (by simp)
     rw[Yx c19] at H;have c19b0:decide (0≤Wa)=true:=Yv c19;clear c19;by_cases c20:Wa<(((rd_T47 l1 Zh).f0).length:Int)
     rotate_left
     ·rw[Yy c20] at H
      exact absurd H (by simp)
     rw[Yx c20] at H;have c20b0:decide (Wa<(((rd_T47 l1 Zh).f0).length:Int))=true:=Yv c20;clear c20;by_cases c21:(rd ((rd_T47 l1 Zh).f0) Wa)<0
     ·rw[Yx c21] at H
      have c21b0:decide ((rd ((rd_T47 l1 Zh).f0) Wa)<0)=true:=Yv c21;clear c21;simp only[Option.some.injEq,Prod.mk.injEq] at H;obtain⟨rfl,rfl⟩:=H;have p511:0≤(Wa:Int):=od;have q511:Wa<(((rd_T47 l1 Zh).f0).length:Int):=od;obtain⟨ad511,e511,hx511_0⟩:=Kd.at_int HR509_0.out Wa p511 q511;cases e511;replace hx511_0:=hc HB hx511_0;replace p511:=eq_true p511;replace q511:=eq_true q511;go_wp2;go_ret2;exact⟨_,by first|rfl|(simp[errW_none,errW_some]<;>rfl)|(simp[*,errW_none,errW_some]<;>rfl),by first|exact Kd.R_nil _ _ _ _ _|exact Kd.N_nil _ _ _ _ _|exact Kd.V_nil _ _ _ _ _|exact Kd.Q_nil _ _ _ _ _|exact Kd.S_nil _ _ _ _ _,HB.out⟩
     rw[Yy c21] at H;have c21b0:decide ((rd ((rd_T47 l1 Zh).f0) Wa)<0)=false:=Yw c21;clear c21;by_cases c22:(rd ((rd_T47 l1 Zh).f0) Wa)≥(Za.length:Int)
     ·rw[Yx c22] at H
      have c22b0:decide ((Za.length:Int)≤(rd ((rd_T47 l1 Zh).f0) Wa))=true:=Yv c22;clear c22;simp only[Option.some.injEq,Prod.mk.injEq] at H;obtain⟨rfl,rfl⟩:=H;have p511:0≤(Wa:Int):=od;have q511:Wa<(((rd_T47 l1 Zh).f0).length:Int):=od;obtain⟨ad511,e511,hx511_0⟩:=Kd.at_int HR509_0.out Wa p511 q511;cases e511;replace hx511_0:=hc HB hx511_0;replace p511:=eq_true p511;replace q511:=eq_true q511;have hnb23:=NB504_510.out;have hnc23:=NB510_504.out;have hcz24_0:wr.cell? ⟨Uq,0,none⟩=some (.int .i64 Zc):=bc Xw 0;have hcz24_1:wr.cell? ⟨Uq,1,none⟩=some (.bool Zb):=bc Xw 1;have hcz24_2:wr.cell? ⟨Uq,2,none⟩=some (.slice Ze Za.length Zd):=bc Xw 2;have hfz24_0:=Yf Xw.out 0;have hfz24_1:=Yf Xw.out 1;have hfz24_2:=Yf Xw.out 2;go_wp2;go_ret2;exact⟨_,by first|rfl|(simp[errW_none,errW_some]<;>rfl)|(simp[*,errW_none,errW_some]<;>rfl),by first|exact Kd.R_nil _ _ _ _ _|exact Kd.N_nil _ _ _ _ _|exact Kd.V_nil _ _ _ _ _|exact Kd.Q_nil _ _ _ _ _|exact Kd.S_nil _ _ _ _ _,HB.out⟩
     rw[Yy c22] at H;have c22b0:decide ((Za.length:Int)≤(rd ((rd_T47 l1 Zh).f0) Wa))=false:=Yw c22;clear c22;by_cases c25:0≤Zh
     rotate_left
     ·rw[Yy c25] at H
      exact absurd H (by simp)
     rw[Yx c25] at H;have c25b0:decide (0≤Zh)=true:=Yv c25;clear c25;by_cases c26:Zh<(x7_2.length:Int)
     rotate_left
     ·rw[Yy c26] at H
      exact absurd H (by simp)
     rw[Yx c26] at H;have c26b0:decide (Zh<(x7_2.length:Int))=true:=Yv c26;clear c26;by_cases c27:0≤(rd ((rd_T47 l1 Zh).f0) Wa)
     rotate_left
     ·rw[Yy c27] at H
      exact absurd H (by simp)
     rw[Yx c27] at H;have c27b0:decide (0≤(rd ((rd_T47 l1 Zh).f0) Wa))=true:=Yv c27;clear c27;by_cases c28:(rd ((rd_T47 l1 Zh).f0) Wa)<(Za.length:Int)
     rotate_left
     ·rw[Yy c28] at H
      exact absurd H (by simp)
     rw[Yx c28] at H;have c28b0:decide ((rd ((rd_T47 l1 Zh).f0) Wa)<(Za.length:Int))=true:=Yv c28;clear c28;obtain⟨y514,hy514⟩: ∃ y_:List Int,y_=(x7_2.set (Zh:Int).toNat (wrap64 ((rd x7_2 Zh)+((rd_T50 Za (rd ((rd_T47 l1 Zh).f0) Wa)).f3)))):=⟨_,rfl⟩;rw[← hy514] at H;have Ny514:=Ya hy514;clear hy514;have H':=Ya H;clear H;have p511:0≤(Wa:Int):=od;have q511:Wa<(((rd_T47 l1 Zh).f0).length:Int):=od;obtain⟨ad511,e511,hx511_0⟩:=Kd.at_int HR509_0.out Wa p511 q511;cases e511;replace hx511_0:=hc HB hx511_0;replace p511:=eq_true p511;replace q511:=eq_true q511;have hnb30:=NB504_510.out;have hnc30:=NB510_504.out;have hcz31_0:wr.cell? ⟨Uq,0,none⟩=some (.int .i64 Zc):=bc Xw 0;have hcz31_1:wr.cell? ⟨Uq,1,none⟩=some (.bool Zb):=bc Xw 1;have hcz31_2:wr.cell? ⟨Uq,2,none⟩=some (.slice Ze Za.length Zd):=bc Xw 2;have hfz31_0:=Yf Xw.out 0;have hfz31_1:=Yf Xw.out 1;have hfz31_2:=Yf Xw.out 2;try go_wp2
     replace HO_7:=Ya (Yp HO_7.out);replace Xw:=Ya (Ym Xw.out);replace BK510:=Ya (Ym BK510.out);replace HB:=Ya (Yg HB.out);obtain⟨Ao33,co33,eo33⟩:=Kd.R_slice HO_7.out
     (first|subst eo33|(injection eo33 with f1_ f2_ f3_;have f4_:=f1_.symm;have f5_:=f3_.symm;clear f1_ f2_ f3_;subst f4_;subst f5_))
     have p512:0≤(Zh:Int):=od;have q512:Zh<(x7_2.length:Int):=od;obtain⟨ad512,e512,hx512_0⟩:=Kd.at_int (Kd.R_reads' HO_7.out).2.2 Zh p512 q512;cases e512;replace p512:=eq_true p512;replace q512:=eq_true q512;have p513:0≤((rd ((rd_T47 l1 Zh).f0) Wa):Int):=od;have q513:(rd ((rd_T47 l1 Zh).f0) Wa)<(Za.length:Int):=od;obtain⟨ad513,e513,hx513_0,hx513_1,hx513_2,hx513_3⟩:=at_T50 Zj.out (rd ((rd_T47 l1 Zh).f0) Wa) p513 q513;have hw513_3:=hx513_3;have hw513_2:=hx513_2;have hw513_1:=hx513_1;have hw513_0:=hx513_0;cases e513;replace hx513_0:=hc HB hx513_0;replace hx513_1:=hc HB hx513_1;replace hx513_2:=hc HB hx513_2;replace hx513_3:=hc HB hx513_3;replace p513:=eq_true p513;replace q513:=eq_true q513;have p29:0≤(Zh:Int):=od;have q29:(Zh:Int)<((x7_2.length:Int):Int):=od;obtain⟨go29,co29,eo29,gb29,gl29,cl29,HG29⟩:=Kd.R_form HO_7.out (by omega)
     (first|cases eo29|(injection eo29 with ea_ en_ ec_;(first|subst ea_|(injection ea_ with ea_;subst ea_));subst ec_;clear en_))
     have GB29:=Ya gb29;have GG29:=Ya HG29;clear gb29 gl29 HG29
     (first|simp only[add_plain] at hx512_0|skip)
     obtain⟨hx29_0,hf29_0⟩:=Kd.R_celln 0 HO_7.out (Zh:Int) p29 q29;replace p29:=eq_true p29;replace q29:=eq_true q29;have HP34:=Kd.R_putn HO_7.out (Zh:Int) (wrap64 ((rd x7_2 Zh)+((rd_T50 Za (rd ((rd_T47 l1 Zh).f0) Wa)).f3)));rw[← Ny514.out] at HP34;have HQ34:=Ya HP34;clear HP34;refine start_ (n:=13) (S:=fun w'=>w'.cell? ⟨Uq,0,none⟩=some (.int .i64 Zc)∧w'.cell? ⟨Uq,1,none⟩=some (.bool Zb)∧w'.cell? ⟨Uq,2,none⟩=some (.slice (some ad513) Za.length Zd)∧w'.cell? ⟨go29,(Zh).toNat,none⟩=some (.int .i64 (rd x7_2 Zh))∧w'.cell? (ad513.add (((rd ((rd_T47 l1 Zh).f0) Wa)).toNat * 4))=some (.int .i64 ((rd_T50 Za (rd ((rd_T47 l1 Zh).f0) Wa)).f0))∧w'.cell? ⟨(ad513.add (((rd ((rd_T47 l1 Zh).f0) Wa)).toNat * 4)).block,(ad513.add (((rd ((rd_T47 l1 Zh).f0) Wa)).toNat * 4)).off+1,none⟩=some (.int .i64 ((rd_T50 Za (rd ((rd_T47 l1 Zh).f0) Wa)).f1))∧w'.cell? ⟨(ad513.add (((rd ((rd_T47 l1 Zh).f0) Wa)).toNat * 4)).block,(ad513.add (((rd ((rd_T47 l1 Zh).f0) Wa)).toNat * 4)).off+2,none⟩=some (.int .i64 ((rd_T50 Za (rd ((rd_T47 l1 Zh).f0) Wa)).f2))∧w'.cell? ⟨(ad513.add (((rd ((rd_T47 l1 Zh).f0) Wa)).toNat * 4)).block,(ad513.add (((rd ((rd_T47 l1 Zh).f0) Wa)).toNat * 4)).off+3,none⟩=some (.int .i64 ((rd_T50 Za (rd ((rd_T47 l1 Zh).f0) Wa)).f3))) (ds:=[12]) #[false,false,false,false,false,false,false,false,false,false,false,false,false] (by kernel_rfl) rfl rfl ⟨(Yc Xw.out 0).trans rfl,(Yc Xw.out 1).trans rfl,(Yc Xw.out 2).trans rfl,hx512_0,((HB.out.cell (Yb w _ hw513_0)).trans hw513_0),((HB.out.cell (Yb w _ hw513_1)).trans hw513_1),((HB.out.cell (Yb w _ hw513_2)).trans hw513_2),((HB.out.cell (Yb w _ hw513_3)).trans hw513_3)⟩ (fun hHeld=> ?_);refine with_tabW decomp_Lengths.tab13 decomp_Lengths.bits13 (fun HT_ HW_=> ?_);generalize wr.drew=w32 at HO_7 Xw BK510 HB GG29 HQ34 hf29_0 hx29_0 hx512_0 hx513_0 hx513_1 hx513_2 hx513_3 hHeld ⊢;refine pu 0 43 (bm 13 1) ?_;refine pu 1 44 (bm 13 3) ?_;refine pu 2 45 (bm 13 7) ?_;refine pu 4 47 (bm 13 23) ?_;refine pu 6 49 (bm 13 87) ?_;refine ta 3 46 (bm 13 95) hHeld ?_;refine ta 5 48 (bm 13 127) hHeld ?_;refine pu 7 50 (bm 13 255) ?_;refine pu 8 51 (bm 13 511) ?_;refine ta 9 52 (bm 13 1023) hHeld ?_;refine pu 10 53 (bm 13 2047) ?_;refine pu 11 54 (bm 13 4095) ?_;refine last_ (i:=12) (N:=none) #[true,true,true,true,true,true,true,true,true,true,true,true,true] rfl rfl (one_of HT_.out (by kernel_rfl)) (by decide) (fun K hK=> ?_);refine skip_ (w1:= ?_) (by rfl) rfl ?_ ?_
     rotate_left
     ·go_simp
      rfl
     refine hK.out _ _ ?_;clear hK K;refine done_ (done_of HT_.out (by kernel_rfl)) ?_;try go_wp2
     go_roundg k2
     case measure=>have:=HK1.out;have:=HK2.out;omega
     case rel=>exact⟨(y514),(wrap64 (Wa+1)),(by first|rfl|(simp;done)|(simp[*];done)),H',⟨by have:=HK1.out;have:=HK2.out;omega⟩,⟨kR HQ34⟩,⟨by(with_reducible repeat(first|refine Yl ?_ _|refine Ym ?_|refine Yj ?_ _));refine blk_far ?_ (by have h_:=Kd.R_ne HO_7.out Xw.out (by decide);intro e_;exact h_ (by rw[e_];rfl)) _;(with_reducible repeat(first|refine Yl ?_ _|refine Ym ?_|refine Yj ?_ _));exact Xw.out⟩,⟨by(with_reducible repeat(first|refine Yl ?_ _|refine Ym ?_|refine Yj ?_ _));refine blk_far ?_ (by have h_:=Kd.R_ne HO_7.out BK510.out (by decide);intro e_;exact h_ (by rw[e_];rfl)) _;(with_reducible repeat(first|refine Yl ?_ _|refine Ym ?_|refine Yj ?_ _));exact BK510.out⟩,⟨bl⟩⟩
end P
namespace P
attribute [local go_sem] max2_int min2_int max_two min_two max_three min_three max_four min_four
def ebbtidelaw13_loop.f  :Option (Int × Bool × (List (S50))):=some (3,false,(([(⟨0,1,3,1⟩:S50),(⟨1,2,3,1⟩:S50),(⟨2,1,3,1⟩:S50)]:List (S50))))
set_option maxHeartbeats 8000000 in
set_option maxRecDepth 100000 in
theorem ebbtidelaw13_loop.calls  (r1:Int) (r2:Bool) (r3:List (S50)) (w:World) (h:ebbtidelaw13_loop.f  =some (r1,r2,r3)):
  Calls Try.prog 45 #[] w fun e w'=> ∃ v2_:Value,e= .returned (.agg #[.int .i64 r1, .bool r2,v2_])∧Kd.R k50 50 w' w.heap.size (fun _=>True) v2_ r3∧Below w.heap.size w w':=by
 have hu24:=Try.underlying24;have hu50:=Try.underlying50;have HB:=Ya (Yo w.heap.size w);have H:=h;unfold ebbtidelaw13_loop.f at H;clear h;obtain⟨y516,hy516⟩: ∃ y_:List (S50),y_=(([(⟨0,1,3,1⟩:S50),(⟨1,2,3,1⟩:S50),(⟨2,1,3,1⟩:S50)]:List (S50))):=⟨_,rfl⟩;rw[← hy516] at H;have Ny516:=Ya hy516;clear hy516;simp only[Option.some.injEq,Prod.mk.injEq] at H;obtain⟨rfl,rfl,rfl⟩:=H;go_enter Try.func45,Try.ntmps45;go_wp2_with (first|(refine bx 0 24 #[.int .i64 0, .bool false, .slice none 0 0] ?_;intro gb515 hg w1 Zf hb;have BK515:=Ya (Zf);have GW515:=Ya ((sz hg));have GE515:=Ya ((sz hg));replace HB:=Ya (Yk bl hb);clear hb Zf hg)|((with_reducible refine gate_dst (N:=4) rfl ?_);refine Kd.R_lit k50 _ 50 ?hg (N:=4) ?hd (xs:=([(⟨0,1,3,1⟩:S50),(⟨1,2,3,1⟩:S50),(⟨2,1,3,1⟩:S50)]:List (S50))) (inner:=[.int .i64 0, .int .i64 1, .int .i64 3, .int .i64 1, .int .i64 1, .int .i64 2, .int .i64 3, .int .i64 1, .int .i64 2, .int .i64 1, .int .i64 3, .int .i64 1]) (ok:=fun _=>True) (okp:=fun _=>True) ?hr ?hp (fun _ hk=>hk) trivial (Yo _ _) (Nat.le_refl _) (by simp) ?_;(case hd=>rfl);(case hg=>rfl);(case hr=>first|(go_simp;done)|(go_simp;rfl));(case hp=>exact(Reps.c4 (show Kd.M k50 _ _ _ (⟨0,1,3,1⟩:S50) [.int .i64 0, .int .i64 1, .int .i64 3, .int .i64 1] from(k50_mkM _ _ _ (⟨0,1,3,1⟩:S50) )) (Reps.c4 (show Kd.M k50 _ _ _ (⟨1,2,3,1⟩:S50) [.int .i64 1, .int .i64 2, .int .i64 3, .int .i64 1] from(k50_mkM _ _ _ (⟨1,2,3,1⟩:S50) )) (Reps.c4 (show Kd.M k50 _ _ _ (⟨2,1,3,1⟩:S50) [.int .i64 2, .int .i64 1, .int .i64 3, .int .i64 1] from(k50_mkM _ _ _ (⟨2,1,3,1⟩:S50) )) (Reps.none _ _)))));intro v517 w2 ho3 hb hg_ hnew_;clear hg_ hnew_;(first|rw[← Ny516.out] at ho3|(simp only[Int.reduceToNat] at ho3;rw[← Ny516.out] at ho3));have HO518:=Ya (Kd.R_lower ho3 (Yi bl));replace BK515:=Ya (Yn (bk BK515) hb);replace HB:=Ya (Yk bl hb);clear hb ho3;obtain⟨Ao4,co4,eo4⟩:=Kd.R_slice HO518.out;subst eo4;have hcz5_0:w2.cell? ⟨gb515,0,none⟩=some (.int .i64 0):=bc BK515 0;have hcz5_1:w2.cell? ⟨gb515,1,none⟩=some (.bool false):=bc BK515 1;have hcz5_2:w2.cell? ⟨gb515,2,none⟩=some (.slice none 0 0):=bc BK515 2;have hfz5_0:=Yf BK515.out 0;have hfz5_1:=Yf BK515.out 1;have hfz5_2:=Yf BK515.out 2));refine bodyPost_ret (results_cell_row rfl _ _ gb515 24 #[.int .i64 3, .bool false, .slice Ao4 y516.length co4] (0,0) _ rfl (by(with_reducible repeat(first|refine Yl ?_ _|refine Ym ?_|refine Yj ?_ _));refine YA (cs:= #[.int .i64 3, .bool false, .slice none 0 0]) ?_ 2 _ rfl;(with_reducible repeat(first|refine Yl ?_ _|refine Ym ?_|refine Yj ?_ _));refine YA (cs:= #[.int .i64 3, .bool false, .slice none 0 0]) ?_ 1 _ rfl;(with_reducible repeat(first|refine Yl ?_ _|refine Ym ?_|refine Yj ?_ _));refine YA (cs:= #[.int .i64 0, .bool false, .slice none 0 0]) ?_ 0 _ rfl;(with_reducible repeat(first|refine Yl ?_ _|refine Ym ?_|refine Yj ?_ _));exact BK515.out) Try.underlying24 rfl (by kernel_rfl)) rfl ?_;exact⟨_,by first|rfl|(simp[errW_none,errW_some]<;>rfl)|(simp[*,errW_none,errW_some]<;>rfl),by(with_reducible repeat(first|apply Yr|apply Yq|apply Yp));exact Kd.R_mono (Kd.R_far (p:=⟨gb515,2,none⟩) (Kd.R_far (p:=⟨gb515,1,none⟩) (Kd.R_far (p:=⟨gb515,0,none⟩) (Kd.R_types HO518.out BK515.out (by decide)) (fun _ hk=>hk.2) (.int .i64 3)) (fun _ hk=>hk.2) (.bool false)) (fun _ hk=>hk.2) (.slice Ao4 y516.length co4)) (fun _ hk=>trivial),bl⟩
end P
namespace P
attribute [local go_sem] max2_int min2_int max_two min_two max_three min_three max_four min_four
def ebbtidelaw13_awake.f (k:Nat)  :Option (Bool):=(ebbtidelaw13_loop.f).bind fun bt519=>((decomp_Split.f bt519.1 bt519.2.1 bt519.2.2 0 2 (([1,2,1]:List Int))).bind fun bt527=>((ebbtidelaw13_loop.f).bind fun bt534=>((decomp_Lengths.f k bt534.1 bt534.2.1 bt534.2.2 bt527.1).bind fun bt539=>(if bt527.2.2=0 then(if bt539.2=0 then((ebbtideref13_Same.f k bt527.1 (([(⟨(([0,1]:List Int)),1⟩:S47)]:List (S47)))).bind fun t549=>(if t549=true then((ebbtideref13_Same.f k bt527.2.1 (([(⟨(([1,2]:List Int)),1⟩:S47)]:List (S47)))).bind fun t556=>(if t556=true then((ebbtideref03_SameInts.f k bt539.1 (([2]:List Int))).bind fun t560=>(some t560)) else(some false))) else(some false))) else(some false)) else(some false)))))
theorem ebbtidelaw13_awake.mono: ∀ k,LeO (ebbtidelaw13_awake.f k ) (ebbtidelaw13_awake.f (k+1) ):=by
 intro  k;unfold ebbtidelaw13_awake.f;repeat' first
   |(with_reducible exact decomp_Lengths.mono _ _ _ _ _)
   |(with_reducible exact ebbtideref03_SameInts.mono _ _ _)
   |(with_reducible exact ebbtideref13_Same.mono _ _ _)
   |(with_reducible exact LeO.refl _)
   |(with_reducible exact LeO.none _)
   |(with_reducible refine LeO.ite ?_ ?_)
   |(with_reducible refine LeO.bind ?_ (fun _=> ?_))
   |refine LeO.ite ?_ ?_
   |refine LeO.bind ?_ (fun _=> ?_)
set_option maxHeartbeats 8000000 in
set_option maxRecDepth 100000 in
theorem ebbtidelaw13_awake.calls (k:Nat)  (r:Bool) (w:World) (h:ebbtidelaw13_awake.f k  =some r) (hrT_:r=true:=by first|rfl|exact Aside0.out (by assumption)):
  Calls Try.prog 18 #[] w fun e w'=>e= .returned (.bool r)∧Below w.heap.size w w':=by
 have HRT:=Ya hrT_;clear hrT_;have hu47:=Try.underlying47;have HB:=Ya (Yo w.heap.size w);have H:=h;unfold ebbtidelaw13_awake.f at H;clear h;replace H:=Option.bind_eq_some_iff.mp H;obtain⟨⟨t519,t520,t521⟩,A10,H⟩:=H;dsimp only at H;have A1:=Ya A10;clear A10;obtain⟨y524,hy524⟩: ∃ y_:List Int,y_=(([1,2,1]:List Int)):=⟨_,rfl⟩;rw[← hy524] at H;have Ny524:=Ya hy524;clear hy524;replace H:=Option.bind_eq_some_iff.mp H;obtain⟨⟨t527,t530,t533⟩,A20,H⟩:=H;dsimp only at H;have A2:=Ya A20;clear A20;replace H:=Option.bind_eq_some_iff.mp H;obtain⟨⟨t534,t535,t536⟩,A30,H⟩:=H;dsimp only at H;have A3:=Ya A30;clear A30;replace H:=Option.bind_eq_some_iff.mp H;obtain⟨⟨t539,t542⟩,A40,H⟩:=H;dsimp only at H;have A4:=Ya A40;clear A40;by_cases c5:t533=0
 rotate_left
 ·rw[Yy c5] at H
  exact absurd (Option.some.inj H) (by rw[HRT.out];decide)
 rw[Yx c5] at H;have c5b0:(t533 == 0)=true:=beq_iff_eq.mpr c5;have c5b1:(t533 != 0)=false:=bne_eq_false_iff_eq.mpr c5;clear c5;by_cases c6:t542=0
 rotate_left
 ·rw[Yy c6] at H
  exact absurd (Option.some.inj H) (by rw[HRT.out];decide)
 rw[Yx c6] at H;have c6b0:(t542 == 0)=true:=beq_iff_eq.mpr c6;have c6b1:(t542 != 0)=false:=bne_eq_false_iff_eq.mpr c6;clear c6;obtain⟨y543,hy543⟩: ∃ y_:List Int,y_=(([0,1]:List Int)):=⟨_,rfl⟩;rw[← hy543] at H;have Ny543:=Ya hy543;clear hy543;obtain⟨y546,hy546⟩: ∃ y_:List (S47),y_=(([(⟨y543,1⟩:S47)]:List (S47))):=⟨_,rfl⟩;rw[← hy546] at H;have Ny546:=Ya hy546;clear hy546;replace H:=Option.bind_eq_some_iff.mp H;obtain⟨t549,A70,H⟩:=H;replace H:(if t549=true then((ebbtideref13_Same.f k t530 (([(⟨(([1,2]:List Int)),1⟩:S47)]:List (S47)))).bind fun t556=>(if t556=true then((ebbtideref03_SameInts.f k t539 (([2]:List Int))).bind fun t560=>(some t560)) else(some false))) else(some false))=some r:=H;have A7:=Ya A70;clear A70;by_cases c8:t549=true
 rotate_left
 ·replace c8:=Bool.eq_false_iff.mpr c8
  subst c8;have H1:(some false)=some r:=by rw[Yy (show ¬ (false=true) by decide)] at H;exact H
  exact absurd (Option.some.inj H1) (by rw[HRT.out];decide)
 subst c8;first|rw[Yx rfl] at H|rw[Yx trivial] at H
 obtain⟨y550,hy550⟩: ∃ y_:List Int,y_=(([1,2]:List Int)):=⟨_,rfl⟩;rw[← hy550] at H;have Ny550:=Ya hy550;clear hy550;obtain⟨y553,hy553⟩: ∃ y_:List (S47),y_=(([(⟨y550,1⟩:S47)]:List (S47))):=⟨_,rfl⟩;rw[← hy553] at H;have Ny553:=Ya hy553;clear hy553;replace H:=Option.bind_eq_some_iff.mp H;obtain⟨t556,A90,H⟩:=H;replace H:(if t556=true then((ebbtideref03_SameInts.f k t539 (([2]:List Int))).bind fun t560=>(some t560)) else(some false))=some r:=H;have A9:=Ya A90;clear A90;by_cases c10:t556=true
 rotate_left
 ·replace c10:=Bool.eq_false_iff.mpr c10
  subst c10;have H1:(some false)=some r:=by rw[Yy (show ¬ (false=true) by decide)] at H;exact H
  exact absurd (Option.some.inj H1) (by rw[HRT.out];decide)
 subst c10;first|rw[Yx rfl] at H|rw[Yx trivial] at H
 obtain⟨y557,hy557⟩: ∃ y_:List Int,y_=(([2]:List Int)):=⟨_,rfl⟩;rw[← hy557] at H;have Ny557:=Ya hy557;clear hy557;replace H:=Option.bind_eq_some_iff.mp H;obtain⟨t560,A110,H⟩:=H;replace H:(some t560)=some r:=H;have A11:=Ya A110;clear A110;obtain rfl:=Option.some.inj H;go_enter Try.func18,Try.ntmps18;go_wp2_with (first|((with_reducible refine gate_callee (f:=45) rfl ?_);refine gl (some 7) Try.func45 #[] ?_;(with_reducible refine(ebbtidelaw13_loop.calls  t519 t520 t521 _ A1.out).mono ?_);rintro e w12 ⟨v522,rfl,ho0,hb⟩;refine⟨_,rfl,?_⟩;have Vl:=Ya (Kd.R_lower ho0 (Yi bl));replace HB:=Ya (Yk bl hb);(try clear hb);(try clear ho0))|((with_reducible refine gate_dst (N:=8) rfl ?_);(try (refine gate_guard (by rfl) ?_;dsimp only));refine Kd.R_lit (Kd.int .i64) _ 3 ?hg (N:=8) ?hd (xs:=([1,2,1]:List Int)) (inner:=[.int .i64 1, .int .i64 2, .int .i64 1]) (ok:=fun _=>True) (okp:=fun _=>True) ?hr ?hp (fun _ hk=>hk) trivial (Yo _ _) (Nat.le_refl _) (by simp) ?_;(case hd=>rfl);(case hg=>rfl);(case hr=>first|(go_simp;done)|(go_simp;rfl));(case hp=>exact(Reps.one (show Kd.M (Kd.int .i64) _ _ _ 1 [.int .i64 1] from rfl) (Reps.one (show Kd.M (Kd.int .i64) _ _ _ 2 [.int .i64 2] from rfl) (Reps.one (show Kd.M (Kd.int .i64) _ _ _ 1 [.int .i64 1] from rfl) (Reps.none _ _)))));intro v525 w13 ho14 hb hg_ hnew_;clear hg_ hnew_;(first|rw[← Ny524.out] at ho14|(simp only[Int.reduceToNat] at ho14;rw[← Ny524.out] at ho14));replace Vl:=Ya (Ys (kR Vl) hb);have Ua:=Ya (Kd.R_lower ho14 (Yi bl));replace HB:=Ya (Yk bl hb);clear hb ho14;obtain⟨Ao15,co15,eo15⟩:=Kd.R_slice Vl.out;subst eo15;obtain⟨Ao16,co16,eo16⟩:=Kd.R_slice Ua.out;subst eo16)|((with_reducible refine gate_callee (f:=19) rfl ?_);refine gl (some 9) Try.func19 #[.agg #[.int .i64 t519, .bool t520, .slice Ao15 t521.length co15], .int .i64 0, .int .i64 2, .slice Ao16 y524.length co16] ?_;(with_reducible refine(decomp_Split.calls t519 t520 _ _ t521 0 2 _ _ y524 t527 t530 t533 _ ?side1 ?side2 ?side3 ?side4 A2.out).mono ?_);(case side1=>exact kC (Kd.R_reads' Vl.out).2.2);(case side2=>exact(Kd.R_reads' Vl.out).2.1);(case side3=>exact kC (Kd.R_reads' Ua.out).2.2);(case side4=>exact(Kd.R_reads' Ua.out).2.1);rintro e w17 ⟨v528,v531,rfl,ho0,ho1,hb⟩;refine⟨_,rfl,?_⟩;have Ui:=Ya (Kd.N_lower (Kd.N_mono (ok':=fun k_=>some k_≠(v531:Value).ownBlock∧some k_≠(.slice Ao15 t521.length co15:Value).ownBlock∧some k_≠(.slice Ao16 y524.length co16:Value).ownBlock) (Kd.S_N (Kd.S_bound ho0)) (fun k_ hk_=>⟨hk_.1,(Kd.fresh' (Kd.R_lt (kR Vl)) k_ hk_.2.1),(Kd.fresh' (Kd.R_lt (kR Ua)) k_ hk_.2.1)⟩)) (Yi bl));have Jd:=Ya (Kd.N_lower (Kd.N_mono (ok':=fun k_=>some k_≠(v528:Value).ownBlock∧some k_≠(.slice Ao15 t521.length co15:Value).ownBlock∧some k_≠(.slice Ao16 y524.length co16:Value).ownBlock) (Kd.S_N (Kd.S_bound ho1)) (fun k_ hk_=>⟨hk_.1,(Kd.fresh' (Kd.R_lt (kR Vl)) k_ hk_.2.1),(Kd.fresh' (Kd.R_lt (kR Ua)) k_ hk_.2.1)⟩)) (Yi bl));replace Vl:=Ya (Ys (kR Vl) hb);replace Ua:=Ya (Ys (kR Ua) hb);replace HB:=Ya (Yk bl hb);(try clear hb);(try clear hb2);(try clear hk);(try clear hi);(try clear ho0);(try clear ho1))|((with_reducible refine gate_callee (f:=45) rfl ?_);refine gl (some 14) Try.func45 #[] ?_;(with_reducible refine(ebbtidelaw13_loop.calls  t534 t535 t536 _ A3.out).mono ?_);rintro e w18 ⟨v537,rfl,ho0,hb⟩;refine⟨_,rfl,?_⟩;replace Ua:=Ya (Ys (kR Ua) hb);replace Ui:=Ya (Kd.N_elder' (kN Ui) (Kd.R_base ho0) hb);replace Jd:=Ya (Kd.N_elder' (kN Jd) (Kd.R_base ho0) hb);have Jo:=Ya (Kd.R_lower (Kd.R_new' ho0 (Kd.R_lt (kR Vl))) (Yi bl));replace Vl:=Ya (Kd.R_elder' (kR Vl) (Kd.R_base ho0) hb);replace HB:=Ya (Yk bl hb);(try clear hb);(try clear hb2);(try clear hk);(try clear hi);(try clear ho0);obtain⟨Ao19,co19,eo19⟩:=Kd.R_slice Jo.out;subst eo19;obtain⟨Ao20,co20,eo20⟩:=Kd.N_slice Ui.out;subst eo20)|((with_reducible refine gate_callee (f:=29) rfl ?_);refine gl (some 16) Try.func29 #[.agg #[.int .i64 t534, .bool t535, .slice Ao19 t536.length co19], .slice Ao20 t527.length co20] ?_;(with_reducible refine(decomp_Lengths.calls k t534 t535 _ _ t536 _ _ t527 t539 t542 _ ?side1 ?side2 ?side3 ?side4 A4.out).mono ?_);(case side1=>exact kC (Kd.R_reads' Jo.out).2.2);(case side2=>exact(Kd.R_reads' Jo.out).2.1);(case side3=>exact kC (Kd.N_reads' Ui.out).2.2);(case side4=>exact(Kd.N_reads' Ui.out).2.1);rintro e w21 ⟨v540,rfl,ho0,hb⟩;refine⟨_,rfl,?_⟩;replace Vl:=Ya (Ys (kR Vl) hb);replace Ui:=Ya (Kd.N_elder' (kN Ui) (Kd.R_base ho0) hb);replace Jd:=Ya (Kd.N_elder' (kN Jd) (Kd.R_base ho0) hb);replace Jo:=Ya (Ys (kR Jo) hb);have HO541:=Ya (Kd.R_lower (Kd.R_new' ho0 (Kd.R_lt (kR Ua))) (Yi bl));replace Ua:=Ya (Kd.R_elder' (kR Ua) (Kd.R_base ho0) hb);replace HB:=Ya (Yk bl hb);(try clear hb);(try clear hb2);(try clear hk);(try clear hi);(try clear ho0))|((with_reducible refine gate_dst (N:=27) rfl ?_);(try (refine gate_guard (by rfl) ?_;dsimp only));refine Kd.R_lit (Kd.int .i64) _ 3 ?hg (N:=27) ?hd (xs:=([0,1]:List Int)) (inner:=[.int .i64 0, .int .i64 1]) (ok:=fun _=>True) (okp:=fun _=>True) ?hr ?hp (fun _ hk=>hk) trivial (Yo _ _) (Nat.le_refl _) (by simp) ?_;(case hd=>rfl);(case hg=>rfl);(case hr=>first|(go_simp;done)|(go_simp;rfl));(case hp=>exact(Reps.one (show Kd.M (Kd.int .i64) _ _ _ 0 [.int .i64 0] from rfl) (Reps.one (show Kd.M (Kd.int .i64) _ _ _ 1 [.int .i64 1] from rfl) (Reps.none _ _))));intro v544 w22 ho23 hb hg_ hnew_;clear hg_ hnew_;(first|rw[← Ny543.out] at ho23|(simp only[Int.reduceToNat] at ho23;rw[← Ny543.out] at ho23));replace Vl:=Ya (Ys (kR Vl) hb);replace Ui:=Ya (Kd.N_elder' (kN Ui) (Kd.R_base ho23) hb);replace Jd:=Ya (Kd.N_elder' (kN Jd) (Kd.R_base ho23) hb);replace Jo:=Ya (Ys (kR Jo) hb);have HO545:=Ya (Kd.R_lower (Kd.R_new' (Kd.R_new' ho23 (Kd.R_lt (kR Ua))) (Kd.R_lt (kR HO541))) (Yi bl));replace Ua:=Ya (Kd.R_elder' (kR Ua) (Kd.R_base ho23) hb);replace HO541:=Ya (Kd.R_elder' (kR HO541) (Kd.R_base ho23) hb);replace HB:=Ya (Yk bl hb);clear hb ho23;obtain⟨Ao24,co24,eo24⟩:=Kd.R_slice HO545.out;subst eo24)|((with_reducible refine gate_dst (N:=29) rfl ?_);(try (refine gate_guard (by rfl) ?_;dsimp only));refine Kd.N_lit k47 _ 47 ?hg (N':=29) ?hd (xs:=([(⟨y543,1⟩:S47)]:List (S47))) (inner:=[.slice Ao24 y543.length co24, .int .i64 1]) (ok:=(fun k_=>some k_≠(.slice Ao15 t521.length co15:Value).ownBlock∧some k_≠(.slice Ao16 y524.length co16:Value).ownBlock∧some k_≠(.slice Ao20 t527.length co20:Value).ownBlock∧some k_≠(v531:Value).ownBlock∧some k_≠(.slice Ao19 t536.length co19:Value).ownBlock∧some k_≠(v540:Value).ownBlock)) (okp:=(fun k_=>some k_≠(.slice Ao15 t521.length co15:Value).ownBlock∧some k_≠(.slice Ao16 y524.length co16:Value).ownBlock∧some k_≠(.slice Ao20 t527.length co20:Value).ownBlock∧some k_≠(v531:Value).ownBlock∧some k_≠(.slice Ao19 t536.length co19:Value).ownBlock∧some k_≠(v540:Value).ownBlock)) ?hr ?hp (fun _ hk=>hk) ((show ∀ k_,w22.heap.size≤k_→(fun k_=>some k_≠(.slice Ao15 t521.length co15:Value).ownBlock∧some k_≠(.slice Ao16 y524.length co16:Value).ownBlock∧some k_≠(.slice Ao20 t527.length co20:Value).ownBlock∧some k_≠(v531:Value).ownBlock∧some k_≠(.slice Ao19 t536.length co19:Value).ownBlock∧some k_≠(v540:Value).ownBlock) k_ from fun k_ hk=>⟨Kd.fresh' (Kd.R_lt (kR Vl)) k_ hk,Kd.fresh' (Kd.R_lt (kR Ua)) k_ hk,Kd.fresh' (Kd.N_lt (kN Ui)) k_ hk,Kd.fresh' (Kd.N_lt (kN Jd)) k_ hk,Kd.fresh' (Kd.R_lt (kR Jo)) k_ hk,Kd.fresh' (Kd.R_lt (kR HO541)) k_ hk⟩) _ (Nat.le_refl _)) (Yo _ _) (Nat.le_refl _) (by simp) ?_;(case hd=>rfl);(case hg=>rfl);(case hr=>first|(go_simp;done)|(go_simp;rfl));(case hp=>exact(Reps.c2 (show Kd.FK k47 _ _ (⟨y543,1⟩:S47) [.slice Ao24 y543.length co24, .int .i64 1] from(k47_mkF _ _ (⟨y543,1⟩:S47) (Kd.R_reads' (Kd.R_mono (ok':=(fun k_=>some k_≠(.slice Ao15 t521.length co15:Value).ownBlock∧some k_≠(.slice Ao16 y524.length co16:Value).ownBlock∧some k_≠(.slice Ao20 t527.length co20:Value).ownBlock∧some k_≠(v531:Value).ownBlock∧some k_≠(.slice Ao19 t536.length co19:Value).ownBlock∧some k_≠(v540:Value).ownBlock)) (Kd.R_apart' (Kd.R_apart' (Kd.R_apart' (Kd.R_apart' (HO545.out) (Kd.R_typed Vl.out) (by decide)) (Kd.N_typed Ui.out) (by decide)) (Kd.N_typed Jd.out) (by decide)) (Kd.R_typed Jo.out) (by decide)) (fun k_ hk=>⟨hk.1.1.1.2,⟨hk.1.1.1.1.1.2,⟨hk.1.1.2,⟨hk.1.2,⟨hk.2,hk.1.1.1.1.2⟩⟩⟩⟩⟩))).2.1 (Kd.R_F (Kd.R_mono (ok':=(fun k_=>some k_≠(.slice Ao15 t521.length co15:Value).ownBlock∧some k_≠(.slice Ao16 y524.length co16:Value).ownBlock∧some k_≠(.slice Ao20 t527.length co20:Value).ownBlock∧some k_≠(v531:Value).ownBlock∧some k_≠(.slice Ao19 t536.length co19:Value).ownBlock∧some k_≠(v540:Value).ownBlock)) (Kd.R_apart' (Kd.R_apart' (Kd.R_apart' (Kd.R_apart' (HO545.out) (Kd.R_typed Vl.out) (by decide)) (Kd.N_typed Ui.out) (by decide)) (Kd.N_typed Jd.out) (by decide)) (Kd.R_typed Jo.out) (by decide)) (fun k_ hk=>⟨hk.1.1.1.2,⟨hk.1.1.1.1.1.2,⟨hk.1.1.2,⟨hk.1.2,⟨hk.2,hk.1.1.1.1.2⟩⟩⟩⟩⟩))))) (Reps.none _ _)));intro v547 w25 ho26 hb hg_ hnew_;clear hg_ hnew_;(first|rw[← Ny546.out] at ho26|(simp only[Int.reduceToNat] at ho26;rw[← Ny546.out] at ho26));replace Vl:=Ya (Ys (kR Vl) hb);replace Ua:=Ya (Ys (kR Ua) hb);replace Ui:=Ya (Kd.N_elder' (kN Ui) (Kd.N_base ho26) hb);replace Jd:=Ya (Kd.N_elder' (kN Jd) (Kd.N_base ho26) hb);replace Jo:=Ya (Ys (kR Jo) hb);replace HO541:=Ya (Ys (kR HO541) hb);have HO548:=Ya (Kd.N_lower ho26 (Yi bl));replace HB:=Ya (Yk bl hb);clear HO545;clear hb ho26;obtain⟨Ao27,co27,eo27⟩:=Kd.N_slice HO548.out;subst eo27)|(go_at_call 26;(with_reducible refine(ebbtideref13_Same.calls k _ _ t527 _ _ y546 true _ ?side1 ?side2 ?side3 ?side4 A7.out).mono ?_);(case side1=>exact kC (Kd.N_reads' Ui.out).2.2);(case side2=>exact(Kd.N_reads' Ui.out).2.1);(case side3=>exact kC (Kd.N_reads' HO548.out).2.2);(case side4=>exact(Kd.N_reads' HO548.out).2.1);rintro e w' ⟨rfl,⟨nd,rfl⟩⟩)|((with_reducible refine gate_dst (N:=34) rfl ?_);(try (refine gate_guard (by rfl) ?_;dsimp only));refine Kd.R_lit (Kd.int .i64) _ 3 ?hg (N:=34) ?hd (xs:=([1,2]:List Int)) (inner:=[.int .i64 1, .int .i64 2]) (ok:=fun _=>True) (okp:=fun _=>True) ?hr ?hp (fun _ hk=>hk) trivial (Yo _ _) (Nat.le_refl _) (by simp) ?_;(case hd=>rfl);(case hg=>rfl);(case hr=>first|(go_simp;done)|(go_simp;rfl));(case hp=>exact(Reps.one (show Kd.M (Kd.int .i64) _ _ _ 1 [.int .i64 1] from rfl) (Reps.one (show Kd.M (Kd.int .i64) _ _ _ 2 [.int .i64 2] from rfl) (Reps.none _ _))));intro v551 w28 ho29 hb hg_ hnew_;clear hg_ hnew_;(first|rw[← Ny550.out] at ho29|(simp only[Int.reduceToNat] at ho29;rw[← Ny550.out] at ho29));replace Vl:=Ya (Ys (kR Vl) hb);replace Ui:=Ya (Kd.N_elder' (kN Ui) (Kd.R_base ho29) hb);replace Jd:=Ya (Kd.N_elder' (kN Jd) (Kd.R_base ho29) hb);replace Jo:=Ya (Ys (kR Jo) hb);replace HO548:=Ya (Kd.N_elder' (kN HO548) (Kd.R_base ho29) hb);have HO552:=Ya (Kd.R_lower (Kd.R_new' (Kd.R_new' ho29 (Kd.R_lt (kR Ua))) (Kd.R_lt (kR HO541))) (Yi bl));replace Ua:=Ya (Kd.R_elder' (kR Ua) (Kd.R_base ho29) hb);replace HO541:=Ya (Kd.R_elder' (kR HO541) (Kd.R_base ho29) hb);replace HB:=Ya (Yk bl hb);clear hb ho29;obtain⟨Ao30,co30,eo30⟩:=Kd.R_slice HO552.out;subst eo30)|((with_reducible refine gate_dst (N:=36) rfl ?_);(try (refine gate_guard (by rfl) ?_;dsimp only));refine Kd.N_lit k47 _ 47 ?hg (N':=36) ?hd (xs:=([(⟨y550,1⟩:S47)]:List (S47))) (inner:=[.slice Ao30 y550.length co30, .int .i64 1]) (ok:=(fun k_=>some k_≠(.slice Ao15 t521.length co15:Value).ownBlock∧some k_≠(.slice Ao16 y524.length co16:Value).ownBlock∧some k_≠(.slice Ao20 t527.length co20:Value).ownBlock∧some k_≠(v531:Value).ownBlock∧some k_≠(.slice Ao19 t536.length co19:Value).ownBlock∧some k_≠(v540:Value).ownBlock∧some k_≠(.slice Ao27 y546.length co27:Value).ownBlock)) (okp:=(fun k_=>some k_≠(.slice Ao15 t521.length co15:Value).ownBlock∧some k_≠(.slice Ao16 y524.length co16:Value).ownBlock∧some k_≠(.slice Ao20 t527.length co20:Value).ownBlock∧some k_≠(v531:Value).ownBlock∧some k_≠(.slice Ao19 t536.length co19:Value).ownBlock∧some k_≠(v540:Value).ownBlock∧some k_≠(.slice Ao27 y546.length co27:Value).ownBlock)) ?hr ?hp (fun _ hk=>hk) ((show ∀ k_,w28.heap.size≤k_→(fun k_=>some k_≠(.slice Ao15 t521.length co15:Value).ownBlock∧some k_≠(.slice Ao16 y524.length co16:Value).ownBlock∧some k_≠(.slice Ao20 t527.length co20:Value).ownBlock∧some k_≠(v531:Value).ownBlock∧some k_≠(.slice Ao19 t536.length co19:Value).ownBlock∧some k_≠(v540:Value).ownBlock∧some k_≠(.slice Ao27 y546.length co27:Value).ownBlock) k_ from fun k_ hk=>⟨Kd.fresh' (Kd.R_lt (kR Vl)) k_ hk,Kd.fresh' (Kd.R_lt (kR Ua)) k_ hk,Kd.fresh' (Kd.N_lt (kN Ui)) k_ hk,Kd.fresh' (Kd.N_lt (kN Jd)) k_ hk,Kd.fresh' (Kd.R_lt (kR Jo)) k_ hk,Kd.fresh' (Kd.R_lt (kR HO541)) k_ hk,Kd.fresh' (Kd.N_lt (kN HO548)) k_ hk⟩) _ (Nat.le_refl _)) (Yo _ _) (Nat.le_refl _) (by simp) ?_;(case hd=>rfl);(case hg=>rfl);(case hr=>first|(go_simp;done)|(go_simp;rfl));(case hp=>exact(Reps.c2 (show Kd.FK k47 _ _ (⟨y550,1⟩:S47) [.slice Ao30 y550.length co30, .int .i64 1] from(k47_mkF _ _ (⟨y550,1⟩:S47) (Kd.R_reads' (Kd.R_mono (ok':=(fun k_=>some k_≠(.slice Ao15 t521.length co15:Value).ownBlock∧some k_≠(.slice Ao16 y524.length co16:Value).ownBlock∧some k_≠(.slice Ao20 t527.length co20:Value).ownBlock∧some k_≠(v531:Value).ownBlock∧some k_≠(.slice Ao19 t536.length co19:Value).ownBlock∧some k_≠(v540:Value).ownBlock∧some k_≠(.slice Ao27 y546.length co27:Value).ownBlock)) (Kd.R_apart' (Kd.R_apart' (Kd.R_apart' (Kd.R_apart' (Kd.R_apart' (HO552.out) (Kd.R_typed Vl.out) (by decide)) (Kd.N_typed Ui.out) (by decide)) (Kd.N_typed Jd.out) (by decide)) (Kd.R_typed Jo.out) (by decide)) (Kd.N_typed HO548.out) (by decide)) (fun k_ hk=>⟨hk.1.1.1.1.2,⟨hk.1.1.1.1.1.1.2,⟨hk.1.1.1.2,⟨hk.1.1.2,⟨hk.1.2,⟨hk.1.1.1.1.1.2,hk.2⟩⟩⟩⟩⟩⟩))).2.1 (Kd.R_F (Kd.R_mono (ok':=(fun k_=>some k_≠(.slice Ao15 t521.length co15:Value).ownBlock∧some k_≠(.slice Ao16 y524.length co16:Value).ownBlock∧some k_≠(.slice Ao20 t527.length co20:Value).ownBlock∧some k_≠(v531:Value).ownBlock∧some k_≠(.slice Ao19 t536.length co19:Value).ownBlock∧some k_≠(v540:Value).ownBlock∧some k_≠(.slice Ao27 y546.length co27:Value).ownBlock)) (Kd.R_apart' (Kd.R_apart' (Kd.R_apart' (Kd.R_apart' (Kd.R_apart' (HO552.out) (Kd.R_typed Vl.out) (by decide)) (Kd.N_typed Ui.out) (by decide)) (Kd.N_typed Jd.out) (by decide)) (Kd.R_typed Jo.out) (by decide)) (Kd.N_typed HO548.out) (by decide)) (fun k_ hk=>⟨hk.1.1.1.1.2,⟨hk.1.1.1.1.1.1.2,⟨hk.1.1.1.2,⟨hk.1.1.2,⟨hk.1.2,⟨hk.1.1.1.1.1.2,hk.2⟩⟩⟩⟩⟩⟩))))) (Reps.none _ _)));intro v554 w31 ho32 hb hg_ hnew_;clear hg_ hnew_;(first|rw[← Ny553.out] at ho32|(simp only[Int.reduceToNat] at ho32;rw[← Ny553.out] at ho32));replace Vl:=Ya (Ys (kR Vl) hb);replace Ua:=Ya (Ys (kR Ua) hb);replace Ui:=Ya (Kd.N_elder' (kN Ui) (Kd.N_base ho32) hb);replace Jd:=Ya (Kd.N_elder' (kN Jd) (Kd.N_base ho32) hb);replace Jo:=Ya (Ys (kR Jo) hb);replace HO541:=Ya (Ys (kR HO541) hb);replace HO548:=Ya (Kd.N_elder' (kN HO548) (Kd.N_base ho32) hb);have HO555:=Ya (Kd.N_lower ho32 (Yi bl));replace HB:=Ya (Yk bl hb);clear HO552;clear hb ho32;obtain⟨Ao33,co33,eo33⟩:=Kd.N_slice Jd.out;subst eo33;obtain⟨Ao34,co34,eo34⟩:=Kd.N_slice HO555.out;subst eo34)|(go_at_call 26;(with_reducible refine(ebbtideref13_Same.calls k _ _ t530 _ _ y553 true _ ?side1 ?side2 ?side3 ?side4 A9.out).mono ?_);(case side1=>exact kC (Kd.N_reads' Jd.out).2.2);(case side2=>exact(Kd.N_reads' Jd.out).2.1);(case side3=>exact kC (Kd.N_reads' HO555.out).2.2);(case side4=>exact(Kd.N_reads' HO555.out).2.1);rintro e w' ⟨rfl,⟨nd,rfl⟩⟩)|((with_reducible refine gate_dst (N:=41) rfl ?_);(try (refine gate_guard (by rfl) ?_;dsimp only));refine Kd.R_lit (Kd.int .i64) _ 3 ?hg (N:=41) ?hd (xs:=([2]:List Int)) (inner:=[.int .i64 2]) (ok:=fun _=>True) (okp:=fun _=>True) ?hr ?hp (fun _ hk=>hk) trivial (Yo _ _) (Nat.le_refl _) (by simp) ?_;(case hd=>rfl);(case hg=>rfl);(case hr=>first|(go_simp;done)|(go_simp;rfl));(case hp=>exact(Reps.one (show Kd.M (Kd.int .i64) _ _ _ 2 [.int .i64 2] from rfl) (Reps.none _ _)));intro v558 w35 ho36 hb hg_ hnew_;clear hg_ hnew_;(first|rw[← Ny557.out] at ho36|(simp only[Int.reduceToNat] at ho36;rw[← Ny557.out] at ho36));replace Vl:=Ya (Ys (kR Vl) hb);replace Ui:=Ya (Kd.N_elder' (kN Ui) (Kd.R_base ho36) hb);replace Jd:=Ya (Kd.N_elder' (kN Jd) (Kd.R_base ho36) hb);replace Jo:=Ya (Ys (kR Jo) hb);replace HO548:=Ya (Kd.N_elder' (kN HO548) (Kd.R_base ho36) hb);replace HO555:=Ya (Kd.N_elder' (kN HO555) (Kd.R_base ho36) hb);have HO559:=Ya (Kd.R_lower (Kd.R_new' (Kd.R_new' ho36 (Kd.R_lt (kR Ua))) (Kd.R_lt (kR HO541))) (Yi bl));replace Ua:=Ya (Kd.R_elder' (kR Ua) (Kd.R_base ho36) hb);replace HO541:=Ya (Kd.R_elder' (kR HO541) (Kd.R_base ho36) hb);replace HB:=Ya (Yk bl hb);clear hb ho36;obtain⟨Ao37,co37,eo37⟩:=Kd.R_slice HO541.out;subst eo37;obtain⟨Ao38,co38,eo38⟩:=Kd.R_slice HO559.out;subst eo38)|(go_at_call 22;(with_reducible refine(ebbtideref03_SameInts.calls k _ _ t539 _ _ y557 t560 _ ?side1 ?side2 ?side3 ?side4 A11.out).mono ?_);(case side1=>exact kC (Kd.R_reads' HO541.out).2.2);(case side2=>exact(Kd.R_reads' HO541.out).2.1);(case side3=>exact kC (Kd.R_reads' HO559.out).2.2);(case side4=>exact(Kd.R_reads' HO559.out).2.1);rintro e w' ⟨rfl,⟨nd,rfl⟩⟩));go_ret;exact⟨by first|rfl|(simp[errW_none,errW_some]<;>rfl)|(simp[*,errW_none,errW_some]<;>rfl),bl⟩
end P
namespace P
attribute [local go_sem] max2_int min2_int max_two min_two max_three min_three max_four min_four
def ebbtideref13_along.l0:Nat→List Int→List (S79)→Int→Option ((List (S79)))
 |0,_,_,_=>none
 |k+1,x0,x3,x4=>if x4<(x0.length:Int) then(if 0≤x4 then(if (rd x0 x4)>0 then(if x3.length<8796093022208 then(ebbtideref13_along.l0 k x0 (x3 ++ [(⟨x4,false⟩:S79)]) (wrap64 (x4+1))) else(none)) else(ebbtideref13_along.l0 k x0 x3 (wrap64 (x4+1)))) else(none)) else(some x3)
def ebbtideref13_along.f (k:Nat) (l0:List Int):Option ((List (S79))):=ebbtideref13_along.l0 k l0 ([]:List (S79)) 0
set_option maxHeartbeats 8000000 in
set_option maxRecDepth 100000 in
theorem ebbtideref13_along.calls (k:Nat) (A0:Option Addr) (c0:Nat) (l0:List Int) (r:List (S79)) (w:World) (hr0:Kd.C (Kd.int .i64) w A0 l0.length l0) (hc0:l0.length≤c0) (h:ebbtideref13_along.f k l0=some r):
  Calls Try.prog 55 #[.slice A0 l0.length c0] w fun e w'=> ∃ v0_:Value,e= .returned (v0_)∧Kd.R k79 79 w' w.heap.size (fun _=>True) v0_ r∧Below w.heap.size w w':=by
 have hu79:=Try.underlying79;have HR0:=Ya hr0;have HC0:=Ya hc0;clear hr0 hc0;have HB:=Ya (Yo w.heap.size w);have H:=h;unfold ebbtideref13_along.f at H;clear h;have H':=Ya H;clear H;go_enter Try.func55,Try.ntmps55;go_wp2;go_loopg [3,4] k (fun kq v3 v4 w'=> ∃ (x3_1:List (S79)) (Xk:Int),v4= .int .i64 Xk∧Aside0 (ebbtideref13_along.l0 kq l0 x3_1 Xk=some r)∧Aside0 (kq≤k)∧Aside0 (Kd.R k79 79 w' w.heap.size (fun _=>True) v3 x3_1)∧Aside0 (Below w.heap.size w w'))
 case atStart=>exact⟨(([]:List (S79))),(0),(by first|rfl|(simp;done)|(simp[*];done)),H',⟨Nat.le_refl _⟩,⟨by first|exact Kd.R_nil _ _ _ _ _|exact Kd.N_nil _ _ _ _ _|exact Kd.V_nil _ _ _ _ _|exact Kd.Q_nil _ _ _ _ _|exact Kd.S_nil _ _ _ _ _⟩,⟨HB.out⟩⟩
 case round=>
  clear H';obtain⟨x3_1,Xk,rfl,HA,HK1,HO_3,HB⟩:=hrel;cases gk with
  |zero=>exact absurd HA.out (by simp[ebbtideref13_along.l0])
  |succ k1=>
   have H:=HA.out;clear HA;simp only[ebbtideref13_along.l0] at H;by_cases c2:Xk<(l0.length:Int)
   rotate_left
   ·rw[Yy c2] at H
    have c2b0:decide (Xk<(l0.length:Int))=false:=Yw c2;clear c2;obtain rfl:=Option.some.inj H;go_wp2;go_ret;exact⟨_,by first|rfl|(simp[errW_none,errW_some]<;>rfl)|(simp[*,errW_none,errW_some]<;>rfl),by(with_reducible repeat(first|apply Yr|apply Yq|apply Yp));exact HO_3.out,HB.out⟩
   rw[Yx c2] at H;have c2b0:decide (Xk<(l0.length:Int))=true:=Yv c2;clear c2;by_cases c3:0≤Xk
   rotate_left
   ·rw[Yy c3] at H
    exact absurd H (by simp)
   rw[Yx c3] at H;have c3b0:decide (0≤Xk)=true:=Yv c3;clear c3;by_cases c4:(rd l0 Xk)>0
   rotate_left
   ·rw[Yy c4] at H
    have c4b0:decide (0<(rd l0 Xk))=false:=Yw c4;clear c4;have H':=Ya H;clear H;have p575:0≤(Xk:Int):=od;have q575:Xk<(l0.length:Int):=od;obtain⟨ad575,e575,hx575_0⟩:=Kd.at_int HR0.out Xk p575 q575;cases e575;replace hx575_0:=hc HB hx575_0;replace p575:=eq_true p575;replace q575:=eq_true q575;go_wp2;go_roundg k1
    case measure=>have:=HK1.out;omega
    case rel=>exact⟨(x3_1),(wrap64 (Xk+1)),(by first|rfl|(simp;done)|(simp[*];done)),H',⟨by have:=HK1.out;omega⟩,⟨HO_3.out⟩,⟨HB.out⟩⟩
   rw[Yx c4] at H;have c4b0:decide (0<(rd l0 Xk))=true:=Yv c4;clear c4;by_cases c5:x3_1.length<8796093022208
   rotate_left
   ·rw[Yy c5] at H
    exact absurd H (by simp)
   rw[Yx c5] at H;have LMc5:=Ya c5;clear c5;obtain⟨y576,hy576⟩: ∃ y_:List (S79),y_=(x3_1 ++ [(⟨Xk,false⟩:S79)]):=⟨_,rfl⟩;rw[← hy576] at H;have Ny576:=Ya hy576;clear hy576;have H':=Ya H;clear H;have p575:0≤(Xk:Int):=od;have q575:Xk<(l0.length:Int):=od;obtain⟨ad575,e575,hx575_0⟩:=Kd.at_int HR0.out Xk p575 q575;cases e575;replace hx575_0:=hc HB hx575_0;replace p575:=eq_true p575;replace q575:=eq_true q575;go_wp2_with (first|((with_reducible refine gate_builtin (b:= .append) (xs:= #[.tmp 16, .tmp 19]) rfl ?_);at_builtin;refine Kd.R_append k79 (w0:=w) w.heap.size rfl (.tmp 16) (.tmp 19) 67 79 (.agg #[(.int .i64 0),(.bool false)]) 16 rfl Try.underlying67 info79 rfl (by decide) (by omega) u3 x3_1 (⟨Xk,false⟩:S79) [.int .i64 Xk, .bool false] (fun _=>True) (fun _=>False) rfl rfl ?aP (fun _ hk=>hk.elim) ?aF ?aO ?aB ?aS ?aL ?_;(case aP=>exact k79_mkM _ _ _ (⟨Xk,false⟩:S79));(case aB=>exact bl);(case aF=>exact(fun _ _=>trivial));(case aO=>exact(kR HO_3));(case aS=>exact(Yi bl));(case aL=>have:=LMc5.out;omega);intro v577 w6 ho hb hg hat;rw[← Ny576.out] at ho;replace HB:=Ya (hb);have HO578:=Ya (ho);clear HO_3;clear ho hb hg hat));go_roundg k1
   case measure=>have:=HK1.out;omega
   case rel=>exact⟨(y576),(wrap64 (Xk+1)),(by first|rfl|(simp;done)|(simp[*];done)),H',⟨by have:=HK1.out;omega⟩,⟨HO578.out⟩,⟨HB.out⟩⟩
end P
namespace P
attribute [local go_sem] max2_int min2_int max_two min_two max_three min_three max_four min_four
def ebbtideref13_places.l0:Nat→List (S79)→List Int→Int→Option (List Int)
 |0,_,_,_=>none
 |k+1,x0,x3,x4=>if x4<(x0.length:Int) then(if 0≤x4 then(if x3.length<17592186044416 then(ebbtideref13_places.l0 k x0 (x3 ++ [(rd_T79 x0 x4).f0]) (wrap64 (x4+1))) else(none)) else(none)) else(some x3)
def ebbtideref13_places.f (k:Nat) (l0:List (S79)):Option (List Int):=ebbtideref13_places.l0 k l0 ([]:List Int) 0
set_option maxHeartbeats 8000000 in
set_option maxRecDepth 100000 in
theorem ebbtideref13_places.calls (k:Nat) (A0:Option Addr) (c0:Nat) (l0:List (S79)) (r:List Int) (w:World) (hr0:Kd.C k79 w A0 l0.length l0) (hc0:l0.length≤c0) (h:ebbtideref13_places.f k l0=some r):
  Calls Try.prog 56 #[.slice A0 l0.length c0] w fun e w'=> ∃ v0_:Value,e= .returned (v0_)∧Kd.R (Kd.int .i64) 3 w' w.heap.size (fun _=>True) v0_ r∧Below w.heap.size w w':=by
 have HR0:=Ya hr0;have HC0:=Ya hc0;clear hr0 hc0;have HB:=Ya (Yo w.heap.size w);have H:=h;unfold ebbtideref13_places.f at H;clear h;have H':=Ya H;clear H;go_enter Try.func56,Try.ntmps56;go_wp2;go_loopg [3,4] k (fun kq v3 v4 w'=> ∃ (x3_1:List Int) (Xk:Int),v4= .int .i64 Xk∧Aside0 (ebbtideref13_places.l0 kq l0 x3_1 Xk=some r)∧Aside0 (kq≤k)∧Aside0 (Kd.R (Kd.int .i64) 3 w' w.heap.size (fun _=>True) v3 x3_1)∧Aside0 (Below w.heap.size w w'))
 case atStart=>exact⟨(([]:List Int)),(0),(by first|rfl|(simp;done)|(simp[*];done)),H',⟨Nat.le_refl _⟩,⟨by first|exact Kd.R_nil _ _ _ _ _|exact Kd.N_nil _ _ _ _ _|exact Kd.V_nil _ _ _ _ _|exact Kd.Q_nil _ _ _ _ _|exact Kd.S_nil _ _ _ _ _⟩,⟨HB.out⟩⟩
 case round=>
  clear H';obtain⟨x3_1,Xk,rfl,HA,HK1,HO_3,HB⟩:=hrel;cases gk with
  |zero=>exact absurd HA.out (by simp[ebbtideref13_places.l0])
  |succ k1=>
   have H:=HA.out;clear HA;simp only[ebbtideref13_places.l0] at H;by_cases c2:Xk<(l0.length:Int)
   rotate_left
   ·rw[Yy c2] at H
    have c2b0:decide (Xk<(l0.length:Int))=false:=Yw c2;clear c2;obtain rfl:=Option.some.inj H;go_wp2;go_ret;exact⟨_,by first|rfl|(simp[errW_none,errW_some]<;>rfl)|(simp[*,errW_none,errW_some]<;>rfl),by(with_reducible repeat(first|apply Yr|apply Yq|apply Yp));exact HO_3.out,HB.out⟩
   rw[Yx c2] at H;have c2b0:decide (Xk<(l0.length:Int))=true:=Yv c2;clear c2;by_cases c3:0≤Xk
   rotate_left
   ·rw[Yy c3] at H
    exact absurd H (by simp)
   rw[Yx c3] at H;have c3b0:decide (0≤Xk)=true:=Yv c3;clear c3;by_cases c4:x3_1.length<17592186044416
   rotate_left
   ·rw[Yy c4] at H
    exact absurd H (by simp)
   rw[Yx c4] at H;have LMc4:=Ya c4;clear c4;obtain⟨y580,hy580⟩: ∃ y_:List Int,y_=(x3_1 ++ [(rd_T79 l0 Xk).f0]):=⟨_,rfl⟩;rw[← hy580] at H;have Ny580:=Ya hy580;clear hy580;have H':=Ya H;clear H;have p579:0≤(Xk:Int):=od;have q579:Xk<(l0.length:Int):=od;obtain⟨ad579,e579,hx579_0,hx579_1⟩:=at_T79 HR0.out Xk p579 q579;cases e579;replace hx579_0:=hc HB hx579_0;replace hx579_1:=hc HB hx579_1;replace p579:=eq_true p579;replace q579:=eq_true q579;go_wp2_with (first|((with_reducible refine gate_builtin (b:= .append) (xs:= #[.tmp 11, .tmp 17]) rfl ?_);at_builtin;refine Kd.R_append (Kd.int .i64) (w0:=w) w.heap.size rfl (.tmp 11) (.tmp 17) 31 3 (.int .i64 0) 8 rfl Try.underlying31 info3 rfl (by decide) (by omega) u3 x3_1 ((rd_T79 l0 Xk).f0) [.int .i64 ((rd_T79 l0 Xk).f0)] (fun _=>True) (fun _=>False) rfl rfl ?aP (fun _ hk=>hk.elim) ?aF ?aO ?aB ?aS ?aL ?_;(case aP=>exact rfl);(case aB=>exact bl);(case aF=>exact(fun _ _=>trivial));(case aO=>exact(kR HO_3));(case aS=>exact(Yi bl));(case aL=>have:=LMc4.out;omega);intro v581 w5 ho hb hg hat;rw[← Ny580.out] at ho;replace HB:=Ya (hb);have HO582:=Ya (ho);clear HO_3;clear ho hb hg hat));go_roundg k1
   case measure=>have:=HK1.out;omega
   case rel=>exact⟨(y580),(wrap64 (Xk+1)),(by first|rfl|(simp;done)|(simp[*];done)),H',⟨by have:=HK1.out;omega⟩,⟨HO582.out⟩,⟨HB.out⟩⟩
end P
namespace P
attribute [local go_sem] max2_int min2_int max_two min_two max_three min_three max_four min_four
def ebbtideref13_cycle.l0:Nat→List Int→Int→Int→Bool→List (S50)→Option (List Int × Bool)
 |0,_,_,_,_,_=>none
 |k+1,x1,x6,x584000,x584001,x584002=>if x6<(x1.length:Int) then(if 0≤x6 then(if (rd x1 x6)=0 then(ebbtideref13_cycle.l0 k x1 (wrap64 (x6+1)) x584000 x584001 x584002) else(if ([]:List Int).length<17592186044416 then((some (([]:List Int) ++ [x6]:List Int)).bind fun y585=>(if x6<(x584002.length:Int) then(if ((rd_T50 x584002 x6).f0)=((rd_T50 x584002 x6).f1) then(some (y585,true)) else((ebbtideref13_along.f k x1).bind fun t592=>((ebbtideref08_Way.f x584000 x584001 x584002 ((rd_T50 x584002 x6).f1) ((rd_T50 x584002 x6).f0) t592).bind fun bt595=>(if bt595.2=true then((ebbtideref13_places.f k bt595.1).bind fun t599=>(if y585.length+t599.length<17592186044416 then(some ((y585 ++ t599),true)) else(none))) else(ebbtideref13_cycle.l0 k x1 (wrap64 (x6+1)) x584000 x584001 x584002))))) else(none))) else(none))) else(none)) else(some (([]:List Int),false))
def ebbtideref13_cycle.f (k:Nat) (Zc:Int) (Zb:Bool) (Za:List (S50)) (l1:List Int):Option (List Int × Bool):=ebbtideref13_cycle.l0 k l1 0 Zc Zb Za
def ebbtideref13_cycle.T7:Bool × List (List Nat × List Nat):=(true,[([],[]),([0],[0]),([],[]),([1,2],[1,2]),([3],[3]),([4],[4]),([],[]),([6],[6]),([],[]),([7,8],[7,8]),([9],[9]),([10],[10]),([5,11],[5,11])])
def ebbtideref13_cycle.B7:List Nat:=[0,1,0,7,15,31,0,64,0,448,960,1984,4095]
theorem ebbtideref13_cycle.tab7:rtab .any (opsOf Try.f52 7)=ebbtideref13_cycle.T7:=by kernel_rfl
theorem ebbtideref13_cycle.bits7:waitsOk ebbtideref13_cycle.T7.2 ebbtideref13_cycle.B7=true:=by kernel_rfl
def ebbtideref13_cycle.T9:Bool × List (List Nat × List Nat):=(true,[([],[]),([],[]),([1],[1]),([],[]),([2,3],[2,3]),([4],[4]),([5],[5]),([],[]),([7],[7]),([],[]),([8,9],[8,9]),([10],[10]),([11],[11]),([],[]),([13],[13]),([0,6,12,14,14],[0,6,12,14]),([15],[15]),([16],[16]),([16],[16]),([17,15,0,1,2,3,4,5,6,7,8,9,10,11,12,13,14,15,16,17],[17]),([18,19,0,1,2,3,4,5,6,7,8,9,10,11,12,13,14,15,16,17,18,19],[18])])
def ebbtideref13_cycle.B9:List Nat:=[0,0,2,0,14,30,62,0,128,0,896,1920,3968,0,8192,32767,65535,131071,131071,262143,1048575]
theorem ebbtideref13_cycle.tab9:rtab .any (opsOf Try.f52 9)=ebbtideref13_cycle.T9:=by kernel_rfl
theorem ebbtideref13_cycle.bits9:waitsOk ebbtideref13_cycle.T9.2 ebbtideref13_cycle.B9=true:=by kernel_rfl
set_option maxHeartbeats 8000000 in
set_option maxRecDepth 100000 in
theorem ebbtideref13_cycle.calls (k:Nat) (Zc:Int) (Zb:Bool) (Ze:Option Addr) (Zd:Nat) (Za:List (S50)) (A1:Option Addr) (c1:Nat) (l1:List Int) (r1:List Int) (r2:Bool) (w:World) (Zp:Kd.C k50 w Ze Za.length Za) (Zq:Za.length≤Zd) (hr1:Kd.C (Kd.int .i64) w A1 l1.length l1) (hc1:l1.length≤c1) (h:ebbtideref13_cycle.f k Zc Zb Za l1=some (r1,r2)):
  Calls Try.prog 52 #[.agg #[.int .i64 Zc, .bool Zb, .slice Ze Za.length Zd], .slice A1 l1.length c1] w fun e w'=> ∃ v0_:Value,e= .returned (.tuple #[v0_, .bool r2])∧Kd.R (Kd.int .i64) 3 w' w.heap.size (fun _=>True) v0_ r1∧Below w.heap.size w w':=by
 have hu24:=Try.underlying24;have Zj:=Ya Zp;have Zs:=Ya Zq;clear Zp Zq;have HR1:=Ya hr1;have HC1:=Ya hc1;clear hr1 hc1;have HB:=Ya (Yo w.heap.size w);have H:=h;unfold ebbtideref13_cycle.f at H;clear h;have H':=Ya H;clear H;go_enter Try.func52,Try.ntmps52;go_wp2_with (first|(refine bx 2 24 #[.int .i64 Zc, .bool Zb, .slice Ze Za.length Zd] ?_;intro gb583 hg w3 Zf hb;have Xe:=Ya (Zf);have GW583:=Ya (by rw[hg];exact(Yi HB.out):w.heap.size≤gb583);have GE583:=Ya (by rw[hg];exact(Yi HB.out):w.heap.size≤gb583);replace HB:=Ya (Yk HB.out hb);clear hb Zf hg));go_loopg [6] k (fun kq v6 w'=> ∃ (Zg:Int),v6= .int .i64 Zg∧Aside0 (ebbtideref13_cycle.l0 kq l1 Zg Zc Zb Za=some (r1,r2))∧Aside0 (kq≤k)∧Aside0 (w'.heap[gb583]? =some (.cells #[.int .i64 Zc, .bool Zb,(.slice Ze Za.length Zd)] 24 (0,0)))∧Aside0 (Below w.heap.size w w'))
 case atStart=>exact⟨(0),(by first|rfl|(simp;done)|(simp[*];done)),H',⟨Nat.le_refl _⟩,⟨Xe.out⟩,⟨HB.out⟩⟩
 case round=>
  clear H';try clear c1
  obtain⟨Zg,rfl,HA,HK1,Xe,HB⟩:=hrel;cases gk with
  |zero=>exact absurd HA.out (by simp[ebbtideref13_cycle.l0])
  |succ k1=>
   have H:=HA.out;clear HA;simp only[ebbtideref13_cycle.l0] at H;by_cases c4:Zg<(l1.length:Int)
   rotate_left
   ·rw[Yy c4] at H
    have c4b0:decide (Zg<(l1.length:Int))=false:=Yw c4;clear c4;simp only[Option.some.injEq,Prod.mk.injEq] at H;obtain⟨rfl,rfl⟩:=H;go_wp2;go_ret2;exact⟨_,by first|rfl|(simp[errW_none,errW_some]<;>rfl)|(simp[*,errW_none,errW_some]<;>rfl),by first|exact Kd.R_nil _ _ _ _ _|exact Kd.N_nil _ _ _ _ _|exact Kd.V_nil _ _ _ _ _|exact Kd.Q_nil _ _ _ _ _|exact Kd.S_nil _ _ _ _ _,HB.out⟩
   rw[Yx c4] at H;have c4b0:decide (Zg<(l1.length:Int))=true:=Yv c4;clear c4;by_cases c5:0≤Zg
   rotate_left
   ·rw[Yy c5] at H
    exact absurd H (by simp)
   rw[Yx c5] at H;have c5b0:decide (0≤Zg)=true:=Yv c5;clear c5;by_cases c6:(rd l1 Zg)=0
   ·rw[Yx c6] at H
    have c6b0:((rd l1 Zg) == 0)=true:=beq_iff_eq.mpr c6;have c6b1:((rd l1 Zg) != 0)=false:=bne_eq_false_iff_eq.mpr c6;clear c6;have H':=Ya H;clear H;have p584:0≤(Zg:Int):=od;have q584:Zg<(l1.length:Int):=od;obtain⟨ad584,e584,hx584_0⟩:=Kd.at_int HR1.out Zg p584 q584;cases e584;replace hx584_0:=hc HB hx584_0;replace p584:=eq_true p584;replace q584:=eq_true q584;go_wp2;go_roundg k1
    case measure=>have:=HK1.out;omega
    case rel=>exact⟨(wrap64 (Zg+1)),(by first|rfl|(simp;done)|(simp[*];done)),H',⟨by have:=HK1.out;omega⟩,⟨Xe.out⟩,⟨HB.out⟩⟩
   rw[Yy c6] at H;have c6b0:((rd l1 Zg) == 0)=false:=beq_eq_false_iff_ne.mpr c6;have c6b1:((rd l1 Zg) != 0)=true:=bne_iff_ne.mpr c6;by_cases c7:([]:List Int).length<17592186044416
   rotate_left
   ·rw[Yy c7] at H
    exact absurd H (by simp)
   rw[Yx c7] at H;have LMc7:=Ya c7;clear c7;obtain⟨y585,hy585⟩: ∃ y_:List Int,y_=(([]:List Int) ++ [Zg]):=⟨_,rfl⟩;rw[Option.bind_some, ← hy585] at H;have Ny585:=Ya hy585;clear hy585;by_cases c8:Zg<(Za.length:Int)
   rotate_left
   ·rw[Yy c8] at H
    exact absurd H (by simp)
   rw[Yx c8] at H;have c8b0:decide (Zg<(Za.length:Int))=true:=Yv c8;clear c8;by_cases c9:((rd_T50 Za Zg).f0)=((rd_T50 Za Zg).f1)
   ·rw[Yx c9] at H
    have c9b0:(((rd_T50 Za Zg).f0) == ((rd_T50 Za Zg).f1))=true:=beq_iff_eq.mpr c9;have c9b1:(((rd_T50 Za Zg).f0) != ((rd_T50 Za Zg).f1))=false:=bne_eq_false_iff_eq.mpr c9;clear c9;simp only[Option.some.injEq,Prod.mk.injEq] at H;obtain⟨rfl,rfl⟩:=H;have p584:0≤(Zg:Int):=od;have q584:Zg<(l1.length:Int):=od;obtain⟨ad584,e584,hx584_0⟩:=Kd.at_int HR1.out Zg p584 q584;cases e584;replace hx584_0:=hc HB hx584_0;replace p584:=eq_true p584;replace q584:=eq_true q584;try go_wp2_with (first|((with_reducible refine gate_builtin (b:= .append) (xs:= #[.tmp 21, .tmp 23]) rfl ?_);at_builtin;refine Kd.R_append (Kd.int .i64) (w0:=w) w.heap.size rfl (.tmp 21) (.tmp 23) 31 3 (.int .i64 0) 8 rfl Try.underlying31 info3 rfl (by decide) (by omega) (.slice none 0 0) ([]:List Int) Zg [.int .i64 Zg] (fun _=>True) (fun _=>False) rfl rfl ?aP (fun _ hk=>hk.elim) ?aF ?aO ?aB ?aS ?aL ?_;(case aP=>exact rfl);(case aB=>exact HB.out);(case aF=>exact(fun _ _=>trivial));(case aO=>exact((Kd.R_nil _ _ _ _ (fun _=>True))));(case aS=>exact(Yi HB.out));(case aL=>have:=LMc7.out;omega);intro v586 w10 ho hb hg hat;rw[← Ny585.out] at ho;replace Xe:=Ya (blk_grown Xe.out hg (by simp[Value.ownBlock]));replace HB:=Ya (hb);have Wu:=Ya (ho);clear ho hb hg hat))
    replace Wu:=Ya (Yp Wu.out);replace Xe:=Ya (Ym Xe.out);replace HB:=Ya (Yg HB.out);have p588:0≤(Zg:Int):=od;have q588:Zg<(Za.length:Int):=od;obtain⟨Zx,e588,Ur,Us,Ut,Uu⟩:=at_T50 Zj.out Zg p588 q588;have hw588_3:=Uu;have hw588_2:=Ut;have hw588_1:=Us;have hw588_0:=Ur;cases e588;replace Ur:=hc HB Ur;replace Us:=hc HB Us;replace Ut:=hc HB Ut;replace Uu:=hc HB Uu;replace p588:=eq_true p588;replace q588:=eq_true q588;have p589:0≤(Zg:Int):=od;have q589:Zg<(Za.length:Int):=od;obtain⟨ad589,e589,Uv,Uw,Ux,Uy⟩:=at_T50 Zj.out Zg p589 q589;have hw589_3:=Uy;have hw589_2:=Ux;have hw589_1:=Uw;have hw589_0:=Uv;obtain rfl:Zx=ad589:=(by injection e589);replace Uv:=hc HB Uv;replace Uw:=hc HB Uw;replace Ux:=hc HB Ux;replace Uy:=hc HB Uy;replace p589:=eq_true p589;replace q589:=eq_true q589;refine start_ (n:=13) (S:=fun w'=>w'.cell? ⟨gb583,0,none⟩=some (.int .i64 Zc)∧w'.cell? ⟨gb583,1,none⟩=some (.bool Zb)∧w'.cell? ⟨gb583,2,none⟩=some (.slice (some Zx) Za.length Zd)∧w'.cell? (Zx.add ((Zg).toNat * 4))=some (.int .i64 ((rd_T50 Za Zg).f0))∧w'.cell? ⟨(Zx.add ((Zg).toNat * 4)).block,(Zx.add ((Zg).toNat * 4)).off+1,none⟩=some (.int .i64 ((rd_T50 Za Zg).f1))∧w'.cell? ⟨(Zx.add ((Zg).toNat * 4)).block,(Zx.add ((Zg).toNat * 4)).off+2,none⟩=some (.int .i64 ((rd_T50 Za Zg).f2))∧w'.cell? ⟨(Zx.add ((Zg).toNat * 4)).block,(Zx.add ((Zg).toNat * 4)).off+3,none⟩=some (.int .i64 ((rd_T50 Za Zg).f3))∧w'.cell? (Zx.add ((Zg).toNat * 4))=some (.int .i64 ((rd_T50 Za Zg).f0))∧w'.cell? ⟨(Zx.add ((Zg).toNat * 4)).block,(Zx.add ((Zg).toNat * 4)).off+1,none⟩=some (.int .i64 ((rd_T50 Za Zg).f1))∧w'.cell? ⟨(Zx.add ((Zg).toNat * 4)).block,(Zx.add ((Zg).toNat * 4)).off+2,none⟩=some (.int .i64 ((rd_T50 Za Zg).f2))∧w'.cell? ⟨(Zx.add ((Zg).toNat * 4)).block,(Zx.add ((Zg).toNat * 4)).off+3,none⟩=some (.int .i64 ((rd_T50 Za Zg).f3))) (ds:=[]) #[false,false,false,false,false,false,false,false,false,false,false,false,false] (by kernel_rfl) rfl rfl ⟨(Yc Xe.out 0).trans rfl,(Yc Xe.out 1).trans rfl,(Yc Xe.out 2).trans rfl,((HB.out.cell (Yb w _ hw588_0)).trans hw588_0),((HB.out.cell (Yb w _ hw588_1)).trans hw588_1),((HB.out.cell (Yb w _ hw588_2)).trans hw588_2),((HB.out.cell (Yb w _ hw588_3)).trans hw588_3),((HB.out.cell (Yb w _ hw589_0)).trans hw589_0),((HB.out.cell (Yb w _ hw589_1)).trans hw589_1),((HB.out.cell (Yb w _ hw589_2)).trans hw589_2),((HB.out.cell (Yb w _ hw589_3)).trans hw589_3)⟩ (fun hHeld=> ?_);refine with_tabW ebbtideref13_cycle.tab7 ebbtideref13_cycle.bits7 (fun HT_ HW_=> ?_);generalize w10.drew=w11 at Wu Xe HB Ur Us Ut Uu Uv Uw Ux Uy hHeld ⊢;refine pu 0 25 (bm 13 1) ?_;refine pu 2 27 (bm 13 5) ?_;refine pu 6 31 (bm 13 69) ?_;refine pu 8 33 (bm 13 325) ?_;refine ta 1 26 (bm 13 327) hHeld ?_;refine pu 3 28 (bm 13 335) ?_;refine pu 4 29 (bm 13 351) ?_;refine ta 5 30 (bm 13 383) hHeld ?_;refine ta 7 32 (bm 13 511) hHeld ?_;refine pu 9 34 (bm 13 1023) ?_;refine pu 10 35 (bm 13 2047) ?_;refine ta 11 36 (bm 13 4095) hHeld ?_;refine pu 12 37 (bm 13 8191) ?_;refine done_ (done_of HT_.out (by kernel_rfl)) ?_;try go_wp2
    go_ret2;exact⟨_,by first|rfl|(simp[errW_none,errW_some]<;>rfl)|(simp[*,errW_none,errW_some]<;>rfl),by(with_reducible repeat(first|apply Yr|apply Yq|apply Yp));exact Wu.out,HB.out⟩
   rw[Yy c9] at H;have c9b0:(((rd_T50 Za Zg).f0) == ((rd_T50 Za Zg).f1))=false:=beq_eq_false_iff_ne.mpr c9;have c9b1:(((rd_T50 Za Zg).f0) != ((rd_T50 Za Zg).f1))=true:=bne_iff_ne.mpr c9;replace H:=Option.bind_eq_some_iff.mp H;obtain⟨t592,A120,H⟩:=H;try dsimp only at H
   have A12:=Ya A120;clear A120;replace H:=Option.bind_eq_some_iff.mp H;obtain⟨⟨t595,t598⟩,A130,H⟩:=H;try dsimp only at H
   have A13:=Ya A130;clear A130;by_cases c14:t598=true
   rotate_left
   ·replace c14:=Bool.eq_false_iff.mpr c14
    subst c14;rw[Yy (show ¬ (false=true) by decide)] at H;have H':=Ya H;clear H;have p584:0≤(Zg:Int):=od;have q584:Zg<(l1.length:Int):=od;obtain⟨ad584,e584,hx584_0⟩:=Kd.at_int HR1.out Zg p584 q584;cases e584;replace hx584_0:=hc HB hx584_0;replace p584:=eq_true p584;replace q584:=eq_true q584;try go_wp2_with (first|((with_reducible refine gate_builtin (b:= .append) (xs:= #[.tmp 21, .tmp 23]) rfl ?_);at_builtin;refine Kd.R_append (Kd.int .i64) (w0:=w) w.heap.size rfl (.tmp 21) (.tmp 23) 31 3 (.int .i64 0) 8 rfl Try.underlying31 info3 rfl (by decide) (by omega) (.slice none 0 0) ([]:List Int) Zg [.int .i64 Zg] (fun _=>True) (fun _=>False) rfl rfl ?aP (fun _ hk=>hk.elim) ?aF ?aO ?aB ?aS ?aL ?_;(case aP=>exact rfl);(case aB=>exact HB.out);(case aF=>exact(fun _ _=>trivial));(case aO=>exact((Kd.R_nil _ _ _ _ (fun _=>True))));(case aS=>exact(Yi HB.out));(case aL=>have:=LMc7.out;omega);intro v586 w27 ho hb hg hat;rw[← Ny585.out] at ho;replace Xe:=Ya (blk_grown Xe.out hg (by simp[Value.ownBlock]));replace HB:=Ya (hb);have Wu:=Ya (ho);clear ho hb hg hat))
    replace Wu:=Ya (Yp Wu.out);replace Xe:=Ya (Ym Xe.out);replace HB:=Ya (Yg HB.out);have p588:0≤(Zg:Int):=od;have q588:Zg<(Za.length:Int):=od;obtain⟨Zx,e588,Ur,Us,Ut,Uu⟩:=at_T50 Zj.out Zg p588 q588;have hw588_3:=Uu;have hw588_2:=Ut;have hw588_1:=Us;have hw588_0:=Ur;cases e588;replace Ur:=hc HB Ur;replace Us:=hc HB Us;replace Ut:=hc HB Ut;replace Uu:=hc HB Uu;replace p588:=eq_true p588;replace q588:=eq_true q588;have p589:0≤(Zg:Int):=od;have q589:Zg<(Za.length:Int):=od;obtain⟨ad589,e589,Uv,Uw,Ux,Uy⟩:=at_T50 Zj.out Zg p589 q589;have hw589_3:=Uy;have hw589_2:=Ux;have hw589_1:=Uw;have hw589_0:=Uv;obtain rfl:Zx=ad589:=(by injection e589);replace Uv:=hc HB Uv;replace Uw:=hc HB Uw;replace Ux:=hc HB Ux;replace Uy:=hc HB Uy;replace p589:=eq_true p589;replace q589:=eq_true q589;refine start_ (n:=13) (S:=fun w'=>w'.cell? ⟨gb583,0,none⟩=some (.int .i64 Zc)∧w'.cell? ⟨gb583,1,none⟩=some (.bool Zb)∧w'.cell? ⟨gb583,2,none⟩=some (.slice (some Zx) Za.length Zd)∧w'.cell? (Zx.add ((Zg).toNat * 4))=some (.int .i64 ((rd_T50 Za Zg).f0))∧w'.cell? ⟨(Zx.add ((Zg).toNat * 4)).block,(Zx.add ((Zg).toNat * 4)).off+1,none⟩=some (.int .i64 ((rd_T50 Za Zg).f1))∧w'.cell? ⟨(Zx.add ((Zg).toNat * 4)).block,(Zx.add ((Zg).toNat * 4)).off+2,none⟩=some (.int .i64 ((rd_T50 Za Zg).f2))∧w'.cell? ⟨(Zx.add ((Zg).toNat * 4)).block,(Zx.add ((Zg).toNat * 4)).off+3,none⟩=some (.int .i64 ((rd_T50 Za Zg).f3))∧w'.cell? (Zx.add ((Zg).toNat * 4))=some (.int .i64 ((rd_T50 Za Zg).f0))∧w'.cell? ⟨(Zx.add ((Zg).toNat * 4)).block,(Zx.add ((Zg).toNat * 4)).off+1,none⟩=some (.int .i64 ((rd_T50 Za Zg).f1))∧w'.cell? ⟨(Zx.add ((Zg).toNat * 4)).block,(Zx.add ((Zg).toNat * 4)).off+2,none⟩=some (.int .i64 ((rd_T50 Za Zg).f2))∧w'.cell? ⟨(Zx.add ((Zg).toNat * 4)).block,(Zx.add ((Zg).toNat * 4)).off+3,none⟩=some (.int .i64 ((rd_T50 Za Zg).f3))) (ds:=[]) #[false,false,false,false,false,false,false,false,false,false,false,false,false] (by kernel_rfl) rfl rfl ⟨(Yc Xe.out 0).trans rfl,(Yc Xe.out 1).trans rfl,(Yc Xe.out 2).trans rfl,((HB.out.cell (Yb w _ hw588_0)).trans hw588_0),((HB.out.cell (Yb w _ hw588_1)).trans hw588_1),((HB.out.cell (Yb w _ hw588_2)).trans hw588_2),((HB.out.cell (Yb w _ hw588_3)).trans hw588_3),((HB.out.cell (Yb w _ hw589_0)).trans hw589_0),((HB.out.cell (Yb w _ hw589_1)).trans hw589_1),((HB.out.cell (Yb w _ hw589_2)).trans hw589_2),((HB.out.cell (Yb w _ hw589_3)).trans hw589_3)⟩ (fun hHeld=> ?_);refine with_tabW ebbtideref13_cycle.tab7 ebbtideref13_cycle.bits7 (fun HT_ HW_=> ?_);generalize w27.drew=w28 at Wu Xe HB Ur Us Ut Uu Uv Uw Ux Uy hHeld ⊢;refine pu 0 25 (bm 13 1) ?_;refine pu 2 27 (bm 13 5) ?_;refine pu 6 31 (bm 13 69) ?_;refine pu 8 33 (bm 13 325) ?_;refine ta 1 26 (bm 13 327) hHeld ?_;refine pu 3 28 (bm 13 335) ?_;refine pu 4 29 (bm 13 351) ?_;refine ta 5 30 (bm 13 383) hHeld ?_;refine ta 7 32 (bm 13 511) hHeld ?_;refine pu 9 34 (bm 13 1023) ?_;refine pu 10 35 (bm 13 2047) ?_;refine ta 11 36 (bm 13 4095) hHeld ?_;refine pu 12 37 (bm 13 8191) ?_;refine done_ (done_of HT_.out (by kernel_rfl)) ?_;try go_wp2
    replace Wu:=Ya (Yp Wu.out);replace Xe:=Ya (Ym Xe.out);replace HB:=Ya (Yg HB.out);have p590:0≤(Zg:Int):=od;have q590:Zg<(Za.length:Int):=od;obtain⟨ad590,e590,hx590_0,hx590_1,hx590_2,hx590_3⟩:=at_T50 Zj.out Zg p590 q590;have hw590_3:=hx590_3;have hw590_2:=hx590_2;have hw590_1:=hx590_1;have hw590_0:=hx590_0;obtain rfl:Zx=ad590:=(by injection e590);replace hx590_0:=hc HB hx590_0;replace hx590_1:=hc HB hx590_1;replace hx590_2:=hc HB hx590_2;replace hx590_3:=hc HB hx590_3;replace p590:=eq_true p590;replace q590:=eq_true q590;have p591:0≤(Zg:Int):=od;have q591:Zg<(Za.length:Int):=od;obtain⟨ad591,e591,hx591_0,hx591_1,hx591_2,hx591_3⟩:=at_T50 Zj.out Zg p591 q591;have hw591_3:=hx591_3;have hw591_2:=hx591_2;have hw591_1:=hx591_1;have hw591_0:=hx591_0;obtain rfl:Zx=ad591:=(by injection e591);replace hx591_0:=hc HB hx591_0;replace hx591_1:=hc HB hx591_1;replace hx591_2:=hc HB hx591_2;replace hx591_3:=hc HB hx591_3;replace p591:=eq_true p591;replace q591:=eq_true q591;refine start_ (n:=21) (S:=fun w'=>w'.cell? ⟨gb583,0,none⟩=some (.int .i64 Zc)∧w'.cell? ⟨gb583,1,none⟩=some (.bool Zb)∧w'.cell? ⟨gb583,2,none⟩=some (.slice (some Zx) Za.length Zd)∧w'.cell? (Zx.add ((Zg).toNat * 4))=some (.int .i64 ((rd_T50 Za Zg).f0))∧w'.cell? ⟨(Zx.add ((Zg).toNat * 4)).block,(Zx.add ((Zg).toNat * 4)).off+1,none⟩=some (.int .i64 ((rd_T50 Za Zg).f1))∧w'.cell? ⟨(Zx.add ((Zg).toNat * 4)).block,(Zx.add ((Zg).toNat * 4)).off+2,none⟩=some (.int .i64 ((rd_T50 Za Zg).f2))∧w'.cell? ⟨(Zx.add ((Zg).toNat * 4)).block,(Zx.add ((Zg).toNat * 4)).off+3,none⟩=some (.int .i64 ((rd_T50 Za Zg).f3))∧w'.cell? (Zx.add ((Zg).toNat * 4))=some (.int .i64 ((rd_T50 Za Zg).f0))∧w'.cell? ⟨(Zx.add ((Zg).toNat * 4)).block,(Zx.add ((Zg).toNat * 4)).off+1,none⟩=some (.int .i64 ((rd_T50 Za Zg).f1))∧w'.cell? ⟨(Zx.add ((Zg).toNat * 4)).block,(Zx.add ((Zg).toNat * 4)).off+2,none⟩=some (.int .i64 ((rd_T50 Za Zg).f2))∧w'.cell? ⟨(Zx.add ((Zg).toNat * 4)).block,(Zx.add ((Zg).toNat * 4)).off+3,none⟩=some (.int .i64 ((rd_T50 Za Zg).f3))) (ds:=[]) #[false,false,false,false,false,false,false,false,false,false,false,false,false,false,false,false,false,false,false,false,false] (by kernel_rfl) rfl rfl ⟨(Yc Xe.out 0).trans rfl,(Yc Xe.out 1).trans rfl,(Yc Xe.out 2).trans rfl,((HB.out.cell (Yb w _ hw590_0)).trans hw590_0),((HB.out.cell (Yb w _ hw590_1)).trans hw590_1),((HB.out.cell (Yb w _ hw590_2)).trans hw590_2),((HB.out.cell (Yb w _ hw590_3)).trans hw590_3),((HB.out.cell (Yb w _ hw591_0)).trans hw591_0),((HB.out.cell (Yb w _ hw591_1)).trans hw591_1),((HB.out.cell (Yb w _ hw591_2)).trans hw591_2),((HB.out.cell (Yb w _ hw591_3)).trans hw591_3)⟩ (fun hHeld=> ?_);refine with_tabW ebbtideref13_cycle.tab9 ebbtideref13_cycle.bits9 (fun HT_ HW_=> ?_);generalize w28.drew=w29 at Wu Xe HB hx590_0 hx590_1 hx590_2 hx590_3 hx591_0 hx591_1 hx591_2 hx591_3 hHeld ⊢;refine pu 1 41 (bm 21 2) ?_;refine pu 3 43 (bm 21 10) ?_;refine pu 7 47 (bm 21 138) ?_;refine pu 9 49 (bm 21 650) ?_;refine pu 13 53 (bm 21 8842) ?_;refine ta 0 40 (bm 21 8843) hHeld ?_;refine ta 2 42 (bm 21 8847) hHeld ?_;refine pu 4 44 (bm 21 8863) ?_;refine pu 5 45 (bm 21 8895) ?_;refine ta 6 46 (bm 21 8959) hHeld ?_;refine ta 8 48 (bm 21 9215) hHeld ?_;refine pu 10 50 (bm 21 10239) ?_;refine pu 11 51 (bm 21 12287) ?_;refine ta 12 52 (bm 21 16383) hHeld ?_;refine on 14 (some 54) (bm 21 32767) fun K hK=> ?_
    refine gs Try.func55 #[.slice (some ad584) l1.length c1] ?_
    with_reducible refine(ebbtideref13_along.calls k1 _ _ l1 t592 _ ?side1 ?side2 A12.out).mono ?_
    (case side1=>exact(Yt HR1.out HB.out))
    (case side2=>exact HC1.out)
    rintro e w30 ⟨v593,rfl,ho0,hb⟩;refine⟨_,rfl,?_⟩;replace Wu:=Ya (Ys Wu.out hb);have HO594:=Ya (Kd.R_lower ho0 (Yi HB.out));replace Xe:=Ya (Yn Xe.out hb);replace HB:=Ya (Yk HB.out hb)
    (try clear hb)
    (try clear hb2)
    (try clear hk)
    (try clear hi)
    (try clear ho0)
    obtain⟨Ao31,co31,eo31⟩:=Kd.R_slice HO594.out
    (first|subst eo31|(injection eo31 with f1_ f2_ f3_;have f4_:=f1_.symm;have f5_:=f3_.symm;clear f1_ f2_ f3_;subst f4_;subst f5_))
    refine hK.out _ _ ⟨bc Xe 0,bc Xe 1,bc Xe 2,(hc HB hw590_0),(hc HB hw590_1),(hc HB hw590_2),(hc HB hw590_3),(hc HB hw591_0),(hc HB hw591_1),(hc HB hw591_2),(hc HB hw591_3)⟩ (fun hHeld=> ?_);clear hK K;refine nm ?_;refine on 15 (some 55) (bm 21 65535) fun K hK=> ?_
    refine gs Try.func54 #[.agg #[.int .i64 Zc, .bool Zb, .slice (some Zx) Za.length Zd], .int .i64 ((rd_T50 Za Zg).f1), .int .i64 ((rd_T50 Za Zg).f0), .slice Ao31 t592.length co31] ?_
    with_reducible refine(ebbtideref08_Way.calls Zc Zb _ _ Za ((rd_T50 Za Zg).f1) ((rd_T50 Za Zg).f0) _ _ t592 t595 false _ ?side1 ?side2 ?side3 ?side4 A13.out).mono ?_
    (case side1=>exact(Yt Zj.out HB.out))
    (case side2=>exact Zs.out)
    (case side3=>exact(Kd.R_reads' HO594.out).2.2)
    (case side4=>exact(Kd.R_reads' HO594.out).2.1)
    rintro e w32 ⟨v596,rfl,ho0,hb⟩;refine⟨_,rfl,?_⟩;replace Wu:=Ya (Ys Wu.out hb);have HO597:=Ya (Kd.R_lower (Kd.R_new' ho0 (Kd.R_lt HO594.out)) (Yi HB.out));replace HO594:=Ya (Kd.R_elder' HO594.out (Kd.R_base ho0) hb);replace Xe:=Ya (Yn Xe.out hb);replace HB:=Ya (Yk HB.out hb)
    (try clear hb)
    (try clear hb2)
    (try clear hk)
    (try clear hi)
    (try clear ho0)
    refine hK.out _ _ ⟨bc Xe 0,bc Xe 1,bc Xe 2,(hc HB hw590_0),(hc HB hw590_1),(hc HB hw590_2),(hc HB hw590_3),(hc HB hw591_0),(hc HB hw591_1),(hc HB hw591_2),(hc HB hw591_3)⟩ (fun hHeld=> ?_);clear hK K;refine nm ?_;refine pu 16 39 (bm 21 131071) ?_;refine pu 17 56 (bm 21 262143) ?_;refine pu 18 57 (bm 21 524287) ?_;refine pu 19 8 (bm 21 1048575) ?_;refine pure_ (i:=20) (N:=some 9) (v:= ?_) (a':= ?_) #[true,true,true,true,true,true,true,true,true,true,true,true,true,true,true,true,true,true,true,true,true] rfl rfl (any_of HT_.out (by kernel_rfl)) (fun _ _ _ h=>h) (Or.inl ⟨by rfl,?_⟩) ?_ ?_
    rotate_left
    ·intro w'
     go_simp
     with_reducible rfl
    rotate_left
    ·simp only[Act.put,List.setIfInBounds_toArray,List.set_cons_zero,List.set_cons_succ,i64_w,i32_w]
     rfl
    refine done_ (done_of HT_.out (by kernel_rfl)) ?_;try go_wp2
    go_roundg k1
    case measure=>have:=HK1.out;omega
    case rel=>exact⟨(wrap64 (Zg+1)),(by first|rfl|(simp;done)|(simp[*];done)),H',⟨by have:=HK1.out;omega⟩,⟨Xe.out⟩,⟨HB.out⟩⟩
   subst c14;first|rw[Yx rfl] at H|rw[Yx trivial] at H
   replace H:=Option.bind_eq_some_iff.mp H;obtain⟨t599,A150,H⟩:=H;try dsimp only at H
   have A15:=Ya A150;clear A150;by_cases c16:y585.length+t599.length<17592186044416
   rotate_left
   ·rw[Yy c16] at H
    exact absurd H (by simp)
   rw[Yx c16] at H;have LMc16:=Ya c16;clear c16;obtain⟨y602,hy602⟩: ∃ y_:List Int,y_=(y585 ++ t599):=⟨_,rfl⟩;rw[← hy602] at H;have Ny602:=Ya hy602;clear hy602;simp only[Option.some.injEq,Prod.mk.injEq] at H;obtain⟨rfl,rfl⟩:=H;have p584:0≤(Zg:Int):=od;have q584:Zg<(l1.length:Int):=od;obtain⟨ad584,e584,hx584_0⟩:=Kd.at_int HR1.out Zg p584 q584;cases e584;replace hx584_0:=hc HB hx584_0;replace p584:=eq_true p584;replace q584:=eq_true q584;try go_wp2_with (first|((with_reducible refine gate_builtin (b:= .append) (xs:= #[.tmp 21, .tmp 23]) rfl ?_);at_builtin;refine Kd.R_append (Kd.int .i64) (w0:=w) w.heap.size rfl (.tmp 21) (.tmp 23) 31 3 (.int .i64 0) 8 rfl Try.underlying31 info3 rfl (by decide) (by omega) (.slice none 0 0) ([]:List Int) Zg [.int .i64 Zg] (fun _=>True) (fun _=>False) rfl rfl ?aP (fun _ hk=>hk.elim) ?aF ?aO ?aB ?aS ?aL ?_;(case aP=>exact rfl);(case aB=>exact HB.out);(case aF=>exact(fun _ _=>trivial));(case aO=>exact((Kd.R_nil _ _ _ _ (fun _=>True))));(case aS=>exact(Yi HB.out));(case aL=>have:=LMc7.out;omega);intro v586 w17 ho hb hg hat;rw[← Ny585.out] at ho;replace Xe:=Ya (blk_grown Xe.out hg (by simp[Value.ownBlock]));replace HB:=Ya (hb);have Wu:=Ya (ho);clear ho hb hg hat))
   replace Wu:=Ya (Yp Wu.out);replace Xe:=Ya (Ym Xe.out);replace HB:=Ya (Yg HB.out);have p588:0≤(Zg:Int):=od;have q588:Zg<(Za.length:Int):=od;obtain⟨Zx,e588,Ur,Us,Ut,Uu⟩:=at_T50 Zj.out Zg p588 q588;have hw588_3:=Uu;have hw588_2:=Ut;have hw588_1:=Us;have hw588_0:=Ur;cases e588;replace Ur:=hc HB Ur;replace Us:=hc HB Us;replace Ut:=hc HB Ut;replace Uu:=hc HB Uu;replace p588:=eq_true p588;replace q588:=eq_true q588;have p589:0≤(Zg:Int):=od;have q589:Zg<(Za.length:Int):=od;obtain⟨ad589,e589,Uv,Uw,Ux,Uy⟩:=at_T50 Zj.out Zg p589 q589;have hw589_3:=Uy;have hw589_2:=Ux;have hw589_1:=Uw;have hw589_0:=Uv;obtain rfl:Zx=ad589:=(by injection e589);replace Uv:=hc HB Uv;replace Uw:=hc HB Uw;replace Ux:=hc HB Ux;replace Uy:=hc HB Uy;replace p589:=eq_true p589;replace q589:=eq_true q589;refine start_ (n:=13) (S:=fun w'=>w'.cell? ⟨gb583,0,none⟩=some (.int .i64 Zc)∧w'.cell? ⟨gb583,1,none⟩=some (.bool Zb)∧w'.cell? ⟨gb583,2,none⟩=some (.slice (some Zx) Za.length Zd)∧w'.cell? (Zx.add ((Zg).toNat * 4))=some (.int .i64 ((rd_T50 Za Zg).f0))∧w'.cell? ⟨(Zx.add ((Zg).toNat * 4)).block,(Zx.add ((Zg).toNat * 4)).off+1,none⟩=some (.int .i64 ((rd_T50 Za Zg).f1))∧w'.cell? ⟨(Zx.add ((Zg).toNat * 4)).block,(Zx.add ((Zg).toNat * 4)).off+2,none⟩=some (.int .i64 ((rd_T50 Za Zg).f2))∧w'.cell? ⟨(Zx.add ((Zg).toNat * 4)).block,(Zx.add ((Zg).toNat * 4)).off+3,none⟩=some (.int .i64 ((rd_T50 Za Zg).f3))∧w'.cell? (Zx.add ((Zg).toNat * 4))=some (.int .i64 ((rd_T50 Za Zg).f0))∧w'.cell? ⟨(Zx.add ((Zg).toNat * 4)).block,(Zx.add ((Zg).toNat * 4)).off+1,none⟩=some (.int .i64 ((rd_T50 Za Zg).f1))∧w'.cell? ⟨(Zx.add ((Zg).toNat * 4)).block,(Zx.add ((Zg).toNat * 4)).off+2,none⟩=some (.int .i64 ((rd_T50 Za Zg).f2))∧w'.cell? ⟨(Zx.add ((Zg).toNat * 4)).block,(Zx.add ((Zg).toNat * 4)).off+3,none⟩=some (.int .i64 ((rd_T50 Za Zg).f3))) (ds:=[]) #[false,false,false,false,false,false,false,false,false,false,false,false,false] (by kernel_rfl) rfl rfl ⟨(Yc Xe.out 0).trans rfl,(Yc Xe.out 1).trans rfl,(Yc Xe.out 2).trans rfl,((HB.out.cell (Yb w _ hw588_0)).trans hw588_0),((HB.out.cell (Yb w _ hw588_1)).trans hw588_1),((HB.out.cell (Yb w _ hw588_2)).trans hw588_2),((HB.out.cell (Yb w _ hw588_3)).trans hw588_3),((HB.out.cell (Yb w _ hw589_0)).trans hw589_0),((HB.out.cell (Yb w _ hw589_1)).trans hw589_1),((HB.out.cell (Yb w _ hw589_2)).trans hw589_2),((HB.out.cell (Yb w _ hw589_3)).trans hw589_3)⟩ (fun hHeld=> ?_);refine with_tabW ebbtideref13_cycle.tab7 ebbtideref13_cycle.bits7 (fun HT_ HW_=> ?_);generalize w17.drew=w18 at Wu Xe HB Ur Us Ut Uu Uv Uw Ux Uy hHeld ⊢;refine pu 0 25 (bm 13 1) ?_;refine pu 2 27 (bm 13 5) ?_;refine pu 6 31 (bm 13 69) ?_;refine pu 8 33 (bm 13 325) ?_;refine ta 1 26 (bm 13 327) hHeld ?_;refine pu 3 28 (bm 13 335) ?_;refine pu 4 29 (bm 13 351) ?_;refine ta 5 30 (bm 13 383) hHeld ?_;refine ta 7 32 (bm 13 511) hHeld ?_;refine pu 9 34 (bm 13 1023) ?_;refine pu 10 35 (bm 13 2047) ?_;refine ta 11 36 (bm 13 4095) hHeld ?_;refine pu 12 37 (bm 13 8191) ?_;refine done_ (done_of HT_.out (by kernel_rfl)) ?_;try go_wp2
   replace Wu:=Ya (Yp Wu.out);replace Xe:=Ya (Ym Xe.out);replace HB:=Ya (Yg HB.out);have p590:0≤(Zg:Int):=od;have q590:Zg<(Za.length:Int):=od;obtain⟨ad590,e590,hx590_0,hx590_1,hx590_2,hx590_3⟩:=at_T50 Zj.out Zg p590 q590;have hw590_3:=hx590_3;have hw590_2:=hx590_2;have hw590_1:=hx590_1;have hw590_0:=hx590_0;obtain rfl:Zx=ad590:=(by injection e590);replace hx590_0:=hc HB hx590_0;replace hx590_1:=hc HB hx590_1;replace hx590_2:=hc HB hx590_2;replace hx590_3:=hc HB hx590_3;replace p590:=eq_true p590;replace q590:=eq_true q590;have p591:0≤(Zg:Int):=od;have q591:Zg<(Za.length:Int):=od;obtain⟨ad591,e591,hx591_0,hx591_1,hx591_2,hx591_3⟩:=at_T50 Zj.out Zg p591 q591;have hw591_3:=hx591_3;have hw591_2:=hx591_2;have hw591_1:=hx591_1;have hw591_0:=hx591_0;obtain rfl:Zx=ad591:=(by injection e591);replace hx591_0:=hc HB hx591_0;replace hx591_1:=hc HB hx591_1;replace hx591_2:=hc HB hx591_2;replace hx591_3:=hc HB hx591_3;replace p591:=eq_true p591;replace q591:=eq_true q591;refine start_ (n:=21) (S:=fun w'=>w'.cell? ⟨gb583,0,none⟩=some (.int .i64 Zc)∧w'.cell? ⟨gb583,1,none⟩=some (.bool Zb)∧w'.cell? ⟨gb583,2,none⟩=some (.slice (some Zx) Za.length Zd)∧w'.cell? (Zx.add ((Zg).toNat * 4))=some (.int .i64 ((rd_T50 Za Zg).f0))∧w'.cell? ⟨(Zx.add ((Zg).toNat * 4)).block,(Zx.add ((Zg).toNat * 4)).off+1,none⟩=some (.int .i64 ((rd_T50 Za Zg).f1))∧w'.cell? ⟨(Zx.add ((Zg).toNat * 4)).block,(Zx.add ((Zg).toNat * 4)).off+2,none⟩=some (.int .i64 ((rd_T50 Za Zg).f2))∧w'.cell? ⟨(Zx.add ((Zg).toNat * 4)).block,(Zx.add ((Zg).toNat * 4)).off+3,none⟩=some (.int .i64 ((rd_T50 Za Zg).f3))∧w'.cell? (Zx.add ((Zg).toNat * 4))=some (.int .i64 ((rd_T50 Za Zg).f0))∧w'.cell? ⟨(Zx.add ((Zg).toNat * 4)).block,(Zx.add ((Zg).toNat * 4)).off+1,none⟩=some (.int .i64 ((rd_T50 Za Zg).f1))∧w'.cell? ⟨(Zx.add ((Zg).toNat * 4)).block,(Zx.add ((Zg).toNat * 4)).off+2,none⟩=some (.int .i64 ((rd_T50 Za Zg).f2))∧w'.cell? ⟨(Zx.add ((Zg).toNat * 4)).block,(Zx.add ((Zg).toNat * 4)).off+3,none⟩=some (.int .i64 ((rd_T50 Za Zg).f3))) (ds:=[]) #[false,false,false,false,false,false,false,false,false,false,false,false,false,false,false,false,false,false,false,false,false] (by kernel_rfl) rfl rfl ⟨(Yc Xe.out 0).trans rfl,(Yc Xe.out 1).trans rfl,(Yc Xe.out 2).trans rfl,((HB.out.cell (Yb w _ hw590_0)).trans hw590_0),((HB.out.cell (Yb w _ hw590_1)).trans hw590_1),((HB.out.cell (Yb w _ hw590_2)).trans hw590_2),((HB.out.cell (Yb w _ hw590_3)).trans hw590_3),((HB.out.cell (Yb w _ hw591_0)).trans hw591_0),((HB.out.cell (Yb w _ hw591_1)).trans hw591_1),((HB.out.cell (Yb w _ hw591_2)).trans hw591_2),((HB.out.cell (Yb w _ hw591_3)).trans hw591_3)⟩ (fun hHeld=> ?_);refine with_tabW ebbtideref13_cycle.tab9 ebbtideref13_cycle.bits9 (fun HT_ HW_=> ?_);generalize w18.drew=w19 at Wu Xe HB hx590_0 hx590_1 hx590_2 hx590_3 hx591_0 hx591_1 hx591_2 hx591_3 hHeld ⊢;refine pu 1 41 (bm 21 2) ?_;refine pu 3 43 (bm 21 10) ?_;refine pu 7 47 (bm 21 138) ?_;refine pu 9 49 (bm 21 650) ?_;refine pu 13 53 (bm 21 8842) ?_;refine ta 0 40 (bm 21 8843) hHeld ?_;refine ta 2 42 (bm 21 8847) hHeld ?_;refine pu 4 44 (bm 21 8863) ?_;refine pu 5 45 (bm 21 8895) ?_;refine ta 6 46 (bm 21 8959) hHeld ?_;refine ta 8 48 (bm 21 9215) hHeld ?_;refine pu 10 50 (bm 21 10239) ?_;refine pu 11 51 (bm 21 12287) ?_;refine ta 12 52 (bm 21 16383) hHeld ?_;refine on 14 (some 54) (bm 21 32767) fun K hK=> ?_
   refine gs Try.func55 #[.slice (some ad584) l1.length c1] ?_
   with_reducible refine(ebbtideref13_along.calls k1 _ _ l1 t592 _ ?side1 ?side2 A12.out).mono ?_
   (case side1=>exact(Yt HR1.out HB.out))
   (case side2=>exact HC1.out)
   rintro e w20 ⟨v593,rfl,ho0,hb⟩;refine⟨_,rfl,?_⟩;replace Wu:=Ya (Ys Wu.out hb);have HO594:=Ya (Kd.R_lower ho0 (Yi HB.out));replace Xe:=Ya (Yn Xe.out hb);replace HB:=Ya (Yk HB.out hb)
   (try clear hb)
   (try clear hb2)
   (try clear hk)
   (try clear hi)
   (try clear ho0)
   obtain⟨Ao21,co21,eo21⟩:=Kd.R_slice HO594.out
   (first|subst eo21|(injection eo21 with f1_ f2_ f3_;have f4_:=f1_.symm;have f5_:=f3_.symm;clear f1_ f2_ f3_;subst f4_;subst f5_))
   refine hK.out _ _ ⟨bc Xe 0,bc Xe 1,bc Xe 2,(hc HB hw590_0),(hc HB hw590_1),(hc HB hw590_2),(hc HB hw590_3),(hc HB hw591_0),(hc HB hw591_1),(hc HB hw591_2),(hc HB hw591_3)⟩ (fun hHeld=> ?_);clear hK K;refine nm ?_;refine on 15 (some 55) (bm 21 65535) fun K hK=> ?_
   refine gs Try.func54 #[.agg #[.int .i64 Zc, .bool Zb, .slice (some Zx) Za.length Zd], .int .i64 ((rd_T50 Za Zg).f1), .int .i64 ((rd_T50 Za Zg).f0), .slice Ao21 t592.length co21] ?_
   with_reducible refine(ebbtideref08_Way.calls Zc Zb _ _ Za ((rd_T50 Za Zg).f1) ((rd_T50 Za Zg).f0) _ _ t592 t595 true _ ?side1 ?side2 ?side3 ?side4 A13.out).mono ?_
   (case side1=>exact(Yt Zj.out HB.out))
   (case side2=>exact Zs.out)
   (case side3=>exact(Kd.R_reads' HO594.out).2.2)
   (case side4=>exact(Kd.R_reads' HO594.out).2.1)
   rintro e w22 ⟨v596,rfl,ho0,hb⟩;refine⟨_,rfl,?_⟩;replace Wu:=Ya (Ys Wu.out hb);have HO597:=Ya (Kd.R_lower (Kd.R_new' ho0 (Kd.R_lt HO594.out)) (Yi HB.out));replace HO594:=Ya (Kd.R_elder' HO594.out (Kd.R_base ho0) hb);replace Xe:=Ya (Yn Xe.out hb);replace HB:=Ya (Yk HB.out hb)
   (try clear hb)
   (try clear hb2)
   (try clear hk)
   (try clear hi)
   (try clear ho0)
   refine hK.out _ _ ⟨bc Xe 0,bc Xe 1,bc Xe 2,(hc HB hw590_0),(hc HB hw590_1),(hc HB hw590_2),(hc HB hw590_3),(hc HB hw591_0),(hc HB hw591_1),(hc HB hw591_2),(hc HB hw591_3)⟩ (fun hHeld=> ?_);clear hK K;refine nm ?_;refine pu 16 39 (bm 21 131071) ?_;refine pu 17 56 (bm 21 262143) ?_;refine pu 18 57 (bm 21 524287) ?_;refine pu 19 8 (bm 21 1048575) ?_;refine pu 20 9 (bm 21 2097151) ?_;refine done_ (done_of HT_.out (by kernel_rfl)) ?_;obtain⟨Ao23,co23,eo23⟩:=Kd.R_slice HO597.out;subst eo23;try go_wp2_with (first|((with_reducible refine gate_callee (f:=56) rfl ?_);refine gl (some 61) Try.func56 #[.slice Ao23 t595.length co23] ?_;(with_reducible refine(ebbtideref13_places.calls k1 _ _ t595 t599 _ ?side1 ?side2 A15.out).mono ?_);(case side1=>exact kC (Kd.R_reads' HO597.out).2.2);(case side2=>exact(Kd.R_reads' HO597.out).2.1);rintro e w24 ⟨v600,rfl,ho0,hb⟩;refine⟨_,rfl,?_⟩;replace HO594:=Ya (Ys HO594.out hb);replace HO597:=Ya (Ys HO597.out hb);have HO601:=Ya (Kd.R_lower (Kd.R_new' ho0 (Kd.R_lt Wu.out)) (Yi HB.out));replace Wu:=Ya (Kd.R_elder' Wu.out (Kd.R_base ho0) hb);replace Xe:=Ya (Yn Xe.out hb);replace HB:=Ya (Yk HB.out hb);(try clear hb);(try clear ho0);obtain⟨Ao26,co26,eo26⟩:=Kd.R_slice HO601.out;subst eo26)|((with_reducible refine gate_builtin (b:= .append) (xs:= #[.tmp 59, .tmp 61]) rfl ?_);at_builtin;refine Kd.R_append_rows (Kd.int .i64) (w0:=w) w.heap.size rfl (.tmp 59) (.tmp 61) 31 3 (.int .i64 0) 8 rfl Try.underlying31 info3 rfl (by decide) (by omega) v586 y585 t599 _ _ _ (fun k_=>some k_≠(.slice Ao26 t599.length co26:Value).ownBlock) (fun _=>False) rfl rfl ?aO ?aR (fun _ _ h=>h) (fun _ h=>h.elim) ?aF ?aB ?aS ?aL ?_;(case aR=>repeat(first|exact(Kd.R_reads' HO601.out).2.2|(with_reducible refine Kd.C_alloc ?_ _)|(with_reducible refine Kd.C_drewN ?_ _)|(with_reducible refine Kd.C_drew ?_)));(case aB=>exact HB.out);(case aF=>exact(fun k_ hk=>Kd.fresh' (Kd.R_lt HO601.out) k_ hk));(case aO=>exact(by(with_reducible repeat(first|apply Yr|apply Yq|apply Yp));exact Kd.R_mono Wu.out (fun _ hk=>hk.2)));(case aS=>exact(Yi HB.out));(case aL=>have:=LMc16.out;omega);intro v603 w25 ho hb hg hat;rw[← Ny602.out] at ho;replace Xe:=Ya (blk_grown Xe.out hg (Kd.R_ne Wu.out Xe.out (by decide)));replace HO594:=Ya (Kd.R_over' HO594.out (Kd.R_typed Wu.out) (by decide) hg);replace HO597:=Ya (Kd.R_over' HO597.out (Kd.R_typed Wu.out) (by decide) hg);replace HO601:=Ya (Kd.R_after (ok:=(fun _=>True)) HO601.out hg hat);replace HB:=Ya (hb);have HO604:=Ya (ho);clear Wu;clear ho hb hg hat))
   go_ret2;exact⟨_,by first|rfl|(simp[errW_none,errW_some]<;>rfl)|(simp[*,errW_none,errW_some]<;>rfl),by(with_reducible repeat(first|apply Yr|apply Yq|apply Yp));exact Kd.R_mono HO604.out (fun _ hk=>trivial),HB.out⟩
end P
namespace P
attribute [local go_sem] max2_int min2_int max_two min_two max_three min_three max_four min_four
mutual
def ebbtideref13_taken.l0:Nat→List Int→List Int→Int→Int→Option (List Int × Int × List Int)
 |0,_,_,_,_=>none
 |k+1,x0,x1,x6,x7=>if x7<(x1.length:Int) then(if 0≤x7 then(if 0≤(rd x1 x7) then(if (rd x1 x7)<(x0.length:Int) then(ebbtideref13_taken.l0 k x0 x1 (mn x6 (rd x0 (rd x1 x7))) (wrap64 (x7+1))) else(none)) else(none)) else(none)) else(if ([]:List Int).length+x0.length<17592186044416 then(ebbtideref13_taken.l1 k x1 x6 (([]:List Int) ++ x0) 0) else(none))
def ebbtideref13_taken.l1:Nat→List Int→Int→List Int→Int→Option (List Int × Int × List Int)
 |0,_,_,_,_=>none
 |k+1,x1,x6,x8,x9=>if x9<(x1.length:Int) then(if 0≤x9 then(if 0≤(rd x1 x9) then(if (rd x1 x9)<(x8.length:Int) then(ebbtideref13_taken.l1 k x1 x6 (x8.set ((rd x1 x9):Int).toNat (wrap64 ((rd x8 (rd x1 x9)) - x6))) (wrap64 (x9+1))) else(none)) else(none)) else(none)) else(some (x1,x6,x8))
end
def ebbtideref13_taken.f (k:Nat) (l0:List Int) (l1:List Int):Option (List Int × Int × List Int):=if 0<(l1.length:Int) then(if 0≤(rd l1 0) then(if (rd l1 0)<(l0.length:Int) then(ebbtideref13_taken.l0 k l0 l1 (rd l0 (rd l1 0)) 1) else(none)) else(none)) else(none)
def ebbtideref13_taken.T11:Bool × List (List Nat × List Nat):=(true,[([],[]),([],[]),([],[]),([1,2],[1,2]),([3],[3]),([],[]),([],[]),([],[]),([6,7],[6,7]),([8],[8]),([5,9],[5,9]),([10],[10]),([],[]),([11,12],[11,12]),([0,4,0,1,2,3,4,5,6,7,8,9,10,11,12,13],[0,4]),([14,13,0,1,2,3,4,5,6,7,8,9,10,11,12,13],[13,14])])
def ebbtideref13_taken.B11:List Nat:=[0,0,0,6,14,0,0,0,192,448,992,2016,0,8160,16383,32767]
theorem ebbtideref13_taken.tab11:rtab .any (opsOf Try.f53 11)=ebbtideref13_taken.T11:=by kernel_rfl
theorem ebbtideref13_taken.bits11:waitsOk ebbtideref13_taken.T11.2 ebbtideref13_taken.B11=true:=by kernel_rfl
set_option maxHeartbeats 8000000 in
set_option maxRecDepth 100000 in
theorem ebbtideref13_taken.calls (k:Nat) (A0:Option Addr) (c0:Nat) (l0:List Int) (P1_:Nat→Prop) (u9000_:Value) (l1:List Int) (r1:List Int) (r2:Int) (r3:List Int) (w0 w:World) (hB:Below w0.heap.size w0 w) (hr0: ∀ W_,Kept w W_ (fun k_=>P1_ k_)→Kd.C (Kd.int .i64) W_ A0 l0.length l0) (hc0:l0.length≤c0) (ho1:Kd.R (Kd.int .i64) 3 w w0.heap.size P1_ u9000_ l1) (h:ebbtideref13_taken.f k l0 l1=some (r1,r2,r3)):
  Calls Try.prog 53 #[.slice A0 l0.length c0,u9000_] w fun e w'=> ∃ v0_ v2_:Value,e= .returned (.tuple #[.agg #[v0_, .int .i64 r2],v2_])∧Kd.R (Kd.int .i64) 3 w' w0.heap.size (fun k_=>(P1_ k_∨w.heap.size≤k_)∧some k_≠(v2_:Value).ownBlock) v0_ r1∧Kd.R (Kd.int .i64) 3 w' w0.heap.size (fun k_=>(P1_ k_∨w.heap.size≤k_)∧some k_≠(v0_:Value).ownBlock) v2_ r3∧Below w0.heap.size w0 w'∧Kept w w' (fun k_=>P1_ k_):=by
 have hu47:=Try.underlying47;have HR0:=Ya hr0;have HC0:=Ya hc0;clear hr0 hc0;have HO1:=Ya (show Kd.R (Kd.int .i64) 3 w w0.heap.size (fun k_=>(P1_ k_∨w.heap.size≤k_)) u9000_ l1 from Kd.R_mono ho1 (fun k_ hk=>(.inl hk)));have HK:=Ya (Kept.refl w (fun k_=>P1_ k_));have HW0:=Ya hB.size;have HB:=Ya hB;clear hB;have H:=h;unfold ebbtideref13_taken.f at H;clear h;by_cases c3:0<(l1.length:Int)
 rotate_left
 ·rw[Yy c3] at H
  exact absurd H (by simp)
 rw[Yx c3] at H;have c3b0:decide (0<(l1.length:Int))=true:=Yv c3;have c3b1:decide (0<l1.length)=true:=Yv (by omega);clear c3;by_cases c4:0≤(rd l1 0)
 rotate_left
 ·rw[Yy c4] at H
  exact absurd H (by simp)
 rw[Yx c4] at H;have c4b0:decide (0≤(rd l1 0))=true:=Yv c4;clear c4;by_cases c5:(rd l1 0)<(l0.length:Int)
 rotate_left
 ·rw[Yy c5] at H
  exact absurd H (by simp)
 rw[Yx c5] at H;have c5b0:decide ((rd l1 0)<(l0.length:Int))=true:=Yv c5;clear c5;have H':=Ya H;clear H;go_enter Try.func53,Try.ntmps53;go_wp2_with (first|(refine bx 4 47 #[.slice none 0 0, .int .i64 0] ?_;intro gb605 hg w6 Zf hb;replace HO1:=Ya (Ys HO1.out hb);have BK605:=Ya (Zf);have GW605:=Ya ((by rw[hg];exact(by first|exact HK.out.1|exact(show Kept w _ (fun k_=>P1_ k_) from by repeat(first|(with_reducible first|exact HK.out|apply Kept.alloc|apply Kept.drewN|apply Kept.drew)|exact HK.out)).1):w.heap.size≤gb605));replace HK:=Ya (Kept.below (S:=(fun k_=>P1_ k_)) (by repeat(first|(with_reducible first|exact HK.out|apply Kept.alloc|apply Kept.drewN|apply Kept.drew)|exact HK.out)) hb);have GE605:=Ya (by rw[hg];exact(Yi HB.out):w0.heap.size≤gb605);replace HB:=Ya (Yk HB.out hb);clear hb Zf hg;obtain⟨Ao7,co7,eo7⟩:=Kd.R_slice HO1.out;subst eo7;have p606:0≤(0:Int):=(by omega);have q606:0<(l1.length:Int):=od;obtain⟨ad606,e606,hx606_0⟩:=Kd.at_int (Kd.R_reads' HO1.out).2.2 0 p606 q606;cases e606;have qi606:(0<l1.length)=True:=eq_true (by omega);(try rw[show ((0:Int)).toNat=0 from rfl] at hx606_0);(try rw[Addr.add_zero'] at hx606_0);replace p606:=eq_true p606;replace q606:=eq_true q606;have p607:0≤((rd l1 0):Int):=od;have q607:(rd l1 0)<(l0.length:Int):=od;obtain⟨ad607,e607,hx607_0⟩:=Kd.at_int (Kd.C_kept_now HR0.out HK.out) (rd l1 0) p607 q607;cases e607;replace p607:=eq_true p607;replace q607:=eq_true q607));go_loopg [6,7] k (fun kq v6 v7 w'=> ∃ (Zg:Int) (Xc:Int),v6= .int .i64 Zg∧v7= .int .i64 Xc∧Aside0 (ebbtideref13_taken.l0 kq l0 l1 Zg Xc=some (r1,r2,r3))∧Aside0 (kq≤k)∧Aside0 (Kd.R (Kd.int .i64) 3 w' w0.heap.size (fun k_=>(P1_ k_∨w.heap.size≤k_)) (.slice (some ad606) l1.length co7) l1)∧Aside0 (w'.heap[gb605]? =some (.cells #[(.slice none 0 0), .int .i64 0] 47 (0,0)))∧Aside0 (Kept w w' (fun k_=>P1_ k_))∧Aside0 (Below w0.heap.size w0 w'))
 case atStart=>exact⟨(rd l0 (rd l1 0)),(1),(by first|rfl|(simp;done)|(simp[*];done)),(by first|rfl|(simp;done)|(simp[*];done)),H',⟨Nat.le_refl _⟩,⟨HO1.out⟩,⟨BK605.out⟩,⟨by repeat(first|(with_reducible first|exact HK.out|apply Kept.alloc|apply Kept.drewN|apply Kept.drew|refine Kept.setCell ?_ (.inr GW605.out) _)|exact HK.out)⟩,⟨HB.out⟩⟩
 case round=>
  clear H';try clear c3
  try clear c3b0
  try clear c3b1
  try clear c4
  try clear c4b0
  try clear c5
  try clear c5b0
  try clear hx606_0
  try clear hx607_0
  try clear p606
  try clear p607
  try clear q606
  try clear q607
  obtain⟨Zg,Xc,rfl,rfl,HA,HK1,HO_1,BK605,HK,HB⟩:=hrel;cases gk with
  |zero=>exact absurd HA.out (by simp[ebbtideref13_taken.l0])
  |succ k1=>
   have H:=HA.out;clear HA;simp only[ebbtideref13_taken.l0] at H;by_cases c8:Xc<(l1.length:Int)
   ·rw[Yx c8] at H
    have c8b0:decide (Xc<(l1.length:Int))=true:=Yv c8;clear c8;by_cases c9:0≤Xc
    rotate_left
    ·rw[Yy c9] at H
     exact absurd H (by simp)
    rw[Yx c9] at H;have c9b0:decide (0≤Xc)=true:=Yv c9;clear c9;by_cases c10:0≤(rd l1 Xc)
    rotate_left
    ·rw[Yy c10] at H
     exact absurd H (by simp)
    rw[Yx c10] at H;have c10b0:decide (0≤(rd l1 Xc))=true:=Yv c10;clear c10;by_cases c11:(rd l1 Xc)<(l0.length:Int)
    rotate_left
    ·rw[Yy c11] at H
     exact absurd H (by simp)
    rw[Yx c11] at H;have c11b0:decide ((rd l1 Xc)<(l0.length:Int))=true:=Yv c11;clear c11;obtain⟨ji12,hji12⟩: ∃ j_:Int,(mn Zg (rd l0 (rd l1 Xc)))=j_:=⟨_,rfl⟩;replace H:(ebbtideref13_taken.l0 k1 l0 l1 ji12 (wrap64 (Xc+1)))=some (r1,r2,r3):=by first|(rw[hji12] at H;exact H)|(simp only[hji12] at H ⊢;exact H)
    have hji12_:(if (rd l0 (rd l1 Xc))<Zg then(rd l0 (rd l1 Xc)) else Zg)=ji12:=hji12;have H':=Ya H;clear H;have p608:0≤(Xc:Int):=od;have q608:Xc<(l1.length:Int):=od;obtain⟨ad608,e608,hx608_0⟩:=Kd.at_int (Kd.R_reads' HO_1.out).2.2 Xc p608 q608;obtain rfl:ad606=ad608:=(by injection e608);replace p608:=eq_true p608;replace q608:=eq_true q608;have p609:0≤((rd l1 Xc):Int):=od;have q609:(rd l1 Xc)<(l0.length:Int):=od;obtain⟨ad609,e609,hx609_0⟩:=Kd.at_int (Kd.C_kept_now HR0.out HK.out) (rd l1 Xc) p609 q609;obtain rfl:ad607=ad609:=(by injection e609);replace p609:=eq_true p609;replace q609:=eq_true q609;go_wp2;go_roundg k1
    case measure=>have:=HK1.out;omega
    case rel=>exact⟨(ji12),(wrap64 (Xc+1)),(by first|rfl|(simp;done)|(simp only[← hji12]<;>(first|rfl|simp))|(simp[*];done)),(by first|rfl|(simp;done)|(simp[*];done)),H',⟨by have:=HK1.out;omega⟩,⟨HO_1.out⟩,⟨BK605.out⟩,⟨by repeat(first|(with_reducible first|exact HK.out|apply Kept.alloc|apply Kept.drewN|apply Kept.drew|refine Kept.setCell ?_ (.inr GW605.out) _)|exact HK.out)⟩,⟨HB.out⟩⟩
   rw[Yy c8] at H;have c8b0:decide (Xc<(l1.length:Int))=false:=Yw c8;clear c8;by_cases c13:([]:List Int).length+l0.length<17592186044416
   rotate_left
   ·rw[Yy c13] at H
    exact absurd H (by simp)
   rw[Yx c13] at H;have LMc13:=Ya c13;clear c13;obtain⟨y610,hy610⟩: ∃ y_:List Int,y_=(([]:List Int) ++ l0):=⟨_,rfl⟩;rw[← hy610] at H;have Ny610:=Ya hy610;clear hy610;have H':=Ya H;clear H;go_wp2_with (first|((with_reducible refine gate_builtin (b:= .append) (xs:= #[.tmp 31, .tmp 32]) rfl ?_);at_builtin;refine Kd.R_append_rows (Kd.int .i64) (w0:=w0) w0.heap.size rfl (.tmp 31) (.tmp 32) 31 3 (.int .i64 0) 8 rfl Try.underlying31 info3 rfl (by decide) (by omega) (.slice none 0 0) ([]:List Int) l0 _ _ _ (fun k_=>(P1_ k_∨w.heap.size≤k_)∧some k_≠(.slice (some ad606) l1.length co7:Value).ownBlock) (fun _=>False) rfl rfl ?aO ?aR (fun _ _ h=>h) (fun _ h=>h.elim) ?aF ?aB ?aS ?aL ?_;(case aR=>exact Kd.C_kept_now HR0.out (by repeat(first|(with_reducible first|exact HK.out|apply Kept.alloc|apply Kept.drewN|apply Kept.drew|refine Kept.setCell ?_ (.inr GW605.out) _)|exact HK.out)));(case aB=>exact HB.out);(case aF=>exact(fun k_ hk=>⟨(.inr (Nat.le_trans (by first|exact HK.out.1|exact(show Kept w _ (fun k_=>P1_ k_) from by repeat(first|(with_reducible first|exact HK.out|apply Kept.alloc|apply Kept.drewN|apply Kept.drew|refine Kept.setCell ?_ (.inr GW605.out) _)|exact HK.out)).1) hk)),Kd.fresh' (Kd.R_lt HO_1.out) k_ hk⟩));(case aO=>exact((Kd.R_nil _ _ _ _ (fun k_=>(P1_ k_∨w.heap.size≤k_)∧some k_≠(.slice (some ad606) l1.length co7:Value).ownBlock))));(case aS=>exact(Yi HB.out));(case aL=>have:=LMc13.out;omega);intro v611 w14 ho hb hg hat;rw[← Ny610.out] at ho;replace HO_1:=Ya (Kd.R_after (Kd.R_apart_nil HO_1.out) hg hat);replace BK605:=Ya (blk_grown BK605.out hg (by simp[Value.ownBlock]));replace HB:=Ya (hb);replace HK:=Ya (Kept.of_grown (S:=(fun k_=>P1_ k_)) hg (by repeat(first|(with_reducible first|exact HK.out|apply Kept.alloc|apply Kept.drewN|apply Kept.drew|refine Kept.setCell ?_ (.inr GW605.out) _)|exact HK.out)) (fun k_ e_=>by simp[Value.ownBlock] at e_));have HO612:=Ya (ho);clear ho hb hg hat));go_loopg [9] k1 (fun kq v9 w'=> ∃ (x8_2:List Int) (Zu:Int),v9= .int .i64 Zu∧Aside0 (ebbtideref13_taken.l1 kq l1 Zg x8_2 Zu=some (r1,r2,r3))∧Aside0 (kq≤k1)∧Aside0 (Kd.R (Kd.int .i64) 3 w' w0.heap.size (fun k_=>(P1_ k_∨w.heap.size≤k_)∧some k_≠(v611:Value).ownBlock) (.slice (some ad606) l1.length co7) l1)∧Aside0 (Kd.R (Kd.int .i64) 3 w' w0.heap.size (fun k_=>(P1_ k_∨w.heap.size≤k_)∧some k_≠((.slice (some ad606) l1.length co7):Value).ownBlock) v611 x8_2)∧Aside0 (w'.heap[gb605]? =some (.cells #[(.slice none 0 0), .int .i64 0] 47 (0,0)))∧Aside0 (Kept w w' (fun k_=>P1_ k_))∧Aside0 (Below w0.heap.size w0 w'))
   case atStart=>exact⟨(y610),(0),(by first|rfl|(simp;done)|(simp[*];done)),H',⟨Nat.le_refl _⟩,⟨HO_1.out⟩,⟨HO612.out⟩,⟨BK605.out⟩,⟨by repeat(first|(with_reducible first|exact HK.out|apply Kept.alloc|apply Kept.drewN|apply Kept.drew|refine Kept.setCell ?_ (.inr GW605.out) _)|exact HK.out)⟩,⟨HB.out⟩⟩
   case round=>
    clear H';try clear c3
    try clear c3b0
    try clear c3b1
    try clear c4
    try clear c4b0
    try clear c5
    try clear c5b0
    try clear c8
    try clear c8b0
    try clear c9
    try clear c9b0
    try clear c10
    try clear c10b0
    try clear c11
    try clear c11b0
    try clear c13
    try clear hx606_0
    try clear hx607_0
    try clear hx608_0
    try clear hx609_0
    try clear p606
    try clear p607
    try clear p608
    try clear p609
    try clear q606
    try clear q607
    try clear q608
    try clear q609
    obtain⟨x8_2,Zu,rfl,HA,HK2,HO_1,HO_8,BK605,HK,HB⟩:=hrel;cases gk with
    |zero=>exact absurd HA.out (by simp[ebbtideref13_taken.l1])
    |succ k2=>
     have H:=HA.out;clear HA;simp only[ebbtideref13_taken.l1] at H;by_cases c15:Zu<(l1.length:Int)
     rotate_left
     ·rw[Yy c15] at H
      have c15b0:decide (Zu<(l1.length:Int))=false:=Yw c15;clear c15;simp only[Option.some.injEq,Prod.mk.injEq] at H;obtain⟨rfl,rfl,rfl⟩:=H;have hcz23_0:wr.cell? ⟨gb605,0,none⟩=some (.slice none 0 0):=bc BK605 0;have hcz23_1:wr.cell? ⟨gb605,1,none⟩=some (.int .i64 0):=bc BK605 1;have hfz23_0:=Yf BK605.out 0;have hfz23_1:=Yf BK605.out 1;go_wp2;refine bodyPost_ret (results_ct rfl _ _ gb605 47 #[.slice (some ad606) l1.length co7, .int .i64 Zg] (0,0) _ rfl (by(with_reducible repeat(first|refine Yl ?_ _|refine Ym ?_|refine Yj ?_ _));refine YA (cs:= #[.slice (some ad606) l1.length co7, .int .i64 0]) ?_ 1 _ rfl;(with_reducible repeat(first|refine Yl ?_ _|refine Ym ?_|refine Yj ?_ _));refine YA (cs:= #[.slice none 0 0, .int .i64 0]) ?_ 0 _ rfl;(with_reducible repeat(first|refine Yl ?_ _|refine Ym ?_|refine Yj ?_ _));exact BK605.out) Try.underlying47 rfl (by kernel_rfl)) rfl ?_;exact⟨_,_,by first|rfl|(simp[errW_none,errW_some]<;>rfl)|(simp[*,errW_none,errW_some]<;>rfl),by(with_reducible repeat(first|apply Yr|apply Yq|apply Yp));exact Kd.R_mono (Kd.R_far (p:=⟨gb605,1,none⟩) (Kd.R_far (p:=⟨gb605,0,none⟩) (Kd.R_types HO_1.out BK605.out (by decide)) (fun _ hk=>hk.2) (.slice (some ad606) l1.length co7)) (fun _ hk=>hk.2) (.int .i64 Zg)) (fun _ hk=>⟨hk.1.1,hk.1.2⟩),by(with_reducible repeat(first|apply Yr|apply Yq|apply Yp));exact Kd.R_mono (Kd.R_far (p:=⟨gb605,1,none⟩) (Kd.R_far (p:=⟨gb605,0,none⟩) (Kd.R_types HO_8.out BK605.out (by decide)) (fun _ hk=>hk.2) (.slice (some ad606) l1.length co7)) (fun _ hk=>hk.2) (.int .i64 Zg)) (fun _ hk=>⟨hk.1.1,hk.1.2⟩),by repeat(first|(with_reducible first|exact HB.out|apply Ye|apply Yd|apply Yg|refine Yh ?_ GE605.out)|exact HB.out),by repeat(first|(with_reducible first|exact HK.out|apply Kept.alloc|apply Kept.drewN|apply Kept.drew|refine Kept.setCell ?_ (.inr GW605.out) _)|exact HK.out)⟩
     rw[Yx c15] at H;have c15b0:decide (Zu<(l1.length:Int))=true:=Yv c15;clear c15;by_cases c16:0≤Zu
     rotate_left
     ·rw[Yy c16] at H
      exact absurd H (by simp)
     rw[Yx c16] at H;have c16b0:decide (0≤Zu)=true:=Yv c16;clear c16;by_cases c17:0≤(rd l1 Zu)
     rotate_left
     ·rw[Yy c17] at H
      exact absurd H (by simp)
     rw[Yx c17] at H;have c17b0:decide (0≤(rd l1 Zu))=true:=Yv c17;clear c17;by_cases c18:(rd l1 Zu)<(x8_2.length:Int)
     rotate_left
     ·rw[Yy c18] at H
      exact absurd H (by simp)
     rw[Yx c18] at H;have c18b0:decide ((rd l1 Zu)<(x8_2.length:Int))=true:=Yv c18;clear c18;obtain⟨y616,hy616⟩: ∃ y_:List Int,y_=(x8_2.set ((rd l1 Zu):Int).toNat (wrap64 ((rd x8_2 (rd l1 Zu)) - Zg))):=⟨_,rfl⟩;rw[← hy616] at H;have Ny616:=Ya hy616;clear hy616;have H':=Ya H;clear H;try go_wp2
     replace HO_1:=Ya (Yp HO_1.out);replace HO_8:=Ya (Yp HO_8.out);replace BK605:=Ya (Ym BK605.out);replace HK:=Ya (Kept.drew HK.out);replace HB:=Ya (Yg HB.out);have p613:0≤(Zu:Int):=od;have q613:Zu<(l1.length:Int):=od;obtain⟨ad613,e613,hx613_0⟩:=Kd.at_int (Kd.R_reads' HO_1.out).2.2 Zu p613 q613;obtain rfl:ad606=ad613:=(by injection e613);replace p613:=eq_true p613;replace q613:=eq_true q613;have p614:0≤(Zu:Int):=od;have q614:Zu<(l1.length:Int):=od;obtain⟨ad614,e614,hx614_0⟩:=Kd.at_int (Kd.R_reads' HO_1.out).2.2 Zu p614 q614;obtain rfl:ad606=ad614:=(by injection e614);replace p614:=eq_true p614;replace q614:=eq_true q614;obtain⟨Ao21,co21,eo21⟩:=Kd.R_slice HO_8.out
     (first|subst eo21|(injection eo21 with f1_ f2_ f3_;have f4_:=f1_.symm;have f5_:=f3_.symm;clear f1_ f2_ f3_;subst f4_;subst f5_))
     have p615:0≤((rd l1 Zu):Int):=od;have q615:(rd l1 Zu)<(x8_2.length:Int):=od;obtain⟨ad615,e615,hx615_0⟩:=Kd.at_int (Kd.R_reads' HO_8.out).2.2 (rd l1 Zu) p615 q615;cases e615;replace p615:=eq_true p615;replace q615:=eq_true q615;have p19:0≤((rd l1 Zu):Int):=od;have q19:((rd l1 Zu):Int)<((x8_2.length:Int):Int):=od;obtain⟨go19,co19,eo19,gb19,gl19,cl19,HG19⟩:=Kd.R_form HO_8.out (by omega)
     (first|cases eo19|(injection eo19 with ea_ en_ ec_;(first|subst ea_|(injection ea_ with ea_;subst ea_));subst ec_;clear en_))
     have GB19:=Ya gb19;have GG19:=Ya HG19;clear gb19 gl19 HG19;have HMgo19:=Ya (show (P1_ go19∨w.heap.size≤go19) from(HO_8.out.1 _ rfl).1)
     (first|simp only[add_plain] at hx615_0|skip)
     obtain⟨hx19_0,hf19_0⟩:=Kd.R_celln 0 HO_8.out ((rd l1 Zu):Int) p19 q19;replace p19:=eq_true p19;replace q19:=eq_true q19;have HP22:=Kd.R_putn HO_8.out ((rd l1 Zu):Int) (wrap64 ((rd x8_2 (rd l1 Zu)) - Zg));rw[← Ny616.out] at HP22;have HQ22:=Ya HP22;clear HP22;refine start_ (n:=16) (S:=fun w'=>w'.cell? (ad606.add (Zu).toNat)=some (.int .i64 (rd l1 Zu))∧w'.cell? (ad606.add (Zu).toNat)=some (.int .i64 (rd l1 Zu))∧w'.cell? ⟨go19,((rd l1 Zu)).toNat,none⟩=some (.int .i64 (rd x8_2 (rd l1 Zu)))) (ds:=[15]) #[false,false,false,false,false,false,false,false,false,false,false,false,false,false,false,false] (by kernel_rfl) rfl rfl ⟨hx613_0,hx614_0,hx615_0⟩ (fun hHeld=> ?_);refine with_tabW ebbtideref13_taken.tab11 ebbtideref13_taken.bits11 (fun HT_ HW_=> ?_);generalize wr.drew=w20 at HO_1 HO_8 BK605 HK HB GG19 HQ22 hf19_0 hx19_0 hx613_0 hx614_0 hx615_0 hHeld ⊢;refine pu 0 40 (bm 16 1) ?_;refine pu 1 41 (bm 16 3) ?_;refine pu 2 42 (bm 16 7) ?_;refine pu 3 43 (bm 16 15) ?_;refine pu 5 45 (bm 16 47) ?_;refine pu 6 46 (bm 16 111) ?_;refine pu 7 47 (bm 16 239) ?_;refine pu 8 48 (bm 16 495) ?_;refine pu 12 52 (bm 16 4591) ?_;refine ta 4 44 (bm 16 4607) hHeld ?_;refine ta 9 49 (bm 16 5119) hHeld ?_;refine pu 10 50 (bm 16 6143) ?_;refine ta 11 51 (bm 16 8191) hHeld ?_;refine pu 13 53 (bm 16 16383) ?_;refine pu 14 54 (bm 16 32767) ?_;refine last_ (i:=15) (N:=none) #[true,true,true,true,true,true,true,true,true,true,true,true,true,true,true,true] rfl rfl (one_of HT_.out (by kernel_rfl)) (by decide) (fun K hK=> ?_);refine skip_ (w1:= ?_) (by rfl) rfl ?_ ?_
     rotate_left
     ·go_simp
      rfl
     refine hK.out _ _ ?_;clear hK K;refine done_ (done_of HT_.out (by kernel_rfl)) ?_;try go_wp2
     go_roundg k2
     case measure=>have:=HK1.out;have:=HK2.out;omega
     case rel=>exact⟨(y616),(wrap64 (Zu+1)),(by first|rfl|(simp;done)|(simp[*];done)),H',⟨by have:=HK1.out;have:=HK2.out;omega⟩,⟨by(with_reducible repeat(first|apply Yr|apply Yq|apply Yp));exact Kd.R_mono (Kd.R_far (p:=⟨go19,((rd l1 Zu):Int).toNat,none⟩) (Kd.R_mono HO_1.out (fun k_ hk=>(⟨hk,fun e_=>hk.2 (by rw[e_];rfl)⟩:_∧k_≠go19))) (fun _ hk=>hk.2) (.int .i64 (wrap64 ((rd x8_2 (rd l1 Zu)) - Zg)))) (fun _ hk=>⟨hk.1.1,hk.1.2⟩)⟩,⟨kR HQ22⟩,⟨by(with_reducible repeat(first|refine Yl ?_ _|refine Ym ?_|refine Yj ?_ _));refine blk_far ?_ (by have h_:=Kd.R_ne HO_8.out BK605.out (by decide);intro e_;exact h_ (by rw[e_];rfl)) _;(with_reducible repeat(first|refine Yl ?_ _|refine Ym ?_|refine Yj ?_ _));exact BK605.out⟩,⟨by repeat(first|(with_reducible first|exact HK.out|apply Kept.alloc|apply Kept.drewN|apply Kept.drew|refine Kept.setCell ?_ HMgo19.out _|refine Kept.setCell ?_ (.inr GW605.out) _)|exact HK.out)⟩,⟨bl⟩⟩
end P
end Go.Proofs.Ytoedkglggapggaa
