/- What the law's row needs of these texts, taken out of them by wip/tool/mini.py: P32 P37 P39 QNet P58 P33 P41 QFlowA QFlowB QPushLaw QCutLaw QFlowLaw QMaxLaw QCheapLaw QSpanLaw P20 QSetFm QSetWalk QSortNil QSortRow QAt. -/
import Derived.Test.YtoedkglggapggaaMlghifl
import Derived.Test.YtoedkglggapggaaMnlbhhf
import Derived.Test.YtoedkglggapggaaProg
import Derived.RegionTactic
import Derived.ChangeAlike
import Derived.BigRegion
import Derived.LoopTactic
import Derived.WalkKit
import Derived.WalkMore
set_option linter.unusedVariables false
set_option linter.unusedSimpArgs false
open Go.RowKit Go.Proofs.YtoedkglggapggaaW.PrintWords Go.Proofs.YtoedkglggapggaaW.PrintLast Go.Proofs.YtoedkglggapggaaW.PrintMore
namespace Go.Proofs.Ytoedkglggapggaa
namespace P
attribute [local go_sem] max2_int min2_int max_two min_two max_three min_three max_four min_four
def ebbtideref05_Check.l0:Nat→Int→Int→Bool→List (S50)→Option (Int)
 |0,_,_,_,_=>none
 |k+1,x4,x187000,x187001,x187002=>if x4<(x187002.length:Int) then(if 0≤x4 then((ebbtideref05_Arc.f k x187000 ((rd_T50 x187002 x4).f0) ((rd_T50 x187002 x4).f1) ((rd_T50 x187002 x4).f2) ((rd_T50 x187002 x4).f3)).bind fun t189=>(if t189=0 then(ebbtideref05_Check.l0 k (wrap64 (x4+1)) x187000 x187001 x187002) else(some t189))) else(none)) else(some 0)
def ebbtideref05_Check.f (k:Nat) (Zb:Int) (Zc:Bool) (Za:List (S50)):Option (Int):=(ebbtideref05_nodes.f Zb).bind fun t187=>(if t187=0 then(if (Za.length:Int)>200 then(some 2) else(ebbtideref05_Check.l0 k 0 Zb Zc Za)) else(some t187))
def ebbtideref05_Check.T9:Bool × List (List Nat × List Nat):=(true,[([],[]),([0],[0]),([],[]),([2],[2]),([],[]),([3,4],[3,4]),([5],[5]),([1,6],[1,6]),([7,7,0,1,2,3,4,5,6,7],[7])])
def ebbtideref05_Check.B9:List Nat:=[0,1,0,4,0,28,60,127,255]
theorem ebbtideref05_Check.tab9:rtab .any (opsOf Try.f30 9)=ebbtideref05_Check.T9:=by kernel_rfl
theorem ebbtideref05_Check.bits9:waitsOk ebbtideref05_Check.T9.2 ebbtideref05_Check.B9=true:=by kernel_rfl
set_option maxHeartbeats 8000000 in
set_option maxRecDepth 100000 in
theorem ebbtideref05_Check.calls (k:Nat) (Zb:Int) (Zc:Bool) (Ze:Option Addr) (Zd:Nat) (Za:List (S50)) (r:Int) (w:World) (Zp:Kd.C k50 w Ze Za.length Za) (Zq:Za.length≤Zd) (h:ebbtideref05_Check.f k Zb Zc Za=some r):
  Calls Try.prog 30 #[.agg #[.int .i64 Zb, .bool Zc, .slice Ze Za.length Zd]] w fun e w'=>e= .returned (.int .i64 r)∧Below w.heap.size w w':=by
 have hu24:=Try.underlying24;have hu50:=Try.underlying50;have Zh:=Ya Zp;have Zo:=Ya Zq;clear Zp Zq;have HB:=Ya (Yo w.heap.size w);have H:=h;unfold ebbtideref05_Check.f at H;clear h;replace H:=Option.bind_eq_some_iff.mp H;obtain⟨t187,A20,H⟩:=H;try dsimp only at H
 have A2:=Ya A20;clear A20;by_cases c3:t187=0
 rotate_left
 ·rw[Yy c3] at H
  have c3b0:(t187 == 0)=false:=beq_eq_false_iff_ne.mpr c3;have c3b1:(t187 != 0)=true:=bne_iff_ne.mpr c3;obtain rfl:=Option.some.inj H;go_enter Try.func30,Try.ntmps30;go_wp2_with (first|(refine bx 1 24 #[.int .i64 Zb, .bool Zc, .slice Ze Za.length Zd] ?_;intro Vw hg w20 Zf hb;have Xl:=Ya (Zf);have GW186:=Ya (by rw[hg];exact(Yi HB.out):w.heap.size≤Vw);have GE186:=Ya (by rw[hg];exact(Yi HB.out):w.heap.size≤Vw);replace HB:=Ya (Yk HB.out hb);clear hb Zf hg;have hcz21_0:w20.cell? ⟨Vw,0,none⟩=some (.int .i64 Zb):=bc Xl 0;have hcz21_1:w20.cell? ⟨Vw,1,none⟩=some (.bool Zc):=bc Xl 1;have hcz21_2:w20.cell? ⟨Vw,2,none⟩=some (.slice Ze Za.length Zd):=bc Xl 2;have hfz21_0:=Yf Xl.out 0;have hfz21_1:=Yf Xl.out 1;have hfz21_2:=Yf Xl.out 2)|((with_reducible refine gate_callee (f:=62) rfl ?_);refine gl (some 8) Try.func62 #[.int .i64 Zb] ?_;(with_reducible refine(ebbtideref05_nodes.calls Zb t187 _ A2.out).mono ?_);rintro e w' ⟨rfl,⟨nd,rfl⟩⟩;refine⟨_,rfl,?_⟩));go_ret;exact⟨by first|rfl|(simp[errW_none,errW_some]<;>rfl)|(simp[*,errW_none,errW_some]<;>rfl),bl⟩
 rw[Yx c3] at H;have c3b0:(t187 == 0)=true:=beq_iff_eq.mpr c3;have c3b1:(t187 != 0)=false:=bne_eq_false_iff_eq.mpr c3;clear c3;by_cases c4:(Za.length:Int)>200
 ·rw[Yx c4] at H
  have c4b0:decide (200<(Za.length:Int))=true:=Yv c4;have c4b1:decide (200<Za.length)=true:=Yv (by omega);clear c4;obtain rfl:=Option.some.inj H;go_enter Try.func30,Try.ntmps30;go_wp2_with (first|(refine bx 1 24 #[.int .i64 Zb, .bool Zc, .slice Ze Za.length Zd] ?_;intro Vw hg w5 Zf hb;have Xl:=Ya (Zf);have GW186:=Ya (by rw[hg];exact(Yi HB.out):w.heap.size≤Vw);have GE186:=Ya (by rw[hg];exact(Yi HB.out):w.heap.size≤Vw);replace HB:=Ya (Yk HB.out hb);clear hb Zf hg;have hcz6_0:w5.cell? ⟨Vw,0,none⟩=some (.int .i64 Zb):=bc Xl 0;have hcz6_1:w5.cell? ⟨Vw,1,none⟩=some (.bool Zc):=bc Xl 1;have hcz6_2:w5.cell? ⟨Vw,2,none⟩=some (.slice Ze Za.length Zd):=bc Xl 2;have hfz6_0:=Yf Xl.out 0;have hfz6_1:=Yf Xl.out 1;have hfz6_2:=Yf Xl.out 2)|((with_reducible refine gate_callee (f:=62) rfl ?_);refine gl (some 8) Try.func62 #[.int .i64 Zb] ?_;(with_reducible refine(ebbtideref05_nodes.calls Zb t187 _ A2.out).mono ?_);rintro e w' ⟨rfl,⟨nd,rfl⟩⟩;refine⟨_,rfl,?_⟩));go_ret;exact⟨by first|rfl|(simp[errW_none,errW_some]<;>rfl)|(simp[*,errW_none,errW_some]<;>rfl),bl⟩
 rw[Yy c4] at H;have c4b0:decide (200<(Za.length:Int))=false:=Yw c4;have c4b1:decide (200<Za.length)=false:=Yw (by omega);clear c4;have H':=Ya H;clear H;go_enter Try.func30,Try.ntmps30;go_wp2_with (first|(refine bx 1 24 #[.int .i64 Zb, .bool Zc, .slice Ze Za.length Zd] ?_;intro Vw hg w7 Zf hb;have Xl:=Ya (Zf);have GW186:=Ya (by rw[hg];exact(Yi HB.out):w.heap.size≤Vw);have GE186:=Ya (by rw[hg];exact(Yi HB.out):w.heap.size≤Vw);replace HB:=Ya (Yk HB.out hb);clear hb Zf hg;have Jq:w7.cell? ⟨Vw,0,none⟩=some (.int .i64 Zb):=bc Xl 0;have Jr:w7.cell? ⟨Vw,1,none⟩=some (.bool Zc):=bc Xl 1;have hcz8_2:w7.cell? ⟨Vw,2,none⟩=some (.slice Ze Za.length Zd):=bc Xl 2;have Js:=Yf Xl.out 0;have Jt:=Yf Xl.out 1;have hfz8_2:=Yf Xl.out 2)|((with_reducible refine gate_callee (f:=62) rfl ?_);refine gl (some 8) Try.func62 #[.int .i64 Zb] ?_;(with_reducible refine(ebbtideref05_nodes.calls Zb t187 _ A2.out).mono ?_);rintro e w' ⟨rfl,⟨nd,rfl⟩⟩;refine⟨_,rfl,?_⟩));go_loopg [4] k (fun kq v4 w'=> ∃ (Vq:Int),v4= .int .i64 Vq∧Aside0 (ebbtideref05_Check.l0 kq Vq Zb Zc Za=some r)∧Aside0 (kq≤k)∧Aside0 (w'.heap[Vw]? =some (.cells #[.int .i64 Zb, .bool Zc,(.slice Ze Za.length Zd)] 24 (0,0)))∧Aside0 (Below w.heap.size w w'))
 case atStart=>exact⟨(0),(by first|rfl|(simp;done)|(simp[*];done)),H',⟨Nat.le_refl _⟩,⟨bk Xl⟩,⟨bl⟩⟩
 case round=>
  clear H';try clear c3
  try clear c3b0
  try clear c3b1
  try clear c4
  try clear c4b0
  try clear c4b1
  try clear hcz6_0
  try clear hcz6_1
  try clear hcz6_2
  try clear Jq
  try clear Jr
  try clear hcz8_2
  try clear hfz6_0
  try clear hfz6_1
  try clear hfz6_2
  try clear Js
  try clear Jt
  try clear hfz8_2
  obtain⟨Vq,rfl,HA,HK1,Xl,HB⟩:=hrel;cases gk with
  |zero=>exact absurd HA.out (by simp[ebbtideref05_Check.l0])
  |succ k1=>
   have H:=HA.out;clear HA;simp only[ebbtideref05_Check.l0] at H;by_cases c9:Vq<(Za.length:Int)
   rotate_left
   ·rw[Yy c9] at H
    have c9b0:decide (Vq<(Za.length:Int))=false:=Yw c9;clear c9;obtain rfl:=Option.some.inj H;have hcz19_0:wr.cell? ⟨Vw,0,none⟩=some (.int .i64 Zb):=bc Xl 0;have hcz19_1:wr.cell? ⟨Vw,1,none⟩=some (.bool Zc):=bc Xl 1;have hcz19_2:wr.cell? ⟨Vw,2,none⟩=some (.slice Ze Za.length Zd):=bc Xl 2;have hfz19_0:=Yf Xl.out 0;have hfz19_1:=Yf Xl.out 1;have hfz19_2:=Yf Xl.out 2;go_wp2;go_ret;exact⟨by first|rfl|(simp[errW_none,errW_some]<;>rfl)|(simp[*,errW_none,errW_some]<;>rfl),HB.out⟩
   rw[Yx c9] at H;have c9b0:decide (Vq<(Za.length:Int))=true:=Yv c9;clear c9;by_cases c10:0≤Vq
   rotate_left
   ·rw[Yy c10] at H
    exact absurd H (by simp)
   rw[Yx c10] at H;have c10b0:decide (0≤Vq)=true:=Yv c10;clear c10;replace H:=Option.bind_eq_some_iff.mp H;obtain⟨t189,A110,H⟩:=H;try dsimp only at H
   have A11:=Ya A110;clear A110;by_cases c12:t189=0
   rotate_left
   ·rw[Yy c12] at H
    have c12b0:(t189 == 0)=false:=beq_eq_false_iff_ne.mpr c12;have c12b1:(t189 != 0)=true:=bne_iff_ne.mpr c12;obtain rfl:=Option.some.inj H;have hcz16_0:wr.cell? ⟨Vw,0,none⟩=some (.int .i64 Zb):=bc Xl 0;have hcz16_1:wr.cell? ⟨Vw,1,none⟩=some (.bool Zc):=bc Xl 1;have hcz16_2:wr.cell? ⟨Vw,2,none⟩=some (.slice Ze Za.length Zd):=bc Xl 2;have hfz16_0:=Yf Xl.out 0;have hfz16_1:=Yf Xl.out 1;have hfz16_2:=Yf Xl.out 2;try go_wp2
    replace Xl:=Ya (Ym Xl.out);replace HB:=Ya (Yg HB.out);have p188:0≤(Vq:Int):=od;have q188:Vq<(Za.length:Int):=od;obtain⟨ad188,e188,hx188_0,hx188_1,hx188_2,hx188_3⟩:=at_T50 Zh.out Vq p188 q188;have hw188_3:=hx188_3;have hw188_2:=hx188_2;have hw188_1:=hx188_1;have hw188_0:=hx188_0;cases e188;replace hx188_0:=hc HB hx188_0;replace hx188_1:=hc HB hx188_1;replace hx188_2:=hc HB hx188_2;replace hx188_3:=hc HB hx188_3;replace p188:=eq_true p188;replace q188:=eq_true q188;refine start_ (n:=9) (S:=fun w'=>w'.cell? ⟨Vw,0,none⟩=some (.int .i64 Zb)∧w'.cell? ⟨Vw,1,none⟩=some (.bool Zc)∧w'.cell? ⟨Vw,2,none⟩=some (.slice (some ad188) Za.length Zd)∧w'.cell? (ad188.add ((Vq).toNat * 4))=some (.int .i64 ((rd_T50 Za Vq).f0))∧w'.cell? ⟨(ad188.add ((Vq).toNat * 4)).block,(ad188.add ((Vq).toNat * 4)).off+1,none⟩=some (.int .i64 ((rd_T50 Za Vq).f1))∧w'.cell? ⟨(ad188.add ((Vq).toNat * 4)).block,(ad188.add ((Vq).toNat * 4)).off+2,none⟩=some (.int .i64 ((rd_T50 Za Vq).f2))∧w'.cell? ⟨(ad188.add ((Vq).toNat * 4)).block,(ad188.add ((Vq).toNat * 4)).off+3,none⟩=some (.int .i64 ((rd_T50 Za Vq).f3))) (ds:=[]) #[false,false,false,false,false,false,false,false,false] (by kernel_rfl) rfl rfl ⟨(Yc Xl.out 0).trans rfl,(Yc Xl.out 1).trans rfl,(Yc Xl.out 2).trans rfl,((HB.out.cell (Yb w _ hw188_0)).trans hw188_0),((HB.out.cell (Yb w _ hw188_1)).trans hw188_1),((HB.out.cell (Yb w _ hw188_2)).trans hw188_2),((HB.out.cell (Yb w _ hw188_3)).trans hw188_3)⟩ (fun hHeld=> ?_);refine with_tabW ebbtideref05_Check.tab9 ebbtideref05_Check.bits9 (fun HT_ HW_=> ?_);generalize wr.drew=w17 at Xl HB hx188_0 hx188_1 hx188_2 hx188_3 hHeld ⊢;refine pu 0 23 (bm 9 1) ?_;refine pu 2 25 (bm 9 5) ?_;refine pu 4 27 (bm 9 21) ?_;refine ta 1 24 (bm 9 23) hHeld ?_;refine ta 3 26 (bm 9 31) hHeld ?_;refine pu 5 28 (bm 9 63) ?_;refine ta 6 29 (bm 9 127) hHeld ?_;refine on 7 (some 30) (bm 9 255) fun K hK=> ?_
    refine gs Try.func63 #[.int .i64 Zb, .agg #[.int .i64 ((rd_T50 Za Vq).f0), .int .i64 ((rd_T50 Za Vq).f1), .int .i64 ((rd_T50 Za Vq).f2), .int .i64 ((rd_T50 Za Vq).f3)]] ?_
    with_reducible refine(ebbtideref05_Arc.calls k1 Zb ((rd_T50 Za Vq).f0) ((rd_T50 Za Vq).f1) ((rd_T50 Za Vq).f2) ((rd_T50 Za Vq).f3) t189 _ A11.out).mono ?_
    rintro e w18 ⟨rfl,hb⟩;refine⟨_,rfl,?_⟩;replace Xl:=Ya (Yn Xl.out hb);replace HB:=Ya (Yk HB.out hb)
    (try clear hb)
    (try clear hb2)
    (try clear hk)
    (try clear hi)
    refine hK.out _ _ ⟨bc Xl 0,bc Xl 1,bc Xl 2,(hc HB hw188_0),(hc HB hw188_1),(hc HB hw188_2),(hc HB hw188_3)⟩ (fun hHeld=> ?_);clear hK K;refine nm ?_;refine pu 8 5 (bm 9 511) ?_;refine done_ (done_of HT_.out (by kernel_rfl)) ?_;try go_wp2
    go_ret;exact⟨by first|rfl|(simp[errW_none,errW_some]<;>rfl)|(simp[*,errW_none,errW_some]<;>rfl),HB.out⟩
   rw[Yx c12] at H;have c12b0:(t189 == 0)=true:=beq_iff_eq.mpr c12;have c12b1:(t189 != 0)=false:=bne_eq_false_iff_eq.mpr c12;clear c12;have H':=Ya H;clear H;have hcz13_0:wr.cell? ⟨Vw,0,none⟩=some (.int .i64 Zb):=bc Xl 0;have hcz13_1:wr.cell? ⟨Vw,1,none⟩=some (.bool Zc):=bc Xl 1;have hcz13_2:wr.cell? ⟨Vw,2,none⟩=some (.slice Ze Za.length Zd):=bc Xl 2;have hfz13_0:=Yf Xl.out 0;have hfz13_1:=Yf Xl.out 1;have hfz13_2:=Yf Xl.out 2;try go_wp2
   replace Xl:=Ya (Ym Xl.out);replace HB:=Ya (Yg HB.out);have p188:0≤(Vq:Int):=od;have q188:Vq<(Za.length:Int):=od;obtain⟨ad188,e188,hx188_0,hx188_1,hx188_2,hx188_3⟩:=at_T50 Zh.out Vq p188 q188;have hw188_3:=hx188_3;have hw188_2:=hx188_2;have hw188_1:=hx188_1;have hw188_0:=hx188_0;cases e188;replace hx188_0:=hc HB hx188_0;replace hx188_1:=hc HB hx188_1;replace hx188_2:=hc HB hx188_2;replace hx188_3:=hc HB hx188_3;replace p188:=eq_true p188;replace q188:=eq_true q188;refine start_ (n:=9) (S:=fun w'=>w'.cell? ⟨Vw,0,none⟩=some (.int .i64 Zb)∧w'.cell? ⟨Vw,1,none⟩=some (.bool Zc)∧w'.cell? ⟨Vw,2,none⟩=some (.slice (some ad188) Za.length Zd)∧w'.cell? (ad188.add ((Vq).toNat * 4))=some (.int .i64 ((rd_T50 Za Vq).f0))∧w'.cell? ⟨(ad188.add ((Vq).toNat * 4)).block,(ad188.add ((Vq).toNat * 4)).off+1,none⟩=some (.int .i64 ((rd_T50 Za Vq).f1))∧w'.cell? ⟨(ad188.add ((Vq).toNat * 4)).block,(ad188.add ((Vq).toNat * 4)).off+2,none⟩=some (.int .i64 ((rd_T50 Za Vq).f2))∧w'.cell? ⟨(ad188.add ((Vq).toNat * 4)).block,(ad188.add ((Vq).toNat * 4)).off+3,none⟩=some (.int .i64 ((rd_T50 Za Vq).f3))) (ds:=[]) #[false,false,false,false,false,false,false,false,false] (by kernel_rfl) rfl rfl ⟨(Yc Xl.out 0).trans rfl,(Yc Xl.out 1).trans rfl,(Yc Xl.out 2).trans rfl,((HB.out.cell (Yb w _ hw188_0)).trans hw188_0),((HB.out.cell (Yb w _ hw188_1)).trans hw188_1),((HB.out.cell (Yb w _ hw188_2)).trans hw188_2),((HB.out.cell (Yb w _ hw188_3)).trans hw188_3)⟩ (fun hHeld=> ?_);refine with_tabW ebbtideref05_Check.tab9 ebbtideref05_Check.bits9 (fun HT_ HW_=> ?_);generalize wr.drew=w14 at Xl HB hx188_0 hx188_1 hx188_2 hx188_3 hHeld ⊢;refine pu 0 23 (bm 9 1) ?_;refine pu 2 25 (bm 9 5) ?_;refine pu 4 27 (bm 9 21) ?_;refine ta 1 24 (bm 9 23) hHeld ?_;refine ta 3 26 (bm 9 31) hHeld ?_;refine pu 5 28 (bm 9 63) ?_;refine ta 6 29 (bm 9 127) hHeld ?_;refine on 7 (some 30) (bm 9 255) fun K hK=> ?_
   refine gs Try.func63 #[.int .i64 Zb, .agg #[.int .i64 ((rd_T50 Za Vq).f0), .int .i64 ((rd_T50 Za Vq).f1), .int .i64 ((rd_T50 Za Vq).f2), .int .i64 ((rd_T50 Za Vq).f3)]] ?_
   with_reducible refine(ebbtideref05_Arc.calls k1 Zb ((rd_T50 Za Vq).f0) ((rd_T50 Za Vq).f1) ((rd_T50 Za Vq).f2) ((rd_T50 Za Vq).f3) t189 _ A11.out).mono ?_
   rintro e w15 ⟨rfl,hb⟩;refine⟨_,rfl,?_⟩;replace Xl:=Ya (Yn Xl.out hb);replace HB:=Ya (Yk HB.out hb)
   (try clear hb)
   (try clear hb2)
   (try clear hk)
   (try clear hi)
   refine hK.out _ _ ⟨bc Xl 0,bc Xl 1,bc Xl 2,(hc HB hw188_0),(hc HB hw188_1),(hc HB hw188_2),(hc HB hw188_3)⟩ (fun hHeld=> ?_);clear hK K;refine nm ?_;refine pu 8 5 (bm 9 511) ?_;refine done_ (done_of HT_.out (by kernel_rfl)) ?_;try go_wp2
   go_roundg k1
   case measure=>have:=HK1.out;omega
   case rel=>exact⟨(wrap64 (Vq+1)),(by first|rfl|(simp;done)|(simp[*];done)),H',⟨by have:=HK1.out;omega⟩,⟨Xl.out⟩,⟨HB.out⟩⟩
end P
namespace P
attribute [local go_sem] max2_int min2_int max_two min_two max_three min_three max_four min_four
def ebbtideref07_Within.l0:Nat→List Int→Int→Int→Bool→List (S50)→Option (Bool)
 |0,_,_,_,_,_=>none
 |k+1,x1,x5,x199000,x199001,x199002=>if x5<(x1.length:Int) then(if 0≤x5 then(if (rd x1 x5)<0 then(some false) else(if x5<(x199002.length:Int) then(if (rd x1 x5)>((rd_T50 x199002 x5).f2) then(some false) else(ebbtideref07_Within.l0 k x1 (wrap64 (x5+1)) x199000 x199001 x199002)) else(none))) else(none)) else(some true)
def ebbtideref07_Within.f (k:Nat) (Zb:Int) (Zc:Bool) (Za:List (S50)) (l1:List Int):Option (Bool):=if (l1.length:Int)=(Za.length:Int) then(ebbtideref07_Within.l0 k l1 0 Zb Zc Za) else(some false)
set_option maxHeartbeats 8000000 in
set_option maxRecDepth 100000 in
theorem ebbtideref07_Within.calls (k:Nat) (Zb:Int) (Zc:Bool) (Ze:Option Addr) (Zd:Nat) (Za:List (S50)) (A1:Option Addr) (c1:Nat) (l1:List Int) (r:Bool) (w:World) (Zp:Kd.C k50 w Ze Za.length Za) (Zq:Za.length≤Zd) (hr1:Kd.C (Kd.int .i64) w A1 l1.length l1) (hc1:l1.length≤c1) (h:ebbtideref07_Within.f k Zb Zc Za l1=some r):
  Calls Try.prog 72 #[.agg #[.int .i64 Zb, .bool Zc, .slice Ze Za.length Zd], .slice A1 l1.length c1] w fun e w'=>e= .returned (.bool r)∧Below w.heap.size w w':=by
 have hu24:=Try.underlying24;have Zh:=Ya Zp;have Zo:=Ya Zq;clear Zp Zq;have HR1:=Ya hr1;have HC1:=Ya hc1;clear hr1 hc1;have HB:=Ya (Yo w.heap.size w);have H:=h;unfold ebbtideref07_Within.f at H;clear h;by_cases c3:(l1.length:Int)=(Za.length:Int)
 rotate_left
 ·rw[Yy c3] at H
  have c3b0:((l1.length:Int) == (Za.length:Int))=false:=beq_eq_false_iff_ne.mpr c3;have c3b1:((l1.length:Int) != (Za.length:Int))=true:=bne_iff_ne.mpr c3;have c3b2:(l1.length == Za.length)=false:=by first|simpa using c3|(simp at c3 ⊢;omega)
  obtain rfl:=Option.some.inj H;go_enter Try.func72,Try.ntmps72;go_wp2_with (first|(refine bx 2 24 #[.int .i64 Zb, .bool Zc, .slice Ze Za.length Zd] ?_;intro Wy hg w13 Zf hb;have Xs:=Ya (Zf);have GW198:=Ya (by rw[hg];exact(Yi HB.out):w.heap.size≤Wy);have GE198:=Ya (by rw[hg];exact(Yi HB.out):w.heap.size≤Wy);replace HB:=Ya (Yk HB.out hb);clear hb Zf hg;have Vy:w13.cell? ⟨Wy,0,none⟩=some (.int .i64 Zb):=bc Xs 0;have Ud:w13.cell? ⟨Wy,1,none⟩=some (.bool Zc):=bc Xs 1;have Jo:w13.cell? ⟨Wy,2,none⟩=some (.slice Ze Za.length Zd):=bc Xs 2;have Ue:=Yf Xs.out 0;have Uf:=Yf Xs.out 1;have Jp:=Yf Xs.out 2));repeat(go_quiet (first|(refine bx 2 24 #[.int .i64 Zb, .bool Zc, .slice Ze Za.length Zd] ?_;intro Wy hg w13 Zf hb;have Xs:=Ya (Zf);have GW198:=Ya (by rw[hg];exact(Yi HB.out):w.heap.size≤Wy);have GE198:=Ya (by rw[hg];exact(Yi HB.out):w.heap.size≤Wy);replace HB:=Ya (Yk HB.out hb);clear hb Zf hg;have Vy:w13.cell? ⟨Wy,0,none⟩=some (.int .i64 Zb):=bc Xs 0;have Ud:w13.cell? ⟨Wy,1,none⟩=some (.bool Zc):=bc Xs 1;have Jo:w13.cell? ⟨Wy,2,none⟩=some (.slice Ze Za.length Zd):=bc Xs 2;have Ue:=Yf Xs.out 0;have Uf:=Yf Xs.out 1;have Jp:=Yf Xs.out 2));try go_wp2_with (first|(refine bx 2 24 #[.int .i64 Zb, .bool Zc, .slice Ze Za.length Zd] ?_;intro Wy hg w13 Zf hb;have Xs:=Ya (Zf);have GW198:=Ya (by rw[hg];exact(Yi HB.out):w.heap.size≤Wy);have GE198:=Ya (by rw[hg];exact(Yi HB.out):w.heap.size≤Wy);replace HB:=Ya (Yk HB.out hb);clear hb Zf hg;have Vy:w13.cell? ⟨Wy,0,none⟩=some (.int .i64 Zb):=bc Xs 0;have Ud:w13.cell? ⟨Wy,1,none⟩=some (.bool Zc):=bc Xs 1;have Jo:w13.cell? ⟨Wy,2,none⟩=some (.slice Ze Za.length Zd):=bc Xs 2;have Ue:=Yf Xs.out 0;have Uf:=Yf Xs.out 1;have Jp:=Yf Xs.out 2)))
  go_ret;exact⟨by first|rfl|(simp[errW_none,errW_some]<;>rfl)|(simp[*,errW_none,errW_some]<;>rfl),HB.out⟩
 rw[Yx c3] at H;have c3b0:((l1.length:Int) == (Za.length:Int))=true:=beq_iff_eq.mpr c3;have c3b1:((l1.length:Int) != (Za.length:Int))=false:=bne_eq_false_iff_eq.mpr c3;have c3b2:(l1.length == Za.length)=true:=by first|simpa using c3|(simp at c3 ⊢;omega)
 clear c3;have H':=Ya H;clear H;go_enter Try.func72,Try.ntmps72;go_wp2_with (first|(refine bx 2 24 #[.int .i64 Zb, .bool Zc, .slice Ze Za.length Zd] ?_;intro Wy hg w4 Zf hb;have Xs:=Ya (Zf);have GW198:=Ya (by rw[hg];exact(Yi HB.out):w.heap.size≤Wy);have GE198:=Ya (by rw[hg];exact(Yi HB.out):w.heap.size≤Wy);replace HB:=Ya (Yk HB.out hb);clear hb Zf hg;have hcz5_0:w4.cell? ⟨Wy,0,none⟩=some (.int .i64 Zb):=bc Xs 0;have hcz5_1:w4.cell? ⟨Wy,1,none⟩=some (.bool Zc):=bc Xs 1;have hcz5_2:w4.cell? ⟨Wy,2,none⟩=some (.slice Ze Za.length Zd):=bc Xs 2;have hfz5_0:=Yf Xs.out 0;have hfz5_1:=Yf Xs.out 1;have hfz5_2:=Yf Xs.out 2));repeat(go_quiet (first|(refine bx 2 24 #[.int .i64 Zb, .bool Zc, .slice Ze Za.length Zd] ?_;intro Wy hg w4 Zf hb;have Xs:=Ya (Zf);have GW198:=Ya (by rw[hg];exact(Yi HB.out):w.heap.size≤Wy);have GE198:=Ya (by rw[hg];exact(Yi HB.out):w.heap.size≤Wy);replace HB:=Ya (Yk HB.out hb);clear hb Zf hg;have hcz5_0:w4.cell? ⟨Wy,0,none⟩=some (.int .i64 Zb):=bc Xs 0;have hcz5_1:w4.cell? ⟨Wy,1,none⟩=some (.bool Zc):=bc Xs 1;have hcz5_2:w4.cell? ⟨Wy,2,none⟩=some (.slice Ze Za.length Zd):=bc Xs 2;have hfz5_0:=Yf Xs.out 0;have hfz5_1:=Yf Xs.out 1;have hfz5_2:=Yf Xs.out 2));try go_wp2_with (first|(refine bx 2 24 #[.int .i64 Zb, .bool Zc, .slice Ze Za.length Zd] ?_;intro Wy hg w4 Zf hb;have Xs:=Ya (Zf);have GW198:=Ya (by rw[hg];exact(Yi HB.out):w.heap.size≤Wy);have GE198:=Ya (by rw[hg];exact(Yi HB.out):w.heap.size≤Wy);replace HB:=Ya (Yk HB.out hb);clear hb Zf hg;have hcz5_0:w4.cell? ⟨Wy,0,none⟩=some (.int .i64 Zb):=bc Xs 0;have hcz5_1:w4.cell? ⟨Wy,1,none⟩=some (.bool Zc):=bc Xs 1;have hcz5_2:w4.cell? ⟨Wy,2,none⟩=some (.slice Ze Za.length Zd):=bc Xs 2;have hfz5_0:=Yf Xs.out 0;have hfz5_1:=Yf Xs.out 1;have hfz5_2:=Yf Xs.out 2)))
 go_loopg [5] k (fun kq v5 w'=> ∃ (Xr:Int),v5= .int .i64 Xr∧Aside0 (ebbtideref07_Within.l0 kq l1 Xr Zb Zc Za=some r)∧Aside0 (kq≤k)∧Aside0 (w'.heap[Wy]? =some (.cells #[.int .i64 Zb, .bool Zc,(.slice Ze Za.length Zd)] 24 (0,0)))∧Aside0 (Below w.heap.size w w'))
 case atStart=>exact⟨(0),(by first|rfl|(simp;done)|(simp[*];done)),H',⟨Nat.le_refl _⟩,⟨Xs.out⟩,⟨HB.out⟩⟩
 case round=>
  clear H';try clear c1
  try clear c3
  try clear c3b0
  try clear c3b1
  try clear c3b2
  try clear hcz5_0
  try clear hcz5_1
  try clear hcz5_2
  try clear hfz5_0
  try clear hfz5_1
  try clear hfz5_2
  obtain⟨Xr,rfl,HA,HK1,Xs,HB⟩:=hrel;cases gk with
  |zero=>exact absurd HA.out (by simp[ebbtideref07_Within.l0])
  |succ k1=>
   have H:=HA.out;clear HA;simp only[ebbtideref07_Within.l0] at H;by_cases c6:Xr<(l1.length:Int)
   rotate_left
   ·rw[Yy c6] at H
    have c6b0:decide (Xr<(l1.length:Int))=false:=Yw c6;clear c6;obtain rfl:=Option.some.inj H;go_wp2;repeat(go_quiet (fail);try go_wp2)
    go_ret;exact⟨by first|rfl|(simp[errW_none,errW_some]<;>rfl)|(simp[*,errW_none,errW_some]<;>rfl),HB.out⟩
   rw[Yx c6] at H;have c6b0:decide (Xr<(l1.length:Int))=true:=Yv c6;clear c6;by_cases c7:0≤Xr
   rotate_left
   ·rw[Yy c7] at H
    exact absurd H (by simp)
   rw[Yx c7] at H;have c7b0:decide (0≤Xr)=true:=Yv c7;clear c7;by_cases c8:(rd l1 Xr)<0
   ·rw[Yx c8] at H
    have c8b0:decide ((rd l1 Xr)<0)=true:=Yv c8;clear c8;obtain rfl:=Option.some.inj H;have p199:0≤(Xr:Int):=od;have q199:Xr<(l1.length:Int):=od;obtain⟨ad199,e199,hx199_0⟩:=Kd.at_int HR1.out Xr p199 q199;cases e199;replace hx199_0:=hc HB hx199_0;replace p199:=eq_true p199;replace q199:=eq_true q199;go_wp2;repeat(go_quiet (fail);try go_wp2)
    go_ret;exact⟨by first|rfl|(simp[errW_none,errW_some]<;>rfl)|(simp[*,errW_none,errW_some]<;>rfl),bl⟩
   rw[Yy c8] at H;have c8b0:decide ((rd l1 Xr)<0)=false:=Yw c8;clear c8;by_cases c9:Xr<(Za.length:Int)
   rotate_left
   ·rw[Yy c9] at H
    exact absurd H (by simp)
   rw[Yx c9] at H;have c9b0:decide (Xr<(Za.length:Int))=true:=Yv c9;clear c9;by_cases c10:(rd l1 Xr)>((rd_T50 Za Xr).f2)
   ·rw[Yx c10] at H
    have c10b0:decide (((rd_T50 Za Xr).f2)<(rd l1 Xr))=true:=Yv c10;clear c10;obtain rfl:=Option.some.inj H;have p199:0≤(Xr:Int):=od;have q199:Xr<(l1.length:Int):=od;obtain⟨ad199,e199,hx199_0⟩:=Kd.at_int HR1.out Xr p199 q199;cases e199;replace hx199_0:=hc HB hx199_0;replace p199:=eq_true p199;replace q199:=eq_true q199;have p200:0≤(Xr:Int):=od;have q200:Xr<(l1.length:Int):=od;obtain⟨ad200,e200,hx200_0⟩:=Kd.at_int HR1.out Xr p200 q200;obtain rfl:ad199=ad200:=(by injection e200);replace hx200_0:=hc HB hx200_0;replace p200:=eq_true p200;replace q200:=eq_true q200;have hcz11_0:wr.cell? ⟨Wy,0,none⟩=some (.int .i64 Zb):=bc Xs 0;have hcz11_1:wr.cell? ⟨Wy,1,none⟩=some (.bool Zc):=bc Xs 1;have hcz11_2:wr.cell? ⟨Wy,2,none⟩=some (.slice Ze Za.length Zd):=bc Xs 2;have hfz11_0:=Yf Xs.out 0;have hfz11_1:=Yf Xs.out 1;have hfz11_2:=Yf Xs.out 2;have p201:0≤(Xr:Int):=od;have q201:Xr<(Za.length:Int):=od;obtain⟨ad201,e201,hx201_0,hx201_1,hx201_2,hx201_3⟩:=at_T50 Zh.out Xr p201 q201;cases e201;replace hx201_0:=hc HB hx201_0;replace hx201_1:=hc HB hx201_1;replace hx201_2:=hc HB hx201_2;replace hx201_3:=hc HB hx201_3;replace p201:=eq_true p201;replace q201:=eq_true q201;go_wp2;repeat(go_quiet (fail);try go_wp2)
    go_ret;exact⟨by first|rfl|(simp[errW_none,errW_some]<;>rfl)|(simp[*,errW_none,errW_some]<;>rfl),bl⟩
   rw[Yy c10] at H;have c10b0:decide (((rd_T50 Za Xr).f2)<(rd l1 Xr))=false:=Yw c10;clear c10;have H':=Ya H;clear H;have p199:0≤(Xr:Int):=od;have q199:Xr<(l1.length:Int):=od;obtain⟨ad199,e199,hx199_0⟩:=Kd.at_int HR1.out Xr p199 q199;cases e199;replace hx199_0:=hc HB hx199_0;replace p199:=eq_true p199;replace q199:=eq_true q199;have p200:0≤(Xr:Int):=od;have q200:Xr<(l1.length:Int):=od;obtain⟨ad200,e200,hx200_0⟩:=Kd.at_int HR1.out Xr p200 q200;obtain rfl:ad199=ad200:=(by injection e200);replace hx200_0:=hc HB hx200_0;replace p200:=eq_true p200;replace q200:=eq_true q200;have hcz12_0:wr.cell? ⟨Wy,0,none⟩=some (.int .i64 Zb):=bc Xs 0;have hcz12_1:wr.cell? ⟨Wy,1,none⟩=some (.bool Zc):=bc Xs 1;have hcz12_2:wr.cell? ⟨Wy,2,none⟩=some (.slice Ze Za.length Zd):=bc Xs 2;have hfz12_0:=Yf Xs.out 0;have hfz12_1:=Yf Xs.out 1;have hfz12_2:=Yf Xs.out 2;have p201:0≤(Xr:Int):=od;have q201:Xr<(Za.length:Int):=od;obtain⟨ad201,e201,hx201_0,hx201_1,hx201_2,hx201_3⟩:=at_T50 Zh.out Xr p201 q201;cases e201;replace hx201_0:=hc HB hx201_0;replace hx201_1:=hc HB hx201_1;replace hx201_2:=hc HB hx201_2;replace hx201_3:=hc HB hx201_3;replace p201:=eq_true p201;replace q201:=eq_true q201;go_wp2;repeat(go_quiet (fail);try go_wp2)
   go_roundg k1
   case measure=>have:=HK1.out;omega
   case rel=>exact⟨(wrap64 (Xr+1)),(by first|rfl|(simp;done)|(simp[*];done)),H',⟨by have:=HK1.out;omega⟩,⟨bk Xs⟩,⟨bl⟩⟩
end P
namespace P
attribute [local go_sem] max2_int min2_int max_two min_two max_three min_three max_four min_four
def ebbtideref07_Balance.l0:Nat→List Int→List Int→Int→Int→Bool→List (S50)→Option (List Int × Int)
 |0,_,_,_,_,_,_=>none
 |k+1,x1,x7,x8,x210000,x210001,x210002=>if x8<x210000 then((ebbtideref07_Leaves.f k x210000 x210001 x210002 x1 x8).bind fun t212=>(if x7.length<17592186044416 then(ebbtideref07_Balance.l0 k x1 (x7 ++ [t212]) (wrap64 (x8+1)) x210000 x210001 x210002) else(none))) else(some (x7,0))
def ebbtideref07_Balance.f (k:Nat) (Zb:Int) (Zc:Bool) (Za:List (S50)) (l1:List Int):Option (List Int × Int):=(ebbtideref05_Check.f k Zb Zc Za).bind fun t210=>(if t210=0 then((ebbtideref07_Within.f k Zb Zc Za l1).bind fun t211=>(if t211=true then(ebbtideref07_Balance.l0 k l1 ([]:List Int) 0 Zb Zc Za) else(some (([]:List Int),71)))) else(some (([]:List Int),t210)))
set_option maxHeartbeats 8000000 in
set_option maxRecDepth 100000 in
theorem ebbtideref07_Balance.calls (k:Nat) (Zb:Int) (Zc:Bool) (Ze:Option Addr) (Zd:Nat) (Za:List (S50)) (A1:Option Addr) (c1:Nat) (l1:List Int) (r1:List Int) (r2:Int) (w:World) (Zp:Kd.C k50 w Ze Za.length Za) (Zq:Za.length≤Zd) (hr1:Kd.C (Kd.int .i64) w A1 l1.length l1) (hc1:l1.length≤c1) (h:ebbtideref07_Balance.f k Zb Zc Za l1=some (r1,r2)):
  Calls Try.prog 51 #[.agg #[.int .i64 Zb, .bool Zc, .slice Ze Za.length Zd], .slice A1 l1.length c1] w fun e w'=> ∃ v0_:Value,e= .returned (.tuple #[v0_, .int .i64 r2])∧Kd.R (Kd.int .i64) 3 w' w.heap.size (fun _=>True) v0_ r1∧Below w.heap.size w w':=by
 have hu24:=Try.underlying24;have Zh:=Ya Zp;have Zo:=Ya Zq;clear Zp Zq;have HR1:=Ya hr1;have HC1:=Ya hc1;clear hr1 hc1;have HB:=Ya (Yo w.heap.size w);have H:=h;unfold ebbtideref07_Balance.f at H;clear h;replace H:=Option.bind_eq_some_iff.mp H;obtain⟨t210,A30,H⟩:=H;try dsimp only at H
 have A3:=Ya A30;clear A30;by_cases c4:t210=0
 rotate_left
 ·rw[Yy c4] at H
  have c4b0:(t210 == 0)=false:=beq_eq_false_iff_ne.mpr c4;have c4b1:(t210 != 0)=true:=bne_iff_ne.mpr c4;simp only[Option.some.injEq,Prod.mk.injEq] at H;obtain⟨rfl,rfl⟩:=H;go_enter Try.func51,Try.ntmps51;go_wp2_with (first|(refine bx 2 24 #[.int .i64 Zb, .bool Zc, .slice Ze Za.length Zd] ?_;intro Up hg w24 Zf hb;have Xo:=Ya (Zf);have GW209:=Ya (by rw[hg];exact(Yi HB.out):w.heap.size≤Up);have GE209:=Ya (by rw[hg];exact(Yi HB.out):w.heap.size≤Up);replace HB:=Ya (Yk HB.out hb);clear hb Zf hg;have hcz25_0:w24.cell? ⟨Up,0,none⟩=some (.int .i64 Zb):=bc Xo 0;have hcz25_1:w24.cell? ⟨Up,1,none⟩=some (.bool Zc):=bc Xo 1;have hcz25_2:w24.cell? ⟨Up,2,none⟩=some (.slice Ze Za.length Zd):=bc Xo 2;have hfz25_0:=Yf Xo.out 0;have hfz25_1:=Yf Xo.out 1;have hfz25_2:=Yf Xo.out 2)|((with_reducible refine gate_callee (f:=30) rfl ?_);refine gl (some 10) Try.func30 #[.agg #[.int .i64 Zb, .bool Zc, .slice Ze Za.length Zd]] ?_;(with_reducible refine(ebbtideref05_Check.calls k Zb Zc _ _ Za t210 _ ?side1 ?side2 A3.out).mono ?_);(case side1=>exact kC (Yt Zh.out HB.out));(case side2=>exact Zo.out);rintro e w26 ⟨rfl,hb⟩;refine⟨_,rfl,?_⟩;replace Xo:=Ya (Yn Xo.out hb);replace HB:=Ya (Yk HB.out hb);(try clear hb)));go_ret2;exact⟨_,by first|rfl|(simp[errW_none,errW_some]<;>rfl)|(simp[*,errW_none,errW_some]<;>rfl),by first|exact Kd.R_nil _ _ _ _ _|exact Kd.N_nil _ _ _ _ _|exact Kd.V_nil _ _ _ _ _|exact Kd.Q_nil _ _ _ _ _|exact Kd.S_nil _ _ _ _ _,HB.out⟩
 rw[Yx c4] at H;have c4b0:(t210 == 0)=true:=beq_iff_eq.mpr c4;have c4b1:(t210 != 0)=false:=bne_eq_false_iff_eq.mpr c4;clear c4;replace H:=Option.bind_eq_some_iff.mp H;obtain⟨t211,A50,H⟩:=H;try dsimp only at H
 have A5:=Ya A50;clear A50;by_cases c6:t211=true
 rotate_left
 ·replace c6:=Bool.eq_false_iff.mpr c6
  subst c6;rw[Yy (show ¬ (false=true) by decide)] at H;simp only[Option.some.injEq,Prod.mk.injEq] at H;obtain⟨rfl,rfl⟩:=H;go_enter Try.func51,Try.ntmps51;go_wp2_with (first|(refine bx 2 24 #[.int .i64 Zb, .bool Zc, .slice Ze Za.length Zd] ?_;intro Up hg w19 Zf hb;have Xo:=Ya (Zf);have GW209:=Ya (by rw[hg];exact(Yi HB.out):w.heap.size≤Up);have GE209:=Ya (by rw[hg];exact(Yi HB.out):w.heap.size≤Up);replace HB:=Ya (Yk HB.out hb);clear hb Zf hg;have hcz20_0:w19.cell? ⟨Up,0,none⟩=some (.int .i64 Zb):=bc Xo 0;have hcz20_1:w19.cell? ⟨Up,1,none⟩=some (.bool Zc):=bc Xo 1;have hcz20_2:w19.cell? ⟨Up,2,none⟩=some (.slice Ze Za.length Zd):=bc Xo 2;have hfz20_0:=Yf Xo.out 0;have hfz20_1:=Yf Xo.out 1;have hfz20_2:=Yf Xo.out 2)|((with_reducible refine gate_callee (f:=30) rfl ?_);refine gl (some 10) Try.func30 #[.agg #[.int .i64 Zb, .bool Zc, .slice Ze Za.length Zd]] ?_;(with_reducible refine(ebbtideref05_Check.calls k Zb Zc _ _ Za t210 _ ?side1 ?side2 A3.out).mono ?_);(case side1=>exact kC (Yt Zh.out HB.out));(case side2=>exact Zo.out);rintro e w21 ⟨rfl,hb⟩;refine⟨_,rfl,?_⟩;replace Xo:=Ya (Yn Xo.out hb);replace HB:=Ya (Yk HB.out hb);(try clear hb);have hcz22_0:w21.cell? ⟨Up,0,none⟩=some (.int .i64 Zb):=bc Xo 0;have hcz22_1:w21.cell? ⟨Up,1,none⟩=some (.bool Zc):=bc Xo 1;have hcz22_2:w21.cell? ⟨Up,2,none⟩=some (.slice Ze Za.length Zd):=bc Xo 2;have hfz22_0:=Yf Xo.out 0;have hfz22_1:=Yf Xo.out 1;have hfz22_2:=Yf Xo.out 2)|((with_reducible refine gate_callee (f:=72) rfl ?_);refine gl (some 16) Try.func72 #[.agg #[.int .i64 Zb, .bool Zc, .slice Ze Za.length Zd], .slice A1 l1.length c1] ?_;(with_reducible refine(ebbtideref07_Within.calls k Zb Zc _ _ Za _ _ l1 false _ ?side1 ?side2 ?side3 ?side4 A5.out).mono ?_);(case side1=>exact kC (Yt Zh.out HB.out));(case side2=>exact Zo.out);(case side3=>exact kC (Yt HR1.out HB.out));(case side4=>exact HC1.out);rintro e w23 ⟨rfl,hb⟩;refine⟨_,rfl,?_⟩;replace Xo:=Ya (Yn Xo.out hb);replace HB:=Ya (Yk HB.out hb);(try clear hb);(try clear hb2);(try clear hk);(try clear hi)));go_ret2;exact⟨_,by first|rfl|(simp[errW_none,errW_some]<;>rfl)|(simp[*,errW_none,errW_some]<;>rfl),by first|exact Kd.R_nil _ _ _ _ _|exact Kd.N_nil _ _ _ _ _|exact Kd.V_nil _ _ _ _ _|exact Kd.Q_nil _ _ _ _ _|exact Kd.S_nil _ _ _ _ _,HB.out⟩
 subst c6;first|rw[Yx rfl] at H|rw[Yx trivial] at H
 have H':=Ya H;clear H;go_enter Try.func51,Try.ntmps51;go_wp2_with (first|(refine bx 2 24 #[.int .i64 Zb, .bool Zc, .slice Ze Za.length Zd] ?_;intro Up hg w7 Zf hb;have Xo:=Ya (Zf);have GW209:=Ya (by rw[hg];exact(Yi HB.out):w.heap.size≤Up);have GE209:=Ya (by rw[hg];exact(Yi HB.out):w.heap.size≤Up);replace HB:=Ya (Yk HB.out hb);clear hb Zf hg;have Jq:w7.cell? ⟨Up,0,none⟩=some (.int .i64 Zb):=bc Xo 0;have Jr:w7.cell? ⟨Up,1,none⟩=some (.bool Zc):=bc Xo 1;have hcz8_2:w7.cell? ⟨Up,2,none⟩=some (.slice Ze Za.length Zd):=bc Xo 2;have Js:=Yf Xo.out 0;have Jt:=Yf Xo.out 1;have hfz8_2:=Yf Xo.out 2)|((with_reducible refine gate_callee (f:=30) rfl ?_);refine gl (some 10) Try.func30 #[.agg #[.int .i64 Zb, .bool Zc, .slice Ze Za.length Zd]] ?_;(with_reducible refine(ebbtideref05_Check.calls k Zb Zc _ _ Za t210 _ ?side1 ?side2 A3.out).mono ?_);(case side1=>exact kC (Yt Zh.out HB.out));(case side2=>exact Zo.out);rintro e w9 ⟨rfl,hb⟩;refine⟨_,rfl,?_⟩;replace Xo:=Ya (Yn Xo.out hb);replace HB:=Ya (Yk HB.out hb);(try clear hb);have Wu:w9.cell? ⟨Up,0,none⟩=some (.int .i64 Zb):=bc Xo 0;have Wv:w9.cell? ⟨Up,1,none⟩=some (.bool Zc):=bc Xo 1;have Vl:w9.cell? ⟨Up,2,none⟩=some (.slice Ze Za.length Zd):=bc Xo 2;have Ww:=Yf Xo.out 0;have Wx:=Yf Xo.out 1;have Vm:=Yf Xo.out 2)|((with_reducible refine gate_callee (f:=72) rfl ?_);refine gl (some 16) Try.func72 #[.agg #[.int .i64 Zb, .bool Zc, .slice Ze Za.length Zd], .slice A1 l1.length c1] ?_;(with_reducible refine(ebbtideref07_Within.calls k Zb Zc _ _ Za _ _ l1 true _ ?side1 ?side2 ?side3 ?side4 A5.out).mono ?_);(case side1=>exact kC (Yt Zh.out HB.out));(case side2=>exact Zo.out);(case side3=>exact kC (Yt HR1.out HB.out));(case side4=>exact HC1.out);rintro e w11 ⟨rfl,hb⟩;refine⟨_,rfl,?_⟩;replace Xo:=Ya (Yn Xo.out hb);replace HB:=Ya (Yk HB.out hb);(try clear hb);(try clear hb2);(try clear hk);(try clear hi)));go_loopg [7,8] k (fun kq v7 v8 w'=> ∃ (Xu:List Int) (Zn:Int),v8= .int .i64 Zn∧Aside0 (ebbtideref07_Balance.l0 kq l1 Xu Zn Zb Zc Za=some (r1,r2))∧Aside0 (kq≤k)∧Aside0 (Kd.R (Kd.int .i64) 3 w' w.heap.size (fun _=>True) v7 Xu)∧Aside0 (w'.heap[Up]? =some (.cells #[.int .i64 Zb, .bool Zc,(.slice Ze Za.length Zd)] 24 (0,0)))∧Aside0 (Below w.heap.size w w'))
 case atStart=>exact⟨(([]:List Int)),(0),(by first|rfl|(simp;done)|(simp[*];done)),H',⟨Nat.le_refl _⟩,⟨by first|exact Kd.R_nil _ _ _ _ _|exact Kd.N_nil _ _ _ _ _|exact Kd.V_nil _ _ _ _ _|exact Kd.Q_nil _ _ _ _ _|exact Kd.S_nil _ _ _ _ _⟩,⟨Xo.out⟩,⟨HB.out⟩⟩
 case round=>
  clear H';try clear c1
  try clear c4
  try clear c4b0
  try clear c4b1
  try clear c6
  try clear Wu
  try clear Wv
  try clear Vl
  try clear Jq
  try clear Jr
  try clear hcz8_2
  try clear Ww
  try clear Wx
  try clear Vm
  try clear Js
  try clear Jt
  try clear hfz8_2
  obtain⟨Xu,Zn,rfl,HA,HK1,HO_7,Xo,HB⟩:=hrel;cases gk with
  |zero=>exact absurd HA.out (by simp[ebbtideref07_Balance.l0])
  |succ k1=>
   have H:=HA.out;clear HA;simp only[ebbtideref07_Balance.l0] at H;by_cases c12:Zn<Zb
   rotate_left
   ·rw[Yy c12] at H
    have c12b0:decide (Zn<Zb)=false:=Yw c12;clear c12;simp only[Option.some.injEq,Prod.mk.injEq] at H;obtain⟨rfl,rfl⟩:=H;have hcz18_0:wr.cell? ⟨Up,0,none⟩=some (.int .i64 Zb):=bc Xo 0;have hcz18_1:wr.cell? ⟨Up,1,none⟩=some (.bool Zc):=bc Xo 1;have hcz18_2:wr.cell? ⟨Up,2,none⟩=some (.slice Ze Za.length Zd):=bc Xo 2;have hfz18_0:=Yf Xo.out 0;have hfz18_1:=Yf Xo.out 1;have hfz18_2:=Yf Xo.out 2;go_wp2;go_ret2;exact⟨_,by first|rfl|(simp[errW_none,errW_some]<;>rfl)|(simp[*,errW_none,errW_some]<;>rfl),by(with_reducible repeat(first|apply Yr|apply Yq|apply Yp));exact HO_7.out,HB.out⟩
   rw[Yx c12] at H;have c12b0:decide (Zn<Zb)=true:=Yv c12;clear c12;replace H:=Option.bind_eq_some_iff.mp H;obtain⟨t212,A130,H⟩:=H;try dsimp only at H
   have A13:=Ya A130;clear A130;by_cases c14:Xu.length<17592186044416
   rotate_left
   ·rw[Yy c14] at H
    exact absurd H (by simp)
   rw[Yx c14] at H;have LMc14:=Ya c14;clear c14;obtain⟨y213,hy213⟩: ∃ y_:List Int,y_=(Xu ++ [t212]):=⟨_,rfl⟩;rw[← hy213] at H;have Ny213:=Ya hy213;clear hy213;have H':=Ya H;clear H;have hcz15_0:wr.cell? ⟨Up,0,none⟩=some (.int .i64 Zb):=bc Xo 0;have hcz15_1:wr.cell? ⟨Up,1,none⟩=some (.bool Zc):=bc Xo 1;have hcz15_2:wr.cell? ⟨Up,2,none⟩=some (.slice Ze Za.length Zd):=bc Xo 2;have hfz15_0:=Yf Xo.out 0;have hfz15_1:=Yf Xo.out 1;have hfz15_2:=Yf Xo.out 2;go_wp2_with (first|((with_reducible refine gate_callee (f:=76) rfl ?_);refine gl (some 28) Try.func76 #[.agg #[.int .i64 Zb, .bool Zc, .slice Ze Za.length Zd], .slice A1 l1.length c1, .int .i64 Zn] ?_;(with_reducible refine(ebbtideref07_Leaves.calls k1 Zb Zc _ _ Za _ _ l1 Zn t212 _ ?side1 ?side2 ?side3 ?side4 A13.out).mono ?_);(case side1=>exact kC (Yt Zh.out HB.out));(case side2=>exact Zo.out);(case side3=>exact kC (Yt HR1.out HB.out));(case side4=>exact HC1.out);rintro e w16 ⟨rfl,hb⟩;refine⟨_,rfl,?_⟩;replace HO_7:=Ya (Ys HO_7.out hb);replace Xo:=Ya (Yn Xo.out hb);replace HB:=Ya (Yk HB.out hb);(try clear hb))|((with_reducible refine gate_builtin (b:= .append) (xs:= #[.tmp 24, .tmp 29]) rfl ?_);at_builtin;refine Kd.R_append (Kd.int .i64) (w0:=w) w.heap.size rfl (.tmp 24) (.tmp 29) 31 3 (.int .i64 0) 8 rfl Try.underlying31 info3 rfl (by decide) (by omega) u7 Xu t212 [.int .i64 t212] (fun _=>True) (fun _=>False) rfl rfl ?aP (fun _ hk=>hk.elim) ?aF ?aO ?aB ?aS ?aL ?_;(case aP=>exact rfl);(case aB=>exact HB.out);(case aF=>exact(fun _ _=>trivial));(case aO=>exact HO_7.out);(case aS=>exact(Yi HB.out));(case aL=>have:=LMc14.out;omega);intro v214 w17 ho hb hg hat;rw[← Ny213.out] at ho;replace Xo:=Ya (blk_grown Xo.out hg (Kd.R_ne HO_7.out Xo.out (by decide)));replace HB:=Ya (hb);have HO215:=Ya (ho);clear HO_7;clear ho hb hg hat));go_roundg k1
   case measure=>have:=HK1.out;omega
   case rel=>exact⟨(y213),(wrap64 (Zn+1)),(by first|rfl|(simp;done)|(simp[*];done)),H',⟨by have:=HK1.out;omega⟩,⟨HO215.out⟩,⟨Xo.out⟩,⟨HB.out⟩⟩
end P
namespace Q
open P
def arcErr (n:Int) (a:S50):Int:=
 if a.f0<0∨a.f1<0∨a.f2<0∨a.f3<0∨n≤a.f0∨n≤a.f1 then 51 else if 1048576<a.f2∨1048576<a.f3 then 2 else 0
def arcsErr (n:Int):List S50→Int
 |[]=>0
 |a::l=>if arcErr n a=0 then arcsErr n l else arcErr n a
def netErr (n:Int) (l:List S50):Int:=if n<1 then 51 else if n>50 then 2 else if (l.length:Int)>200 then 2 else arcsErr n l
structure ArcOk (n:Int) (a:S50):Prop where
 f0:0≤a.f0
 f1:0≤a.f1
 f2:0≤a.f2
 f3:0≤a.f3
 h0:a.f0<n
 h1:a.f1<n
 h2:a.f2≤1048576
 h3:a.f3≤1048576
structure NetOk (n:Int) (l:List S50):Prop where
 lo:1≤n
 hi:n≤50
 len:l.length≤200
 arcs: ∀ a∈l,ArcOk n a
theorem arcErr_ok {n:Int} {a:S50} (h:arcErr n a=0):ArcOk n a:=by
 unfold arcErr at h;split at h
 ·omega
 ·split at h
  ·omega
  ·constructor<;>omega
theorem arcsErr_ok {n:Int} : ∀ {l:List S50},arcsErr n l=0→ ∀ a∈l,ArcOk n a
 |[],_,a,ha=>by cases ha
 |b::l,h,a,ha=>by
  unfold arcsErr at h;split at h
  ·rename_i hb
   rcases List.mem_cons.1 ha with rfl|ha
   ·exact arcErr_ok hb
   ·exact arcsErr_ok h a ha
  ·exact absurd h (by assumption)
theorem netErr_ok {n:Int} {l:List S50} (h:netErr n l=0):NetOk n l:=by
 unfold netErr at h;split at h
 ·omega
 ·split at h
  ·omega
  ·split at h
   ·omega
   ·exact⟨by omega,by omega,by omega,arcsErr_ok h⟩
theorem arcOk_err {n:Int} {a:S50} (h:ArcOk n a):arcErr n a=0:=by
 have:=h.f0;have:=h.f1;have:=h.f2;have:=h.f3;have:=h.h0;have:=h.h1;have:=h.h2;have:=h.h3;unfold arcErr;rw[Yy (by omega),Yy (by omega)]
theorem arcsOk_err {n:Int} : ∀ {l:List S50},(∀ a∈l,ArcOk n a)→arcsErr n l=0
 |[],_=>rfl
 |b::l,h=>by
  unfold arcsErr;rw[Yx (arcOk_err (h b (List.mem_cons_self ..)))];exact arcsOk_err fun a ha=>h a (List.mem_cons_of_mem _ ha)
theorem netOk_err {n:Int} {l:List S50} (h:NetOk n l):netErr n l=0:=by
 have:=h.lo;have:=h.hi;have:=h.len;unfold netErr;rw[Yy (by omega),Yy (by omega),Yy (by omega),arcsOk_err h.arcs]
theorem NetOk.at_ {n:Int} {l:List S50} (h:NetOk n l) {i:Int} (h0:0≤i) (h1:i<l.length):ArcOk n (rd_T50 l i):=h.arcs _ (getD_mem (by omega))
theorem nodes_eq (n:Int):netfmt_nodes.f n=some (if n<1 then 51 else if n>50 then 2 else 0):=by
 unfold netfmt_nodes.f;split
 ·rfl
 ·split<;>rfl
theorem arc_ev (n:Int) (a:S50):Ev (fun k=>netfmt_arc.f k n a.f0 a.f1 a.f2 a.f3) (arcErr n a):=by
 unfold netfmt_arc.f arcErr;refine Ev.ite (fun h=> ?_) (fun h=> ?_)
 ·refine Ev.succ ?_;simp only[netfmt_arc.j0]
  repeat(first|exact Ev.now _|with_reducible refine Ev.pos (by first|assumption|omega) ?_|with_reducible refine Ev.neg (by first|assumption|omega) ?_|with_reducible refine Ev.let_ ?_)
  exact Ev.done (by unfold mn at h;rw[Yx (by omega)])
 ·refine Ev.succ ?_;simp only[netfmt_arc.j0]
  unfold mn at h;unfold mx;refine Ev.ite (fun g=> ?_) (fun g=> ?_)
  ·have g:=Yu g
   exact Ev.done (by rw[Yx (by omega)])
  ·have g:=of_decide_eq_false (Bool.eq_false_iff.2 g)
   refine Ev.ite (fun g1=> ?_) (fun g1=> ?_)
   ·exact Ev.done (by rw[Yy (by omega),Yx (by omega)])
   ·refine Ev.ite (fun g2=> ?_) (fun g2=> ?_)
    ·exact Ev.done (by rw[Yy (by omega),Yx (by omega)])
    ·exact Ev.done (by rw[Yy (by omega),Yy (by omega)])
theorem check_l0 (l:List S50) (n:Int) (b:Bool) (hl:l.length≤9223372036854775807) (d:Nat): ∀ i:Nat,i+d=l.length→
  Ev (fun k=>netfmt_Check.l0 k l (l.length:Int) (i:Int) n b l) (arcsErr n (l.drop i)):=by
 induction d with
 |zero=>
  intro i hi;refine Ev.succ ?_;simp only[netfmt_Check.l0];repeat(first|exact Ev.now _|with_reducible refine Ev.pos (by first|assumption|omega) ?_|with_reducible refine Ev.neg (by first|assumption|omega) ?_|with_reducible refine Ev.let_ ?_)
  rw[List.drop_of_length_le (by omega)];exact Ev.now _
 |succ d ih=>
  intro i hi;refine Ev.succ ?_;simp only[netfmt_Check.l0];repeat(first|exact Ev.now _|with_reducible refine Ev.pos (by first|assumption|omega) ?_|with_reducible refine Ev.neg (by first|assumption|omega) ?_|with_reducible refine Ev.let_ ?_)
  refine Ev.bind (arc_ev n (rd_T50 l i)) ?_;rw[drop_getD l i z50 (by omega)];have hr:rd_T50 l (i:Int)=l.getD i z50:=by unfold rd_T50;rw[Int.toNat_natCast]
  rw[hr];unfold arcsErr;refine Ev.ite (fun h=> ?_) (fun h=> ?_)
  ·rw[Yx h,wrap_succ (n:=l.length) (by omega) hl]
   exact ih (i+1) (by omega)
  ·rw[Yy h]
   exact Ev.now _
theorem check_ev (n:Int) (b:Bool) (l:List S50):Ev (fun k=>netfmt_Check.f k n b l) (netErr n l):=by
 unfold netfmt_Check.f netErr;refine Ev.call (nodes_eq n) ?_;by_cases h:n<1
 ·rw[Yx h,Yx h]
  repeat(first|exact Ev.now _|with_reducible refine Ev.pos (by first|assumption|omega) ?_|with_reducible refine Ev.neg (by first|assumption|omega) ?_|with_reducible refine Ev.let_ ?_)
 ·rw[Yy h,Yy h]
  by_cases h2:n>50
  ·rw[Yx h2,Yx h2]
   repeat(first|exact Ev.now _|with_reducible refine Ev.pos (by first|assumption|omega) ?_|with_reducible refine Ev.neg (by first|assumption|omega) ?_|with_reducible refine Ev.let_ ?_)
  ·rw[Yy h2,Yy h2]
   repeat(first|exact Ev.now _|with_reducible refine Ev.pos (by first|assumption|omega) ?_|with_reducible refine Ev.neg (by first|assumption|omega) ?_|with_reducible refine Ev.let_ ?_)
   refine Ev.ite (fun g=> ?_) (fun g=> ?_)
   ·rw[Yx g]
    exact Ev.now _
   ·rw[Yy g]
    exact check_l0 l n b (by omega) l.length 0 (by omega)
theorem ref_nodes_eq (n:Int):ebbtideref05_nodes.f n=some (if n<1 then 51 else if n>50 then 2 else 0):=by
 unfold ebbtideref05_nodes.f;split
 ·rfl
 ·split<;>rfl
theorem ref_arc_j0 (x:Bool) (n:Int) (a:S50) (hx:x=true↔a.f0<0∨a.f1<0∨a.f2<0∨a.f3<0∨n≤a.f0∨n≤a.f1):Ev (fun k=>ebbtideref05_Arc.j0 k x a.f0 a.f1 a.f2 a.f3) (arcErr n a):=by
 unfold arcErr;refine Ev.succ ?_;simp only[ebbtideref05_Arc.j0];refine Ev.ite (fun g=> ?_) (fun g=> ?_)
 ·exact Ev.done (by rw[Yx (hx.1 g)])
 ·have g':=fun h=>g (hx.2 h)
  refine Ev.ite (fun g1=> ?_) (fun g1=> ?_)
  ·exact Ev.done (by rw[Yy g',Yx (by omega)])
  ·refine Ev.ite (fun g2=> ?_) (fun g2=> ?_)
   ·exact Ev.done (by rw[Yy g',Yx (by omega)])
   ·exact Ev.done (by rw[Yy g',Yy (by omega)])
theorem ref_arc_ev (n:Int) (a:S50):Ev (fun k=>ebbtideref05_Arc.f k n a.f0 a.f1 a.f2 a.f3) (arcErr n a):=by
 unfold ebbtideref05_Arc.f;refine Ev.ite (fun h=> ?_) (fun h=> ?_)
 ·exact ref_arc_j0 _ _ _ ⟨fun _=>by omega,fun _=>rfl⟩
 refine Ev.ite (fun h=> ?_) (fun h=> ?_)
 ·exact ref_arc_j0 _ _ _ ⟨fun _=>by omega,fun _=>rfl⟩
 refine Ev.ite (fun h=> ?_) (fun h=> ?_)
 ·exact ref_arc_j0 _ _ _ ⟨fun _=>by omega,fun _=>rfl⟩
 refine Ev.ite (fun h=> ?_) (fun h=> ?_)
 ·exact ref_arc_j0 _ _ _ ⟨fun _=>by omega,fun _=>rfl⟩
 refine Ev.ite (fun h=> ?_) (fun h=> ?_)
 ·exact ref_arc_j0 _ _ _ ⟨fun _=>by omega,fun _=>rfl⟩
 ·exact ref_arc_j0 _ _ _ ⟨fun g=>by have:=Yu g;omega,fun g=>Yv (by omega)⟩
theorem ref_check_l0 (l:List S50) (n:Int) (b:Bool) (hl:l.length≤9223372036854775807) (d:Nat): ∀ i:Nat,i+d=l.length→
  Ev (fun k=>ebbtideref05_Check.l0 k (i:Int) n b l) (arcsErr n (l.drop i)):=by
 induction d with
 |zero=>
  intro i hi;refine Ev.succ ?_;simp only[ebbtideref05_Check.l0];repeat(first|exact Ev.now _|with_reducible refine Ev.pos (by first|assumption|omega) ?_|with_reducible refine Ev.neg (by first|assumption|omega) ?_|with_reducible refine Ev.let_ ?_)
  rw[List.drop_of_length_le (by omega)];exact Ev.now _
 |succ d ih=>
  intro i hi;refine Ev.succ ?_;simp only[ebbtideref05_Check.l0];repeat(first|exact Ev.now _|with_reducible refine Ev.pos (by first|assumption|omega) ?_|with_reducible refine Ev.neg (by first|assumption|omega) ?_|with_reducible refine Ev.let_ ?_)
  refine Ev.bind (ref_arc_ev n (rd_T50 l i)) ?_;rw[drop_getD l i z50 (by omega)];have hr:rd_T50 l (i:Int)=l.getD i z50:=by unfold rd_T50;rw[Int.toNat_natCast]
  rw[hr];unfold arcsErr;refine Ev.ite (fun h=> ?_) (fun h=> ?_)
  ·rw[Yx h,wrap_succ (n:=l.length) (by omega) hl]
   exact ih (i+1) (by omega)
  ·rw[Yy h]
   exact Ev.now _
theorem ref_check_ev (n:Int) (b:Bool) (l:List S50):Ev (fun k=>ebbtideref05_Check.f k n b l) (netErr n l):=by
 unfold ebbtideref05_Check.f netErr;refine Ev.call (ref_nodes_eq n) ?_;by_cases h:n<1
 ·rw[Yx h,Yx h]
  repeat(first|exact Ev.now _|with_reducible refine Ev.pos (by first|assumption|omega) ?_|with_reducible refine Ev.neg (by first|assumption|omega) ?_|with_reducible refine Ev.let_ ?_)
 ·rw[Yy h,Yy h]
  by_cases h2:n>50
  ·rw[Yx h2,Yx h2]
   repeat(first|exact Ev.now _|with_reducible refine Ev.pos (by first|assumption|omega) ?_|with_reducible refine Ev.neg (by first|assumption|omega) ?_|with_reducible refine Ev.let_ ?_)
  ·rw[Yy h2,Yy h2]
   repeat(first|exact Ev.now _|with_reducible refine Ev.pos (by first|assumption|omega) ?_|with_reducible refine Ev.neg (by first|assumption|omega) ?_|with_reducible refine Ev.let_ ?_)
   refine Ev.ite (fun g=> ?_) (fun g=> ?_)
   ·rw[Yx g]
    exact Ev.now _
   ·rw[Yy g]
    exact ref_check_l0 l n b (by omega) l.length 0 (by omega)
end Q
namespace P
attribute [local go_sem] max2_int min2_int max_two min_two max_three min_three max_four min_four
def static_Asked.l0:Nat→List Int→Int→Int→Int→Bool→List (S50)→Option (Int)
 |0,_,_,_,_,_,_=>none
 |k+1,x19,x20,x21,x391000,x391001,x391002=>if x21<x20 then(if 0≤x21 then(if x21<(x19.length:Int) then(if (rd x19 x21)<0 then(some 71) else(if x21<(x391002.length:Int) then(if (rd x19 x21)>((rd_T50 x391002 x21).f2) then(some 71) else(static_Asked.l0 k x19 x20 (wrap64 (x21+1)) x391000 x391001 x391002)) else(none))) else(none)) else(none)) else(some 0)
def static_Asked.f (k:Nat) (Zb:Int) (Zc:Bool) (Za:List (S50)) (l1:List Int):Option (Int):=(netfmt_Check.f k Zb Zc Za).bind fun t391=>(if t391=0 then(if (l1.length:Int)=(Za.length:Int) then(static_Asked.l0 k l1 (l1.length:Int) 0 Zb Zc Za) else(some 71)) else(some t391))
set_option maxHeartbeats 8000000 in
set_option maxRecDepth 100000 in
theorem static_Asked.calls (k:Nat) (Zb:Int) (Zc:Bool) (Ze:Option Addr) (Zd:Nat) (Za:List (S50)) (A1:Option Addr) (c1:Nat) (l1:List Int) (r:Int) (w:World) (Zp:Kd.C k50 w Ze Za.length Za) (Zq:Za.length≤Zd) (hr1:Kd.C (Kd.int .i64) w A1 l1.length l1) (hc1:l1.length≤c1) (h:static_Asked.f k Zb Zc Za l1=some r):
  Calls Try.prog 90 #[.agg #[.int .i64 Zb, .bool Zc, .slice Ze Za.length Zd], .slice A1 l1.length c1] w fun e w'=>e= .returned (.int .i64 r)∧Below w.heap.size w w':=by
 have hu24:=Try.underlying24;have Zh:=Ya Zp;have Zo:=Ya Zq;clear Zp Zq;have HR1:=Ya hr1;have HC1:=Ya hc1;clear hr1 hc1;have HB:=Ya (Yo w.heap.size w);have H:=h;unfold static_Asked.f at H;clear h;replace H:=Option.bind_eq_some_iff.mp H;obtain⟨t391,A30,H⟩:=H;try dsimp only at H
 have A3:=Ya A30;clear A30;by_cases c4:t391=0
 rotate_left
 ·rw[Yy c4] at H
  have c4b0:(t391 == 0)=false:=beq_eq_false_iff_ne.mpr c4;have c4b1:(t391 != 0)=true:=bne_iff_ne.mpr c4;obtain rfl:=Option.some.inj H;go_enter Try.func90,Try.ntmps90;go_wp2_with (first|(refine bx 2 24 #[.int .i64 Zb, .bool Zc, .slice Ze Za.length Zd] ?_;intro Uq hg w22 Zf hb;have Wa:=Ya (Zf);have GW390:=Ya (by rw[hg];exact(Yi HB.out):w.heap.size≤Uq);have GE390:=Ya (by rw[hg];exact(Yi HB.out):w.heap.size≤Uq);replace HB:=Ya (Yk HB.out hb);clear hb Zf hg;have hcz23_0:w22.cell? ⟨Uq,0,none⟩=some (.int .i64 Zb):=bc Wa 0;have hcz23_1:w22.cell? ⟨Uq,1,none⟩=some (.bool Zc):=bc Wa 1;have hcz23_2:w22.cell? ⟨Uq,2,none⟩=some (.slice Ze Za.length Zd):=bc Wa 2;have hfz23_0:=Yf Wa.out 0;have hfz23_1:=Yf Wa.out 1;have hfz23_2:=Yf Wa.out 2)|((with_reducible refine gate_callee (f:=61) rfl ?_);refine gl (some 9) Try.func61 #[.agg #[.int .i64 Zb, .bool Zc, .slice Ze Za.length Zd]] ?_;(with_reducible refine(netfmt_Check.calls k Zb Zc _ _ Za t391 _ ?side1 ?side2 A3.out).mono ?_);(case side1=>exact kC (Yt Zh.out HB.out));(case side2=>exact Zo.out);rintro e w24 ⟨rfl,hb⟩;refine⟨_,rfl,?_⟩;replace Wa:=Ya (Yn Wa.out hb);replace HB:=Ya (Yk HB.out hb);(try clear hb)));go_ret;exact⟨by first|rfl|(simp[errW_none,errW_some]<;>rfl)|(simp[*,errW_none,errW_some]<;>rfl),HB.out⟩
 rw[Yx c4] at H;have c4b0:(t391 == 0)=true:=beq_iff_eq.mpr c4;have c4b1:(t391 != 0)=false:=bne_eq_false_iff_eq.mpr c4;clear c4;by_cases c5:(l1.length:Int)=(Za.length:Int)
 rotate_left
 ·rw[Yy c5] at H
  have c5b0:((l1.length:Int) == (Za.length:Int))=false:=beq_eq_false_iff_ne.mpr c5;have c5b1:((l1.length:Int) != (Za.length:Int))=true:=bne_iff_ne.mpr c5;have c5b2:(l1.length == Za.length)=false:=by first|simpa using c5|(simp at c5 ⊢;omega)
  obtain rfl:=Option.some.inj H;go_enter Try.func90,Try.ntmps90;go_wp2_with (first|(refine bx 2 24 #[.int .i64 Zb, .bool Zc, .slice Ze Za.length Zd] ?_;intro Uq hg w18 Zf hb;have Wa:=Ya (Zf);have GW390:=Ya (by rw[hg];exact(Yi HB.out):w.heap.size≤Uq);have GE390:=Ya (by rw[hg];exact(Yi HB.out):w.heap.size≤Uq);replace HB:=Ya (Yk HB.out hb);clear hb Zf hg;have hcz19_0:w18.cell? ⟨Uq,0,none⟩=some (.int .i64 Zb):=bc Wa 0;have hcz19_1:w18.cell? ⟨Uq,1,none⟩=some (.bool Zc):=bc Wa 1;have hcz19_2:w18.cell? ⟨Uq,2,none⟩=some (.slice Ze Za.length Zd):=bc Wa 2;have hfz19_0:=Yf Wa.out 0;have hfz19_1:=Yf Wa.out 1;have hfz19_2:=Yf Wa.out 2)|((with_reducible refine gate_callee (f:=61) rfl ?_);refine gl (some 9) Try.func61 #[.agg #[.int .i64 Zb, .bool Zc, .slice Ze Za.length Zd]] ?_;(with_reducible refine(netfmt_Check.calls k Zb Zc _ _ Za t391 _ ?side1 ?side2 A3.out).mono ?_);(case side1=>exact kC (Yt Zh.out HB.out));(case side2=>exact Zo.out);rintro e w20 ⟨rfl,hb⟩;refine⟨_,rfl,?_⟩;replace Wa:=Ya (Yn Wa.out hb);replace HB:=Ya (Yk HB.out hb);(try clear hb);have hcz21_0:w20.cell? ⟨Uq,0,none⟩=some (.int .i64 Zb):=bc Wa 0;have hcz21_1:w20.cell? ⟨Uq,1,none⟩=some (.bool Zc):=bc Wa 1;have hcz21_2:w20.cell? ⟨Uq,2,none⟩=some (.slice Ze Za.length Zd):=bc Wa 2;have hfz21_0:=Yf Wa.out 0;have hfz21_1:=Yf Wa.out 1;have hfz21_2:=Yf Wa.out 2));go_ret;exact⟨by first|rfl|(simp[errW_none,errW_some]<;>rfl)|(simp[*,errW_none,errW_some]<;>rfl),HB.out⟩
 rw[Yx c5] at H;have c5b0:((l1.length:Int) == (Za.length:Int))=true:=beq_iff_eq.mpr c5;have c5b1:((l1.length:Int) != (Za.length:Int))=false:=bne_eq_false_iff_eq.mpr c5;have c5b2:(l1.length == Za.length)=true:=by first|simpa using c5|(simp at c5 ⊢;omega)
 clear c5;have H':=Ya H;clear H;go_enter Try.func90,Try.ntmps90;go_wp2_with (first|(refine bx 2 24 #[.int .i64 Zb, .bool Zc, .slice Ze Za.length Zd] ?_;intro Uq hg w6 Zf hb;have Wa:=Ya (Zf);have GW390:=Ya (by rw[hg];exact(Yi HB.out):w.heap.size≤Uq);have GE390:=Ya (by rw[hg];exact(Yi HB.out):w.heap.size≤Uq);replace HB:=Ya (Yk HB.out hb);clear hb Zf hg;have hcz7_0:w6.cell? ⟨Uq,0,none⟩=some (.int .i64 Zb):=bc Wa 0;have hcz7_1:w6.cell? ⟨Uq,1,none⟩=some (.bool Zc):=bc Wa 1;have hcz7_2:w6.cell? ⟨Uq,2,none⟩=some (.slice Ze Za.length Zd):=bc Wa 2;have hfz7_0:=Yf Wa.out 0;have hfz7_1:=Yf Wa.out 1;have hfz7_2:=Yf Wa.out 2)|((with_reducible refine gate_callee (f:=61) rfl ?_);refine gl (some 9) Try.func61 #[.agg #[.int .i64 Zb, .bool Zc, .slice Ze Za.length Zd]] ?_;(with_reducible refine(netfmt_Check.calls k Zb Zc _ _ Za t391 _ ?side1 ?side2 A3.out).mono ?_);(case side1=>exact kC (Yt Zh.out HB.out));(case side2=>exact Zo.out);rintro e w8 ⟨rfl,hb⟩;refine⟨_,rfl,?_⟩;replace Wa:=Ya (Yn Wa.out hb);replace HB:=Ya (Yk HB.out hb);(try clear hb);have hcz9_0:w8.cell? ⟨Uq,0,none⟩=some (.int .i64 Zb):=bc Wa 0;have hcz9_1:w8.cell? ⟨Uq,1,none⟩=some (.bool Zc):=bc Wa 1;have hcz9_2:w8.cell? ⟨Uq,2,none⟩=some (.slice Ze Za.length Zd):=bc Wa 2;have hfz9_0:=Yf Wa.out 0;have hfz9_1:=Yf Wa.out 1;have hfz9_2:=Yf Wa.out 2));go_loopg [21] k (fun kq v21 w'=> ∃ (Vo:Int),v21= .int .i64 Vo∧Aside0 (static_Asked.l0 kq l1 (l1.length:Int) Vo Zb Zc Za=some r)∧Aside0 (kq≤k)∧Aside0 (w'.heap[Uq]? =some (.cells #[.int .i64 Zb, .bool Zc,(.slice Ze Za.length Zd)] 24 (0,0)))∧Aside0 (Below w.heap.size w w'))
 case atStart=>exact⟨(0),(by first|rfl|(simp;done)|(simp[*];done)),H',⟨Nat.le_refl _⟩,⟨Wa.out⟩,⟨HB.out⟩⟩
 case round=>
  clear H';try clear c1
  try clear c4
  try clear c4b0
  try clear c4b1
  try clear c5
  try clear c5b0
  try clear c5b1
  try clear c5b2
  try clear hcz7_0
  try clear hcz7_1
  try clear hcz7_2
  try clear hcz9_0
  try clear hcz9_1
  try clear hcz9_2
  try clear hfz7_0
  try clear hfz7_1
  try clear hfz7_2
  try clear hfz9_0
  try clear hfz9_1
  try clear hfz9_2
  obtain⟨Vo,rfl,HA,HK1,Wa,HB⟩:=hrel;cases gk with
  |zero=>exact absurd HA.out (by simp[static_Asked.l0])
  |succ k1=>
   have H:=HA.out;clear HA;simp only[static_Asked.l0] at H;by_cases c10:Vo<(l1.length:Int)
   rotate_left
   ·rw[Yy c10] at H
    have c10b0:decide (Vo<(l1.length:Int))=false:=Yw c10;clear c10;obtain rfl:=Option.some.inj H;go_wp2;go_ret;exact⟨by first|rfl|(simp[errW_none,errW_some]<;>rfl)|(simp[*,errW_none,errW_some]<;>rfl),HB.out⟩
   rw[Yx c10] at H;have c10b0:decide (Vo<(l1.length:Int))=true:=Yv c10;clear c10;by_cases c11:0≤Vo
   rotate_left
   ·rw[Yy c11] at H
    exact absurd H (by simp)
   rw[Yx c11] at H;have c11b0:decide (0≤Vo)=true:=Yv c11;clear c11;by_cases c12:Vo<(l1.length:Int)
   rotate_left
   ·rw[Yy c12] at H
    exact absurd H (by simp)
   rw[Yx c12] at H;have c12b0:decide (Vo<(l1.length:Int))=true:=Yv c12;clear c12;by_cases c13:(rd l1 Vo)<0
   ·rw[Yx c13] at H
    have c13b0:decide ((rd l1 Vo)<0)=true:=Yv c13;clear c13;obtain rfl:=Option.some.inj H;have p392:0≤(Vo:Int):=od;have q392:Vo<(l1.length:Int):=od;obtain⟨ad392,e392,hx392_0⟩:=Kd.at_int HR1.out Vo p392 q392;cases e392;replace hx392_0:=hc HB hx392_0;replace p392:=eq_true p392;replace q392:=eq_true q392;go_wp2;go_ret;exact⟨by first|rfl|(simp[errW_none,errW_some]<;>rfl)|(simp[*,errW_none,errW_some]<;>rfl),HB.out⟩
   rw[Yy c13] at H;have c13b0:decide ((rd l1 Vo)<0)=false:=Yw c13;clear c13;by_cases c14:Vo<(Za.length:Int)
   rotate_left
   ·rw[Yy c14] at H
    exact absurd H (by simp)
   rw[Yx c14] at H;have c14b0:decide (Vo<(Za.length:Int))=true:=Yv c14;clear c14;by_cases c15:(rd l1 Vo)>((rd_T50 Za Vo).f2)
   ·rw[Yx c15] at H
    have c15b0:decide (((rd_T50 Za Vo).f2)<(rd l1 Vo))=true:=Yv c15;clear c15;obtain rfl:=Option.some.inj H;have p392:0≤(Vo:Int):=od;have q392:Vo<(l1.length:Int):=od;obtain⟨ad392,e392,hx392_0⟩:=Kd.at_int HR1.out Vo p392 q392;cases e392;replace hx392_0:=hc HB hx392_0;replace p392:=eq_true p392;replace q392:=eq_true q392;have hcz16_0:wr.cell? ⟨Uq,0,none⟩=some (.int .i64 Zb):=bc Wa 0;have hcz16_1:wr.cell? ⟨Uq,1,none⟩=some (.bool Zc):=bc Wa 1;have hcz16_2:wr.cell? ⟨Uq,2,none⟩=some (.slice Ze Za.length Zd):=bc Wa 2;have hfz16_0:=Yf Wa.out 0;have hfz16_1:=Yf Wa.out 1;have hfz16_2:=Yf Wa.out 2;have p393:0≤(Vo:Int):=od;have q393:Vo<(Za.length:Int):=od;obtain⟨ad393,e393,hx393_0,hx393_1,hx393_2,hx393_3⟩:=at_T50 Zh.out Vo p393 q393;cases e393;replace hx393_0:=hc HB hx393_0;replace hx393_1:=hc HB hx393_1;replace hx393_2:=hc HB hx393_2;replace hx393_3:=hc HB hx393_3;replace p393:=eq_true p393;replace q393:=eq_true q393;go_wp2;go_ret;exact⟨by first|rfl|(simp[errW_none,errW_some]<;>rfl)|(simp[*,errW_none,errW_some]<;>rfl),HB.out⟩
   rw[Yy c15] at H;have c15b0:decide (((rd_T50 Za Vo).f2)<(rd l1 Vo))=false:=Yw c15;clear c15;have H':=Ya H;clear H;have p392:0≤(Vo:Int):=od;have q392:Vo<(l1.length:Int):=od;obtain⟨ad392,e392,hx392_0⟩:=Kd.at_int HR1.out Vo p392 q392;cases e392;replace hx392_0:=hc HB hx392_0;replace p392:=eq_true p392;replace q392:=eq_true q392;have Vz:wr.cell? ⟨Uq,0,none⟩=some (.int .i64 Zb):=bc Wa 0;have Ua:wr.cell? ⟨Uq,1,none⟩=some (.bool Zc):=bc Wa 1;have hcz17_2:wr.cell? ⟨Uq,2,none⟩=some (.slice Ze Za.length Zd):=bc Wa 2;have Ub:=Yf Wa.out 0;have Uc:=Yf Wa.out 1;have hfz17_2:=Yf Wa.out 2;have p393:0≤(Vo:Int):=od;have q393:Vo<(Za.length:Int):=od;obtain⟨ad393,e393,hx393_0,hx393_1,hx393_2,hx393_3⟩:=at_T50 Zh.out Vo p393 q393;cases e393;replace hx393_0:=hc HB hx393_0;replace hx393_1:=hc HB hx393_1;replace hx393_2:=hc HB hx393_2;replace hx393_3:=hc HB hx393_3;replace p393:=eq_true p393;replace q393:=eq_true q393;go_wp2;go_roundg k1
   case measure=>have:=HK1.out;omega
   case rel=>exact⟨(wrap64 (Vo+1)),(by first|rfl|(simp;done)|(simp[*];done)),H',⟨by have:=HK1.out;omega⟩,⟨Wa.out⟩,⟨HB.out⟩⟩
end P
namespace P
attribute [local go_sem] max2_int min2_int max_two min_two max_three min_three max_four min_four
def ebbtideref06_Node.f (Zb:Int) (Zc:Bool) (Za:List (S50)) (a1:Int):Option (Bool):=if a1≥0 then(some (decide (a1<Zb))) else(some false)
set_option maxHeartbeats 8000000 in
set_option maxRecDepth 100000 in
theorem ebbtideref06_Node.calls (Zb:Int) (Zc:Bool) (Ze:Option Addr) (Zd:Nat) (Za:List (S50)) (a1:Int) (r:Bool) (w:World) (Zp:Kd.C k50 w Ze Za.length Za) (Zq:Za.length≤Zd) (h:ebbtideref06_Node.f Zb Zc Za a1=some r):
  Calls Try.prog 58 #[.agg #[.int .i64 Zb, .bool Zc, .slice Ze Za.length Zd], .int .i64 a1] w fun e w'=>e= .returned (.bool r)∧Below w.heap.size w w':=by
 have hu24:=Try.underlying24;have Zh:=Ya Zp;have Zo:=Ya Zq;clear Zp Zq;have HB:=Ya (Yo w.heap.size w);have H:=h;unfold ebbtideref06_Node.f at H;clear h;by_cases c3:a1≥0
 rotate_left
 ·rw[Yy c3] at H
  have c3b0:decide (0≤a1)=false:=Yw c3;clear c3;obtain rfl:=Option.some.inj H;go_enter Try.func58,Try.ntmps58;go_wp2_with (first|(refine bx 2 24 #[.int .i64 Zb, .bool Zc, .slice Ze Za.length Zd] ?_;intro gb190 hg w6 Zf hb;have BK190:=Ya (Zf);have GW190:=Ya ((sz hg));have GE190:=Ya ((sz hg));replace HB:=Ya (Yk bl hb);clear hb Zf hg));go_ret;exact⟨by first|rfl|(simp[errW_none,errW_some]<;>rfl)|(simp[*,errW_none,errW_some]<;>rfl),HB.out⟩
 rw[Yx c3] at H;have c3b0:decide (0≤a1)=true:=Yv c3;clear c3;obtain rfl:=Option.some.inj H;go_enter Try.func58,Try.ntmps58;go_wp2_with (first|(refine bx 2 24 #[.int .i64 Zb, .bool Zc, .slice Ze Za.length Zd] ?_;intro gb190 hg w4 Zf hb;have BK190:=Ya (Zf);have GW190:=Ya ((sz hg));have GE190:=Ya ((sz hg));replace HB:=Ya (Yk bl hb);clear hb Zf hg;have hcz5_0:w4.cell? ⟨gb190,0,none⟩=some (.int .i64 Zb):=bc BK190 0;have hcz5_1:w4.cell? ⟨gb190,1,none⟩=some (.bool Zc):=bc BK190 1;have hcz5_2:w4.cell? ⟨gb190,2,none⟩=some (.slice Ze Za.length Zd):=bc BK190 2;have hfz5_0:=Yf BK190.out 0;have hfz5_1:=Yf BK190.out 1;have hfz5_2:=Yf BK190.out 2));go_ret;exact⟨by first|rfl|(simp[errW_none,errW_some]<;>rfl)|(simp[*,errW_none,errW_some]<;>rfl),HB.out⟩
end P
namespace P
attribute [local go_sem] max2_int min2_int max_two min_two max_three min_three max_four min_four
def ebbtideref07_Asked.f (k:Nat) (Zb:Int) (Zc:Bool) (Za:List (S50)) (l1:List Int):Option (Int):=(ebbtideref05_Check.f k Zb Zc Za).bind fun t225=>(if t225=0 then((ebbtideref07_Within.f k Zb Zc Za l1).bind fun t226=>(if t226=true then(some 0) else(some 71))) else(some t225))
set_option maxHeartbeats 8000000 in
set_option maxRecDepth 100000 in
theorem ebbtideref07_Asked.calls (k:Nat) (Zb:Int) (Zc:Bool) (Ze:Option Addr) (Zd:Nat) (Za:List (S50)) (A1:Option Addr) (c1:Nat) (l1:List Int) (r:Int) (w:World) (Zp:Kd.C k50 w Ze Za.length Za) (Zq:Za.length≤Zd) (hr1:Kd.C (Kd.int .i64) w A1 l1.length l1) (hc1:l1.length≤c1) (h:ebbtideref07_Asked.f k Zb Zc Za l1=some r):
  Calls Try.prog 40 #[.agg #[.int .i64 Zb, .bool Zc, .slice Ze Za.length Zd], .slice A1 l1.length c1] w fun e w'=>e= .returned (.int .i64 r)∧Below w.heap.size w w':=by
 have hu24:=Try.underlying24;have Zh:=Ya Zp;have Zo:=Ya Zq;clear Zp Zq;have HR1:=Ya hr1;have HC1:=Ya hc1;clear hr1 hc1;have HB:=Ya (Yo w.heap.size w);have H:=h;unfold ebbtideref07_Asked.f at H;clear h;replace H:=Option.bind_eq_some_iff.mp H;obtain⟨t225,A30,H⟩:=H;try dsimp only at H
 have A3:=Ya A30;clear A30;by_cases c4:t225=0
 rotate_left
 ·rw[Yy c4] at H
  have c4b0:(t225 == 0)=false:=beq_eq_false_iff_ne.mpr c4;have c4b1:(t225 != 0)=true:=bne_iff_ne.mpr c4;obtain rfl:=Option.some.inj H;go_enter Try.func40,Try.ntmps40;go_wp2_with (first|(refine bx 2 24 #[.int .i64 Zb, .bool Zc, .slice Ze Za.length Zd] ?_;intro gb224 hg w17 Zf hb;have Wz:=Ya (Zf);have GW224:=Ya ((sz hg));have GE224:=Ya ((sz hg));replace HB:=Ya (Yk bl hb);clear hb Zf hg;have hcz18_0:w17.cell? ⟨gb224,0,none⟩=some (.int .i64 Zb):=bc Wz 0;have hcz18_1:w17.cell? ⟨gb224,1,none⟩=some (.bool Zc):=bc Wz 1;have hcz18_2:w17.cell? ⟨gb224,2,none⟩=some (.slice Ze Za.length Zd):=bc Wz 2;have hfz18_0:=Yf Wz.out 0;have hfz18_1:=Yf Wz.out 1;have hfz18_2:=Yf Wz.out 2)|((with_reducible refine gate_callee (f:=30) rfl ?_);refine gl (some 7) Try.func30 #[.agg #[.int .i64 Zb, .bool Zc, .slice Ze Za.length Zd]] ?_;(with_reducible refine(ebbtideref05_Check.calls k Zb Zc _ _ Za t225 _ ?side1 ?side2 A3.out).mono ?_);(case side1=>exact kC (Yt Zh.out HB.out));(case side2=>exact Zo.out);rintro e w19 ⟨rfl,hb⟩;refine⟨_,rfl,?_⟩;replace Wz:=Ya (Yn (bk Wz) hb);replace HB:=Ya (Yk bl hb);(try clear hb)));go_ret;exact⟨by first|rfl|(simp[errW_none,errW_some]<;>rfl)|(simp[*,errW_none,errW_some]<;>rfl),HB.out⟩
 rw[Yx c4] at H;have c4b0:(t225 == 0)=true:=beq_iff_eq.mpr c4;have c4b1:(t225 != 0)=false:=bne_eq_false_iff_eq.mpr c4;clear c4;replace H:=Option.bind_eq_some_iff.mp H;obtain⟨t226,A50,H⟩:=H;try dsimp only at H
 have A5:=Ya A50;clear A50;by_cases c6:t226=true
 ·subst c6
  first|rw[Yx rfl] at H|rw[Yx trivial] at H
  obtain rfl:=Option.some.inj H;go_enter Try.func40,Try.ntmps40;go_wp2_with (first|(refine bx 2 24 #[.int .i64 Zb, .bool Zc, .slice Ze Za.length Zd] ?_;intro gb224 hg w7 Zf hb;have Wz:=Ya (Zf);have GW224:=Ya ((sz hg));have GE224:=Ya ((sz hg));replace HB:=Ya (Yk bl hb);clear hb Zf hg;have Jq:w7.cell? ⟨gb224,0,none⟩=some (.int .i64 Zb):=bc Wz 0;have Jr:w7.cell? ⟨gb224,1,none⟩=some (.bool Zc):=bc Wz 1;have hcz8_2:w7.cell? ⟨gb224,2,none⟩=some (.slice Ze Za.length Zd):=bc Wz 2;have Js:=Yf Wz.out 0;have Jt:=Yf Wz.out 1;have hfz8_2:=Yf Wz.out 2)|((with_reducible refine gate_callee (f:=30) rfl ?_);refine gl (some 7) Try.func30 #[.agg #[.int .i64 Zb, .bool Zc, .slice Ze Za.length Zd]] ?_;(with_reducible refine(ebbtideref05_Check.calls k Zb Zc _ _ Za t225 _ ?side1 ?side2 A3.out).mono ?_);(case side1=>exact kC (Yt Zh.out HB.out));(case side2=>exact Zo.out);rintro e w9 ⟨rfl,hb⟩;refine⟨_,rfl,?_⟩;replace Wz:=Ya (Yn (bk Wz) hb);replace HB:=Ya (Yk bl hb);(try clear hb);have Wu:w9.cell? ⟨gb224,0,none⟩=some (.int .i64 Zb):=bc Wz 0;have Wv:w9.cell? ⟨gb224,1,none⟩=some (.bool Zc):=bc Wz 1;have Vl:w9.cell? ⟨gb224,2,none⟩=some (.slice Ze Za.length Zd):=bc Wz 2;have Ww:=Yf Wz.out 0;have Wx:=Yf Wz.out 1;have Vm:=Yf Wz.out 2)|((with_reducible refine gate_callee (f:=72) rfl ?_);refine gl (some 13) Try.func72 #[.agg #[.int .i64 Zb, .bool Zc, .slice Ze Za.length Zd], .slice A1 l1.length c1] ?_;(with_reducible refine(ebbtideref07_Within.calls k Zb Zc _ _ Za _ _ l1 true _ ?side1 ?side2 ?side3 ?side4 A5.out).mono ?_);(case side1=>exact kC (Yt Zh.out HB.out));(case side2=>exact Zo.out);(case side3=>exact kC (Yt HR1.out HB.out));(case side4=>exact HC1.out);rintro e w11 ⟨rfl,hb⟩;refine⟨_,rfl,?_⟩;replace Wz:=Ya (Yn (bk Wz) hb);replace HB:=Ya (Yk bl hb);(try clear hb);(try clear hb2);(try clear hk);(try clear hi)));go_ret;exact⟨by first|rfl|(simp[errW_none,errW_some]<;>rfl)|(simp[*,errW_none,errW_some]<;>rfl),HB.out⟩
 replace c6:=Bool.eq_false_iff.mpr c6;subst c6;rw[Yy (show ¬ (false=true) by decide)] at H;obtain rfl:=Option.some.inj H;go_enter Try.func40,Try.ntmps40;go_wp2_with (first|(refine bx 2 24 #[.int .i64 Zb, .bool Zc, .slice Ze Za.length Zd] ?_;intro gb224 hg w12 Zf hb;have Wz:=Ya (Zf);have GW224:=Ya ((sz hg));have GE224:=Ya ((sz hg));replace HB:=Ya (Yk bl hb);clear hb Zf hg;have hcz13_0:w12.cell? ⟨gb224,0,none⟩=some (.int .i64 Zb):=bc Wz 0;have hcz13_1:w12.cell? ⟨gb224,1,none⟩=some (.bool Zc):=bc Wz 1;have hcz13_2:w12.cell? ⟨gb224,2,none⟩=some (.slice Ze Za.length Zd):=bc Wz 2;have hfz13_0:=Yf Wz.out 0;have hfz13_1:=Yf Wz.out 1;have hfz13_2:=Yf Wz.out 2)|((with_reducible refine gate_callee (f:=30) rfl ?_);refine gl (some 7) Try.func30 #[.agg #[.int .i64 Zb, .bool Zc, .slice Ze Za.length Zd]] ?_;(with_reducible refine(ebbtideref05_Check.calls k Zb Zc _ _ Za t225 _ ?side1 ?side2 A3.out).mono ?_);(case side1=>exact kC (Yt Zh.out HB.out));(case side2=>exact Zo.out);rintro e w14 ⟨rfl,hb⟩;refine⟨_,rfl,?_⟩;replace Wz:=Ya (Yn (bk Wz) hb);replace HB:=Ya (Yk bl hb);(try clear hb);have hcz15_0:w14.cell? ⟨gb224,0,none⟩=some (.int .i64 Zb):=bc Wz 0;have hcz15_1:w14.cell? ⟨gb224,1,none⟩=some (.bool Zc):=bc Wz 1;have hcz15_2:w14.cell? ⟨gb224,2,none⟩=some (.slice Ze Za.length Zd):=bc Wz 2;have hfz15_0:=Yf Wz.out 0;have hfz15_1:=Yf Wz.out 1;have hfz15_2:=Yf Wz.out 2)|((with_reducible refine gate_callee (f:=72) rfl ?_);refine gl (some 13) Try.func72 #[.agg #[.int .i64 Zb, .bool Zc, .slice Ze Za.length Zd], .slice A1 l1.length c1] ?_;(with_reducible refine(ebbtideref07_Within.calls k Zb Zc _ _ Za _ _ l1 false _ ?side1 ?side2 ?side3 ?side4 A5.out).mono ?_);(case side1=>exact kC (Yt Zh.out HB.out));(case side2=>exact Zo.out);(case side3=>exact kC (Yt HR1.out HB.out));(case side4=>exact HC1.out);rintro e w16 ⟨rfl,hb⟩;refine⟨_,rfl,?_⟩;replace Wz:=Ya (Yn (bk Wz) hb);replace HB:=Ya (Yk bl hb);(try clear hb);(try clear hb2);(try clear hk);(try clear hi)));go_ret;exact⟨by first|rfl|(simp[errW_none,errW_some]<;>rfl)|(simp[*,errW_none,errW_some]<;>rfl),HB.out⟩
end P
namespace Q
open P
def flowB:List S50→List Int→Bool
 |[],[]=>true
 |a::l,x::f=>if x<0 then false else if x>a.f2 then false else flowB l f
 |_,_=>false
def askErr (n:Int) (l:List S50) (f:List Int):Int:=if netErr n l=0 then(if flowB l f=true then 0 else 71) else netErr n l
structure FlowOk (l:List S50) (f:List Int):Prop where
 len:f.length=l.length
 at_: ∀ i:Nat,i<f.length→0≤rd f i∧rd f i≤(rd_T50 l i).f2
theorem rdArc_nat (l:List S50) (i:Nat):rd_T50 l (i:Int)=l.getD i z50:=by unfold rd_T50;rw[Int.toNat_natCast]
theorem flowB_len: ∀ {l:List S50} {f:List Int},flowB l f=true→f.length=l.length
 |[],[],_=>rfl
 |[],_::_,h=>by simp[flowB] at h
 |_::_,[],h=>by simp[flowB] at h
 |a::l,x::f,h=>by
  unfold flowB at h;split at h
  ·cases h
  ·split at h
   ·cases h
   ·simp[flowB_len h]
theorem flowB_ok: ∀ {l:List S50} {f:List Int},flowB l f=true→ ∀ i:Nat,i<f.length→0≤f.getD i 0∧f.getD i 0≤(l.getD i z50).f2
 |[],[],_,i,hi=>by simp at hi
 |[],_::_,h,_,_=>by simp[flowB] at h
 |_::_,[],h,_,_=>by simp[flowB] at h
 |a::l,x::f,h,i,hi=>by
  unfold flowB at h;split at h
  ·cases h
  ·split at h
   ·cases h
   ·cases i with
    |zero=>simp;omega
    |succ i=>simpa using flowB_ok h i (by simpa using hi)
theorem flow_ok {l:List S50} {f:List Int} (h:flowB l f=true):FlowOk l f:=
 ⟨flowB_len h,fun i hi=>by rw[rd_nat,rdArc_nat];exact flowB_ok h i hi⟩
theorem flow_mk: ∀ {l:List S50} {f:List Int},f.length=l.length→(∀ i:Nat,i<f.length→0≤f.getD i 0∧f.getD i 0≤(l.getD i z50).f2)→flowB l f=true
 |[],[],_,_=>rfl
 |[],_::_,h,_=>by simp at h
 |_::_,[],h,_=>by simp at h
 |a::l,x::f,h,hf=>by
  have h0:=hf 0 (by simp);simp at h0;unfold flowB;rw[Yy (by omega),Yy (by omega)];exact flow_mk (by simpa using h) (fun i hi=>by simpa using hf (i+1) (by simpa using hi))
theorem FlowOk.b {l:List S50} {f:List Int} (h:FlowOk l f):flowB l f=true:=
 flow_mk h.len fun i hi=>by have:=h.at_ i hi;rwa [rd_nat,rdArc_nat] at this
theorem FlowOk.int {l:List S50} {f:List Int} (h:FlowOk l f) {i:Int} (h0:0≤i) (h1:i<f.length):0≤rd f i∧rd f i≤(rd_T50 l i).f2:=by
 obtain⟨j,rfl⟩:=Int.eq_ofNat_of_zero_le h0;exact h.at_ j (by omega)
theorem FlowOk.small {n:Int} {l:List S50} {f:List Int} (h:FlowOk l f) (hn:NetOk n l) {i:Int} (h0:0≤i) (h1:i<f.length):0≤rd f i∧rd f i≤1048576:=by
 have h2:=h.int h0 h1;have h3:=(hn.at_ h0 (by rw[← h.len];exact h1)).h2;omega
theorem askErr_ok {n:Int} {l:List S50} {f:List Int} (h:askErr n l f=0):NetOk n l∧FlowOk l f:=by
 unfold askErr at h;split at h
 ·split at h
  ·exact⟨netErr_ok (by assumption),flow_ok (by assumption)⟩
  ·omega
 ·exact absurd h (by assumption)
theorem ask_of {n:Int} {l:List S50} {f:List Int} (h:NetOk n l) (hf:FlowOk l f):askErr n l f=0:=by
 unfold askErr;rw[Yx (netOk_err h),Yx hf.b]
theorem asked_l0 (l:List S50) (f:List Int) (n:Int) (b:Bool) (hl:l.length≤200) (hf:f.length=l.length) (d:Nat): ∀ i:Nat,i+d=l.length→
  Ev (fun k=>static_Asked.l0 k f (f.length:Int) (i:Int) n b l) (if flowB (l.drop i) (f.drop i)=true then 0 else 71):=by
 induction d with
 |zero=>
  intro i hi;refine Ev.succ ?_;simp only[static_Asked.l0];repeat(first|exact Ev.now _|with_reducible refine Ev.pos (by first|assumption|omega) ?_|with_reducible refine Ev.neg (by first|assumption|omega) ?_|with_reducible refine Ev.let_ ?_)
  rw[List.drop_of_length_le (by omega),List.drop_of_length_le (by omega)];exact Ev.now _
 |succ d ih=>
  intro i hi;refine Ev.succ ?_;simp only[static_Asked.l0];repeat(first|exact Ev.now _|with_reducible refine Ev.pos (by first|assumption|omega) ?_|with_reducible refine Ev.neg (by first|assumption|omega) ?_|with_reducible refine Ev.let_ ?_)
  rw[drop_getD l i z50 (by omega),drop_getD f i 0 (by omega),rdArc_nat,rd_nat];unfold flowB;refine Ev.ite (fun h=> ?_) (fun h=> ?_)
  ·rw[Yx h]
   exact Ev.now _
  ·rw[Yy h]
   repeat(first|exact Ev.now _|with_reducible refine Ev.pos (by first|assumption|omega) ?_|with_reducible refine Ev.neg (by first|assumption|omega) ?_|with_reducible refine Ev.let_ ?_)
   refine Ev.ite (fun g=> ?_) (fun g=> ?_)
   ·rw[Yx g]
    exact Ev.now _
   ·rw[Yy g,wrap_succ (n:=l.length) (by omega) (by omega)]
    exact ih (i+1) (by omega)
theorem flowB_ne {l:List S50} {f:List Int} (h: ¬ ((f.length:Int)=(l.length:Int))): ¬ flowB l f=true:=fun g=>h (by rw[flowB_len g])
theorem asked_ev (n:Int) (b:Bool) (l:List S50) (f:List Int):Ev (fun k=>static_Asked.f k n b l f) (askErr n l f):=by
 unfold static_Asked.f askErr;refine Ev.bind (check_ev n b l) ?_;refine Ev.ite (fun h=> ?_) (fun h=> ?_)
 ·rw[Yx h]
  have hn:=netErr_ok h;refine Ev.ite (fun g=> ?_) (fun g=> ?_)
  ·exact asked_l0 l f n b hn.len (by omega) l.length 0 (by omega)
  ·rw[Yy (flowB_ne g)]
   exact Ev.now _
 ·rw[Yy h]
  exact Ev.now _
theorem within_l0 (l:List S50) (f:List Int) (n:Int) (b:Bool) (hl:l.length≤200) (hf:f.length=l.length) (d:Nat): ∀ i:Nat,i+d=l.length→
  Ev (fun k=>ebbtideref07_Within.l0 k f (i:Int) n b l) (flowB (l.drop i) (f.drop i)):=by
 induction d with
 |zero=>
  intro i hi;refine Ev.succ ?_;simp only[ebbtideref07_Within.l0];repeat(first|exact Ev.now _|with_reducible refine Ev.pos (by first|assumption|omega) ?_|with_reducible refine Ev.neg (by first|assumption|omega) ?_|with_reducible refine Ev.let_ ?_)
  rw[List.drop_of_length_le (by omega),List.drop_of_length_le (by omega)];exact Ev.now _
 |succ d ih=>
  intro i hi;refine Ev.succ ?_;simp only[ebbtideref07_Within.l0];repeat(first|exact Ev.now _|with_reducible refine Ev.pos (by first|assumption|omega) ?_|with_reducible refine Ev.neg (by first|assumption|omega) ?_|with_reducible refine Ev.let_ ?_)
  rw[drop_getD l i z50 (by omega),drop_getD f i 0 (by omega),rdArc_nat,rd_nat];unfold flowB;refine Ev.ite (fun h=> ?_) (fun h=> ?_)
  ·rw[Yx h]
   exact Ev.now _
  ·rw[Yy h]
   repeat(first|exact Ev.now _|with_reducible refine Ev.pos (by first|assumption|omega) ?_|with_reducible refine Ev.neg (by first|assumption|omega) ?_|with_reducible refine Ev.let_ ?_)
   refine Ev.ite (fun g=> ?_) (fun g=> ?_)
   ·rw[Yx g]
    exact Ev.now _
   ·rw[Yy g,wrap_succ (n:=l.length) (by omega) (by omega)]
    exact ih (i+1) (by omega)
theorem within_ev (n:Int) (b:Bool) (l:List S50) (f:List Int) (hl:l.length≤200):Ev (fun k=>ebbtideref07_Within.f k n b l f) (flowB l f):=by
 unfold ebbtideref07_Within.f;refine Ev.ite (fun g=> ?_) (fun g=> ?_)
 ·exact within_l0 l f n b hl (by omega) l.length 0 (by omega)
 ·rw[Bool.eq_false_iff.2 (flowB_ne g)]
  exact Ev.now _
theorem ref_asked_ev (n:Int) (b:Bool) (l:List S50) (f:List Int):Ev (fun k=>ebbtideref07_Asked.f k n b l f) (askErr n l f):=by
 unfold ebbtideref07_Asked.f askErr;refine Ev.bind (ref_check_ev n b l) ?_;refine Ev.ite (fun h=> ?_) (fun h=> ?_)
 ·rw[Yx h]
  refine Ev.bind (within_ev n b l f (netErr_ok h).len) ?_;refine Ev.ite (fun g=> ?_) (fun g=> ?_)
  ·rw[Yx g];exact Ev.now _
  ·rw[Yy g];exact Ev.now _
 ·rw[Yy h]
  exact Ev.now _
theorem node_eq (n:Int) (b:Bool) (l:List S50) (v:Int):ebbtideref06_Node.f n b l v=some (decide (0≤v∧v<n)):=by
 unfold ebbtideref06_Node.f;split
 ·rename_i h
  congr 1;by_cases g:v<n<;>simp[g]<;>omega
 ·rename_i h
  congr 1;symm;exact Yw (by omega)
end Q
namespace Q
open P
def bal:List S50→List Int→Int→Int
 |a::l,x::f,v=>(if a.f0=v then x else 0) - (if a.f1=v then x else 0)+bal l f v
 |_,_,_=>0
theorem bal_cons (a:S50) (l:List S50) (x:Int) (f:List Int) (v:Int):bal (a::l) (x::f) v=(if a.f0=v then x else 0) - (if a.f1=v then x else 0)+bal l f v:=rfl
def balOf (n:Int) (l:List S50) (f:List Int):List Int:=(List.range n.toNat).map fun v:Nat=>bal l f v
theorem balOf_len (n:Int) (l:List S50) (f:List Int):(balOf n l f).length=n.toNat:=by simp[balOf]
theorem rd_balOf {n:Int} {l:List S50} {f:List Int} {v:Int} (h0:0≤v) (h1:v<n):rd (balOf n l f) v=bal l f v:=by
 obtain⟨j,rfl⟩:=Int.eq_ofNat_of_zero_le h0;have hj:j<n.toNat:=by omega
 rw[rd_nat,balOf,List.getD_eq_getElem?_getD];simp[hj]
def balRes (n:Int) (l:List S50) (f:List Int):List Int × Int:=if askErr n l f=0 then(balOf n l f,0) else([],askErr n l f)
theorem leaves_l0 (n m:Int) (b:Bool) (l:List S50) (f:List Int) (hn:NetOk m l) (hf:FlowOk l f) (v:Int) (d:Nat): ∀ (i:Nat) (acc:Int),i+d=l.length→ -(i * 2097152)≤acc→acc≤i * 2097152→
  Ev (fun k=>ebbtideref07_Leaves.l0 k f v acc (i:Int) n b l) (acc+bal (l.drop i) (f.drop i) v):=by
 have hlen:=hf.len;have hl:=hn.len
 induction d with
 |zero=>
  intro i acc hi h0 h1;refine Ev.succ ?_;simp only[ebbtideref07_Leaves.l0];repeat(first|exact Ev.now _|with_reducible refine Ev.pos (by first|assumption|omega) ?_|with_reducible refine Ev.neg (by first|assumption|omega) ?_|with_reducible refine Ev.let_ ?_)
  rw[List.drop_of_length_le (by omega)];exact Ev.done (by simp[bal])
 |succ d ih=>
  intro i acc hi h0 h1;have hs:=hf.small hn (i:=(i:Int)) (by omega) (by omega);refine Ev.succ ?_;simp only[ebbtideref07_Leaves.l0];repeat(first|exact Ev.now _|with_reducible refine Ev.pos (by first|assumption|omega) ?_|with_reducible refine Ev.neg (by first|assumption|omega) ?_|with_reducible refine Ev.let_ ?_)
  rw[wrap_succ (n:=l.length) (by omega) (by omega),drop_getD l i z50 (by omega),drop_getD f i 0 (by omega), ← rdArc_nat, ← rd_nat,bal_cons];refine Ev.ite (fun g=> ?_) (fun g=> ?_)
  ·rw[Yx g]
   refine Ev.ite (fun g2=> ?_) (fun g2=> ?_)
   ·rw[Yx g2,wrap_id (x:=acc+rd f (i:Int)) (by omega) (by omega),wrap_id (by omega) (by omega)]
    exact Ev.eq (ih (i+1) _ (by omega) (by omega) (by omega)) (by omega)
   ·rw[Yy g2,wrap_id (x:=acc+rd f (i:Int)) (by omega) (by omega)]
    exact Ev.eq (ih (i+1) _ (by omega) (by omega) (by omega)) (by omega)
  ·rw[Yy g]
   refine Ev.ite (fun g2=> ?_) (fun g2=> ?_)
   ·rw[Yx g2,wrap_id (x:=acc - rd f (i:Int)) (by omega) (by omega)]
    exact Ev.eq (ih (i+1) _ (by omega) (by omega) (by omega)) (by omega)
   ·rw[Yy g2]
    exact Ev.eq (ih (i+1) _ (by omega) (by omega) (by omega)) (by omega)
theorem leaves_ev (n m:Int) (b:Bool) (l:List S50) (f:List Int) (hn:NetOk m l) (hf:FlowOk l f) (v:Int):Ev (fun k=>ebbtideref07_Leaves.f k n b l f v) (bal l f v):=by
 unfold ebbtideref07_Leaves.f;exact Ev.eq (leaves_l0 n m b l f hn hf v l.length 0 0 (by omega) (by omega) (by omega)) (by rw[List.drop_zero,List.drop_zero];omega)
theorem ref_balance_l0 (n:Int) (b:Bool) (l:List S50) (f:List Int) (hn:NetOk n l) (hf:FlowOk l f) (d:Nat): ∀ (i:Nat),i+d=n.toNat→
  Ev (fun k=>ebbtideref07_Balance.l0 k f ((List.range i).map fun v:Nat=>bal l f v) (i:Int) n b l) (balOf n l f,0):=by
 have:=hn.lo;have:=hn.hi
 induction d with
 |zero=>
  intro i hi;refine Ev.succ ?_;simp only[ebbtideref07_Balance.l0];repeat(first|exact Ev.now _|with_reducible refine Ev.pos (by first|assumption|omega) ?_|with_reducible refine Ev.neg (by first|assumption|omega) ?_|with_reducible refine Ev.let_ ?_)
  exact Ev.done (by unfold balOf;rw[show i=n.toNat by omega])
 |succ d ih=>
  intro i hi;refine Ev.succ ?_;simp only[ebbtideref07_Balance.l0];repeat(first|exact Ev.now _|with_reducible refine Ev.pos (by first|assumption|omega) ?_|with_reducible refine Ev.neg (by first|assumption|omega) ?_|with_reducible refine Ev.let_ ?_)
  refine Ev.bind (leaves_ev n n b l f hn hf i) ?_;refine Ev.pos (by simp;omega) ?_;rw[wrap_succ (n:=n.toNat) (by omega) (by omega)];have e:((List.range i).map fun v:Nat=>bal l f v) ++ [bal l f (i:Int)]=(List.range (i+1)).map fun v:Nat=>bal l f v:=by simp[List.range_succ]
  rw[e];exact ih (i+1) (by omega)
theorem ref_balance_ev (n:Int) (b:Bool) (l:List S50) (f:List Int):Ev (fun k=>ebbtideref07_Balance.f k n b l f) (balRes n l f):=by
 unfold ebbtideref07_Balance.f balRes askErr;refine Ev.bind (ref_check_ev n b l) ?_;refine Ev.ite (fun h=> ?_) (fun h=> ?_)
 ·rw[Yx h]
  have hn:=netErr_ok h;refine Ev.bind (within_ev n b l f hn.len) ?_;refine Ev.ite (fun g=> ?_) (fun g=> ?_)
  ·rw[Yx g,Yx rfl]
   exact ref_balance_l0 n b l f hn (flow_ok g) n.toNat 0 (by omega)
  ·rw[Yy g,Yy (by decide)]
   exact Ev.now _
 ·rw[Yy h,Yy h]
  exact Ev.now _
theorem balRes_ok {n:Int} {l:List S50} {f:List Int} (h:askErr n l f=0):balRes n l f=(balOf n l f,0):=by unfold balRes;rw[Yx h]
theorem balRes_no {n:Int} {l:List S50} {f:List Int} (h: ¬ askErr n l f=0):balRes n l f=([],askErr n l f):=by unfold balRes;rw[Yy h]
end Q
namespace H
open P Q
def goS (F:List Int) (s:S79) (k:Int):List Int:=F.set s.f0.toNat (if s.f1 then F.getD s.f0.toNat 0 - k else F.getD s.f0.toNat 0+k)
def pushW (F:List Int) (k:Int) (L:List S79):List Int:=L.foldl (fun F s=>goS F s k) F
theorem goS_len (F:List Int) (s:S79) (k:Int):(goS F s k).length=F.length:=by simp[goS]
theorem stRoom_in {l:List S50} {F:List Int} {n:Nat} (hr:Right l F n) {s:S79} (hs:StepOf l s):0≤stRoom l F s∧stRoom l F s≤1048576:=by
 obtain⟨i,h1,h2⟩:=hs;have:=hr.nums i h1;unfold stRoom;rw[h2,Int.toNat_natCast];split<;>omega
theorem Right.go {l:List S50} {F:List Int} {n:Nat} (hr:Right l F n) {s:S79} (hs:StepOf l s) {k:Int} (h0:0≤k) (hk:k≤stRoom l F s):Right l (goS F s k) n:=by
 obtain⟨i,h1,h2⟩:=hs;have hi:=hr.nums i h1;have hl:=hr.len;refine⟨hr.pos,hr.fifty,hr.arcs,by rw[goS_len];exact hl,hr.ends,fun j hj=> ?_⟩;have h3:=hr.nums j hj;unfold stRoom at hk;rw[h2,Int.toNat_natCast] at hk;unfold goS;rw[h2,Int.toNat_natCast];by_cases e:i=j
 ·subst e
  rw[getD_set_eq _ _ _ _ (by omega)];cases hb:s.f1<;>rw[hb] at hk<;>simp only[Bool.false_eq_true,if_false,if_true] at hk ⊢ <;>omega
 ·rw[getD_set_ne _ _ _ _ _ e]
  exact h3
theorem room_other {l:List S50} {F:List Int} {s s':S79} (hs:StepOf l s) (hs':StepOf l s') (k:Int) (h:s.f0≠s'.f0):stRoom l (goS F s k) s'=stRoom l F s':=by
 obtain⟨i,h1,h2⟩:=hs;obtain⟨j,h3,h4⟩:=hs';unfold stRoom goS;rw[h2,h4,Int.toNat_natCast,Int.toNat_natCast,getD_set_ne _ _ _ _ _ (fun e=>h (by rw[h2,h4,e]))]
theorem Right.pushW {l:List S50} {n:Nat} {k:Int} (h0:0≤k) (L:List S79): ∀ {F:List Int},Right l F n→(∀ s,s∈L→StepOf l s∧k≤stRoom l F s)→L.Pairwise (fun a b=>a.f0≠b.f0)→Right l (H.pushW F k L) n:=by
 induction L with
 |nil=>intro F hr _ _;exact hr
 |cons s L ih=>
  intro F hr h hp;rw[List.pairwise_cons] at hp;have hs:=h s List.mem_cons_self;refine ih (hr.go hs.1 h0 hs.2) (fun x hx=> ?_) hp.2;have hx2:=h x (List.mem_cons_of_mem _ hx);exact⟨hx2.1,by rw[room_other hs.1 hx2.1 k (hp.1 x hx)];exact hx2.2⟩
theorem bal_set (l:List S50) (v:Int): ∀ (f:List Int) (i:Nat) (y:Int),f.length=l.length→i<l.length→
  bal l (f.set i y) v=bal l f v+(if (rd_T50 l i).f0=v then y - f.getD i 0 else 0) - (if (rd_T50 l i).f1=v then y - f.getD i 0 else 0):=by
 induction l with
 |nil=>intro f i y h hi;simp at hi
 |cons a l ih=>
  intro f i y h hi;cases f with
  |nil=>simp at h
  |cons x f=>
   cases i with
   |zero=>
    have e:rd_T50 (a::l) ((0:Nat):Int)=a:=rfl;rw[e];simp only[List.set_cons_zero,List.getD_cons_zero,bal_cons];split<;>split<;>omega
   |succ i=>
    have e:rd_T50 (a::l) ((i+1:Nat):Int)=rd_T50 l (i:Int):=by rw[rdArc_nat,rdArc_nat];rfl
    rw[e];simp only[List.set_cons_succ,List.getD_cons_succ,bal_cons];rw[ih f i y (by simpa using h) (by simpa using hi)];omega
theorem bal_go {l:List S50} {f:List Int} (hl:f.length=l.length) {s:S79} (hs:StepOf l s) (k v:Int):
  bal l (goS f s k) v=bal l f v+(if stFrom l s=v then k else 0) - (if stTo l s=v then k else 0):=by
 obtain⟨i,h1,h2⟩:=hs;unfold goS stFrom stTo eFrom eTo;rw[h2,Int.toNat_natCast,bal_set l v f _ _ hl h1];cases s.f1
 ·simp only[Bool.false_eq_true,if_false]
  split<;>split<;>omega
 ·simp only[if_true]
  split<;>split<;>omega
def Trail (l:List S50):Int→List S79→Int→Prop
 |a,[],b=>a=b
 |a,s::L,b=>StepOf l s∧stFrom l s=a∧Trail l (stTo l s) L b
theorem Trail.of {l:List S50} : ∀ {L:List S79} {a b:Int},Trail l a L b→ ∀ s,s∈L→StepOf l s
 |[],_,_,_,s,hs=>by cases hs
 |x::L,_,_,h,s,hs=>(List.mem_cons.1 hs).elim (fun e=>e▸h.1) (h.2.2.of s)
theorem bal_pushW {l:List S50} (k v:Int): ∀ {L:List S79} {f:List Int} {a b:Int},f.length=l.length→Trail l a L b→
  bal l (pushW f k L) v=bal l f v+(if v=a then k else 0) - (if v=b then k else 0)
 |[],f,a,b,_,h=>by
  have h:a=b:=h;subst h;show bal l f v=_;omega
 |s::L,f,a,b,hl,h=>by
  obtain⟨hs,rfl,ht⟩:=h;show bal l (pushW (goS f s k) k L) v=_;rw[bal_pushW k v (by rw[goS_len,hl]) ht,bal_go hl hs];have e1:(if v=stTo l s then k else 0)=(if stTo l s=v then k else 0):=by
   by_cases e:stTo l s=v
   ·rw[Yx e,Yx e.symm]
   ·rw[Yy e,Yy (Ne.symm e)]
  have e2:(if v=stFrom l s then k else 0)=(if stFrom l s=v then k else 0):=by
   by_cases e:stFrom l s=v
   ·rw[Yx e,Yx e.symm]
   ·rw[Yy e,Yy (Ne.symm e)]
  rw[e1,e2];omega
def leastR (l:List S50) (F:List Int):List S79→Int
 |[]=>0
 |[s]=>stRoom l F s
 |s::t::L=>min (stRoom l F s) (leastR l F (t::L))
theorem leastR_le {l:List S50} {F:List Int} : ∀ {L:List S79} {s:S79},s∈L→leastR l F L≤stRoom l F s
 |[],s,h=>by cases h
 |[x],s,h=>by rw[List.mem_singleton.1 h];exact Int.le_refl _
 |x::y::L,s,h=>by
  unfold leastR;rcases List.mem_cons.1 h with rfl|h
  ·omega
  ·have:=leastR_le (l:=l) (F:=F) h
   omega
theorem leastR_in {l:List S50} {F:List Int} : ∀ {L:List S79},L≠[]→ ∃ s,s∈L∧leastR l F L=stRoom l F s
 |[],h=>absurd rfl h
 |[x],_=>⟨x,List.mem_cons_self,rfl⟩
 |x::y::L,_=>by
  obtain⟨s,h1,h2⟩:=leastR_in (l:=l) (F:=F) (L:=y::L) (by simp);unfold leastR;by_cases h:stRoom l F x≤leastR l F (y::L)
  ·exact⟨x,List.mem_cons_self,by omega⟩
  ·exact⟨s,List.mem_cons_of_mem _ h1,by omega⟩
end H
namespace H
open P Q
def outR (R:Int→Bool):List S50→List Int→Int
 |a::l,x::f=>(if R a.f0 then x else 0) - (if R a.f1 then x else 0)+outR R l f
 |_,_=>0
theorem outR_cons (R:Int→Bool) (a:S50) (l:List S50) (x:Int) (f:List Int):outR R (a::l) (x::f)=(if R a.f0 then x else 0) - (if R a.f1 then x else 0)+outR R l f:=rfl
def capR (R:Int→Bool):List S50→Int
 |[]=>0
 |a::l=>(if R a.f0 && !R a.f1 then a.f2 else 0)+capR R l
theorem capR_cons (R:Int→Bool) (a:S50) (l:List S50):capR R (a::l)=(if R a.f0 && !R a.f1 then a.f2 else 0)+capR R l:=rfl
def sumR (R:Int→Bool) (g:Int→Int):Nat→Int
 |0=>0
 |n+1=>sumR R g n+(if R n then g n else 0)
theorem sumR_add (R:Int→Bool) (g h:Int→Int) (n:Nat):sumR R (fun v=>g v+h v) n=sumR R g n+sumR R h n:=by
 induction n with
 |zero=>rfl
 |succ n ih=>unfold sumR;rw[ih];split<;>omega
theorem sumR_one (R:Int→Bool) (a x:Int) (n:Nat) (h0:0≤a) (h1:a<n):sumR R (fun v=>if a=v then x else 0) n=if R a then x else 0:=by
 have aux: ∀ m:Nat,sumR R (fun v=>if a=v then x else 0) m=if a<m then(if R a then x else 0) else 0:=by
  intro m
  induction m with
  |zero=>rw[Yy (by omega)];rfl
  |succ m ih=>
   unfold sumR;rw[ih];show _+(if R m then(if a=(m:Int) then x else 0) else 0)=_;by_cases e:a=(m:Int)
   ·subst e
    rw[Yy (Int.lt_irrefl _),Yx (show (m:Int)<((m+1:Nat):Int) by omega),Yx rfl];omega
   ·have e2:(if R m then(if a=(m:Int) then x else 0) else 0)=0:=by rw[Yy e];split<;>rfl
    rw[e2];by_cases hm:a<(m:Int)
    ·rw[Yx hm,Yx (show a<((m+1:Nat):Int) by omega)]
     omega
    ·rw[Yy hm,Yy (show ¬ a<((m+1:Nat):Int) by omega)]
     omega
 rw[aux,Yx h1]
theorem sumR_zero (R:Int→Bool) (n:Nat):sumR R (fun _=>0) n=0:=by
 induction n with
 |zero=>rfl
 |succ n ih=>unfold sumR;rw[ih];simp
theorem sumR_neg (R:Int→Bool) (g:Int→Int) (n:Nat):sumR R (fun v=> -g v) n= -sumR R g n:=by
 induction n with
 |zero=>rfl
 |succ n ih=>unfold sumR;rw[ih];split<;>omega
theorem sum_bal (R:Int→Bool) (n:Nat): ∀ (l:List S50) (f:List Int),(∀ a,a∈l→(0≤a.f0∧a.f0<n)∧0≤a.f1∧a.f1<n)→f.length=l.length→sumR R (bal l f) n=outR R l f
 |[],[],_,_=>by
  have e:bal ([]:List S50) []=fun _=>0:=rfl
  rw[e,sumR_zero];rfl
 |[],_::_,_,h=>by simp at h
 |_::_,[],_,h=>by simp at h
 |a::l,x::f,h,hl=>by
  obtain⟨⟨h1,h2⟩,h3,h4⟩:=h a List.mem_cons_self;have e:bal (a::l) (x::f)=fun v=>((if a.f0=v then x else 0)+ -(if a.f1=v then x else 0))+bal l f v:=by
   funext v;rw[bal_cons];omega
  rw[e,sumR_add,sumR_add,sumR_one R _ x n h1 h2,sumR_neg,sumR_one R _ x n h3 h4,sum_bal R n l f (fun b hb=>h b (List.mem_cons_of_mem _ hb)) (by simpa using hl),outR_cons];omega
theorem sumR_ends {R:Int→Bool} {g:Int→Int} {s t:Int} (n:Nat) (hs:R s=true) (ht:R t=false) (h0:0≤s) (h1:s<n) (hg: ∀ v:Int,0≤v→v<n→v≠s→v≠t→g v=0):sumR R g n=g s:=by
 have aux: ∀ m:Nat,m≤n→sumR R g m=if s<m then g s else 0:=by
  intro m
  induction m with
  |zero=>intro _;rw[Yy (by omega)];rfl
  |succ m ih=>
   intro hm;unfold sumR;rw[ih (by omega)];show _+(if R m then g m else 0)=_;by_cases e:s=(m:Int)
   ·subst e
    rw[Yy (Int.lt_irrefl _),Yx hs,Yx (show (m:Int)<((m+1:Nat):Int) by omega)];omega
   ·have e2:(if R m then g m else 0)=0:=by
     by_cases e3:t=(m:Int)
     ·rw[← e3,ht];rfl
     ·rw[hg m (by omega) (by omega) (Ne.symm e) (Ne.symm e3)];split<;>rfl
    rw[e2];by_cases h:s<(m:Int)
    ·rw[Yx h,Yx (show s<((m+1:Nat):Int) by omega)];omega
    ·rw[Yy h,Yy (show ¬ s<((m+1:Nat):Int) by omega)];omega
 rw[aux n (Nat.le_refl _),Yx h1]
theorem outR_le (R:Int→Bool): ∀ (l:List S50) (f:List Int),flowB l f=true→outR R l f≤capR R l
 |[],[],_=>by simp[outR,capR]
 |[],_::_,h=>by simp[flowB] at h
 |_::_,[],h=>by simp[flowB] at h
 |a::l,x::f,h=>by
  unfold flowB at h;split at h
  ·cases h
  ·split at h
   ·cases h
   ·have:=outR_le R l f h
    rw[outR_cons,capR_cons];cases R a.f0<;>cases R a.f1<;>simp<;>omega
structure IsFlow (l:List S50) (F:List Int) (n:Nat) (s t:Int):Prop where
 right:Right l F n
 keeps: ∀ v:Int,0≤v→v<n→v≠s→v≠t→bal l F v=0
theorem ends_arcs {l:List S50} {n:Nat} (h:ends l n): ∀ a,a∈l→(0≤a.f0∧a.f0<n)∧0≤a.f1∧a.f1<n:=by
 intro a ha;obtain⟨i,hi,e⟩:=List.getElem_of_mem ha;have h1:=h i hi;unfold eFrom eTo at h1;rw[rdArc_nat,List.getD_eq_getElem?_getD,List.getElem?_eq_getElem hi] at h1;have e2:(some l[i]).getD z50=a:=e;rw[e2] at h1;exact h1
theorem Right.flowB {l:List S50} {F:List Int} {n:Nat} (h:Right l F n):flowB l F=true:=by
 have hl:=h.len;refine flow_mk hl fun i hi=> ?_
 have:=h.nums i (by omega);rw[rdArc_nat] at this;exact⟨this.2.2.1,this.2.2.2.1⟩
theorem value_le {l:List S50} {F:List Int} {n:Nat} {s t:Int} (h:IsFlow l F n s t) (R:Int→Bool) (hs:R s=true) (ht:R t=false) (h0:0≤s) (h1:s<n):bal l F s≤capR R l:=by
 rw[← sumR_ends n hs ht h0 h1 h.keeps,sum_bal R n l F (ends_arcs h.right.ends) h.right.len];exact outR_le R l F h.right.flowB
theorem capR_top (R:Int→Bool): ∀ (l:List S50),(∀ a,a∈l→0≤a.f2∧a.f2≤1048576)→0≤capR R l∧capR R l≤1048576 * l.length
 |[],_=>by simp[capR]
 |a::l,h=>by
  have h1:=h a List.mem_cons_self;have h2:=capR_top R l fun b hb=>h b (List.mem_cons_of_mem _ hb)
  rw[List.length_cons,capR_cons];split<;>omega
theorem Right.caps {l:List S50} {F:List Int} {n:Nat} (h:Right l F n): ∀ a,a∈l→0≤a.f2∧a.f2≤1048576:=by
 intro a ha;obtain⟨i,hi,e⟩:=List.getElem_of_mem ha;have h1:=h.nums i hi;rw[rdArc_nat,List.getD_eq_getElem?_getD,List.getElem?_eq_getElem hi] at h1;have e2:(some l[i]).getD z50=a:=e;rw[e2] at h1;omega
end H
namespace H
open P Q
def esP (l:List S50) (F:List Int) (u:Nat):List S79:=(stL l u l.length).filter fun e=>decide (0<stRoom l F e)
def toP (l:List S50) (e:S79):Nat:=(stTo l e).toNat
def frP (l:List S50) (e:S79):Nat:=(stFrom l e).toNat
theorem mem_esP {l:List S50} {F:List Int} {u:Nat} {e:S79} :e∈esP l F u↔e∈stL l u l.length∧0<stRoom l F e:=by
 unfold esP;rw[List.mem_filter,decide_eq_true_eq]
theorem frP_of {l:List S50} {u:Nat} {e:S79} (h:e∈stL l u l.length):frP l e=u:=by
 unfold frP;rw[stL_from h,Int.toNat_natCast]
theorem toP_lt {l:List S50} {F:List Int} {n:Nat} (hr:Right l F n) {s:S79} (hs:StepOf l s):toP l s<n:=by
 have:=stTo_in hr hs;unfold toP;omega
theorem frP_lt {l:List S50} {F:List Int} {n:Nat} (hr:Right l F n) {s:S79} (hs:StepOf l s):frP l s<n:=by
 have:=stFrom_in hr hs;unfold frP;omega
theorem esP_of {l:List S50} {F:List Int} {n:Nat} (hr:Right l F n) {e:S79} (hs:StepOf l e) (h:0<stRoom l F e):e∈esP l F (frP l e):=by
 refine mem_esP.2 ⟨?_,h⟩;have hf:=stFrom_in hr hs;rw[mem_stL];unfold frP;rw[Int.toNat_of_nonneg hf.1];obtain⟨i,h1,h2⟩:=hs;refine⟨i,h1,h2,?_⟩;unfold stFrom;rw[h2];cases e.f1
 ·exact .inl ⟨rfl,rfl⟩
 ·exact .inr ⟨rfl,rfl⟩
theorem leads_trail {l:List S50} {F:List Int} {n:Nat} (hr:Right l F n) {rows:Nat→List S79} (hrows: ∀ u e,e∈rows u→e∈stL l u l.length): ∀ {L:List S79} {s t:Nat},Leads (toP l) rows s L t→Trail l s L t
 |[],s,t,h=>by cases h;rfl
 |x::L,s,t,h=>by
  have hx:=hrows _ _ h.1;refine⟨stL_of hx,stL_from hx,?_⟩;have h1:=stTo_in hr (stL_of hx);have h2:=leads_trail hr hrows h.2;unfold toP at h2;rw[Int.toNat_of_nonneg h1.1] at h2;exact h2
theorem flow_top {l:List S50} {F:List Int} {n s t:Nat} (hf:IsFlow l F n s t) (hs:s<n) (hst:s≠t):bal l F s≤209715200:=by
 have h1:=value_le hf (fun v=>decide (v=(s:Int))) (by simp) (by simp;omega) (by omega) (by omega);have h2:=capR_top (fun v=>decide (v=(s:Int))) l hf.right.caps;have h3:=hf.right.arcs;have h4:1048576 * (l.length:Int)≤1048576 * 200:=by omega
 omega
theorem zeros_flow {l:List S50} {n s t:Nat} (h0:0<n) (h50:n≤50) (hl:l.length≤200) (he:ends l n) (hn: ∀ i:Nat,i<l.length→0≤(rd_T50 l i).f3∧(rd_T50 l i).f3≤1048576∧0≤(rd_T50 l i).f2∧(rd_T50 l i).f2≤1048576):
  IsFlow l (List.replicate l.length 0) n s t∧bal l (List.replicate l.length 0) s=0:=by
 have hz: ∀ (l:List S50) (v:Int),bal l (List.replicate l.length 0) v=0:=by
  intro l v
  induction l with
  |nil=>rfl
  |cons a l ih=>rw[List.length_cons,List.replicate_succ,bal_cons,ih];split<;>split<;>rfl
 refine⟨⟨⟨h0,h50,hl,by simp,he,fun i hi=> ?_⟩,fun v _ _ _ _=>hz l v⟩,hz l _⟩;have:=hn i hi;have e:(List.replicate l.length (0:Int)).getD i 0=0:=by rw[List.getD_eq_getElem?_getD,List.getElem?_replicate,Yx hi];rfl
 rw[e];omega
end H
namespace H
open P Q
theorem zeros_of {l:List S50} {F:List Int} {n s t:Nat} (h:Right l F n):IsFlow l (List.replicate l.length 0) n s t∧bal l (List.replicate l.length 0) s=0:=
 zeros_flow h.pos h.fifty h.arcs h.ends (fun i hi=>by have:=h.nums i hi;exact⟨this.1,this.2.1,by omega,by omega⟩)
end H
namespace H
def sumN (f:Nat→Int):Nat→Int
 |0=>0
 |n+1=>sumN f n+f n
theorem sumN_add (f g:Nat→Int) (n:Nat):sumN (fun v=>f v+g v) n=sumN f n+sumN g n:=by
 induction n with
 |zero=>rfl
 |succ n ih=>simp only[sumN,ih];omega
theorem sumN_congr {f g:Nat→Int} {n:Nat} (h: ∀ v,v<n→f v=g v):sumN f n=sumN g n:=by
 induction n with
 |zero=>rfl
 |succ n ih=>simp only[sumN];rw[ih (fun v hv=>h v (by omega)),h n (by omega)]
theorem sumN_zero (n:Nat):sumN (fun _=>0) n=0:=by
 induction n with
 |zero=>rfl
 |succ n ih=>simp only[sumN,ih];rfl
theorem sumN_single (p:Nat→Int) (x:Int) (u n:Nat) (hu:u<n):sumN (fun v=>p v * (if u=v then x else 0)) n=p u * x:=by
 induction n with
 |zero=>omega
 |succ n ih=>
  simp only[sumN];by_cases h:u=n
  ·subst h
   rw[Yx rfl,sumN_congr (g:=fun _=>0) (fun v hv=>by rw[Yy (by omega)];exact Int.mul_zero _),sumN_zero];omega
  ·rw[ih (by omega),Yy h,Int.mul_zero,Int.add_zero]
structure Two where
 a:Nat
 b:Nat
 t:Int
 f:Int
 g:Int
def balT (L:List Two) (x:Two→Int) (v:Nat):Int:=
 match L with
 |[]=>0
 |e::L=>((if e.a=v then x e else 0) - (if e.b=v then x e else 0))+balT L x v
def costT (L:List Two) (x:Two→Int):Int:=
 match L with
 |[]=>0
 |e::L=>x e * e.t+costT L x
def potT (L:List Two) (x:Two→Int) (p:Nat→Int):Int:=
 match L with
 |[]=>0
 |e::L=>(p e.a * x e - p e.b * x e)+potT L x p
theorem potT_bal (L:List Two) (x:Two→Int) (p:Nat→Int) (n:Nat) (h: ∀ e,e∈L→e.a<n∧e.b<n):potT L x p=sumN (fun v=>p v * balT L x v) n:=by
 induction L with
 |nil=>
  simp only[potT,balT];rw[sumN_congr (g:=fun _=>0) (fun v _=>Int.mul_zero _),sumN_zero]
 |cons e L ih=>
  have h1:=h e List.mem_cons_self;simp only[potT,balT];rw[ih (fun e he=>h e (List.mem_cons_of_mem _ he))];rw[sumN_congr (f:=fun v=>p v * (((if e.a=v then x e else 0) - (if e.b=v then x e else 0))+balT L x v)) (g:=fun v=>(p v * (if e.a=v then x e else 0)+p v * -(if e.b=v then x e else 0))+p v * balT L x v) (fun v _=>by rw[Int.mul_add,Int.mul_sub,Int.mul_neg];omega)];rw[sumN_add (fun v=>p v * (if e.a=v then x e else 0)+p v * -(if e.b=v then x e else 0)),sumN_add,sumN_single p (x e) e.a n h1.1];rw[sumN_congr (f:=fun v=>p v * -(if e.b=v then x e else 0)) (g:=fun v=>p v * (if e.b=v then -(x e) else 0)) (fun v _=>by split<;>simp),sumN_single p (-(x e)) e.b n h1.2,Int.mul_neg];omega
theorem term_nonneg {t pa pb f g:Int} (h1:f<g→pb≤pa+t) (h2:g<f→pa≤pb - t):f * t+(pa * f - pb * f)≤g * t+(pa * g - pb * g):=by
 have key:0≤(g - f) * (t+pa - pb):=by
  rcases Int.lt_trichotomy f g with h|h|h
  ·exact Int.mul_nonneg (by omega) (by have:=h1 h;omega)
  ·rw[h,Int.sub_self,Int.zero_mul];exact Int.le_refl _
  ·have:=h2 h
   have h3:0≤(f - g) * (pb - pa - t):=Int.mul_nonneg (by omega) (by omega);have h4:(f - g) * (pb - pa - t)=(g - f) * (t+pa - pb):=by
    rw[show f - g= -(g - f) by omega,show pb - pa - t= -(t+pa - pb) by omega,Int.neg_mul_neg]
   rw[h4] at h3;exact h3
 have h5:(g - f) * (t+pa - pb)=(g * t+g * pa - g * pb) - (f * t+f * pa - f * pb):=by
  rw[Int.sub_mul,Int.mul_sub,Int.mul_add,Int.mul_sub,Int.mul_add]
 rw[h5] at key;rw[Int.mul_comm pa f,Int.mul_comm pb f,Int.mul_comm pa g,Int.mul_comm pb g];omega
theorem cheapest (L:List Two) (n:Nat) (p:Nat→Int) (h: ∀ e,e∈L→e.a<n∧e.b<n) (hp: ∀ e,e∈L→(e.f<e.g→p e.b≤p e.a+e.t)∧(e.g<e.f→p e.a≤p e.b - e.t))
  (hb: ∀ v,v<n→balT L Two.f v=balT L Two.g v):costT L Two.f≤costT L Two.g:=by
 have h1: ∀ L:List Two,(∀ e,e∈L→(e.f<e.g→p e.b≤p e.a+e.t)∧(e.g<e.f→p e.a≤p e.b - e.t))→costT L Two.f+potT L Two.f p≤costT L Two.g+potT L Two.g p:=by
  intro L
  induction L with
  |nil=>intro _;exact Int.le_refl _
  |cons e L ih=>
   intro hp;have h2:=ih (fun e he=>hp e (List.mem_cons_of_mem _ he));have h3:=hp e List.mem_cons_self;have h4:=term_nonneg h3.1 h3.2;simp only[costT,potT];omega
 have h2:=h1 L hp;rw[potT_bal L Two.f p n h,potT_bal L Two.g p n h,sumN_congr (g:=fun v=>p v * balT L Two.g v) (fun v hv=>by rw[hb v hv])] at h2;omega
end H
namespace H
open P Q
def payS:List S50→List Int→Int
 |a::l,x::f=>x * a.f3+payS l f
 |_,_=>0
theorem payS_cons (a:S50) (l:List S50) (x:Int) (f:List Int):payS (a::l) (x::f)=x * a.f3+payS l f:=rfl
def TightP (l:List S50) (F:List Int) (p:Nat→Int):Prop:= ∀ e:S79,StepOf l e→0<stRoom l F e→p (toP l e)≤p (frP l e)+stTime l e
def TightO (l:List S50) (F:List Int) (d:Nat→Option Int):Prop:= ∀ e:S79,StepOf l e→0<stRoom l F e→ ∀ x,d (frP l e)=some x→ ∃ y,d (toP l e)=some y∧y≤x+stTime l e
def minO (d:Nat→Option Int) (q:Nat→Int) (v:Nat):Int:=match d v with|some x=>min x (q v)|none=>q v
theorem minO_some {d:Nat→Option Int} {q:Nat→Int} {v:Nat} {x:Int} (h:d v=some x):minO d q v=min x (q v):=by unfold minO;rw[h]
theorem minO_le (d:Nat→Option Int) (q:Nat→Int) (v:Nat):minO d q v≤q v:=by
 unfold minO;split
 ·omega
 ·exact Int.le_refl _
theorem TightP.min_ {l:List S50} {F:List Int} {d:Nat→Option Int} {q:Nat→Int} (hd:TightO l F d) (hq:TightP l F q):TightP l F (minO d q):=by
 intro e he hr;have h2:=hq e he hr;have h3:=minO_le d q (toP l e);cases hx:d (frP l e) with
 |none=>
  have:minO d q (frP l e)=q (frP l e):=by unfold minO;rw[hx]
  omega
 |some x=>
  obtain⟨y,hy,hle⟩:=hd e he hr x hx;rw[minO_some hx];rw[minO_some hy] at h3 ⊢;omega
theorem TightP.plus {l:List S50} {F:List Int} {q:Nat→Int} (hq:TightP l F q) (c:Int):TightP l F (fun v=>q v+c):=by
 intro e he hr;have:=hq e he hr;show q _+c≤q _+c+_;omega
theorem tight_zero {l:List S50} {n:Nat} (hr:Right l (List.replicate l.length 0) n):TightP l (List.replicate l.length 0) (fun _=>0):=by
 intro e he hrm;obtain⟨i,h1,h2⟩:=he;have hn:=hr.nums i h1;have e0:(List.replicate l.length (0:Int)).getD i 0=0:=by rw[List.getD_eq_getElem?_getD,List.getElem?_replicate,Yx h1];rfl
 unfold stRoom at hrm;rw[h2,Int.toNat_natCast] at hrm;unfold stTime;rw[h2];cases hb:e.f1<;>rw[hb] at hrm<;>simp only[Bool.false_eq_true,if_false,if_true] at hrm ⊢
 ·omega
 ·omega
theorem outR_compl (R:Int→Bool): ∀ (l:List S50) (f:List Int),outR R l f+outR (fun v=> !R v) l f=0
 |[],_=>by simp[outR]
 |_::_,[]=>by simp[outR]
 |a::l,x::f=>by
  have:=outR_compl R l f;rw[outR_cons,outR_cons];cases R a.f0<;>cases R a.f1<;>simp<;>omega
theorem flow_ends {l:List S50} {F:List Int} {n s t:Nat} (h:IsFlow l F n s t) (hs:s<n) (ht:t<n) (hst:s≠t):bal l F t= - bal l F s:=by
 have h1:=sumR_ends (R:=fun v=> !decide (v=(t:Int))) (g:=bal l F) (s:=s) (t:=t) n (by simp;omega) (by simp) (by omega) (by omega) h.keeps;have h2:=sumR_ends (R:=fun v=> !!decide (v=(t:Int))) (g:=bal l F) (s:=t) (t:=s) n (by simp) (by simp;omega) (by omega) (by omega) (fun v a b c d=>h.keeps v a b d c);rw[sum_bal _ n l F (ends_arcs h.right.ends) h.right.len] at h1 h2;have h3:=outR_compl (fun v=> !decide (v=(t:Int))) l F;omega
def twoL:List S50→List Int→List Int→List Two
 |a::l,x::f,y::g=>⟨a.f0.toNat,a.f1.toNat,a.f3,x,y⟩::twoL l f g
 |_,_,_=>[]
theorem twoL_mem: ∀ (l:List S50) (f g:List Int) (e:Two),e∈twoL l f g→ ∃ i:Nat,i<l.length∧i<f.length∧i<g.length∧e=⟨(rd_T50 l i).f0.toNat,(rd_T50 l i).f1.toNat,(rd_T50 l i).f3,f.getD i 0,g.getD i 0⟩
 |[],_,_,e,h=>by simp[twoL] at h
 |_::_,[],_,e,h=>by simp[twoL] at h
 |_::_,_::_,[],e,h=>by simp[twoL] at h
 |a::l,x::f,y::g,e,h=>by
  unfold twoL at h;rcases List.mem_cons.1 h with rfl|h
  ·exact⟨0,by simp,by simp,by simp,by rw[rdArc_nat];rfl⟩
  ·obtain⟨i,h1,h2,h3,h4⟩:=twoL_mem l f g e h
   refine⟨i+1,by simp;omega,by simp;omega,by simp;omega,?_⟩;rw[h4,rdArc_nat,rdArc_nat];rfl
theorem twoL_cost: ∀ (l:List S50) (f g:List Int),f.length=l.length→g.length=l.length→costT (twoL l f g) Two.f=payS l f∧costT (twoL l f g) Two.g=payS l g
 |[],[],[],_,_=>⟨rfl,rfl⟩
 |[],_::_,_,h,_=>by simp at h
 |[],[],_::_,_,h=>by simp at h
 |_::_,[],_,h,_=>by simp at h
 |_::_,_::_,[],_,h=>by simp at h
 |a::l,x::f,y::g,h1,h2=>by
  obtain⟨e1,e2⟩:=twoL_cost l f g (by simpa using h1) (by simpa using h2);constructor
  ·show x * a.f3+costT (twoL l f g) Two.f=x * a.f3+payS l f
   rw[e1]
  ·show y * a.f3+costT (twoL l f g) Two.g=y * a.f3+payS l g
   rw[e2]
theorem twoL_bal: ∀ (l:List S50) (f g:List Int) (v:Nat),(∀ a,a∈l→0≤a.f0∧0≤a.f1)→f.length=l.length→g.length=l.length→balT (twoL l f g) Two.f v=bal l f v∧balT (twoL l f g) Two.g v=bal l g v
 |[],[],[],_,_,_,_=>⟨rfl,rfl⟩
 |[],_::_,_,_,_,h,_=>by simp at h
 |[],[],_::_,_,_,_,h=>by simp at h
 |_::_,[],_,_,_,h,_=>by simp at h
 |_::_,_::_,[],_,_,_,h=>by simp at h
 |a::l,x::f,y::g,v,ha,h1,h2=>by
  obtain⟨e1,e2⟩:=twoL_bal l f g v (fun a h=>ha a (List.mem_cons_of_mem _ h)) (by simpa using h1) (by simpa using h2);have hp:=ha a List.mem_cons_self;have c0:(a.f0.toNat=v)↔(a.f0=(v:Int)):=by omega
  have c1:(a.f1.toNat=v)↔(a.f1=(v:Int)):=by omega
  constructor
  ·show ((if a.f0.toNat=v then x else 0) - (if a.f1.toNat=v then x else 0))+balT (twoL l f g) Two.f v=(if a.f0=(v:Int) then x else 0) - (if a.f1=(v:Int) then x else 0)+bal l f v
   rw[e1];simp only[c0,c1]
  ·show ((if a.f0.toNat=v then y else 0) - (if a.f1.toNat=v then y else 0))+balT (twoL l f g) Two.g v=(if a.f0=(v:Int) then y else 0) - (if a.f1=(v:Int) then y else 0)+bal l g v
   rw[e2];simp only[c0,c1]
def worthS (l:List S50) (F:List Int) (s:Nat) (c:Int):Int:=c * bal l F s - payS l F
theorem worth_top {l:List S50} {F G:List Int} {n s t:Nat} {c:Int} (hf:IsFlow l F n s t) (hg:IsFlow l G n s t) (hs:s<n) (ht:t<n) (hst:s≠t) {p:Nat→Int} (hp:TightP l F p) (h0:p s=0) (h1:p t=c):worthS l G s c≤worthS l F s c:=by
 obtain⟨e1,e2⟩:=twoL_cost l F G hf.right.len hg.right.len;have hpos: ∀ a,a∈l→0≤a.f0∧0≤a.f1:=fun a ha=>by have:=ends_arcs hf.right.ends a ha;omega
 have hlt: ∀ e,e∈twoL l F G→e.a<n∧e.b<n:=by
  intro e he;obtain⟨i,hi,_,_,rfl⟩:=twoL_mem l F G e he;have:=hf.right.ends i hi;unfold eFrom eTo at this;show (rd_T50 l i).f0.toNat<n∧(rd_T50 l i).f1.toNat<n;omega
 have key:=cheapest (⟨t,s, -c,bal l F s,bal l G s⟩::twoL l F G) n p ?_ ?_ ?_
 ·simp only[costT,e1,e2,Int.mul_neg] at key
  unfold worthS;rw[Int.mul_comm c,Int.mul_comm c];omega
 ·intro e he
  rcases List.mem_cons.1 he with rfl|he
  ·exact⟨ht,hs⟩
  ·exact hlt e he
 ·intro e he
  rcases List.mem_cons.1 he with rfl|he
  ·exact⟨fun _=>by show p s≤p t+ -c;omega,fun _=>by show p t≤p s - -c;omega⟩
  ·obtain⟨i,hi,_,_,rfl⟩:=twoL_mem l F G e he
   have hn:=hf.right.nums i hi;have hm:=hg.right.nums i hi;have t1:=hp ⟨i,false⟩ ⟨i,hi,rfl⟩;have t2:=hp ⟨i,true⟩ ⟨i,hi,rfl⟩;unfold stRoom toP frP stTime stFrom stTo eFrom eTo at t1 t2;simp only[Bool.false_eq_true,if_false,if_true,Int.toNat_natCast] at t1 t2;constructor
   ·intro h
    have h:F.getD i 0<G.getD i 0:=h;show p (rd_T50 l i).f1.toNat≤p (rd_T50 l i).f0.toNat+(rd_T50 l i).f3;exact t1 (by omega)
   ·intro h
    have h:G.getD i 0<F.getD i 0:=h;show p (rd_T50 l i).f0.toNat≤p (rd_T50 l i).f1.toNat - (rd_T50 l i).f3;have:=t2 (by omega);omega
 ·intro v hv
  obtain⟨b1,b2⟩:=twoL_bal l F G v hpos hf.right.len hg.right.len;have f1:=flow_ends hf hs ht hst;have g1:=flow_ends hg hs ht hst;show ((if t=v then bal l F s else 0) - (if s=v then bal l F s else 0))+balT (twoL l F G) Two.f v=((if t=v then bal l G s else 0) - (if s=v then bal l G s else 0))+balT (twoL l F G) Two.g v;rw[b1,b2];by_cases hvt:t=v
  ·subst hvt
   rw[Yx rfl,Yx rfl,Yy hst,Yy hst,f1,g1];omega
  ·rw[Yy hvt,Yy hvt]
   by_cases hvs:s=v
   ·subst hvs
    rw[Yx rfl,Yx rfl];omega
   ·rw[Yy hvs,Yy hvs,hf.keeps v (by omega) (by omega) (by omega) (by omega),hg.keeps v (by omega) (by omega) (by omega) (by omega)]
structure SpanOk (l:List S50) (F:List Int) (n s t:Nat) (c:Int):Prop where
 flow:IsFlow l F n s t
 nums: ∃ q:Nat→Int,TightP l F q∧q s=0∧q t<c
theorem SpanOk.top {l:List S50} {F G:List Int} {n s t:Nat} {c:Int} (h:SpanOk l F n s t c) (hg:IsFlow l G n s t) (hs:s<n) (ht:t<n) (hst:s≠t) {d:Nat→Option Int} (hd:TightO l F d) (h0:d s=some 0) (h1: ∀ x,d t=some x→c≤x):worthS l G s c≤worthS l F s c:=by
 obtain⟨q,hq,q0,q1⟩:=h.nums;refine worth_top h.flow hg hs ht hst (p:=minO d (fun v=>q v+(c - q t))) (TightP.min_ hd (hq.plus _)) ?_ ?_
 ·rw[minO_some h0];show min 0 (q s+(c - q t))=0;omega
 ·unfold minO
  cases hx:d t with
  |none=>show q t+(c - q t)=c;omega
  |some x=>have:=h1 x hx;show min x (q t+(c - q t))=c;omega
end H
namespace P
attribute [local go_sem] max2_int min2_int max_two min_two max_three min_three max_four min_four
def level_Seeker_Steps.f (Zb:Int) (Zc:Bool) (Za:List (S50)) (Xx:List Int) (l0_4:List (List (S79))) (a1:Int):Option ((List (S79))):=if 0≤a1 then(if a1<(l0_4.length:Int) then(some (rd_L4 l0_4 a1)) else(none)) else(none)
set_option maxHeartbeats 8000000 in
set_option maxRecDepth 100000 in
theorem level_Seeker_Steps.calls (Zb:Int) (Zc:Bool) (Ze:Option Addr) (Zd:Nat) (Za:List (S50)) (Ul:Option Addr) (Um:Nat) (Xx:List Int) (P0_4_:Nat→Prop) (A0_4:Option Addr) (c0_4:Nat) (l0_4:List (List (S79))) (a1:Int) (r:List (S79)) (w:World) (Zp:Kd.C k50 w Ze Za.length Za) (Zq:Za.length≤Zd) (hr0_3:Kd.C (Kd.int .i64) w Ul Xx.length Xx) (hc0_3:Xx.length≤Um) (hs0_4:Kd.V (Kd.slice 79 k79) 67 w w.heap.size (fun k_=>P0_4_ k_) (.slice A0_4 l0_4.length c0_4) l0_4) (h:level_Seeker_Steps.f Zb Zc Za Xx l0_4 a1=some r):
  Calls Try.prog 92 #[.agg #[.int .i64 Zb, .bool Zc, .slice Ze Za.length Zd, .slice Ul Xx.length Um, .slice A0_4 l0_4.length c0_4], .int .i64 a1] w fun e w'=> ∃ v0_:Value,e= .returned (v0_)∧Kd.V k79 79 w' w.heap.size (fun k_=>(P0_4_ k_∨w.heap.size≤k_)) v0_ r∧Below w.heap.size w w':=by
 have hu107:=Try.underlying107;have Zh:=Ya Zp;have Zo:=Ya Zq;clear Zp Zq;have HR0_3:=Ya hr0_3;have HC0_3:=Ya hc0_3;clear hr0_3 hc0_3;have HO0_4:=Ya (show Kd.V (Kd.slice 79 k79) 67 w w.heap.size (fun k_=>(P0_4_ k_∨w.heap.size≤k_)) (.slice A0_4 l0_4.length c0_4) l0_4 from Kd.V_mono hs0_4 (fun k_ hk=> .inl hk));have HB:=Ya (Yo w.heap.size w);have H:(if 0≤a1 then(if a1<(l0_4.length:Int) then(some (rd_L4 l0_4 a1)) else(none)) else(none))=some r:=h;clear h;by_cases c3:0≤a1
 rotate_left
 ·rw[Yy c3] at H
  exact absurd H (by simp)
 rw[Yx c3] at H;have c3b0:decide (0≤a1)=true:=Yv c3;clear c3;by_cases c4:a1<(l0_4.length:Int)
 rotate_left
 ·rw[Yy c4] at H
  exact absurd H (by simp)
 rw[Yx c4] at H;have c4b0:decide (a1<(l0_4.length:Int))=true:=Yv c4;clear c4;obtain rfl:=Option.some.inj H;go_enter Try.func92,Try.ntmps92;go_wp2_with (first|((with_reducible refine gate_dst (N:=2) rfl ?_);refine Yz ?hg (N:=2) ?hd (cs:= #[.int .i64 Zb, .bool Zc, .slice Ze Za.length Zd, .slice Ul Xx.length Um, .slice A0_4 l0_4.length c0_4]) (t:=107) ?hr ?_;(case hd=>rfl);(case hg=>rfl);(case hr=>first|(go_simp;done)|(go_simp;rfl));intro gb130 hg w5 Zf hb;have n0_:=Ya (Kd.V_below (Kd.V_elderB (by(with_reducible repeat(first|apply Kd.V_alloc|apply Kd.V_drewN|apply Kd.V_drew));exact HO0_4.out) gb130 (Nat.le_of_eq hg.symm)) hb);have n1_:=Ya (Yk (by repeat(first|(with_reducible first|exact HB.out|apply Ye|apply Yd|apply Yg)|exact HB.out)) hb);have n2_:=Ya (Zf);have n3_:=Ya ((by rw[hg];exact(Yi (by repeat(first|(with_reducible first|exact HB.out|apply Ye|apply Yd|apply Yg)|exact HB.out))):w.heap.size≤gb130));have n4_:=Ya ((by rw[hg];exact(Yi (by repeat(first|(with_reducible first|exact HB.out|apply Ye|apply Yd|apply Yg)|exact HB.out))):w.heap.size≤gb130));clear HO0_4;clear HB;have HO0_4:=n0_;have HB:=n1_;have BK130:=n2_;have GW130:=n3_;have GE130:=n4_;clear n0_ n1_ n2_ n3_ n4_;clear hb Zf hg;have hcz6_0:w5.cell? ⟨gb130,0,none⟩=some (.int .i64 Zb):=(Yc BK130.out 0).trans rfl;have hcz6_1:w5.cell? ⟨gb130,1,none⟩=some (.bool Zc):=(Yc BK130.out 1).trans rfl;have hcz6_2:w5.cell? ⟨gb130,2,none⟩=some (.slice Ze Za.length Zd):=(Yc BK130.out 2).trans rfl;have hcz6_3:w5.cell? ⟨gb130,3,none⟩=some (.slice Ul Xx.length Um):=(Yc BK130.out 3).trans rfl;have hcz6_4:w5.cell? ⟨gb130,4,none⟩=some (.slice A0_4 l0_4.length c0_4):=(Yc BK130.out 4).trans rfl;have hfz6_0:=Yf BK130.out 0;have hfz6_1:=Yf BK130.out 1;have hfz6_2:=Yf BK130.out 2;have hfz6_3:=Yf BK130.out 3;have hfz6_4:=Yf BK130.out 4;have p131:0≤(a1:Int):=Yu (by first|(with_reducible assumption)|assumption);have q131:a1<(l0_4.length:Int):=Yu (by first|(with_reducible assumption)|assumption);obtain⟨ad131,A131_0,c131_0,e131,hx131_0,hl131_0,hi131_0⟩:=at_L4 (Kd.V_reads' HO0_4.out).2.2 a1 p131 q131;cases e131;obtain⟨ce131,hce131,hMe131,hcc131⟩:=Kd.V_get HO0_4.out [] a1 p131 (by first|exact q131|exact Yu (by first|(with_reducible assumption)|assumption)|(have e_:=(Kd.V_reads' HO0_4.out).1;omega));obtain⟨ua131_0,uc131_0,rfl,ul131_0,ge131_0⟩:=Kd.FK_slice_open hMe131;have hv131_0:=hcc131 0 _ rfl;rw[Nat.add_zero,show ((Kd.slice 79 k79)).sz=1 from rfl,Nat.mul_one] at hv131_0;replace hv131_0:=Option.some.inj (hv131_0.symm.trans hx131_0);injection hv131_0 with hva_ hvn_ hvc_;rw[hva_] at ge131_0;rw[hvc_] at ul131_0;have HL131_0:=Ya (show Kd.V k79 79 _ w.heap.size _ _ (rd_L4 l0_4 a1) from Kd.V_mk ul131_0 ge131_0);clear hva_ hvn_ hvc_ ge131_0 ul131_0;clear hcc131 hce131;have HR131_0:=Ya hi131_0;have HC131_0:=Ya hl131_0;clear hi131_0 hl131_0;replace p131:=eq_true p131;replace q131:=eq_true q131));go_ret;exact⟨_,by first|rfl|(simp[errW_none,errW_some]<;>rfl)|(simp[*,errW_none,errW_some]<;>rfl),by(with_reducible repeat(first|apply Kd.V_alloc|apply Kd.V_drewN|apply Kd.V_drew));exact Kd.V_mono HL131_0.out (fun _ hk=>hk.1),by repeat(first|(with_reducible first|exact HB.out|apply Ye|apply Yd|apply Yg|refine Yh ?_ GE130.out)|exact HB.out)⟩
end P
namespace H
open P
def okR (gd gi gb:Nat) (k:Nat):Prop:=k≠gd∧k≠gi∧k≠gb
structure Fm (n0:Nat) (Zc:Bool) (A2:Option Addr) (c2:Nat) (l:List S50) (A3:Option Addr) (c3:Nat) (F:List Int) (A4:Option Addr) (c4:Nat) (gd gi gb cd ci cb b0 g2 g3:Nat) (w:World) (x:Rch) (w':World):Prop where
 D:Kd.R (Kd.int .i64) 3 w' b0 (fun _=>True) (.slice (some ⟨gd,0,none⟩) n0 cd) x.D
 I:Kd.R Kd.bool 4 w' b0 (fun _=>True) (.slice (some ⟨gi,0,none⟩) n0 ci) x.I
 B:Kd.R k79 79 w' b0 (fun _=>True) (.slice (some ⟨gb,0,none⟩) n0 cb) x.B
 b2:w'.heap[g2]? =some (.cells #[.int .i64 n0, .bool Zc, .slice A2 l.length c2, .slice A3 F.length c3, .slice A4 n0 c4] 107 (0,0))
 b3:w'.heap[g3]? =some (.cells #[.slice (some ⟨gd,0,none⟩) n0 cd, .slice (some ⟨gi,0,none⟩) n0 ci, .slice (some ⟨gb,0,none⟩) n0 cb] 69 (0,0))
 arcs:Kd.F k50 w' (okR gd gi gb) A2 l.length l
 flow:Kd.F (Kd.int .i64) w' (okR gd gi gb) A3 F.length F
 rows:Kd.V (Kd.slice 79 k79) 67 w' w.heap.size (okR gd gi gb) (.slice A4 n0 c4) (rowsAt l n0 n0)
 kp:Kp gd gi gb w w'
section
variable {n0:Nat} {Zc:Bool} {A2:Option Addr} {c2:Nat} {l:List S50} {A3:Option Addr} {c3:Nat} {F:List Int} {A4:Option Addr} {c4:Nat} {gd gi gb cd ci cb b0 g2 g3:Nat} {w:World} {x:Rch} {w1 w2:World}
theorem Fm.below (h:Fm n0 Zc A2 c2 l A3 c3 F A4 c4 gd gi gb cd ci cb b0 g2 g3 w (x) (w1)) (hb:Below w1.heap.size w1 w2):Fm n0 Zc A2 c2 l A3 c3 F A4 c4 gd gi gb cd ci cb b0 g2 g3 w (x) (w2):=
 ⟨Ys h.D hb,Ys h.I hb,Ys h.B hb,Yn h.b2 hb,Yn h.b3 hb,Kd.F_below h.arcs hb,Kd.F_below h.flow hb,Kd.V_below h.rows hb,h.kp.below hb⟩
theorem Fm.still (h:Fm n0 Zc A2 c2 l A3 c3 F A4 c4 gd gi gb cd ci cb b0 g2 g3 w (x) (w1)) (b:Bool):Fm n0 Zc A2 c2 l A3 c3 F A4 c4 gd gi gb cd ci cb b0 g2 g3 w ({ x with still:=b }) (w1):=⟨h.D,h.I,h.B,h.b2,h.b3,h.arcs,h.flow,h.rows,h.kp⟩
theorem Fm.blocks (h:Fm n0 Zc A2 c2 l A3 c3 F A4 c4 gd gi gb cd ci cb b0 g2 g3 w (x) (w1)) (hx:x.Ok n0) (hn:0<n0):gd≠gi∧gd≠gb∧gi≠gb∧g2≠gd∧g2≠gi∧g2≠gb∧g3≠gd∧g3≠gi∧g3≠gb∧gd<w1.heap.size∧gi<w1.heap.size∧gb<w1.heap.size:=by
 obtain⟨a,ca,ea,_,hla,ca_,ha⟩:=Kd.R_form h.D (by rw[hx.hD];exact hn);obtain⟨b,cb_,eb,_,hlb,cb2,hb⟩:=Kd.R_form h.I (by rw[hx.hI];exact hn);obtain⟨c,cc,ec,_,hlc,cc_,hc⟩:=Kd.R_form h.B (by rw[hx.hB];exact hn);injection ea with ea _ _
 injection ea with ea
 injection ea with ea
 injection eb with eb _ _
 injection eb with eb
 injection eb with eb
 injection ec with ec _ _
 injection ec with ec
 injection ec with ec
 subst ea;subst eb;subst ec;have ne: ∀ {p q:Nat} {c1 c2:Array Value} {t1 t2:Nat},w1.heap[p]? =some (.cells c1 t1 (0,0))→w1.heap[q]? =some (.cells c2 t2 (0,0))→t1≠t2→p≠q:=by
  intro p q c1 c2 t1 t2 h1 h2 ht e;subst e;rw[h1] at h2;injection h2 with h2
  injection h2 with _ h2
  exact ht h2
 exact⟨ne ha hb (by decide),ne ha hc (by decide),ne hb hc (by decide),ne h.b2 ha (by decide),ne h.b2 hb (by decide),ne h.b2 hc (by decide),ne h.b3 ha (by decide),ne h.b3 hb (by decide),ne h.b3 hc (by decide),hla,hlb,hlc⟩
theorem Fm.dv (h:Fm n0 Zc A2 c2 l A3 c3 F A4 c4 gd gi gb cd ci cb b0 g2 g3 w (x) (w1)) {v:Nat} (hv:v<n0):w1.cell? ⟨gd,v,none⟩=some (.int .i64 (x.D.getD v 0)):=by
 obtain⟨ad,e,hc⟩:=Kd.at_int (Kd.R_reads' h.D).2.2 (v:Int) (by omega) (by have:=(Kd.R_reads' h.D).1;omega);cases e
 simpa [rd,add_plain] using hc
theorem Fm.iv (h:Fm n0 Zc A2 c2 l A3 c3 F A4 c4 gd gi gb cd ci cb b0 g2 g3 w (x) (w1)) {v:Nat} (hv:v<n0):w1.cell? ⟨gi,v,none⟩=some (.bool (x.I.getD v false)):=by
 obtain⟨ad,e,hc⟩:=Kd.at_bool (Kd.R_reads' h.I).2.2 (v:Int) (by omega) (by have:=(Kd.R_reads' h.I).1;omega);cases e
 simpa [rdOf,add_plain] using hc
theorem Fm.bv (h:Fm n0 Zc A2 c2 l A3 c3 F A4 c4 gd gi gb cd ci cb b0 g2 g3 w (x) (w1)) {v:Nat} (hv:v<n0):w1.cell? ⟨gb,v * 2,none⟩=some (.int .i64 (rd_T79 x.B v).f0)∧w1.cell? ⟨gb,v * 2+1,none⟩=some (.bool (rd_T79 x.B v).f1):=by
 obtain⟨ad,e,h1,h2⟩:=at_T79 (Kd.R_reads' h.B).2.2 (v:Int) (by omega) (by have:=(Kd.R_reads' h.B).1;omega);cases e;simp only[Int.toNat_natCast,add_plain] at h1 h2;exact⟨h1,h2⟩
theorem Fm.free (h:Fm n0 Zc A2 c2 l A3 c3 F A4 c4 gd gi gb cd ci cb b0 g2 g3 w (x) (w1)) (hn:0<n0) (j:Nat):w1.frozen? ⟨gd,j,none⟩=false∧w1.frozen? ⟨gi,j,none⟩=false∧w1.frozen? ⟨gb,j,none⟩=false:=by
 have h1:=(Kd.R_reads' h.D).1;have h2:=(Kd.R_reads' h.I).1;have h3:=(Kd.R_reads' h.B).1;obtain⟨a,ca,ea,_,hla,ca_,ha⟩:=Kd.R_form h.D (by omega);obtain⟨b,cb_,eb,_,hlb,cb2,hb⟩:=Kd.R_form h.I (by omega);obtain⟨c,cc,ec,_,hlc,cc_,hc⟩:=Kd.R_form h.B (by omega);injection ea with ea _ _
 injection ea with ea
 injection ea with ea
 injection eb with eb _ _
 injection eb with eb
 injection eb with eb
 injection ec with ec _ _
 injection ec with ec
 injection ec with ec
 subst ea;subst eb;subst ec;exact⟨Yf ha j,Yf hb j,Yf hc j⟩
theorem Fm.put (h:Fm n0 Zc A2 c2 l A3 c3 F A4 c4 gd gi gb cd ci cb b0 g2 g3 w (x) (w1)) (hx:x.Ok n0) (hn:0<n0) {u:Nat} (hu:u<n0) (d:Int) (s:S79):
  Fm n0 Zc A2 c2 l A3 c3 F A4 c4 gd gi gb cd ci cb b0 g2 g3 w ((⟨x.D.set u d,x.I.set u true,x.B.set u s,false⟩:Rch)) (((((w1.setCell ⟨gd,u,none⟩ (.int .i64 d)).setCell ⟨gi,u,none⟩ (.bool true)).setCell ⟨gb,u * 2,none⟩ (.int .i64 s.f0)).setCell ⟨gb,u * 2+1,none⟩ (.bool s.f1))):=by
 obtain⟨n1,n2,n3,n4,n5,n6,n7,n8,n9,_,_,_⟩:=h.blocks hx hn
 -- the first store
 have d1:=Kd.R_putg h.D (u:Int) d;simp only[Int.toNat_natCast] at d1;have i1:=Kd.R_over' h.I (Kd.R_typed h.D) (by decide) d1.2;have b1:=Kd.R_over' h.B (Kd.R_typed h.D) (by decide) d1.2;have i2:=Kd.R_putg i1 (u:Int) true;simp only[Int.toNat_natCast] at i2;have d2:=Kd.R_over' d1.1 (Kd.R_typed i1) (by decide) i2.2;have b2:=Kd.R_over' b1 (Kd.R_typed i1) (by decide) i2.2;have hB:=(Kd.R_reads' b2).1;obtain⟨c,hcl,_,hcc,_⟩:=Kd.R_elem b2 z79 (u:Int) (by omega) (by omega);have b3:=Kd.R_seg b2 (u:Int) (by omega) (by omega) (c:=c) (seg:=[.int .i64 s.f0, .bool s.f1]) (j:=0) hcl hcc (show 2≤2 from Nat.le_refl _) (x':=s) (okp:=fun _=>False)
  (by rw[List.drop_eq_nil_of_le (by rw[hcl];exact Nat.le_refl _)];exact k79_mkM _ _ _ s) (fun _ hk=>hk.elim)
 simp only[Int.toNat_natCast] at b3;have d3:=Kd.R_over' d2 (Kd.R_typed b2) (by decide) b3.2;have i3:=Kd.R_over' i2.1 (Kd.R_typed b2) (by decide) b3.2;have far: ∀ {g t:Nat} {cs:Array Value},w1.heap[g]? =some (.cells cs t (0,0))→g≠gd→g≠gi→g≠gb→((((w1.setCell ⟨gd,u,none⟩ (.int .i64 d)).setCell ⟨gi,u,none⟩ (.bool true)).setCell ⟨gb,u * 2,none⟩ (.int .i64 s.f0)).setCell ⟨gb,u * 2+1,none⟩ (.bool s.f1)).heap[g]? =some (.cells cs t (0,0)):=
  fun hb p1 p2 p3=>blk_far (blk_far (blk_far (blk_far hb p1 _) p2 _) p3 _) p3 _
 refine⟨d3,i3,b3.1,far h.b2 n4 n5 n6,far h.b3 n7 n8 n9,?_,?_,?_,?_⟩
 ·exact Kd.F_far (p:=⟨gb,u * 2+1,none⟩) (Kd.F_far (p:=⟨gb,u * 2,none⟩) (Kd.F_far (p:=⟨gi,u,none⟩) (Kd.F_far (p:=⟨gd,u,none⟩) h.arcs (fun _ hk=>hk.1) _) (fun _ hk=>hk.2.1) _) (fun _ hk=>hk.2.2) _) (fun _ hk=>hk.2.2) _
 ·exact Kd.F_far (p:=⟨gb,u * 2+1,none⟩) (Kd.F_far (p:=⟨gb,u * 2,none⟩) (Kd.F_far (p:=⟨gi,u,none⟩) (Kd.F_far (p:=⟨gd,u,none⟩) h.flow (fun _ hk=>hk.1) _) (fun _ hk=>hk.2.1) _) (fun _ hk=>hk.2.2) _) (fun _ hk=>hk.2.2) _
 ·exact Kd.V_far (p:=⟨gb,u * 2+1,none⟩) (Kd.V_far (p:=⟨gb,u * 2,none⟩) (Kd.V_far (p:=⟨gi,u,none⟩) (Kd.V_far (p:=⟨gd,u,none⟩) h.rows (fun _ hk=>hk.1) _) (fun _ hk=>hk.2.1) _) (fun _ hk=>hk.2.2) _) (fun _ hk=>hk.2.2) _
 ·exact(((h.kp.set (.inl rfl) _ _).set (.inr (.inl rfl)) _ _).set (.inr (.inr rfl)) _ _).set (.inr (.inr rfl)) _ _
end
end H
namespace H
open P
attribute [local irreducible] wpQuiet
theorem goes_step {l:List S50} {F:List Int} {n k:Nat} {x x':Rch} (hs:roundR l F n x=x') (h:x'.still=false):goesR l F n (k+1) x=goesR l F n k x':=by
 subst hs;show (if _ then _ else _)=_;rw[Yy (by rw[h];simp)]
theorem goes_end {l:List S50} {F:List Int} {n k:Nat} {x x':Rch} (hs:roundR l F n x=x') (h:x'.still=true):goesR l F n (k+1) x=(x',true):=by
 subst hs;show (if _ then _ else _)=_;rw[Yx h]
def upV (l:List S50) (F:List Int) (x:Rch) (v:Nat):Rch:=(List.range v).foldl (rowR l F) { x with still:=true }
def upJ (l:List S50) (F:List Int) (v:Nat) (y:Rch) (j:Nat):Rch:=((stL l v l.length).take j).foldl (visR l F v) y
theorem upV_succ (l:List S50) (F:List Int) (x:Rch) (v:Nat):upV l F x (v+1)=rowR l F (upV l F x v) v:=by
 unfold upV;rw[List.range_succ,List.foldl_append];rfl
theorem upJ_succ (l:List S50) (F:List Int) (v:Nat) (y:Rch) (j:Nat) (hj:j<(stL l v l.length).length):upJ l F v y (j+1)=visR l F v (upJ l F v y j) (rd_T79 (stL l v l.length) (j:Int)):=by
 unfold upJ;have e:(stL l v l.length).take (j+1)=(stL l v l.length).take j ++ [rd_T79 (stL l v l.length) (j:Int)]:=by
  rw[List.take_add_one,List.getElem?_eq_getElem hj];show _ ++ [_]=_ ++ [(stL l v l.length).getD (j:Int).toNat z79];rw[Int.toNat_natCast,List.getD_eq_getElem?_getD,List.getElem?_eq_getElem hj];rfl
 rw[e,List.foldl_append];rfl
theorem upJ_all (l:List S50) (F:List Int) (v:Nat) (y:Rch) (hv:y.I.getD v false=true):upJ l F v y (stL l v l.length).length=rowR l F y v:=by
 unfold upJ rowR;rw[List.take_length,Yx hv]
theorem vis_on {l:List S50} {F:List Int} {v:Nat} {x:Rch} {s:S79} (h:visC l F v x s=true):visR l F v x s=⟨x.D.set (stTo l s).toNat (x.D.getD v 0+stTime l s),x.I.set (stTo l s).toNat true,x.B.set (stTo l s).toNat s,false⟩:=by
 unfold visR;rw[Yx h]
theorem vis_off {l:List S50} {F:List Int} {v:Nat} {x:Rch} {s:S79} (h:visC l F v x s=false):visR l F v x s=x:=by
 unfold visR;rw[Yy (by rw[h];simp)]
theorem rows_at {l:List S50} {n v:Nat} (hv:v<n):rd_L4 (rowsAt l n n) (v:Int)=stL l v l.length:=by
 unfold rd_L4;rw[Int.toNat_natCast,List.getD_eq_getElem?_getD,rowsAt_get l n n v hv,Yx hv];rfl
theorem set_true (L:List Bool) (u v:Nat) (h:L.getD v false=true):(L.set u true).getD v false=true:=by
 by_cases e:u=v
 ·subst e
  by_cases hl:u<L.length
  ·exact getD_set_eq _ _ _ _ hl
  ·rw[List.getD_eq_getElem?_getD,List.getElem?_eq_none (by omega)] at h
   cases h
 ·rw[getD_set_ne _ _ _ _ _ e];exact h
set_option maxHeartbeats 2000000 in
set_option maxRecDepth 100000 in
theorem settled_calls (n0:Nat) (Zc:Bool) (A2:Option Addr) (c2:Nat) (l:List S50) (A3:Option Addr) (c3:Nat) (F:List Int) (A4:Option Addr) (c4:Nat) (gd gi gb cd ci cb b0:Nat) (x:Rch) (w:World)
  (hR:Right l F n0) (hx:x.Ok n0) (hD0:Bd x.D 0) (hc2:l.length≤c2) (hc3:F.length≤c3)
  (h2:Kd.F k50 w (okR gd gi gb) A2 l.length l) (h3:Kd.F (Kd.int .i64) w (okR gd gi gb) A3 F.length F) (h4:Kd.V (Kd.slice 79 k79) 67 w w.heap.size (okR gd gi gb) (.slice A4 n0 c4) (rowsAt l n0 n0))
  (hD:Kd.R (Kd.int .i64) 3 w b0 (fun _=>True) (.slice (some ⟨gd,0,none⟩) n0 cd) x.D) (hI:Kd.R Kd.bool 4 w b0 (fun _=>True) (.slice (some ⟨gi,0,none⟩) n0 ci) x.I) (hB:Kd.R k79 79 w b0 (fun _=>True) (.slice (some ⟨gb,0,none⟩) n0 cb) x.B):
  Calls Try.prog 82 #[.agg #[.int .i64 n0, .bool Zc, .slice A2 l.length c2, .slice A3 F.length c3, .slice A4 n0 c4], .agg #[.slice (some ⟨gd,0,none⟩) n0 cd, .slice (some ⟨gi,0,none⟩) n0 ci, .slice (some ⟨gb,0,none⟩) n0 cb]] w fun e w'=>e= .returned (.bool (goesR l F n0 (n0+1) x).2)∧Kp gd gi gb w w'∧
   Kd.R (Kd.int .i64) 3 w' b0 (fun _=>True) (.slice (some ⟨gd,0,none⟩) n0 cd) (goesR l F n0 (n0+1) x).1.D∧Kd.R Kd.bool 4 w' b0 (fun _=>True) (.slice (some ⟨gi,0,none⟩) n0 ci) (goesR l F n0 (n0+1) x).1.I∧Kd.R k79 79 w' b0 (fun _=>True) (.slice (some ⟨gb,0,none⟩) n0 cb) (goesR l F n0 (n0+1) x).1.B:=by
 have hu118:=Try.underlying107;have hu109:=Try.underlying69;have HR:=Ya hR;have HC2:=Ya hc2;have HC3:=Ya hc3;have H2:=Ya h2;have H3:=Ya h3;have H4:=Ya h4;have HD:=Ya hD;have HI:=Ya hI;have HBB:=Ya hB;have hn50:n0≤50:=hR.fifty;have hn0:0<n0:=hR.pos;clear hR h2 h3 h4 hD hI hB hc2 hc3;obtain⟨XT,hXT⟩: ∃ y_,y_=goesR l F n0 (n0+1) x:=⟨_,rfl⟩;rw[← hXT];have HXT:=Ya hXT.symm;clear hXT;have HB:=Ya (Yo w.heap.size w);go_enter Try.func82,Try.ntmps82;go_wp2_with (first|((with_reducible refine gate_dst (N:=2) rfl ?_);refine Yz ?hg (N:=2) ?hd (cs:= #[.int .i64 n0, .bool Zc, .slice A2 l.length c2, .slice A3 F.length c3, .slice A4 n0 c4]) (t:=107) ?hr ?_;(case hd=>rfl);(case hg=>rfl);(case hr=>first|(go_simp;done)|(go_simp;rfl));intro g2 hg w4 Zf hb;have n0_:=Ya (Yk HB.out hb);have B2:=Ya Zf;clear HB;have HB:=n0_;clear n0_ hb Zf hg)|((with_reducible refine gate_dst (N:=3) rfl ?_);refine Yz ?hg (N:=3) ?hd (cs:= #[.slice (some ⟨gd,0,none⟩) n0 cd, .slice (some ⟨gi,0,none⟩) n0 ci, .slice (some ⟨gb,0,none⟩) n0 cb]) (t:=69) ?hr ?_;(case hd=>rfl);(case hg=>rfl);(case hr=>first|(go_simp;done)|(go_simp;rfl));intro g3 hg w5 Zf hb;have n0_:=Ya (Yk HB.out hb);have n1_:=Ya (Yn B2.out hb);have B3:=Ya Zf;clear HB B2;have HB:=n0_;have B2:=n1_;clear n0_ n1_ hb Zf hg)|fail);go_step3;go_wp2;go_step3;have HF:Aside0 (Fm n0 Zc A2 c2 l A3 c3 F A4 c4 gd gi gb cd ci cb b0 g2 g3 w (x) (w5)):=⟨⟨Ys HD.out HB.out,Ys HI.out HB.out,Ys HBB.out HB.out,B2.out,B3.out,Kd.F_below H2.out HB.out,Kd.F_below H3.out HB.out,Kd.V_below H4.out HB.out,(Kp.refl gd gi gb w).below HB.out⟩⟩;clear HD HI HBB H2 H3 H4 HB;have hb20:w5.cell? ⟨g2,0,none⟩=some (.int .i64 n0):=(Yc B2.out 0).trans rfl;go_wp2_with fail;clear hb20 B2 B3;go_loopw [16] (fun v16 w'=> ∃ r:Nat,r≤n0+1∧v16= .int .i64 r∧ ∃ x':Rch,Aside0 (x'.Ok n0)∧Aside0 (Bd x'.D (20000 * (r:Int)))∧Aside0 (goesR l F n0 (n0+1 - r) x'=XT)∧Aside0 (Fm n0 Zc A2 c2 l A3 c3 F A4 c4 gd gi gb cd ci cb b0 g2 g3 w (x') (w'))) (fun v16 _=>n0+1 - (intOf v16).toNat)
 case atStart=>exact⟨0,Nat.zero_le _,rfl,x,⟨hx⟩,⟨by simpa using hD0⟩,HXT,HF⟩
 case round=>
  clear HF HXT;obtain⟨r,hr,rfl,x1,HO1,HBD1,HG1,HF⟩:=hrel;by_cases hlt:r<n0+1
  ·have c17:decide ((r:Int)<(n0:Int)+1)=true:=Yv (by omega)
   have hb20:wr.cell? ⟨g2,0,none⟩=some (.int .i64 n0):=(Yc HF.out.b2 0).trans rfl;go_wp2_with fail;clear hb20;have HF2:=Ya (HF.out.still true);have HO2:Aside0 ((upV l F x1 0).Ok n0):=⟨⟨HO1.out.hD,HO1.out.hI,HO1.out.hB⟩⟩;clear HF;obtain⟨w1,hw1⟩: ∃ x_:World,x_=wr:=⟨_,rfl⟩;subst hw1;go_loopw [22,5] (fun v22 v5 w'=> ∃ v:Nat,v≤n0∧v22= .int .i64 v∧ ∃ y:Rch,v5= .bool y.still∧Aside0 (y=upV l F x1 v)∧Aside0 (y.Ok n0)∧Aside0 (Bd y.D (20000 * (r:Int)+400 * (v:Int)))∧Aside0 (Fm n0 Zc A2 c2 l A3 c3 F A4 c4 gd gi gb cd ci cb b0 g2 g3 w (y) (w'))) (fun v22 _ _=>n0 - (intOf v22).toNat)
   case atStart=>exact⟨0,Nat.zero_le _,rfl,upV l F x1 0,rfl,⟨rfl⟩,HO2,⟨by show Bd x1.D _;simpa using HBD1.out⟩,HF2⟩
   case round=>
    clear HF2 HO2 HBD1 HO1;obtain⟨v,hv,rfl,y,rfl,HY,HO,HBD,HF⟩:=hrel;by_cases hltv:v<n0
    ·have c23:decide ((v:Int)<(n0:Int))=true:=Yv (by omega)
     have hb31:wr.cell? ⟨g3,1,none⟩=some (.slice (some ⟨gi,0,none⟩) n0 ci):=(Yc HF.out.b3 1).trans rfl;have hiv:=HF.out.iv hltv;have pv:0≤((v:Nat):Int):=by omega
     have qv:((v:Nat):Int)<(n0:Int):=by omega
     cases hIv:y.I.getD v false with
     |false=>
      rw[hIv] at hiv;have HYS:Aside0 (y=upV l F x1 (v+1)):=⟨by rw[upV_succ, ← HY.out];unfold rowR;rw[Yy (by rw[hIv];simp)]⟩;clear hIv;go_wp2_with fail;clear hb31 hiv;go_roundw
      case rel=>exact⟨v+1,by omega,by first|rfl|go_num,y,rfl,HYS,HO,⟨HBD.out.mono (by omega)⟩,HF⟩
      case measure=>simp[intOf]<;>omega
     |true=>
      rw[hIv] at hiv;have HIV:=Ya hIv;have HIVy:=Ya hIv;clear hIv;have hc0:wr.cell? ⟨g2,0,none⟩=some (.int .i64 n0):=(Yc HF.out.b2 0).trans rfl;have hc1:wr.cell? ⟨g2,1,none⟩=some (.bool Zc):=(Yc HF.out.b2 1).trans rfl;have hc2:wr.cell? ⟨g2,2,none⟩=some (.slice A2 l.length c2):=(Yc HF.out.b2 2).trans rfl;have hc3:wr.cell? ⟨g2,3,none⟩=some (.slice A3 F.length c3):=(Yc HF.out.b2 3).trans rfl;have hc4:wr.cell? ⟨g2,4,none⟩=some (.slice A4 n0 c4):=(Yc HF.out.b2 4).trans rfl;have hSt:=level_Seeker_Steps.calls (n0:Int) Zc A2 c2 l A3 c3 F (okR gd gi gb) A4 c4 (rowsAt l n0 n0) (v:Int) (stL l v l.length) wr (Kd.F_now HF.out.arcs) HC2.out (Kd.F_now HF.out.flow) HC3.out (by rw[rowsAt_len];exact HF.out.rows) (by unfold level_Seeker_Steps.f;rw[rowsAt_len,Yx pv,Yx qv,rows_at hltv]);rw[rowsAt_len] at hSt;have HST:=Ya hSt;clear hSt;obtain⟨RW,hRW⟩: ∃ r_,r_=stL l v l.length:=⟨_,rfl⟩;have HRW:=Ya hRW;have HRL:RW.length≤400:=by rw[hRW];have:=stL_len l v l.length;have:=HR.out.arcs;omega
      clear hRW;go_wp2_with (first|(go_at_call 92;refine HST.out.mono ?_;rintro e_ w20 ⟨v0,rfl,hv,hb⟩;rw[← HRW.out] at hv;obtain⟨Av,cv,ev⟩:=Kd.V_slice hv;subst ev;have VR:Aside0 (Kd.V k79 79 w20 0 (okR gd gi gb) (.slice Av RW.length cv) RW):=⟨Kd.V_mono hv (fun k hk=>hk.elim id (fun h=>by obtain⟨_,_,_,_,_,_,_,_,_,p1,p2,p3⟩:=HF.out.blocks HO.out hn0;exact⟨by omega,by omega,by omega⟩))⟩;have n0_:=Ya (HF.out.below hb);clear HF;have HF:=n0_;clear n0_ hv hb hc0 hc1 hc2 hc3 hc4 hb31 hiv)|fail);obtain⟨w2,hw2⟩: ∃ x_:World,x_=w20:=⟨_,rfl⟩;subst hw2;have HZ0:Aside0 (y=upJ l F v y 0):=⟨rfl⟩;go_loopw [35,5] (fun v35 v5 w'=> ∃ j:Nat,j≤RW.length∧v35= .int .i64 j∧ ∃ z:Rch,v5= .bool z.still∧Aside0 (z=upJ l F v y j)∧Aside0 (z.Ok n0)∧Aside0 (Bd z.D (20000 * (r:Int)+400 * (v:Int)+(j:Int)))∧Aside0 (z.I.getD v false=true)∧Aside0 (Fm n0 Zc A2 c2 l A3 c3 F A4 c4 gd gi gb cd ci cb b0 g2 g3 w (z) (w'))∧Aside0 (Kd.V k79 79 w' 0 (okR gd gi gb) (.slice Av RW.length cv) RW)) (fun v35 _ _=>RW.length - (intOf v35).toNat)
      case atStart=>exact⟨0,Nat.zero_le _,rfl,y,rfl,HZ0,HO,⟨by simpa using HBD.out⟩,HIV,HF,VR⟩
      case round=>
       clear HZ0 HBD HIV HF VR;obtain⟨j,hj,rfl,z,rfl,HZ,HOz,HBD,HIV,HF,VR⟩:=hrel;by_cases hltj:j<RW.length
       ·have pj:0≤((j:Nat):Int):=by omega
        have qj:((j:Nat):Int)<(RW.length:Int):=by omega
        have c36:decide ((j:Int)<(RW.length:Int))=true:=Yv qj;obtain⟨adj,eadj,hs0,hs1⟩:=at_T79 (Kd.V_reads' VR.out).2.2 (j:Int) pj qj;cases eadj;simp only[Int.toNat_natCast] at hs0 hs1;have HZS:=Ya (upJ_succ l F v y j (by rw[← HRW.out];exact hltj));have hso:StepOf l (rd_T79 RW (j:Int)):=stL_of (l:=l) (v:=v) (by
         rw[← HRW.out];unfold rd_T79;rw[Int.toNat_natCast,List.getD_eq_getElem?_getD,List.getElem?_eq_getElem hltj];exact List.getElem_mem hltj)
        rw[← HRW.out, ← HZ.out] at HZS;obtain⟨s,hs⟩: ∃ s_,s_=rd_T79 RW (j:Int):=⟨_,rfl⟩;rw[← hs] at hs0 hs1 HZS hso;have HSO:=Ya hso;clear hs hso HZ;go_wp2_with (first|((with_reducible refine gate_dst (N:=8) rfl ?_);refine Yz ?hg (N:=8) ?hd (cs:= #[.int .i64 0, .bool false]) (t:=79) ?hr ?_;(case hd=>rfl);(case hg=>rfl);(case hr=>first|(go_simp;done)|(go_simp;rfl));intro g8 hg w6 Zf hb;have GE8:Aside0 (wr.heap.size≤g8):=⟨Nat.le_of_eq hg.symm⟩;have B8:=Ya Zf;have HBL:=Ya hb;clear Zf hg hb;have hcz0:w6.cell? ⟨g8,0,none⟩=some (.int .i64 0):=(Yc B8.out 0).trans rfl;have hcz1:w6.cell? ⟨g8,1,none⟩=some (.bool false):=(Yc B8.out 1).trans rfl;have hfz0:=Yf B8.out 0;have hfz1:=Yf B8.out 1)|((with_reducible refine gate_store (t:=79) (p:=8) rfl ?_);refine store_event (t:=79) (p:=8) (v:= ?vo) (w1:=((w6.setCell ⟨g8,0,none⟩ (.int .i64 s.f0)).setCell ⟨g8,1,none⟩ (.bool s.f1))) ?hg ?ho ?hn ?hr ?_;(case ho=>rfl);(case hg=>rfl);(case hn=>rfl);(case hr=>first|(go_simp;done)|(go_simp;rfl));intro w8 hw;have m0_:Aside0 (w8.heap[g8]? =some (.cells #[.int .i64 s.f0, .bool s.f1] 79 (0,0))):=⟨by rw[hw];refine YA (cs:= #[.int .i64 s.f0, .bool false]) ?_ 1 _ rfl;refine YA (cs:= #[.int .i64 0, .bool false]) ?_ 0 _ rfl;exact B8.out⟩;have m1_:Aside0 (Below wr.heap.size wr w8):=⟨by rw[hw];exact Yh (Yh HBL.out GE8.out) GE8.out⟩;clear hw B8 HBL hcz0 hcz1 hfz0 hfz1 hs0 hs1;have B8:=m0_;have HBL:=m1_;clear m0_ m1_)|fail);have HG8a:Aside0 (g8≠gd∧g8≠gi∧g8≠gb):=⟨by obtain⟨_,_,_,_,_,_,_,_,_,p1,p2,p3⟩:=HF.out.blocks HOz.out hn0;have:=GE8.out;exact⟨by omega,by omega,by omega⟩⟩;have m0_:=Ya (HF.out.below HBL.out);have m1_:=Ya (Kd.V_below VR.out HBL.out);clear HF VR HBL;have HF:=m0_;have VR:=m1_;clear m0_ m1_;obtain⟨dv,hdv⟩: ∃ d_,d_=z.D.getD v 0:=⟨_,rfl⟩;obtain⟨tm,htm⟩: ∃ d_,d_=stTime l s:=⟨_,rfl⟩;obtain⟨u,hu⟩: ∃ u_:Nat,stTo l s=(u_:Int):=⟨(stTo l s).toNat,by have:=stTo_in HR.out HSO.out;omega⟩;obtain⟨rm,hrm⟩: ∃ d_,d_=stRoom l F s:=⟨_,rfl⟩;have hun:u<n0:=by have:=stTo_in HR.out HSO.out;omega
        have htb:=stTime_in HR.out HSO.out;rw[← htm] at htb;have hdb:=HBD.out v;rw[← hdv] at hdb;have hwd:IntKind.i64.wrap (dv+tm)=dv+tm:=by rw[IntKind.wrap_i64];omega
        have HTO:=Ya (to_f HR.out HSO.out (n0:Int) Zc);have HTM:=Ya (time_f HR.out HSO.out (n0:Int) Zc);have HRM:=Ya (room_f HR.out HSO.out (n0:Int) Zc);rw[hu] at HTO;rw[← htm] at HTM;rw[← hrm] at HRM;have hcD:=HF.out.dv hltv;rw[← hdv] at hcD;have HVC:Aside0 (visC l F v z s=(decide (0<rm) && (!z.I.getD u false || decide (dv+tm<z.D.getD u 0)))):=⟨by unfold visC;rw[← hrm, ← hdv, ← htm,hu,Int.toNat_natCast]⟩;have HVO:Aside0 (visC l F v z s=true→visR l F v z s=⟨z.D.set u (dv+tm),z.I.set u true,z.B.set u s,false⟩):=⟨fun h=>by rw[vis_on h, ← hdv, ← htm,hu,Int.toNat_natCast]⟩;have HBS:Aside0 (Bd (z.D.set u (dv+tm)) (20000 * (r:Int)+400 * (v:Int)+((j+1:Nat):Int))):=⟨by
         have h_:=HBD.out.set (by omega) u v tm htb.1 htb.2;rw[← hdv] at h_;exact h_.mono (by omega)⟩
        clear hdb htb hu hrm htm hdv;have q0: ∀ p:BelowW w8,p.at_.cell? ⟨g2,0,none⟩=some (.int .i64 n0):=fun p=>p.cell ((Yc HF.out.b2 0).trans rfl)
        have q1: ∀ p:BelowW w8,p.at_.cell? ⟨g2,1,none⟩=some (.bool Zc):=fun p=>p.cell ((Yc HF.out.b2 1).trans rfl)
        have q2: ∀ p:BelowW w8,p.at_.cell? ⟨g2,2,none⟩=some (.slice A2 l.length c2):=fun p=>p.cell ((Yc HF.out.b2 2).trans rfl)
        have q3: ∀ p:BelowW w8,p.at_.cell? ⟨g2,3,none⟩=some (.slice A3 F.length c3):=fun p=>p.cell ((Yc HF.out.b2 3).trans rfl)
        have q4: ∀ p:BelowW w8,p.at_.cell? ⟨g8,0,none⟩=some (.int .i64 s.f0):=fun p=>p.cell ((Yc B8.out 0).trans rfl)
        have q5: ∀ p:BelowW w8,p.at_.cell? ⟨g8,1,none⟩=some (.bool s.f1):=fun p=>p.cell ((Yc B8.out 1).trans rfl)
        have q6: ∀ p:BelowW w8,p.at_.cell? ⟨g3,0,none⟩=some (.slice (some ⟨gd,0,none⟩) n0 cd):=fun p=>p.cell ((Yc HF.out.b3 0).trans rfl)
        have q7: ∀ p:BelowW w8,p.at_.cell? ⟨gd,v,none⟩=some (.int .i64 dv):=fun p=>p.cell hcD
        have HCA:Aside0 (∀ p:BelowW w8,Kd.C k50 p.at_ A2 l.length l):=⟨fun p=>Kd.F_now (Kd.F_below HF.out.arcs p.below)⟩;have HCF:Aside0 (∀ p:BelowW w8,Kd.C (Kd.int .i64) p.at_ A3 F.length F):=⟨fun p=>Kd.F_now (Kd.F_below HF.out.flow p.below)⟩;clear hcD;have HG8:Aside0 (g8≠gd∧g8≠gi∧g8≠gb):=⟨HG8a.out⟩;refine wp_region_quiet_below (by kernel_rfl) (by kernel_rfl) ?_;(repeat(quiet_step ((first|(go_at_call 93;exact calls_below_of (static_Flowing_To.calls (n0:Int) Zc A2 c2 l A3 c3 F s.f0 s.f1 (u:Int) _ (HCA.out _) HC2.out (HCF.out _) HC3.out HTO.out))|(go_at_call 94;exact calls_below_of (static_Flowing_Time.calls (n0:Int) Zc A2 c2 l A3 c3 F s.f0 s.f1 tm _ (HCA.out _) HC2.out (HCF.out _) HC3.out HTM.out))))));refine wpQuiet_nil ?_;intro wq hw';obtain⟨⟨wz,hbq⟩,hwq⟩:=hw';subst hwq;have m0_:=Ya (HF.out.below hbq);have m1_:=Ya (Kd.V_below VR.out hbq);have m2_:=Ya (Yn B8.out hbq);clear HF VR B8 HCA HCF q0 q1 q2 q3 q4 q5 q6 q7 hbq;have HF:=m0_;have VR:=m1_;have B8:=m2_;clear m0_ m1_ m2_;have r0:wq.cell? ⟨g2,0,none⟩=some (.int .i64 n0):=(Yc HF.out.b2 0).trans rfl;have r1:wq.cell? ⟨g2,1,none⟩=some (.bool Zc):=(Yc HF.out.b2 1).trans rfl;have r2:wq.cell? ⟨g2,2,none⟩=some (.slice A2 l.length c2):=(Yc HF.out.b2 2).trans rfl;have r3:wq.cell? ⟨g2,3,none⟩=some (.slice A3 F.length c3):=(Yc HF.out.b2 3).trans rfl;have r4:wq.cell? ⟨g8,0,none⟩=some (.int .i64 s.f0):=(Yc B8.out 0).trans rfl;have r5:wq.cell? ⟨g8,1,none⟩=some (.bool s.f1):=(Yc B8.out 1).trans rfl;have pu:0≤((u:Nat):Int):=by omega
        have qu:((u:Nat):Int)<(n0:Int):=by omega
        by_cases hpos:0<rm
        ·have e57:decide (0<rm)=true:=Yv hpos
         rw[e57,Bool.true_and] at HVC;cases hIu:z.I.getD u false with
         |false=>
          rw[hIu] at HVC;have HZN:Aside0 ((⟨z.D.set u (dv+tm),z.I.set u true,z.B.set u s,false⟩:Rch)=upJ l F v y (j+1)):=⟨by rw[HZS.out];exact(HVO.out (by rw[HVC.out];rfl)).symm⟩;have HIU:=Ya hIu;clear hIu hpos;go_wp2_with (first|(go_at_call 89;refine(static_Flowing_Room.calls (n0:Int) Zc A2 c2 l A3 c3 F s.f0 s.f1 rm _ (Kd.F_now HF.out.arcs) HC2.out (Kd.F_now HF.out.flow) HC3.out HRM.out).mono ?_;rintro e_ w21 ⟨rfl,hb⟩;have m0_:=Ya (HF.out.below hb);have m1_:=Ya (Kd.V_below VR.out hb);have m2_:=Ya (Yn B8.out hb);have m3_:Aside0 (g8<w21.heap.size):=⟨Nat.lt_of_lt_of_le (blk_lt B8.out) hb.size⟩;clear HF VR B8 hb r0 r1 r2 r3 r4 r5;have HF:=m0_;have VR:=m1_;have B8:=m2_;clear m0_ m1_ m2_ m3_;have s0:w21.cell? ⟨g3,0,none⟩=some (.slice (some ⟨gd,0,none⟩) n0 cd):=(Yc HF.out.b3 0).trans rfl;have s1:w21.cell? ⟨g3,1,none⟩=some (.slice (some ⟨gi,0,none⟩) n0 ci):=(Yc HF.out.b3 1).trans rfl;have s2:w21.cell? ⟨g3,2,none⟩=some (.slice (some ⟨gb,0,none⟩) n0 cb):=(Yc HF.out.b3 2).trans rfl;have s3:=HF.out.iv hun;have s4:=HF.out.dv hun;rw[HIU.out] at s3)|fail)
          (have s5:w21.cell? ⟨g8,0,none⟩=some (.int .i64 s.f0):=(Yc B8.out 0).trans rfl;have s6:w21.cell? ⟨g8,1,none⟩=some (.bool s.f1):=(Yc B8.out 1).trans rfl;have f0:=(HF.out.free hn0 u).1;have f1:=(HF.out.free hn0 u).2.1;have f2:=(HF.out.free hn0 (u * 2)).2.2;have f3:=(HF.out.free hn0 (u * 2+1)).2.2;obtain⟨t2,t3⟩:=HF.out.bv hun;obtain⟨n1,n2,n3,n4,n5,n6,n7,n8,n9,_,_,_⟩:=HF.out.blocks HOz.out hn0;obtain⟨k1,k2,k3⟩:=HG8.out;go_region;clear s0 s1 s2 s3 s4 s5 s6 f0 f1 f2 f3 t2 t3 n1 n2 n3 n4 n5 n6 n7 n8 n9 k1 k2 k3;have HF2:=Ya ((HF.out.put HOz.out hn0 hun (dv+tm) s).below (below_drew (Yo _ _)));have VR2:Aside0 (Kd.V k79 79 (((((w21.setCell ⟨gd,u,none⟩ (.int .i64 (dv+tm))).setCell ⟨gi,u,none⟩ (.bool true)).setCell ⟨gb,u * 2,none⟩ (.int .i64 s.f0)).setCell ⟨gb,u * 2+1,none⟩ (.bool s.f1)).drew) 0 (okR gd gi gb) (.slice (some adj) RW.length cv) RW):=⟨Kd.V_drew (Kd.V_far (p:=⟨gb,u * 2+1,none⟩) (Kd.V_far (p:=⟨gb,u * 2,none⟩) (Kd.V_far (p:=⟨gi,u,none⟩) (Kd.V_far (p:=⟨gd,u,none⟩) VR.out (fun _ hk=>hk.1) _) (fun _ hk=>hk.2.1) _) (fun _ hk=>hk.2.2) _) (fun _ hk=>hk.2.2) _)⟩;clear HF VR B8;have HOn:Aside0 (Rch.Ok n0 ⟨z.D.set u (dv+tm),z.I.set u true,z.B.set u s,false⟩):=⟨⟨by simp[HOz.out.hD],by simp[HOz.out.hI],by simp[HOz.out.hB]⟩⟩;have HIVn:Aside0 ((z.I.set u true).getD v false=true):=⟨set_true _ _ _ HIV.out⟩;generalize ((((w21.setCell ⟨gd,u,none⟩ (.int .i64 (dv+tm))).setCell ⟨gi,u,none⟩ (.bool true)).setCell ⟨gb,u * 2,none⟩ (.int .i64 s.f0)).setCell ⟨gb,u * 2+1,none⟩ (.bool s.f1)).drew=w30 at HF2 VR2 ⊢;go_wp2_with fail;go_roundw;(case rel=>exact⟨j+1,by omega,by first|rfl|go_num,(⟨z.D.set u (dv+tm),z.I.set u true,z.B.set u s,false⟩:Rch),rfl,HZN,HOn,HBS,HIVn,HF2,VR2⟩);(case measure=>simp[intOf]<;>omega))
         |true=>
          rw[hIu,Bool.not_true,Bool.false_or] at HVC;have HIU:=Ya hIu;clear hIu hpos;by_cases hlt2:dv+tm<z.D.getD u 0
          ·have e72:decide (dv+tm<z.D.getD u 0)=true:=Yv hlt2
           have HZN:Aside0 ((⟨z.D.set u (dv+tm),z.I.set u true,z.B.set u s,false⟩:Rch)=upJ l F v y (j+1)):=⟨by rw[HZS.out];exact(HVO.out (by rw[HVC.out];exact e72)).symm⟩;obtain⟨du,hdu⟩: ∃ d_,d_=z.D.getD u 0:=⟨_,rfl⟩;rw[← hdu] at e72 hlt2;have HDU:=Ya hdu;clear hdu hlt2;go_wp2_with (first|(go_at_call 89;refine(static_Flowing_Room.calls (n0:Int) Zc A2 c2 l A3 c3 F s.f0 s.f1 rm _ (Kd.F_now HF.out.arcs) HC2.out (Kd.F_now HF.out.flow) HC3.out HRM.out).mono ?_;rintro e_ w21 ⟨rfl,hb⟩;have m0_:=Ya (HF.out.below hb);have m1_:=Ya (Kd.V_below VR.out hb);have m2_:=Ya (Yn B8.out hb);have m3_:Aside0 (g8<w21.heap.size):=⟨Nat.lt_of_lt_of_le (blk_lt B8.out) hb.size⟩;clear HF VR B8 hb r0 r1 r2 r3 r4 r5;have HF:=m0_;have VR:=m1_;have B8:=m2_;clear m0_ m1_ m2_ m3_;have s0:w21.cell? ⟨g3,0,none⟩=some (.slice (some ⟨gd,0,none⟩) n0 cd):=(Yc HF.out.b3 0).trans rfl;have s1:w21.cell? ⟨g3,1,none⟩=some (.slice (some ⟨gi,0,none⟩) n0 ci):=(Yc HF.out.b3 1).trans rfl;have s2:w21.cell? ⟨g3,2,none⟩=some (.slice (some ⟨gb,0,none⟩) n0 cb):=(Yc HF.out.b3 2).trans rfl;have s3:=HF.out.iv hun;have s4:=HF.out.dv hun;rw[HIU.out] at s3;rw[← HDU.out] at s4)|fail)
           (have s5:w21.cell? ⟨g8,0,none⟩=some (.int .i64 s.f0):=(Yc B8.out 0).trans rfl;have s6:w21.cell? ⟨g8,1,none⟩=some (.bool s.f1):=(Yc B8.out 1).trans rfl;have f0:=(HF.out.free hn0 u).1;have f1:=(HF.out.free hn0 u).2.1;have f2:=(HF.out.free hn0 (u * 2)).2.2;have f3:=(HF.out.free hn0 (u * 2+1)).2.2;obtain⟨t2,t3⟩:=HF.out.bv hun;obtain⟨n1,n2,n3,n4,n5,n6,n7,n8,n9,_,_,_⟩:=HF.out.blocks HOz.out hn0;obtain⟨k1,k2,k3⟩:=HG8.out;go_region;clear s0 s1 s2 s3 s4 s5 s6 f0 f1 f2 f3 t2 t3 n1 n2 n3 n4 n5 n6 n7 n8 n9 k1 k2 k3;have HF2:=Ya ((HF.out.put HOz.out hn0 hun (dv+tm) s).below (below_drew (Yo _ _)));have VR2:Aside0 (Kd.V k79 79 (((((w21.setCell ⟨gd,u,none⟩ (.int .i64 (dv+tm))).setCell ⟨gi,u,none⟩ (.bool true)).setCell ⟨gb,u * 2,none⟩ (.int .i64 s.f0)).setCell ⟨gb,u * 2+1,none⟩ (.bool s.f1)).drew) 0 (okR gd gi gb) (.slice (some adj) RW.length cv) RW):=⟨Kd.V_drew (Kd.V_far (p:=⟨gb,u * 2+1,none⟩) (Kd.V_far (p:=⟨gb,u * 2,none⟩) (Kd.V_far (p:=⟨gi,u,none⟩) (Kd.V_far (p:=⟨gd,u,none⟩) VR.out (fun _ hk=>hk.1) _) (fun _ hk=>hk.2.1) _) (fun _ hk=>hk.2.2) _) (fun _ hk=>hk.2.2) _)⟩;clear HF VR B8;have HOn:Aside0 (Rch.Ok n0 ⟨z.D.set u (dv+tm),z.I.set u true,z.B.set u s,false⟩):=⟨⟨by simp[HOz.out.hD],by simp[HOz.out.hI],by simp[HOz.out.hB]⟩⟩;have HIVn:Aside0 ((z.I.set u true).getD v false=true):=⟨set_true _ _ _ HIV.out⟩;generalize ((((w21.setCell ⟨gd,u,none⟩ (.int .i64 (dv+tm))).setCell ⟨gi,u,none⟩ (.bool true)).setCell ⟨gb,u * 2,none⟩ (.int .i64 s.f0)).setCell ⟨gb,u * 2+1,none⟩ (.bool s.f1)).drew=w30 at HF2 VR2 ⊢;go_wp2_with fail;go_roundw;(case rel=>exact⟨j+1,by omega,by first|rfl|go_num,(⟨z.D.set u (dv+tm),z.I.set u true,z.B.set u s,false⟩:Rch),rfl,HZN,HOn,HBS,HIVn,HF2,VR2⟩);(case measure=>simp[intOf]<;>omega))
          ·have e72:decide (dv+tm<z.D.getD u 0)=false:=Yw hlt2
           have HZN:Aside0 (z=upJ l F v y (j+1)):=⟨by rw[HZS.out];exact(vis_off (by rw[HVC.out];exact e72)).symm⟩;obtain⟨du,hdu⟩: ∃ d_,d_=z.D.getD u 0:=⟨_,rfl⟩;rw[← hdu] at e72 hlt2;have HDU:=Ya hdu;clear hdu hlt2;go_wp2_with (first|(go_at_call 89;refine(static_Flowing_Room.calls (n0:Int) Zc A2 c2 l A3 c3 F s.f0 s.f1 rm _ (Kd.F_now HF.out.arcs) HC2.out (Kd.F_now HF.out.flow) HC3.out HRM.out).mono ?_;rintro e_ w21 ⟨rfl,hb⟩;have m0_:=Ya (HF.out.below hb);have m1_:=Ya (Kd.V_below VR.out hb);have m2_:=Ya (Yn B8.out hb);have m3_:Aside0 (g8<w21.heap.size):=⟨Nat.lt_of_lt_of_le (blk_lt B8.out) hb.size⟩;clear HF VR B8 hb r0 r1 r2 r3 r4 r5;have HF:=m0_;have VR:=m1_;have B8:=m2_;clear m0_ m1_ m2_ m3_;have s0:w21.cell? ⟨g3,0,none⟩=some (.slice (some ⟨gd,0,none⟩) n0 cd):=(Yc HF.out.b3 0).trans rfl;have s1:w21.cell? ⟨g3,1,none⟩=some (.slice (some ⟨gi,0,none⟩) n0 ci):=(Yc HF.out.b3 1).trans rfl;have s2:w21.cell? ⟨g3,2,none⟩=some (.slice (some ⟨gb,0,none⟩) n0 cb):=(Yc HF.out.b3 2).trans rfl;have s3:=HF.out.iv hun;have s4:=HF.out.dv hun;rw[HIU.out] at s3;rw[← HDU.out] at s4)|fail);go_roundw
           case rel=>exact⟨j+1,by omega,by first|rfl|go_num,z,rfl,HZN,HOz,⟨HBD.out.mono (by omega)⟩,HIV,HF,VR⟩
           case measure=>simp[intOf]<;>omega
        ·have e57:decide (0<rm)=false:=Yw hpos
         rw[e57,Bool.false_and] at HVC;have HZN:Aside0 (z=upJ l F v y (j+1)):=⟨by rw[HZS.out];exact(vis_off HVC.out).symm⟩;clear hpos;go_wp2_with (first|(go_at_call 89;refine(static_Flowing_Room.calls (n0:Int) Zc A2 c2 l A3 c3 F s.f0 s.f1 rm _ (Kd.F_now HF.out.arcs) HC2.out (Kd.F_now HF.out.flow) HC3.out HRM.out).mono ?_;rintro e_ w21 ⟨rfl,hb⟩;have m0_:=Ya (HF.out.below hb);have m1_:=Ya (Kd.V_below VR.out hb);have m2_:=Ya (Yn B8.out hb);have m3_:Aside0 (g8<w21.heap.size):=⟨Nat.lt_of_lt_of_le (blk_lt B8.out) hb.size⟩;clear HF VR B8 hb r0 r1 r2 r3 r4 r5;have HF:=m0_;have VR:=m1_;have B8:=m2_;clear m0_ m1_ m2_ m3_;have s0:w21.cell? ⟨g3,0,none⟩=some (.slice (some ⟨gd,0,none⟩) n0 cd):=(Yc HF.out.b3 0).trans rfl;have s1:w21.cell? ⟨g3,1,none⟩=some (.slice (some ⟨gi,0,none⟩) n0 ci):=(Yc HF.out.b3 1).trans rfl;have s2:w21.cell? ⟨g3,2,none⟩=some (.slice (some ⟨gb,0,none⟩) n0 cb):=(Yc HF.out.b3 2).trans rfl;have s3:=HF.out.iv hun;have s4:=HF.out.dv hun;skip)|fail);go_roundw
         case rel=>exact⟨j+1,by omega,by first|rfl|go_num,z,rfl,HZN,HOz,⟨HBD.out.mono (by omega)⟩,HIV,HF,VR⟩
         case measure=>simp[intOf]<;>omega
       ·have ej:j=RW.length:=by omega
        subst ej;have c36:decide ((RW.length:Int)<(RW.length:Int))=false:=Yw (by omega);have HYS:Aside0 (z=upV l F x1 (v+1)):=⟨by rw[upV_succ, ← HY.out,HZ.out,HRW.out];exact upJ_all l F v y HIVy.out⟩;go_wp2_with fail;go_roundw
        case rel=>exact⟨v+1,by omega,by first|rfl|go_num,z,rfl,HYS,HOz,⟨HBD.out.mono (by omega)⟩,HF⟩
        case measure=>simp[intOf]<;>omega
    ·have ev:n0=v:=by omega
     subst ev;have c23:decide ((n0:Int)<(n0:Int))=false:=Yw (by omega);have HRD:Aside0 (roundR l F n0 x1=y):=⟨HY.out.symm⟩;have hk:n0+1 - r=(n0 - r)+1:=by omega
     rw[hk] at HG1;clear hk;cases hst:y.still with
     |true=>
      have HG2:Aside0 (XT=(y,true)):=⟨by rw[← HG1.out];exact goes_end HRD.out hst⟩;clear hst;go_wp2_with fail;rw[Exit.noGoto_ret];go_ret;rw[HG2.out];exact⟨rfl,HF.out.kp,HF.out.D,HF.out.I,HF.out.B⟩
     |false=>
      have HG2:Aside0 (goesR l F n0 (n0+1 - (r+1)) y=XT):=⟨by rw[show n0+1 - (r+1)=n0 - r by omega, ← HG1.out];exact(goes_step HRD.out hst).symm⟩;clear hst;go_wp2_with fail;go_roundw
      case rel=>exact⟨r+1,by omega,by first|rfl|go_num,y,HO,⟨HBD.out.mono (by omega)⟩,HG2,HF⟩
      case measure=>simp[intOf]<;>omega
  ·have er:r=n0+1:=by omega
   subst er;have c17:decide (((n0+1:Nat):Int)<(n0:Int)+1)=false:=Yw (by omega);have HG2:Aside0 (XT=(x1,false)):=⟨by have:=HG1.out;rw[Nat.sub_self] at this;exact this.symm⟩;go_wp2_with fail;rw[Exit.noGoto_ret];go_ret;rw[HG2.out];exact⟨rfl,HF.out.kp,HF.out.D,HF.out.I,HF.out.B⟩
end H
namespace H
open P
set_option maxHeartbeats 1000000 in
set_option maxRecDepth 100000 in
theorem insertion_nil (A:Option Addr) (cap:Nat) (f:Value) (w:World):
  Calls Try.prog 104 #[.slice A 0 cap, .int .i64 0, .int .i64 0,f] w fun e w'=>e= .returned (.tuple #[])∧w'=w:=by
 go_enter Try.func104,Try.ntmps104;go_wp2;go_loopw [8] (fun i wr=>i= .int .i64 1∧Aside0 (wr=w)) (fun i _=>0)
 case atStart=>exact⟨by go_num,⟨rfl⟩⟩
 case round=>
  obtain⟨rfl,HW⟩:=hrel;go_wp2;go_end0;exact⟨rfl,HW.out⟩
set_option maxHeartbeats 1000000 in
set_option maxRecDepth 100000 in
theorem stable_nil (A:Option Addr) (cap:Nat) (f:Value) (w:World):
  Calls Try.prog 98 #[.slice A 0 cap, .int .i64 0,f] w fun e w'=>e= .returned (.tuple #[])∧w'=w:=by
 go_enter Try.func98,Try.ntmps98;go_wp2_with fail;go_loopw [7,8] (fun va vb wr=>va= .int .i64 0∧vb= .int .i64 20∧Aside0 (wr=w)) (fun va _ _=>0)
 case atStart=>exact⟨by go_num,by go_num,⟨rfl⟩⟩
 case round=>
  obtain⟨rfl,rfl,HW⟩:=hrel;go_wp2_with fail;refine(insertion_nil A cap f _).mono ?_;rintro e1 w1 ⟨rfl,rfl⟩;go_wp2_with fail;go_loopw [6] (fun vs wr=>vs= .int .i64 20∧Aside0 (wr=w)) (fun vs _=>0)
  case atStart=>exact⟨by go_num,HW⟩
  case round=>
   clear HW;obtain⟨rfl,HW⟩:=hrel;go_wp2_with fail;go_end0;exact⟨rfl,HW.out⟩
theorem sortStable_nil (A:Option Addr) (cap:Nat) (f:Value) (w:World):
  Calls Try.prog 85 #[.slice A 0 cap,f] w fun e w'=>e= .returned (.tuple #[])∧w'=w:=by
 go_enter Try.func85,Try.ntmps85;go_wp2_with fail;refine(stable_nil A cap f w).mono ?_;rintro e1 w1 ⟨rfl,rfl⟩;go_wp2_with fail;go_end0;exact⟨rfl,rfl⟩
end H
namespace H
open P
theorem stL_nil {l:List S50} {n:Nat} {v:Int} (hv0:0≤v) (hv:v<n) (hE:ends l n) (h:stepsU l n v=[]):stL l v l.length=[]:=by
 refine List.eq_nil_iff_forall_not_mem.2 fun s hs=> ?_
 have:=(mem_stepsU l n v hv0 hv hE s).2 ((mem_stL l v l.length s).1 hs);rw[h] at this;cases this
theorem row_step (P:List S79) (L:List Int) (b:Bool) (j:Nat) (hj:j<L.length):P ++ (L.take (j+1)).map (fun i=>(⟨i,b⟩:S79))=(P ++ (L.take j).map (fun i=>(⟨i,b⟩:S79))) ++ [⟨rd L (j:Int),b⟩]:=by
 have e:L.take (j+1)=L.take j ++ [rd L (j:Int)]:=by
  rw[List.take_add_one,List.getElem?_eq_getElem hj];show _ ++ [L[j]]=_ ++ [L.getD (j:Int).toNat 0];rw[Int.toNat_natCast,List.getD_eq_getElem?_getD,List.getElem?_eq_getElem hj];rfl
 rw[e,List.map_append,List.append_assoc];rfl
theorem sort_row {w:World} {base go n co k N:Nat} {l:List S50} {X:List (List S79)} {oki:Nat→Prop} {A:Option Addr} {cr:Nat} {RW:List S79}
  (hH:Kd.H (Kd.slice 79 k79) 67 w base (fun _=>True) (.slice (some ⟨go,0,none⟩) n co) X (k:Int) oki [.slice A RW.length cr])
  (hR:Kd.R k79 79 w base oki (.slice A RW.length cr) RW) (hRW:RW=stepsU l N (k:Int)) (hk:k<N) (hE:ends l N) (hl:l.length≤1000000) (hlen:RW.length≤1000000):
  Calls Try.prog 85 #[.slice A RW.length cr, .func (.func 86) #[] #[]] w fun e w'=>e= .returned (.tuple #[])∧
   ∃ v:Value,w.grownBy w' v.ownBlock∧(∀ g,v.ownBlock=some g→base≤g∧ ∃ cells,w.heap[g]? =some (.cells cells 79 (0,0)))∧Kd.S (Kd.slice 79 k79) 67 w' base (fun _=>True) (.slice (some ⟨go,0,none⟩) n co) (X.set k (stL l k l.length)):=by
 have hk0:0≤(k:Int):=by omega
 have hkn:(k:Int)<N:=by omega
 by_cases hp:0<RW.length
 ·obtain⟨g,cap,e,hb,_,cells,hcl⟩:=Kd.R_form hR hp
  injection e with e1 _ e3
  subst e1;subst e3;have hA:=arr_of_R hR hp;refine(sortStable_calls g RW.length cr (fun i=>RW.getD i z79) w hA hlen ?_ ?_).mono ?_
  ·rw[hRW];exact stab_of_list (stab_stepsU l N (k:Int) hk0 hkn hE)
  ·rw[hRW];exact small_steps hk0 hkn hE hl
  ·rintro e w' ⟨rfl,⟨K,hK,hs⟩,hf⟩
   refine⟨rfl, .slice (some ⟨g,0,none⟩) RW.length cr,hf.1,fun g' hg'=> ?_,?_⟩
   ·have:g=g':=by simpa [Value.ownBlock] using hg'
    subst this;exact⟨hb,cells,hcl⟩
   ·have hoki:oki g:=hR.1 g rfl
    have hR':=R_of_arr hR rfl hp hK hf hoki;have hst:(List.range RW.length).map K=stL l k l.length:=by rw[hRW] at hs ⊢;exact sorted_is hk0 hkn hE hs
    rw[hst] at hR';have hS:=Kd.H_back (Kd.H_grown hH hf.1 (fun q hq=>by injection hq with hq;subst hq;exact hoki)) (x':=stL l k l.length) ⟨_,rfl,hR'⟩ (fun _ hk=>hk);rw[Int.toNat_natCast] at hS;exact hS
 ·have h0:RW=[]:=List.eq_nil_of_length_eq_zero (by omega)
  have hst:stL l k l.length=[]:=stL_nil hk0 hkn hE (by rw[← hRW];exact h0);subst h0;refine(sortStable_nil A cr _ w).mono ?_;rintro e w' ⟨rfl,rfl⟩;refine⟨rfl, .slice none 0 0,World.grownBy.refl _ _,fun g' hg'=>by simp[Value.ownBlock] at hg',?_⟩;rw[hst];have hS:=Kd.H_back hH (x':=([]:List S79)) ⟨_,rfl,hR⟩ (fun _ hk=>hk);rw[Int.toNat_natCast] at hS;exact hS
end H
namespace H
open Go.RowKit Go.Proofs.YtoedkglggapggaaW.PrintWords Go.Proofs.YtoedkglggapggaaW.PrintLast Go.Proofs.YtoedkglggapggaaW.PrintMore P
theorem infoRowS:(Try.prog.info? 67).map (fun i=>(i.zero,i.size,i.bytes))=some (some (.slice none 0 0),1,24):=by kernel_rfl
set_option maxHeartbeats 2000000 in
set_option maxRecDepth 100000 in
theorem at_calls (n0:Nat) (a0_1:Bool) (A0_2:Option Addr) (c0_2:Nat) (l0_2:List S50) (A1:Option Addr) (c1 n1:Nat) (w:World) (hr0_2:Kd.C k50 w A0_2 l0_2.length l0_2) (hc0_2:l0_2.length≤c0_2) (h0:0≤(n0:Int)) (h1:(n0:Int)≤1000000) (hl:l0_2.length≤500000) (hE0: ∀ k:Nat,k<l0_2.length→0≤eFrom (rd_T50 l0_2 k)∧eFrom (rd_T50 l0_2 k)<(n0:Int)) (hE1: ∀ k:Nat,k<l0_2.length→0≤eTo (rd_T50 l0_2 k)∧eTo (rd_T50 l0_2 k)<(n0:Int)):
  Calls Try.prog 68 #[.agg #[.int .i64 (n0:Int), .bool a0_1, .slice A0_2 l0_2.length c0_2], .slice A1 n1 c1] w fun e w'=> ∃ v0_:Value,e= .returned (.agg #[.int .i64 (n0:Int), .bool a0_1, .slice A0_2 l0_2.length c0_2, .slice A1 n1 c1,v0_])∧Kd.S (Kd.slice 79 k79) 67 w' w.heap.size (fun _=>True) v0_ (rowsAt l0_2 n0 n0)∧Below w.heap.size w w':=by
 have hu24:=Try.underlying24;have hu118:=Try.underlying107;have HR0_2:=Aside0.mk hr0_2;have HC0_2:=Aside0.mk hc0_2;have HH0:=Aside0.mk h0;have HH1:=Aside0.mk h1;have HE0:=Aside0.mk hE0;have HE1:=Aside0.mk hE1;have HR0:=Aside0.mk hr0_2;clear hr0_2 hc0_2 h0 h1 hE0 hE1;have HB:=Aside0.mk (Below.refl w.heap.size w);go_enter Try.func68,Try.ntmps68;go_wp2_with (first|((with_reducible refine gate_dst (N:=2) rfl ?_);refine box_event ?hg (N:=2) ?hd (cs:= #[.int .i64 (n0:Int), .bool a0_1, .slice A0_2 l0_2.length c0_2]) (t:=24) ?hr ?_;(case hd=>rfl);(case hg=>rfl);(case hr=>first|(go_simp;done)|(go_simp;rfl));intro gb111 hg w4 hbox hb;have n0_:=Aside0.mk (below_step (by repeat(first|(with_reducible first|exact HB.out|apply below_alloc|apply pw_below_drewN|apply below_drew1)|exact HB.out)) hb);have n1_:=Aside0.mk (hbox);have n2_:=Aside0.mk (Kd.C_below HR0_2.out hb);clear HB HR0_2;have HB:=n0_;have BK111:=n1_;have HR0_2:=n2_;clear n0_ n1_ n2_;clear hb hbox hg)|((with_reducible refine gate_dst (N:=4) rfl ?_);refine box_event ?hg (N:=4) ?hd (cs:= #[.int .i64 0, .bool false, .slice none 0 0, .slice none 0 0, .slice none 0 0]) (t:=107) ?hr ?_;(case hd=>rfl);(case hg=>rfl);(case hr=>first|(go_simp;done)|(go_simp;rfl));intro gb4 hg w5 hbox hb;have GE4:Aside0 (w.heap.size≤gb4):=⟨by rw[hg];exact HB.out.size⟩;have n0_:=Aside0.mk (below_step (by repeat(first|(with_reducible first|exact HB.out|apply below_alloc|apply pw_below_drewN|apply below_drew1)|exact HB.out)) hb);have n1_:=Aside0.mk (hbox);have n2_:=Aside0.mk (Kd.C_below HR0_2.out hb);have n3_:=Aside0.mk (blk_below BK111.out hb);clear HB HR0_2 BK111;have HB:=n0_;have BK4:=n1_;have HR0_2:=n2_;have BK111:=n3_;clear n0_ n1_ n2_ n3_;clear hb hbox hg)|fail);obtain⟨R0,hR0⟩: ∃ y_:List (List S79),y_=List.replicate (n0:Int).toNat []:=⟨_,rfl⟩;have NR0:=Aside0.mk hR0;clear hR0;refine start_ (n:=9) (S:=(fun w'=>w'.cell? ⟨gb111,0,none⟩=some (.int .i64 (n0:Int))∧w'.cell? ⟨gb111,1,none⟩=some (.bool a0_1)∧w'.cell? ⟨gb111,2,none⟩=some (.slice A0_2 l0_2.length c0_2))) (ds:=[]) #[false,false,false,false,false,false,false,false,false] (by kernel_rfl) rfl rfl ⟨(blk_cell BK111.out 0).trans rfl,(blk_cell BK111.out 1).trans rfl,(blk_cell BK111.out 2).trans rfl⟩ (fun hHeld=> ?_);have n0_:=Aside0.mk (below_drew HB.out);have n1_:Aside0 (w5.drew.heap[gb111]? =some (.cells #[.int .i64 (n0:Int), .bool a0_1, .slice A0_2 l0_2.length c0_2] 24 (0,0))):=⟨BK111.out⟩;have n2_:Aside0 (w5.drew.heap[gb4]? =some (.cells #[.int .i64 0, .bool false, .slice none 0 0, .slice none 0 0, .slice none 0 0] 107 (0,0))):=⟨BK4.out⟩;clear HB BK111 BK4;have HB:=n0_;have BK111:=n1_;have BK4:=n2_;clear n0_ n1_ n2_;generalize w5.drew=w6 at BK111 HB BK4 hHeld ⊢;refine pure_ (i:=1) (N:=some 14) (v:= ?_) (a':= ?_) #[false,true,false,false,false,false,false,false,false] rfl rfl (by kernel_rfl) (fun _ _ _ h=>h) (Or.inl ⟨by rfl,?_⟩) ?_ ?_
 rotate_left
 ·intro w'
  go_simp
  with_reducible rfl
 rotate_left
 ·simp only[Act.put,List.setIfInBounds_toArray,List.set_cons_zero,List.set_cons_succ,i64_w,i32_w]
  rfl
 refine pure_ (i:=3) (N:=some 16) (v:= ?_) (a':= ?_) #[false,true,false,true,false,false,false,false,false] rfl rfl (by kernel_rfl) (fun _ _ _ h=>h) (Or.inl ⟨by rfl,?_⟩) ?_ ?_
 rotate_left
 ·intro w'
  go_simp
  with_reducible rfl
 rotate_left
 ·simp only[Act.put,List.setIfInBounds_toArray,List.set_cons_zero,List.set_cons_succ,i64_w,i32_w]
  rfl
 refine take_ (i:=0) (N:=some 13) (v:= ?_) (a':= ?_) #[true,true,false,true,false,false,false,false,false] rfl rfl (by kernel_rfl) (fun _ _ _ h=>h) (Or.inl ⟨by rfl,?_⟩) hHeld ?_ ?_
 rotate_left
 ·rintro w' ⟨s0,s1,s2⟩
  go_simp
  with_reducible rfl
 rotate_left
 ·simp only[Act.put,List.setIfInBounds_toArray,List.set_cons_zero,List.set_cons_succ,i64_w,i32_w]
  rfl
 refine take_ (i:=4) (N:=some 17) (v:= ?_) (a':= ?_) #[true,true,false,true,true,false,false,false,false] rfl rfl (by kernel_rfl) (fun _ _ _ h=>h) (Or.inl ⟨by rfl,?_⟩) hHeld ?_ ?_
 rotate_left
 ·rintro w' ⟨s0,s1,s2⟩
  go_simp
  with_reducible rfl
 rotate_left
 ·simp only[Act.put,List.setIfInBounds_toArray,List.set_cons_zero,List.set_cons_succ,i64_w,i32_w]
  rfl
 refine pure_ (i:=2) (N:=some 15) (v:= ?_) (a':= ?_) #[true,true,true,true,true,false,false,false,false] rfl rfl (by kernel_rfl) (fun _ _ _ h=>h) (Or.inl ⟨by rfl,?_⟩) ?_ ?_
 rotate_left
 ·intro w'
  go_simp
  with_reducible rfl
 rotate_left
 ·simp only[Act.put,List.setIfInBounds_toArray,List.set_cons_zero,List.set_cons_succ,i64_w,i32_w]
  rfl
 refine join_ (σ:=Value × Nat) 1 #[true,true,true,true,true,true,true,true,false] (fun s_=>[(18,s_.1),(19, .agg #[.int .i64 (n0:Int), .bool a0_1, .slice A0_2 l0_2.length c0_2, .slice A1 n1 c1,s_.1]),(5, .pointer (some ⟨s_.2,0,none⟩))]) (fun s_ w'=>(w'.cell? ⟨gb111,0,none⟩=some (.int .i64 (n0:Int))∧w'.cell? ⟨gb111,1,none⟩=some (.bool a0_1)∧w'.cell? ⟨gb111,2,none⟩=some (.slice A0_2 l0_2.length c0_2))∧Kd.S (Kd.slice 79 k79) 67 w' w.heap.size (fun _=>True) s_.1 R0∧w'.heap[gb111]? =some (.cells #[.int .i64 (n0:Int), .bool a0_1, .slice A0_2 l0_2.length c0_2] 24 (0,0))∧w'.heap[s_.2]? =some (.cells #[.int .i64 0, .bool false, .slice none 0 0, .slice none 0 0, .slice none 0 0] 107 (0,0))∧w'.heap[gb4]? =some (.cells #[.int .i64 0, .bool false, .slice none 0 0, .slice none 0 0, .slice none 0 0] 107 (0,0))∧w.heap.size≤s_.2∧gb111≠s_.2∧gb4≠s_.2∧Below w.heap.size w w') ?_ ?_
 rotate_left
 ·intro hCont
  refine two_ (i:=5) (j:=7) (Ni:=some 18) (Nj:=some 5) #[true,true,true,true,true,true,false,false,false] #[true,true,true,true,true,false,false,true,false] rfl rfl rfl rfl (by kernel_rfl) (by decide) (by decide) (fun K hK=> ?_) (fun K hK=> ?_)
  ·skip
   refine Kd.S_make_step (Kd.slice 79 k79) _ 67 (by rfl) (N:=18) rfl 105 _ _ rfl (n0:Int) rfl rfl Try.underlying105 (.slice none 0 0) 24 infoRowS rfl (by decide) (by omega) [] (ok:=fun _=>True) (okp:=fun _=>True) ⟨_,rfl,Kd.R_nil _ _ _ _ _⟩ (fun _ hk=>hk) trivial HH0.out (by have:=HH1.out;omega) (Below.refl _ _) (Nat.le_refl _) ?_;intro v18 w7 ho hb _ _;rw[← NR0.out] at ho;obtain⟨Ao,co,eo⟩:=Kd.S_slice ho;subst eo;have n0_:=Aside0.mk (Kd.S_lower ho HB.out.size);have n1_:=Aside0.mk (blk_below BK111.out hb);have n2_:=Aside0.mk (blk_below BK4.out hb);have n3_:=Aside0.mk (below_step HB.out hb);clear BK111 BK4 HB ho hb;have HO:=n0_;have BK111:=n1_;have BK4:=n2_;have HB:=n3_;clear n0_ n1_ n2_ n3_;refine hK.out _ _ ⟨(blk_cell BK111.out 0).trans rfl,(blk_cell BK111.out 1).trans rfl,(blk_cell BK111.out 2).trans rfl⟩ (fun hHeld=> ?_);clear hK K;refine norm_ (a':= ?_) ?_ ?_
   rotate_left
   ·show Act.put _ (some 18) _=_
    simp only[Act.put,List.setIfInBounds_toArray,List.set_cons_zero,List.set_cons_succ,i64_w,i32_w];rfl
   refine pure_ (i:=6) (N:=some 19) (v:= ?_) (a':= ?_) #[true,true,true,true,true,true,true,false,false] rfl rfl (by kernel_rfl) (fun _ _ _ h=>h) (Or.inl ⟨by rfl,?_⟩) ?_ ?_
   rotate_left
   ·intro w'
    go_simp
    with_reducible rfl
   rotate_left
   ·simp only[Act.put,List.setIfInBounds_toArray,List.set_cons_zero,List.set_cons_succ,i64_w,i32_w]
    rfl
   refine one_ (i:=7) (N:=some 5) #[true,true,true,true,true,true,true,true,false] rfl rfl (by kernel_rfl) (by decide) (fun K hK=> ?_);refine box_step ?hg (N:=5) ?hd (cs:= #[.int .i64 0, .bool false, .slice none 0 0, .slice none 0 0, .slice none 0 0]) (t:=107) ?hr ?_;(case hd=>rfl);(case hg=>rfl);(case hr=>first|(go_simp;done)|(go_simp;rfl));intro gb5 hg w8 hbox hb;have n0_:=Aside0.mk hbox;have n1_:=Aside0.mk (blk_below BK111.out hb);have n2_:=Aside0.mk (blk_below BK4.out hb);have n3_:=Aside0.mk (below_step HB.out hb);have n5_:Aside0 (w.heap.size≤gb5):=⟨by rw[hg];exact HB.out.size⟩;have n6_:Aside0 (gb111≠gb5):=⟨by rw[hg];exact Nat.ne_of_lt (blk_lt BK111.out)⟩;have n7_:Aside0 (gb4≠gb5):=⟨by rw[hg];exact Nat.ne_of_lt (blk_lt BK4.out)⟩;have n4_:=Aside0.mk (Kd.S_below HO.out hb);clear HO;have HO:=n4_;clear n4_;clear BK111 BK4 HB hbox hb hg;have BK5:=n0_;have BK111:=n1_;have BK4:=n2_;have HB:=n3_;have GE5:=n5_;have NB111:=n6_;have NB4:=n7_;clear n0_ n1_ n2_ n3_ n5_ n6_ n7_;refine hK.out _ _ ⟨(blk_cell BK111.out 0).trans rfl,(blk_cell BK111.out 1).trans rfl,(blk_cell BK111.out 2).trans rfl⟩ (fun hHeld=> ?_);clear hK K;refine norm_ (a':= ?_) ?_ ?_
   rotate_left
   ·show Act.put _ (some 5) _=_
    simp only[Act.put,List.setIfInBounds_toArray,List.set_cons_zero,List.set_cons_succ,i64_w,i32_w];rfl
   exact norm_ (by(simp only[putAll,Act.put,List.setIfInBounds_toArray,List.set_cons_zero,List.set_cons_succ])<;>rfl) (hCont (.slice Ao R0.length co,gb5) _ ⟨hHeld,HO.out,BK111.out,BK5.out,BK4.out,GE5.out,NB111.out,NB4.out,HB.out⟩)
  ·skip
   refine box_step ?hg (N:=5) ?hd (cs:= #[.int .i64 0, .bool false, .slice none 0 0, .slice none 0 0, .slice none 0 0]) (t:=107) ?hr ?_;(case hd=>rfl);(case hg=>rfl);(case hr=>first|(go_simp;done)|(go_simp;rfl));intro gb5 hg w7 hbox hb;have n0_:=Aside0.mk hbox;have n1_:=Aside0.mk (blk_below BK111.out hb);have n2_:=Aside0.mk (blk_below BK4.out hb);have n3_:=Aside0.mk (below_step HB.out hb);have n5_:Aside0 (w.heap.size≤gb5):=⟨by rw[hg];exact HB.out.size⟩;have n6_:Aside0 (gb111≠gb5):=⟨by rw[hg];exact Nat.ne_of_lt (blk_lt BK111.out)⟩;have n7_:Aside0 (gb4≠gb5):=⟨by rw[hg];exact Nat.ne_of_lt (blk_lt BK4.out)⟩;clear BK111 BK4 HB hbox hb hg;have BK5:=n0_;have BK111:=n1_;have BK4:=n2_;have HB:=n3_;have GE5:=n5_;have NB111:=n6_;have NB4:=n7_;clear n0_ n1_ n2_ n3_ n5_ n6_ n7_;refine hK.out _ _ ⟨(blk_cell BK111.out 0).trans rfl,(blk_cell BK111.out 1).trans rfl,(blk_cell BK111.out 2).trans rfl⟩ (fun hHeld=> ?_);clear hK K;refine norm_ (a':= ?_) ?_ ?_
   rotate_left
   ·show Act.put _ (some 5) _=_
    simp only[Act.put,List.setIfInBounds_toArray,List.set_cons_zero,List.set_cons_succ,i64_w,i32_w];rfl
   refine one_ (i:=5) (N:=some 18) #[true,true,true,true,true,true,false,true,false] rfl rfl (by kernel_rfl) (by decide) (fun K hK=> ?_);refine Kd.S_make_step (Kd.slice 79 k79) _ 67 (by rfl) (N:=18) rfl 105 _ _ rfl (n0:Int) rfl rfl Try.underlying105 (.slice none 0 0) 24 infoRowS rfl (by decide) (by omega) [] (ok:=fun _=>True) (okp:=fun _=>True) ⟨_,rfl,Kd.R_nil _ _ _ _ _⟩ (fun _ hk=>hk) trivial HH0.out (by have:=HH1.out;omega) (Below.refl _ _) (Nat.le_refl _) ?_;intro v18 w8 ho hb _ _;rw[← NR0.out] at ho;obtain⟨Ao,co,eo⟩:=Kd.S_slice ho;subst eo;have n0_:=Aside0.mk (Kd.S_lower ho HB.out.size);have n1_:=Aside0.mk (blk_below BK111.out hb);have n2_:=Aside0.mk (blk_below BK4.out hb);have n3_:=Aside0.mk (below_step HB.out hb);have n4_:=Aside0.mk (blk_below BK5.out hb);clear BK5;have BK5:=n4_;clear n4_;clear BK111 BK4 HB ho hb;have HO:=n0_;have BK111:=n1_;have BK4:=n2_;have HB:=n3_;clear n0_ n1_ n2_ n3_;refine hK.out _ _ ⟨(blk_cell BK111.out 0).trans rfl,(blk_cell BK111.out 1).trans rfl,(blk_cell BK111.out 2).trans rfl⟩ (fun hHeld=> ?_);clear hK K;refine norm_ (a':= ?_) ?_ ?_
   rotate_left
   ·show Act.put _ (some 18) _=_
    simp only[Act.put,List.setIfInBounds_toArray,List.set_cons_zero,List.set_cons_succ,i64_w,i32_w];rfl
   refine pure_ (i:=6) (N:=some 19) (v:= ?_) (a':= ?_) #[true,true,true,true,true,true,true,true,false] rfl rfl (by kernel_rfl) (fun _ _ _ h=>h) (Or.inl ⟨by rfl,?_⟩) ?_ ?_
   rotate_left
   ·intro w'
    go_simp
    with_reducible rfl
   rotate_left
   ·simp only[Act.put,List.setIfInBounds_toArray,List.set_cons_zero,List.set_cons_succ,i64_w,i32_w]
    rfl
   exact norm_ (by(simp only[putAll,Act.put,List.setIfInBounds_toArray,List.set_cons_zero,List.set_cons_succ])<;>rfl) (hCont (.slice Ao R0.length co,gb5) _ ⟨hHeld,HO.out,BK111.out,BK5.out,BK4.out,GE5.out,NB111.out,NB4.out,HB.out⟩)
 rintro⟨v18,gb5⟩ w9 ⟨hHeld,h0_,h1_,h2_,h3_,h4_,h5_,h6_,h7_⟩;clear BK111 BK4 HB;have HO:=Aside0.mk h0_;clear h0_;have BK111:=Aside0.mk h1_;clear h1_;have BK5:=Aside0.mk h2_;clear h2_;have BK4:=Aside0.mk h3_;clear h3_;have GE5:=Aside0.mk h4_;clear h4_;have NB111:=Aside0.mk h5_;clear h5_;have NB4:=Aside0.mk h6_;clear h6_;have HB:=Aside0.mk h7_;clear h7_;obtain⟨Ao,co,eo⟩:=Kd.S_slice HO.out;dsimp only at eo HO BK5 GE5 NB111 NB4;subst eo;refine norm_ (a':= ?_) ?_ ?_
 rotate_left
 ·simp only[putAll,Act.put,List.setIfInBounds_toArray,List.set_cons_zero,List.set_cons_succ]
  rfl
 refine one_ (i:=8) (N:=none) #[true,true,true,true,true,true,true,true,true] rfl rfl (by kernel_rfl) (by decide) (fun K hK=> ?_);have hs0:w9.cell? ⟨gb5,0,none⟩=some (.int .i64 0):=(blk_cell BK5.out 0).trans rfl;have hfs0:=blk_frozen BK5.out 0;have hs1:w9.cell? ⟨gb5,1,none⟩=some (.bool false):=(blk_cell BK5.out 1).trans rfl;have hfs1:=blk_frozen BK5.out 1;have hs2:w9.cell? ⟨gb5,2,none⟩=some (.slice none 0 0):=(blk_cell BK5.out 2).trans rfl;have hfs2:=blk_frozen BK5.out 2;have hs3:w9.cell? ⟨gb5,3,none⟩=some (.slice none 0 0):=(blk_cell BK5.out 3).trans rfl;have hfs3:=blk_frozen BK5.out 3;have hs4:w9.cell? ⟨gb5,4,none⟩=some (.slice none 0 0):=(blk_cell BK5.out 4).trans rfl;have hfs4:=blk_frozen BK5.out 4;have n0_:Aside0 ((((((w9.setCell ⟨gb5,0,none⟩ (.int .i64 (n0:Int))).setCell ⟨gb5,1,none⟩ (.bool a0_1)).setCell ⟨gb5,2,none⟩ (.slice A0_2 l0_2.length c0_2)).setCell ⟨gb5,3,none⟩ (.slice A1 n1 c1)).setCell ⟨gb5,4,none⟩ (.slice Ao R0.length co)).heap[gb5]? =some (.cells #[.int .i64 (n0:Int), .bool a0_1, .slice A0_2 l0_2.length c0_2, .slice A1 n1 c1, .slice Ao R0.length co] 107 (0,0))):=⟨by
  refine blk_put (cs:= #[.int .i64 (n0:Int), .bool a0_1, .slice A0_2 l0_2.length c0_2, .slice A1 n1 c1, .slice none 0 0]) ?_ 4 _ rfl;refine blk_put (cs:= #[.int .i64 (n0:Int), .bool a0_1, .slice A0_2 l0_2.length c0_2, .slice none 0 0, .slice none 0 0]) ?_ 3 _ rfl;refine blk_put (cs:= #[.int .i64 (n0:Int), .bool a0_1, .slice none 0 0, .slice none 0 0, .slice none 0 0]) ?_ 2 _ rfl;refine blk_put (cs:= #[.int .i64 (n0:Int), .bool false, .slice none 0 0, .slice none 0 0, .slice none 0 0]) ?_ 1 _ rfl;refine blk_put (cs:= #[.int .i64 0, .bool false, .slice none 0 0, .slice none 0 0, .slice none 0 0]) ?_ 0 _ rfl;exact BK5.out⟩
 have n1_:Aside0 ((((((w9.setCell ⟨gb5,0,none⟩ (.int .i64 (n0:Int))).setCell ⟨gb5,1,none⟩ (.bool a0_1)).setCell ⟨gb5,2,none⟩ (.slice A0_2 l0_2.length c0_2)).setCell ⟨gb5,3,none⟩ (.slice A1 n1 c1)).setCell ⟨gb5,4,none⟩ (.slice Ao R0.length co)).heap[gb111]? =some (.cells #[.int .i64 (n0:Int), .bool a0_1, .slice A0_2 l0_2.length c0_2] 24 (0,0))):=⟨by
  refine blk_far ?_ NB111.out _;refine blk_far ?_ NB111.out _;refine blk_far ?_ NB111.out _;refine blk_far ?_ NB111.out _;refine blk_far ?_ NB111.out _;exact BK111.out⟩
 have n2_:Aside0 ((((((w9.setCell ⟨gb5,0,none⟩ (.int .i64 (n0:Int))).setCell ⟨gb5,1,none⟩ (.bool a0_1)).setCell ⟨gb5,2,none⟩ (.slice A0_2 l0_2.length c0_2)).setCell ⟨gb5,3,none⟩ (.slice A1 n1 c1)).setCell ⟨gb5,4,none⟩ (.slice Ao R0.length co)).heap[gb4]? =some (.cells #[.int .i64 0, .bool false, .slice none 0 0, .slice none 0 0, .slice none 0 0] 107 (0,0))):=⟨by
  refine blk_far ?_ NB4.out _;refine blk_far ?_ NB4.out _;refine blk_far ?_ NB4.out _;refine blk_far ?_ NB4.out _;refine blk_far ?_ NB4.out _;exact BK4.out⟩
 have n3_:Aside0 (Kd.S (Kd.slice 79 k79) 67 (((((w9.setCell ⟨gb5,0,none⟩ (.int .i64 (n0:Int))).setCell ⟨gb5,1,none⟩ (.bool a0_1)).setCell ⟨gb5,2,none⟩ (.slice A0_2 l0_2.length c0_2)).setCell ⟨gb5,3,none⟩ (.slice A1 n1 c1)).setCell ⟨gb5,4,none⟩ (.slice Ao R0.length co)) w.heap.size (fun _=>True) (.slice Ao R0.length co) R0):=⟨Kd.S_mono (Kd.S_far (p:=⟨gb5,4,none⟩) (Kd.S_far (p:=⟨gb5,3,none⟩) (Kd.S_far (p:=⟨gb5,2,none⟩) (Kd.S_far (p:=⟨gb5,1,none⟩) (Kd.S_far (p:=⟨gb5,0,none⟩) (Kd.S_types HO.out BK5.out (by decide)) (fun _ hk=>hk.2) (.int .i64 (n0:Int))) (fun _ hk=>hk.2) (.bool a0_1)) (fun _ hk=>hk.2) (.slice A0_2 l0_2.length c0_2)) (fun _ hk=>hk.2) (.slice A1 n1 c1)) (fun _ hk=>hk.2) (.slice Ao R0.length co)) (fun _ _=>trivial)⟩;have n4_:Aside0 (Below w.heap.size w (((((w9.setCell ⟨gb5,0,none⟩ (.int .i64 (n0:Int))).setCell ⟨gb5,1,none⟩ (.bool a0_1)).setCell ⟨gb5,2,none⟩ (.slice A0_2 l0_2.length c0_2)).setCell ⟨gb5,3,none⟩ (.slice A1 n1 c1)).setCell ⟨gb5,4,none⟩ (.slice Ao R0.length co))):=⟨by repeat(first|exact HB.out|refine below_set ?_ GE5.out)⟩;refine skip_ (w1:=(((((w9.setCell ⟨gb5,0,none⟩ (.int .i64 (n0:Int))).setCell ⟨gb5,1,none⟩ (.bool a0_1)).setCell ⟨gb5,2,none⟩ (.slice A0_2 l0_2.length c0_2)).setCell ⟨gb5,3,none⟩ (.slice A1 n1 c1)).setCell ⟨gb5,4,none⟩ (.slice Ao R0.length co))) (by rfl) rfl ?_ ?_
 ·go_simp
 clear hs0 hfs0 hs1 hfs1 hs2 hfs2 hs3 hfs3 hs4 hfs4;refine hK.out _ _ ⟨(blk_cell n1_.out 0).trans rfl,(blk_cell n1_.out 1).trans rfl,(blk_cell n1_.out 2).trans rfl⟩ (fun hHeld=> ?_);clear hK K BK5 BK111 BK4 HO HB hHeld;have BK5:=n0_;have BK111:=n1_;have BK4:=n2_;have HO:=n3_;have HB:=n4_;clear n0_ n1_ n2_ n3_ n4_;refine done_ (by kernel_rfl) ?_;generalize (((((w9.setCell ⟨gb5,0,none⟩ (.int .i64 (n0:Int))).setCell ⟨gb5,1,none⟩ (.bool a0_1)).setCell ⟨gb5,2,none⟩ (.slice A0_2 l0_2.length c0_2)).setCell ⟨gb5,3,none⟩ (.slice A1 n1 c1)).setCell ⟨gb5,4,none⟩ (.slice Ao R0.length co))=w10 at BK5 BK111 BK4 HO HB ⊢;go_wp2_with fail;refine start_ (n:=6) (S:=(fun w'=>w'.cell? ⟨gb111,0,none⟩=some (.int .i64 (n0:Int))∧w'.cell? ⟨gb111,1,none⟩=some (.bool a0_1)∧w'.cell? ⟨gb111,2,none⟩=some (.slice A0_2 l0_2.length c0_2))) (ds:=[]) #[false,false,false,false,false,false] (by kernel_rfl) rfl rfl ⟨(blk_cell BK111.out 0).trans rfl,(blk_cell BK111.out 1).trans rfl,(blk_cell BK111.out 2).trans rfl⟩ (fun hHeld=> ?_);have n0_:=Aside0.mk (below_drew HB.out);have n1_:Aside0 (w10.drew.heap[gb111]? =some (.cells #[.int .i64 (n0:Int), .bool a0_1, .slice A0_2 l0_2.length c0_2] 24 (0,0))):=⟨BK111.out⟩;have n2_:Aside0 (w10.drew.heap[gb4]? =some (.cells #[.int .i64 0, .bool false, .slice none 0 0, .slice none 0 0, .slice none 0 0] 107 (0,0))):=⟨BK4.out⟩;have n3_:Aside0 (w10.drew.heap[gb5]? =some (.cells #[.int .i64 (n0:Int), .bool a0_1, .slice A0_2 l0_2.length c0_2, .slice A1 n1 c1, .slice Ao R0.length co] 107 (0,0))):=⟨BK5.out⟩;have n4_:=Aside0.mk (Kd.S_drew HO.out);clear HB BK111 BK4 BK5 HO;have HB:=n0_;have BK111:=n1_;have BK4:=n2_;have BK5:=n3_;have HO:=n4_;clear n0_ n1_ n2_ n3_ n4_;generalize w10.drew=w11 at BK111 HB BK4 BK5 HO hHeld ⊢;refine take_ (i:=0) (N:=some 20) (v:= ?_) (a':= ?_) #[true,false,false,false,false,false] rfl rfl (by kernel_rfl) (fun _ _ _ h=>h) (Or.inl ⟨by rfl,?_⟩) hHeld ?_ ?_
 rotate_left
 ·rintro w' ⟨s0,s1,s2⟩
  go_simp
  with_reducible rfl
 rotate_left
 ·simp only[Act.put,List.setIfInBounds_toArray,List.set_cons_zero,List.set_cons_succ,i64_w,i32_w]
  rfl
 refine take_ (i:=2) (N:=some 22) (v:= ?_) (a':= ?_) #[true,false,true,false,false,false] rfl rfl (by kernel_rfl) (fun _ _ _ h=>h) (Or.inl ⟨by rfl,?_⟩) hHeld ?_ ?_
 rotate_left
 ·rintro w' ⟨s0,s1,s2⟩
  go_simp
  with_reducible rfl
 rotate_left
 ·simp only[Act.put,List.setIfInBounds_toArray,List.set_cons_zero,List.set_cons_succ,i64_w,i32_w]
  rfl
 refine one_ (i:=1) (N:=some 21) #[true,true,true,false,false,false] rfl rfl (by kernel_rfl) (by decide) (fun K hK=> ?_);refine goes_ Try.func83 (by kernel_rfl) rfl #[.agg #[.int .i64 (n0:Int), .bool a0_1, .slice A0_2 l0_2.length c0_2]] (by rfl) rfl rfl (by(try simp only[List.map_toArray,List.map_cons,List.map_nil]);first|done|rfl) ?_
 refine(leaving_calls (n0:Int) a0_1 A0_2 c0_2 l0_2 _ (Kd.C_below HR0.out HB.out) HC0_2.out HH0.out HH1.out (by omega) HE0.out).mono ?_;rintro e w12 ⟨v21,rfl,hS,hb⟩;refine⟨_,rfl,?_⟩;have n0_:=Aside0.mk (below_step HB.out hb);have n1_:=Aside0.mk (blk_below BK111.out hb);have n2_:=Aside0.mk (blk_below BK4.out hb);have n3_:=Aside0.mk (blk_below BK5.out hb);have n4_:=Aside0.mk (Kd.S_below HO.out hb);have n5_:=Aside0.mk (Kd.S_lower hS HB.out.size);clear HB BK111 BK4 BK5 HO hS hb;have HB:=n0_;have BK111:=n1_;have BK4:=n2_;have BK5:=n3_;have HO:=n4_;have Hv21:=n5_;clear n0_ n1_ n2_ n3_ n4_ n5_;obtain⟨Av21,cv21,ev21⟩:=Kd.S_slice Hv21.out;subst ev21;refine hK.out _ _ ⟨(blk_cell BK111.out 0).trans rfl,(blk_cell BK111.out 1).trans rfl,(blk_cell BK111.out 2).trans rfl⟩ (fun hHeld=> ?_);clear hK K;refine norm_ (a':= ?_) ?_ ?_
 rotate_left
 ·show Act.put _ (some 21) _=_
  simp only[Act.put,List.setIfInBounds_toArray,List.set_cons_zero,List.set_cons_succ,i64_w,i32_w];rfl
 refine one_ (i:=3) (N:=some 23) #[true,true,true,true,false,false] rfl rfl (by kernel_rfl) (by decide) (fun K hK=> ?_);refine goes_ Try.func84 (by kernel_rfl) rfl #[.agg #[.int .i64 (n0:Int), .bool a0_1, .slice A0_2 l0_2.length c0_2]] (by rfl) rfl rfl (by(try simp only[List.map_toArray,List.map_cons,List.map_nil]);first|done|rfl) ?_
 refine(coming_calls (n0:Int) a0_1 A0_2 c0_2 l0_2 _ (Kd.C_below HR0.out HB.out) HC0_2.out HH0.out HH1.out (by omega) HE1.out).mono ?_;rintro e w13 ⟨v23,rfl,hS,hb⟩;refine⟨_,rfl,?_⟩;have n0_:=Aside0.mk (below_step HB.out hb);have n1_:=Aside0.mk (blk_below BK111.out hb);have n2_:=Aside0.mk (blk_below BK4.out hb);have n3_:=Aside0.mk (blk_below BK5.out hb);have n4_:=Aside0.mk (Kd.S_below HO.out hb);have n5_:=Aside0.mk (Kd.S_lower hS HB.out.size);have m_:=Aside0.mk (Kd.S_below Hv21.out hb);clear Hv21;have Hv21:=m_;clear m_;clear HB BK111 BK4 BK5 HO hS hb;have HB:=n0_;have BK111:=n1_;have BK4:=n2_;have BK5:=n3_;have HO:=n4_;have Hv23:=n5_;clear n0_ n1_ n2_ n3_ n4_ n5_;obtain⟨Av23,cv23,ev23⟩:=Kd.S_slice Hv23.out;subst ev23;refine hK.out _ _ ⟨(blk_cell BK111.out 0).trans rfl,(blk_cell BK111.out 1).trans rfl,(blk_cell BK111.out 2).trans rfl⟩ (fun hHeld=> ?_);clear hK K;refine norm_ (a':= ?_) ?_ ?_
 rotate_left
 ·show Act.put _ (some 23) _=_
  simp only[Act.put,List.setIfInBounds_toArray,List.set_cons_zero,List.set_cons_succ,i64_w,i32_w];rfl
 refine pure_ (i:=4) (N:=some 6) (v:= ?_) (a':= ?_) #[true,true,true,true,true,false] rfl rfl (by kernel_rfl) (fun _ _ _ h=>h) (Or.inl ⟨by rfl,?_⟩) ?_ ?_
 rotate_left
 ·intro w'
  go_simp
  with_reducible rfl
 rotate_left
 ·simp only[Act.put,List.setIfInBounds_toArray,List.set_cons_zero,List.set_cons_succ,i64_w,i32_w]
  rfl
 refine pure_ (i:=5) (N:=some 7) (v:= ?_) (a':= ?_) #[true,true,true,true,true,true] rfl rfl (by kernel_rfl) (fun _ _ _ h=>h) (Or.inl ⟨by rfl,?_⟩) ?_ ?_
 rotate_left
 ·intro w'
  go_simp
  with_reducible rfl
 rotate_left
 ·simp only[Act.put,List.setIfInBounds_toArray,List.set_cons_zero,List.set_cons_succ,i64_w,i32_w]
  rfl
 refine done_ (by kernel_rfl) ?_;go_wp2_with fail;have HR0':Aside0 (R0=rowsAt l0_2 n0 0):=⟨by rw[NR0.out,rowsAt_zero,Int.toNat_natCast]⟩;have hlR:R0.length=n0:=by rw[HR0'.out,rowsAt_len]
 rw[hlR] at HO BK5 ⊢;rw[HR0'.out] at HO;simp only[Int.toNat_natCast] at Hv21 Hv23 ⊢;clear hHeld;obtain⟨L0,hL0⟩: ∃ L,L=lsAt eFrom l0_2 n0 l0_2.length:=⟨_,rfl⟩;obtain⟨L1,hL1⟩: ∃ L,L=lsAt eTo l0_2 n0 l0_2.length:=⟨_,rfl⟩;have hn0:L0.length=n0:=by rw[hL0,lsAt_len]
 have hn1:L1.length=n0:=by rw[hL1,lsAt_len]
 rw[← hL0,hn0] at Hv21 ⊢;rw[← hL1,hn1] at Hv23 ⊢;have HL0:=Aside0.mk hL0;have HL1:=Aside0.mk hL1;clear hL0 hL1;clear HR0' hlR HR0_2;have hn6:n0≤1000000:=by have:=HH1.out;omega
 go_loopw [26] (fun v26 w'=> ∃ k:Nat,k≤n0∧v26= .int .i64 k∧Aside0 (Kd.S (Kd.slice 79 k79) 67 w' w.heap.size (fun _=>True) (.slice Ao n0 co) (rowsAt l0_2 n0 k))∧Aside0 (w'.heap[gb111]? =some (.cells #[.int .i64 (n0:Int), .bool a0_1, .slice A0_2 l0_2.length c0_2] 24 (0,0)))∧Aside0 (w'.heap[gb4]? =some (.cells #[.int .i64 0, .bool false, .slice none 0 0, .slice none 0 0, .slice none 0 0] 107 (0,0)))∧Aside0 (w'.heap[gb5]? =some (.cells #[.int .i64 (n0:Int), .bool a0_1, .slice A0_2 l0_2.length c0_2, .slice A1 n1 c1, .slice Ao n0 co] 107 (0,0)))∧Aside0 (Kd.S (Kd.slice 3 (Kd.int .i64)) 31 w' w.heap.size (fun _=>True) (.slice Av21 n0 cv21) L0)∧Aside0 (Kd.S (Kd.slice 3 (Kd.int .i64)) 31 w' w.heap.size (fun _=>True) (.slice Av23 n0 cv23) L1)∧Aside0 (Below w.heap.size w w')) (fun v26 _=>n0 - (intOf v26).toNat)
 case atStart=>exact⟨0,Nat.zero_le _,rfl,HO,BK111,BK4,BK5,Hv21,Hv23,HB⟩
 case round=>
  clear HO BK111 BK4 BK5 Hv21 Hv23 HB;obtain⟨k,hk,rfl,HO,BK111,BK4,BK5,Hv21,Hv23,HB⟩:=hrel;by_cases hlt:k<n0
  ·have pk:0≤((k:Nat):Int):=by omega
   have qk:((k:Nat):Int)<(n0:Int):=by omega
   have c27:decide ((k:Int)<(n0:Int))=true:=decide_eq_true qk;obtain⟨ad0,AA0,cc0,e_,hx_,hl_,_⟩:=at_L5 (Kd.S_reads' Hv21.out).2.2 (k:Int) pk (by rw[hn0];omega);cases e_;obtain⟨ce_,hce_,hM_,hcc_⟩:=Kd.S_get Hv21.out [] (k:Int) pk qk;obtain⟨ve_,rfl,ge_⟩:=hM_;have hv_:=hcc_ 0 _ rfl;rw[Nat.add_zero,show ((Kd.slice 3 (Kd.int .i64))).sz=1 from rfl,Nat.mul_one] at hv_;replace hv_:=Option.some.inj (hv_.symm.trans hx_);rw[hv_] at ge_;obtain⟨LL0,hLL0⟩: ∃ L,L=rd_L5 L0 (k:Int):=⟨_,rfl⟩;have HLL0:Aside0 (Kd.R (Kd.int .i64) 3 wr w.heap.size (fun _=>True) (.slice AA0 LL0.length cc0) LL0):=⟨by rw[hLL0];exact Kd.R_mono ge_ (fun _ _=>trivial)⟩;rw[← hLL0] at hx_;simp only[Int.toNat_natCast] at hx_;have HELL0:=Aside0.mk hLL0;clear ge_ hv_ hcc_ hce_ hl_ hLL0;have hxLL0:=hx_;clear hx_;obtain⟨go,co2,eo,gbase,glt,cl,HG⟩:=Kd.S_form HO.out (by rw[rowsAt_len];omega);rw[rowsAt_len] at eo;injection eo with ea _ ec
   subst ea;subst ec;have GBO:=Aside0.mk gbase;clear gbase glt HG;have HLE0:Aside0 (LL0.length≤500000):=⟨by rw[HELL0.out,HL0.out];exact Nat.le_trans (lsAt_row _ _ _ _ _) hl⟩;go_wp2_with fail;have hLL0:=HLE0.out;obtain⟨wo1,hwo1⟩: ∃ x_:World,x_=wr:=⟨_,rfl⟩;subst hwo1;go_loopw [34] (fun v_ w'=> ∃ j:Nat,j≤LL0.length∧v_= .int .i64 j∧Aside0 (Kd.S (Kd.slice 79 k79) 67 w' w.heap.size (fun _=>True) (.slice (some ⟨go,0,none⟩) n0 co) ((rowsAt l0_2 n0 k).set k (([]:List S79) ++ (LL0.take j).map (fun i=>(⟨i,false⟩:S79)))))∧Aside0 (w'.heap[gb111]? =some (.cells #[.int .i64 (n0:Int), .bool a0_1, .slice A0_2 l0_2.length c0_2] 24 (0,0)))∧Aside0 (w'.heap[gb4]? =some (.cells #[.int .i64 0, .bool false, .slice none 0 0, .slice none 0 0, .slice none 0 0] 107 (0,0)))∧Aside0 (w'.heap[gb5]? =some (.cells #[.int .i64 (n0:Int), .bool a0_1, .slice A0_2 l0_2.length c0_2, .slice A1 n1 c1, .slice (some ⟨go,0,none⟩) n0 co] 107 (0,0)))∧Aside0 (Kd.S (Kd.slice 3 (Kd.int .i64)) 31 w' w.heap.size (fun _=>True) (.slice (some ad0) n0 cv21) L0)∧Aside0 (Kd.S (Kd.slice 3 (Kd.int .i64)) 31 w' w.heap.size (fun _=>True) (.slice Av23 n0 cv23) L1)∧Aside0 (Kd.R (Kd.int .i64) 3 w' w.heap.size (fun _=>True) (.slice AA0 LL0.length cc0) LL0)∧Aside0 (Below w.heap.size w w')) (fun v_ _=>LL0.length - (intOf v_).toNat)
   case atStart=>exact⟨0,Nat.zero_le _,rfl,⟨by rw[List.take_zero,List.map_nil,List.append_nil,rowsAt_self l0_2 n0 k hlt];exact HO.out⟩,BK111,BK4,BK5,Hv21,Hv23,HLL0,HB⟩
   case round=>
    clear HO BK111 BK4 BK5 Hv21 Hv23 HLL0 HB;obtain⟨j,hj,rfl,HO,BK111,BK4,BK5,Hv21,Hv23,HLL0,HB⟩:=hrel;by_cases hltj:j<LL0.length
    ·have pj:0≤((j:Nat):Int):=by omega
     have qj:((j:Nat):Int)<(LL0.length:Int):=by omega
     have cj:decide ((j:Int)<(LL0.length:Int))=true:=decide_eq_true qj;obtain⟨adj,eadj,hxj⟩:=Kd.at_int (Kd.R_reads' HLL0.out).2.2 (j:Int) pj qj;cases eadj;simp only[Int.toNat_natCast] at hxj;have HST:=Aside0.mk (row_step ([]:List S79) LL0 false j hltj);obtain⟨xj,hxv⟩: ∃ x_,x_=rd LL0 (j:Int):=⟨_,rfl⟩;obtain⟨RW,hRW⟩: ∃ r_,r_=(([]:List S79) ++ (LL0.take j).map (fun i=>(⟨i,false⟩:S79))):=⟨_,rfl⟩;have HRL:Aside0 (RW.length≤1000000):=⟨by rw[hRW];simp;have:=HLE0.out;omega⟩;rw[← hRW, ← hxv] at HST;obtain⟨RW2,hRW2⟩: ∃ r_,r_=(([]:List S79) ++ (LL0.take (j+1)).map (fun i=>(⟨i,false⟩:S79))):=⟨_,rfl⟩;rw[← hRW2] at HST;have HRW2:=Aside0.mk hRW2;clear hRW2;rw[← hxv] at hxj;rw[← hRW] at HO;have HRW:=Aside0.mk hRW;have HXV:=Aside0.mk hxv;clear hRW hxv;obtain⟨oki,c_,_,hM_,hcc_,_,_,hH_⟩:=Kd.S_elem HO.out [] (k:Int) pk qk;obtain⟨vr,rfl,hR_⟩:=hM_;rw[show ((rowsAt l0_2 n0 k).set k RW).getD (k:Int).toNat []=RW from rd_set (rowsAt l0_2 n0 k) k RW (by rw[rowsAt_len];exact hlt)] at hR_;obtain⟨Ar,cr,er⟩:=Kd.R_slice hR_;subst er;have hx4:=hcc_ 0 _ rfl;rw[show ((Kd.slice 79 k79)).sz=1 from rfl,Nat.mul_one,Nat.add_zero,Int.toNat_natCast] at hx4;have UU:=Aside0.mk hR_;have HH:=Aside0.mk hH_;clear hcc_ hR_ hH_;have hx5:wr.cell? ⟨gb5,4,none⟩=some (.slice (some ⟨go,0,none⟩) n0 co):=(blk_cell BK5.out 4).trans rfl;go_wp2_with fail;refine start_ (n:=14) (S:=fun w'=>w'.cell? ⟨gb5,4,none⟩=some (.slice (some ⟨go,0,none⟩) n0 co)∧w'.cell? ⟨go,k,none⟩=some (.slice Ar RW.length cr)) (ds:=[13]) #[false,false,false,false,false,false,false,false,false,false,false,false,false,false] (by kernel_rfl) rfl rfl ⟨hx5,hx4⟩ (fun hHeld=> ?_);have m0_:=Aside0.mk (below_drew HB.out);have m1_:=Aside0.mk ((show wr.drew.heap[gb111]? =_ from BK111.out));have m2_:=Aside0.mk ((show wr.drew.heap[gb4]? =_ from BK4.out));have m3_:=Aside0.mk ((show wr.drew.heap[gb5]? =_ from BK5.out));have m4_:=Aside0.mk (Kd.S_drew Hv21.out);have m5_:=Aside0.mk (Kd.S_drew Hv23.out);have m6_:=Aside0.mk (Kd.R_drew HLL0.out);have m7_:=Aside0.mk (Kd.R_drew UU.out);have m8_:=Aside0.mk (Kd.H_drew HH.out);clear HB BK111 BK4 BK5 Hv21 Hv23 HLL0 UU HH;have HB:=m0_;clear m0_;have BK111:=m1_;clear m1_;have BK4:=m2_;clear m2_;have BK5:=m3_;clear m3_;have Hv21:=m4_;clear m4_;have Hv23:=m5_;clear m5_;have HLL0:=m6_;clear m6_;have UU:=m7_;clear m7_;have HH:=m8_;clear m8_;clear HO hxj hx5 hx4;generalize wr.drew=w14 at HB BK111 BK4 BK5 Hv21 Hv23 HLL0 UU HH hHeld ⊢;refine pure_ (i:=0) (N:=some 38) (v:= ?_) (a':= ?_) #[true,false,false,false,false,false,false,false,false,false,false,false,false,false] rfl rfl (by kernel_rfl) (fun _ _ _ h=>h) (Or.inl ⟨by rfl,?_⟩) ?_ ?_
     rotate_left
     ·intro w'
      go_simp
      with_reducible rfl
     rotate_left
     ·simp only[Act.put,List.setIfInBounds_toArray,List.set_cons_zero,List.set_cons_succ,i64_w,i32_w]
      rfl
     refine pure_ (i:=2) (N:=some 40) (v:= ?_) (a':= ?_) #[true,false,true,false,false,false,false,false,false,false,false,false,false,false] rfl rfl (by kernel_rfl) (fun _ _ _ h=>h) (Or.inl ⟨by rfl,?_⟩) ?_ ?_
     rotate_left
     ·intro w'
      go_simp
      with_reducible rfl
     rotate_left
     ·simp only[Act.put,List.setIfInBounds_toArray,List.set_cons_zero,List.set_cons_succ,i64_w,i32_w]
      rfl
     refine pure_ (i:=3) (N:=some 41) (v:= ?_) (a':= ?_) #[true,false,true,true,false,false,false,false,false,false,false,false,false,false] rfl rfl (by kernel_rfl) (fun _ _ _ h=>h) (Or.inl ⟨by rfl,?_⟩) ?_ ?_
     rotate_left
     ·intro w'
      go_simp
      with_reducible rfl
     rotate_left
     ·simp only[Act.put,List.setIfInBounds_toArray,List.set_cons_zero,List.set_cons_succ,i64_w,i32_w]
      rfl
     refine pure_ (i:=5) (N:=some 43) (v:= ?_) (a':= ?_) #[true,false,true,true,false,true,false,false,false,false,false,false,false,false] rfl rfl (by kernel_rfl) (fun _ _ _ h=>h) (Or.inl ⟨by rfl,?_⟩) ?_ ?_
     rotate_left
     ·intro w'
      go_simp
      with_reducible rfl
     rotate_left
     ·simp only[Act.put,List.setIfInBounds_toArray,List.set_cons_zero,List.set_cons_succ,i64_w,i32_w]
      rfl
     refine pure_ (i:=8) (N:=some 46) (v:= ?_) (a':= ?_) #[true,false,true,true,false,true,false,false,true,false,false,false,false,false] rfl rfl (by kernel_rfl) (fun _ _ _ h=>h) (Or.inl ⟨by rfl,?_⟩) ?_ ?_
     rotate_left
     ·intro w'
      go_simp
      with_reducible rfl
     rotate_left
     ·simp only[Act.put,List.setIfInBounds_toArray,List.set_cons_zero,List.set_cons_succ,i64_w,i32_w]
      rfl
     refine pure_ (i:=9) (N:=some 47) (v:= ?_) (a':= ?_) #[true,false,true,true,false,true,false,false,true,true,false,false,false,false] rfl rfl (by kernel_rfl) (fun _ _ _ h=>h) (Or.inl ⟨by rfl,?_⟩) ?_ ?_
     rotate_left
     ·intro w'
      go_simp
      with_reducible rfl
     rotate_left
     ·simp only[Act.put,List.setIfInBounds_toArray,List.set_cons_zero,List.set_cons_succ,i64_w,i32_w]
      rfl
     refine take_ (i:=1) (N:=some 39) (v:= ?_) (a':= ?_) #[true,true,true,true,false,true,false,false,true,true,false,false,false,false] rfl rfl (by kernel_rfl) (fun _ _ _ h=>h) (Or.inl ⟨by rfl,?_⟩) hHeld ?_ ?_
     rotate_left
     ·rintro w' ⟨s0,s1⟩
      go_simp
      with_reducible rfl
     rotate_left
     ·simp only[Act.put,List.setIfInBounds_toArray,List.set_cons_zero,List.set_cons_succ,i64_w,i32_w]
      rfl
     refine take_ (i:=4) (N:=some 42) (v:= ?_) (a':= ?_) #[true,true,true,true,true,true,false,false,true,true,false,false,false,false] rfl rfl (by kernel_rfl) (fun _ _ _ h=>h) (Or.inl ⟨by rfl,?_⟩) hHeld ?_ ?_
     rotate_left
     ·rintro w' ⟨s0,s1⟩
      go_simp
      with_reducible rfl
     rotate_left
     ·simp only[Act.put,List.setIfInBounds_toArray,List.set_cons_zero,List.set_cons_succ,i64_w,i32_w]
      rfl
     refine pure_ (i:=6) (N:=some 44) (v:= ?_) (a':= ?_) #[true,true,true,true,true,true,true,false,true,true,false,false,false,false] rfl rfl (by kernel_rfl) (fun _ _ _ h=>h) (Or.inl ⟨by rfl,?_⟩) ?_ ?_
     rotate_left
     ·intro w'
      go_simp
      with_reducible rfl
     rotate_left
     ·simp only[Act.put,List.setIfInBounds_toArray,List.set_cons_zero,List.set_cons_succ,i64_w,i32_w]
      rfl
     refine take_ (i:=7) (N:=some 45) (v:= ?_) (a':= ?_) #[true,true,true,true,true,true,true,true,true,true,false,false,false,false] rfl rfl (by kernel_rfl) (fun _ _ _ h=>h) (Or.inl ⟨by rfl,?_⟩) hHeld ?_ ?_
     rotate_left
     ·rintro w' ⟨s0,s1⟩
      go_simp
      with_reducible rfl
     rotate_left
     ·simp only[Act.put,List.setIfInBounds_toArray,List.set_cons_zero,List.set_cons_succ,i64_w,i32_w]
      rfl
     refine one_ (i:=10) (N:=some 48) #[true,true,true,true,true,true,true,true,true,true,true,false,false,false] rfl rfl (by kernel_rfl) (by decide) (fun K hK=> ?_);refine value_ (w1:= ?_) (v:= ?_) (by rfl) rfl ?_ ?_
     rotate_left 2
     ·go_simp
      constructor
      ·rfl
      ·rfl
     refine hK.out _ _ ⟨(blk_cell (blk_alloc BK5.out _) 4).trans rfl,(World.cell?_alloc_lt _ _ _ (World.block_lt_of_cell? _ _ hHeld.2)).trans hHeld.2⟩ (fun hHeld2=> ?_);clear hK K hHeld2;refine norm_ (a':= ?_) ?_ ?_
     rotate_left
     ·show Act.put _ (some 48) _=_
      simp only[Act.put,List.setIfInBounds_toArray,List.set_cons_zero,List.set_cons_succ,i64_w,i32_w];rfl
     refine one_ (i:=11) (N:=some 49) #[true,true,true,true,true,true,true,true,true,true,true,true,false,false] rfl rfl (by kernel_rfl) (by decide) (fun K hK=> ?_);refine Kd.R_append_step k79 (w0:=w) w.heap.size (by rfl) (.tmp 45) (.tmp 48) 67 79 (.agg #[(.int .i64 0),(.bool false)]) 16 rfl Try.underlying67 info79 rfl (by decide) (by omega) (.slice Ar RW.length cr) RW (⟨xj,false⟩:S79) [.int .i64 xj, .bool false] (fun k_=>oki k_∨((fun _=>True)) k_∧w14.heap.size≤k_) (fun _=>False) rfl rfl ?aP (fun _ hk=>hk.elim) ?aF ?aO ?aB ?aS ?aL ?_
     (case aP=>exact k79_mkM _ _ _ (⟨xj,false⟩:S79))
     (case aF=>exact fun k_ hk=> .inr ⟨trivial,hk⟩)
     (case aO=>exact Kd.R_mono UU.out (fun _ hk=> .inl hk))
     (case aB=>exact HB.out)
     (case aS=>exact HB.out.size)
     (case aL=>have:=HRL.out;omega)
     intro v_ w16 ho hb hg hat
     clear hat
     have m0_:=Aside0.mk (blk_grown BK111.out hg (Kd.R_ne UU.out BK111.out (by decide)));have m1_:=Aside0.mk (blk_grown BK4.out hg (Kd.R_ne UU.out BK4.out (by decide)));have m2_:=Aside0.mk (blk_grown BK5.out hg (Kd.R_ne UU.out BK5.out (by decide)));have m3_:=Aside0.mk (Kd.S_over' Hv21.out (Kd.R_typed UU.out) (by decide) hg);have m4_:=Aside0.mk (Kd.S_over' Hv23.out (Kd.R_typed UU.out) (by decide) hg);have m5_:=Aside0.mk (Kd.R_over' HLL0.out (Kd.R_typed UU.out) (by decide) hg);have m6_:=Aside0.mk (Kd.H_grown (Kd.H_widen HH.out) hg (fun k_ e_=> .inl (UU.out.1 k_ e_)));have m7_:=Aside0.mk (hb);have m8_:=Aside0.mk (ho);clear BK111 BK4 BK5 Hv21 Hv23 HLL0 HH HB UU;have BK111:=m0_;clear m0_;have BK4:=m1_;clear m1_;have BK5:=m2_;clear m2_;have Hv21:=m3_;clear m3_;have Hv23:=m4_;clear m4_;have HLL0:=m5_;clear m5_;have HH:=m6_;clear m6_;have HB:=m7_;clear m7_;have UU:=m8_;clear m8_;rw[← HST.out] at UU;obtain⟨A2,c2,e2⟩:=Kd.R_slice UU.out;subst e2;obtain⟨_,_,hraw,_,_,hcc_,_⟩:=Kd.H_raw HH.out pk qk;obtain⟨_,hfr_⟩:=Kd.H_at HH.out pk qk;have hx4:=hcc_ 0 _ rfl;have hf4:=hfr_ 0;rw[show ((Kd.slice 79 k79)).sz=1 from rfl,Nat.mul_one,Nat.add_zero,Int.toNat_natCast] at hx4 hf4;have HRAW:=Aside0.mk hraw;clear hcc_ hfr_ hraw ho hb hg;refine hK.out _ _ ⟨(blk_cell BK5.out 4).trans rfl,hx4⟩ (fun hHeld=> ?_);clear hK K;refine norm_ (a':= ?_) ?_ ?_
     rotate_left
     ·show Act.put _ (some 49) _=_
      simp only[Act.put,List.setIfInBounds_toArray,List.set_cons_zero,List.set_cons_succ,i64_w,i32_w];rfl
     refine pure_ (i:=12) (N:=some 50) (v:= ?_) (a':= ?_) #[true,true,true,true,true,true,true,true,true,true,true,true,true,false] rfl rfl (by kernel_rfl) (fun _ _ _ h=>h) (Or.inl ⟨by rfl,?_⟩) ?_ ?_
     rotate_left
     ·intro w'
      go_simp
      with_reducible rfl
     rotate_left
     ·simp only[Act.put,List.setIfInBounds_toArray,List.set_cons_zero,List.set_cons_succ,i64_w,i32_w]
      rfl
     have HP:=Kd.S_seg0 HH.out pk qk (seg:=[.slice A2 RW2.length c2]) (j:=0) (show 1≤1 from by decide) (x':=RW2) (Kd.M_row UU.out) (fun _ hk=>hk);rw[show ((Kd.slice 79 k79)).sz=1 from rfl,Nat.mul_one,Nat.add_zero,Int.toNat_natCast,List.set_set] at HP;have HG2:w16.grownBy (w16.setCell ⟨go,k,none⟩ (.slice A2 RW2.length c2)) (some go):=HP.2;have HO:=Aside0.mk (show Kd.S (Kd.slice 79 k79) 67 (w16.setCell ⟨go,k,none⟩ (.slice A2 RW2.length c2)) w.heap.size (fun _=>True) (.slice (some ⟨go,0,none⟩) n0 co) ((rowsAt l0_2 n0 k).set k RW2) from HP.1);refine last_ (i:=13) (N:=none) #[true,true,true,true,true,true,true,true,true,true,true,true,true,true] rfl rfl (by kernel_rfl) (by decide) (fun K hK=> ?_);refine skip_ (w1:=w16.setCell ⟨go,k,none⟩ (.slice A2 RW2.length c2)) (by rfl) rfl ?_ ?_
     ·go_simp
     refine hK.out _ _ ?_;clear hK K;have m0_:=Aside0.mk (blk_grown BK111.out HG2 (Kd.R_ne HRAW.out BK111.out (by decide)));have m1_:=Aside0.mk (blk_grown BK4.out HG2 (Kd.R_ne HRAW.out BK4.out (by decide)));have m2_:=Aside0.mk (blk_grown BK5.out HG2 (Kd.R_ne HRAW.out BK5.out (by decide)));have m3_:=Aside0.mk (Kd.S_over' Hv21.out (Kd.R_typed HRAW.out) (by decide) HG2);have m4_:=Aside0.mk (Kd.S_over' Hv23.out (Kd.R_typed HRAW.out) (by decide) HG2);have m5_:=Aside0.mk (Kd.R_over' HLL0.out (Kd.R_typed HRAW.out) (by decide) HG2);have m6_:=Aside0.mk ((below_set HB.out GBO.out:Below w.heap.size w (w16.setCell ⟨go,k,none⟩ (.slice A2 RW2.length c2))));clear BK111 BK4 BK5 Hv21 Hv23 HLL0 HB;have BK111:=m0_;clear m0_;have BK4:=m1_;clear m1_;have BK5:=m2_;clear m2_;have Hv21:=m3_;clear m3_;have Hv23:=m4_;clear m4_;have HLL0:=m5_;clear m5_;have HB:=m6_;clear m6_;clear HP HG2 HRAW UU HH hHeld hx4 hf4;refine done_ (by kernel_rfl) ?_;generalize w16.setCell ⟨go,k,none⟩ (.slice A2 RW2.length c2)=w17 at HO BK111 BK4 BK5 Hv21 Hv23 HLL0 HB ⊢;rw[HRW2.out] at HO;clear HRW2 HST HRW;go_wp2_with fail;go_roundw
     case rel=>exact⟨j+1,by omega,by first|rfl|go_num,HO,BK111,BK4,BK5,Hv21,Hv23,HLL0,HB⟩
     case measure=>simp[intOf]<;>omega
    ·have ej:j=LL0.length:=by omega
     subst ej;rw[List.take_length] at HO;have cj:decide ((LL0.length:Int)<(LL0.length:Int))=false:=decide_eq_false (by omega);have hlenx:True:=trivial;obtain⟨ad1,AA1,cc1,e_,hx_,hl_,_⟩:=at_L5 (Kd.S_reads' Hv23.out).2.2 (k:Int) pk (by rw[hn1];omega);cases e_;obtain⟨ce_,hce_,hM_,hcc_⟩:=Kd.S_get Hv23.out [] (k:Int) pk qk;obtain⟨ve_,rfl,ge_⟩:=hM_;have hv_:=hcc_ 0 _ rfl;rw[Nat.add_zero,show ((Kd.slice 3 (Kd.int .i64))).sz=1 from rfl,Nat.mul_one] at hv_;replace hv_:=Option.some.inj (hv_.symm.trans hx_);rw[hv_] at ge_;obtain⟨LL1,hLL1⟩: ∃ L,L=rd_L5 L1 (k:Int):=⟨_,rfl⟩;have HLL1:Aside0 (Kd.R (Kd.int .i64) 3 wr w.heap.size (fun _=>True) (.slice AA1 LL1.length cc1) LL1):=⟨by rw[hLL1];exact Kd.R_mono ge_ (fun _ _=>trivial)⟩;rw[← hLL1] at hx_;simp only[Int.toNat_natCast] at hx_;have HELL1:=Aside0.mk hLL1;clear ge_ hv_ hcc_ hce_ hl_ hLL1;have hxLL1:=hx_;clear hx_;have HLE1:Aside0 (LL1.length≤500000):=⟨by rw[HELL1.out,HL1.out];exact Nat.le_trans (lsAt_row _ _ _ _ _) hl⟩;go_wp2_with fail;have hLL1:=HLE1.out;obtain⟨wo2,hwo2⟩: ∃ x_:World,x_=wr:=⟨_,rfl⟩;subst hwo2;go_loopw [57] (fun v_ w'=> ∃ j:Nat,j≤LL1.length∧v_= .int .i64 j∧Aside0 (Kd.S (Kd.slice 79 k79) 67 w' w.heap.size (fun _=>True) (.slice (some ⟨go,0,none⟩) n0 co) ((rowsAt l0_2 n0 k).set k ((([]:List S79) ++ LL0.map (fun i=>(⟨i,false⟩:S79))) ++ (LL1.take j).map (fun i=>(⟨i,true⟩:S79)))))∧Aside0 (w'.heap[gb111]? =some (.cells #[.int .i64 (n0:Int), .bool a0_1, .slice A0_2 l0_2.length c0_2] 24 (0,0)))∧Aside0 (w'.heap[gb4]? =some (.cells #[.int .i64 0, .bool false, .slice none 0 0, .slice none 0 0, .slice none 0 0] 107 (0,0)))∧Aside0 (w'.heap[gb5]? =some (.cells #[.int .i64 (n0:Int), .bool a0_1, .slice A0_2 l0_2.length c0_2, .slice A1 n1 c1, .slice (some ⟨go,0,none⟩) n0 co] 107 (0,0)))∧Aside0 (Kd.S (Kd.slice 3 (Kd.int .i64)) 31 w' w.heap.size (fun _=>True) (.slice (some ad0) n0 cv21) L0)∧Aside0 (Kd.S (Kd.slice 3 (Kd.int .i64)) 31 w' w.heap.size (fun _=>True) (.slice (some ad1) n0 cv23) L1)∧Aside0 (Kd.R (Kd.int .i64) 3 w' w.heap.size (fun _=>True) (.slice AA1 LL1.length cc1) LL1)∧Aside0 (Below w.heap.size w w')) (fun v_ _=>LL1.length - (intOf v_).toNat)
     case atStart=>exact⟨0,Nat.zero_le _,rfl,⟨by rw[List.take_zero,List.map_nil,List.append_nil];exact HO.out⟩,BK111,BK4,BK5,Hv21,Hv23,HLL1,HB⟩
     case round=>
      clear HO BK111 BK4 BK5 Hv21 Hv23 HLL1 HB;obtain⟨j,hj,rfl,HO,BK111,BK4,BK5,Hv21,Hv23,HLL1,HB⟩:=hrel;by_cases hltj:j<LL1.length
      ·have pj:0≤((j:Nat):Int):=by omega
       have qj:((j:Nat):Int)<(LL1.length:Int):=by omega
       have cj:decide ((j:Int)<(LL1.length:Int))=true:=decide_eq_true qj;obtain⟨adj,eadj,hxj⟩:=Kd.at_int (Kd.R_reads' HLL1.out).2.2 (j:Int) pj qj;cases eadj;simp only[Int.toNat_natCast] at hxj;have HST:=Aside0.mk (row_step (([]:List S79) ++ LL0.map (fun i=>(⟨i,false⟩:S79))) LL1 true j hltj);obtain⟨xj,hxv⟩: ∃ x_,x_=rd LL1 (j:Int):=⟨_,rfl⟩;obtain⟨RW,hRW⟩: ∃ r_,r_=((([]:List S79) ++ LL0.map (fun i=>(⟨i,false⟩:S79))) ++ (LL1.take j).map (fun i=>(⟨i,true⟩:S79))):=⟨_,rfl⟩;have HRL:Aside0 (RW.length≤1000000):=⟨by rw[hRW];simp;have:=HLE0.out;have:=HLE1.out;omega⟩;rw[← hRW, ← hxv] at HST;obtain⟨RW2,hRW2⟩: ∃ r_,r_=((([]:List S79) ++ LL0.map (fun i=>(⟨i,false⟩:S79))) ++ (LL1.take (j+1)).map (fun i=>(⟨i,true⟩:S79))):=⟨_,rfl⟩;rw[← hRW2] at HST;have HRW2:=Aside0.mk hRW2;clear hRW2;rw[← hxv] at hxj;rw[← hRW] at HO;have HRW:=Aside0.mk hRW;have HXV:=Aside0.mk hxv;clear hRW hxv;obtain⟨oki,c_,_,hM_,hcc_,_,_,hH_⟩:=Kd.S_elem HO.out [] (k:Int) pk qk;obtain⟨vr,rfl,hR_⟩:=hM_;rw[show ((rowsAt l0_2 n0 k).set k RW).getD (k:Int).toNat []=RW from rd_set (rowsAt l0_2 n0 k) k RW (by rw[rowsAt_len];exact hlt)] at hR_;obtain⟨Ar,cr,er⟩:=Kd.R_slice hR_;subst er;have hx4:=hcc_ 0 _ rfl;rw[show ((Kd.slice 79 k79)).sz=1 from rfl,Nat.mul_one,Nat.add_zero,Int.toNat_natCast] at hx4;have UU:=Aside0.mk hR_;have HH:=Aside0.mk hH_;clear hcc_ hR_ hH_;have hx5:wr.cell? ⟨gb5,4,none⟩=some (.slice (some ⟨go,0,none⟩) n0 co):=(blk_cell BK5.out 4).trans rfl;go_wp2_with fail;refine start_ (n:=14) (S:=fun w'=>w'.cell? ⟨gb5,4,none⟩=some (.slice (some ⟨go,0,none⟩) n0 co)∧w'.cell? ⟨go,k,none⟩=some (.slice Ar RW.length cr)) (ds:=[13]) #[false,false,false,false,false,false,false,false,false,false,false,false,false,false] (by kernel_rfl) rfl rfl ⟨hx5,hx4⟩ (fun hHeld=> ?_);have m0_:=Aside0.mk (below_drew HB.out);have m1_:=Aside0.mk ((show wr.drew.heap[gb111]? =_ from BK111.out));have m2_:=Aside0.mk ((show wr.drew.heap[gb4]? =_ from BK4.out));have m3_:=Aside0.mk ((show wr.drew.heap[gb5]? =_ from BK5.out));have m4_:=Aside0.mk (Kd.S_drew Hv21.out);have m5_:=Aside0.mk (Kd.S_drew Hv23.out);have m6_:=Aside0.mk (Kd.R_drew HLL1.out);have m7_:=Aside0.mk (Kd.R_drew UU.out);have m8_:=Aside0.mk (Kd.H_drew HH.out);clear HB BK111 BK4 BK5 Hv21 Hv23 HLL1 UU HH;have HB:=m0_;clear m0_;have BK111:=m1_;clear m1_;have BK4:=m2_;clear m2_;have BK5:=m3_;clear m3_;have Hv21:=m4_;clear m4_;have Hv23:=m5_;clear m5_;have HLL1:=m6_;clear m6_;have UU:=m7_;clear m7_;have HH:=m8_;clear m8_;clear HO hxj hx5 hx4;generalize wr.drew=w14 at HB BK111 BK4 BK5 Hv21 Hv23 HLL1 UU HH hHeld ⊢;refine pure_ (i:=0) (N:=some 61) (v:= ?_) (a':= ?_) #[true,false,false,false,false,false,false,false,false,false,false,false,false,false] rfl rfl (by kernel_rfl) (fun _ _ _ h=>h) (Or.inl ⟨by rfl,?_⟩) ?_ ?_
       rotate_left
       ·intro w'
        go_simp
        with_reducible rfl
       rotate_left
       ·simp only[Act.put,List.setIfInBounds_toArray,List.set_cons_zero,List.set_cons_succ,i64_w,i32_w]
        rfl
       refine pure_ (i:=2) (N:=some 63) (v:= ?_) (a':= ?_) #[true,false,true,false,false,false,false,false,false,false,false,false,false,false] rfl rfl (by kernel_rfl) (fun _ _ _ h=>h) (Or.inl ⟨by rfl,?_⟩) ?_ ?_
       rotate_left
       ·intro w'
        go_simp
        with_reducible rfl
       rotate_left
       ·simp only[Act.put,List.setIfInBounds_toArray,List.set_cons_zero,List.set_cons_succ,i64_w,i32_w]
        rfl
       refine pure_ (i:=3) (N:=some 64) (v:= ?_) (a':= ?_) #[true,false,true,true,false,false,false,false,false,false,false,false,false,false] rfl rfl (by kernel_rfl) (fun _ _ _ h=>h) (Or.inl ⟨by rfl,?_⟩) ?_ ?_
       rotate_left
       ·intro w'
        go_simp
        with_reducible rfl
       rotate_left
       ·simp only[Act.put,List.setIfInBounds_toArray,List.set_cons_zero,List.set_cons_succ,i64_w,i32_w]
        rfl
       refine pure_ (i:=5) (N:=some 66) (v:= ?_) (a':= ?_) #[true,false,true,true,false,true,false,false,false,false,false,false,false,false] rfl rfl (by kernel_rfl) (fun _ _ _ h=>h) (Or.inl ⟨by rfl,?_⟩) ?_ ?_
       rotate_left
       ·intro w'
        go_simp
        with_reducible rfl
       rotate_left
       ·simp only[Act.put,List.setIfInBounds_toArray,List.set_cons_zero,List.set_cons_succ,i64_w,i32_w]
        rfl
       refine pure_ (i:=8) (N:=some 69) (v:= ?_) (a':= ?_) #[true,false,true,true,false,true,false,false,true,false,false,false,false,false] rfl rfl (by kernel_rfl) (fun _ _ _ h=>h) (Or.inl ⟨by rfl,?_⟩) ?_ ?_
       rotate_left
       ·intro w'
        go_simp
        with_reducible rfl
       rotate_left
       ·simp only[Act.put,List.setIfInBounds_toArray,List.set_cons_zero,List.set_cons_succ,i64_w,i32_w]
        rfl
       refine pure_ (i:=9) (N:=some 70) (v:= ?_) (a':= ?_) #[true,false,true,true,false,true,false,false,true,true,false,false,false,false] rfl rfl (by kernel_rfl) (fun _ _ _ h=>h) (Or.inl ⟨by rfl,?_⟩) ?_ ?_
       rotate_left
       ·intro w'
        go_simp
        with_reducible rfl
       rotate_left
       ·simp only[Act.put,List.setIfInBounds_toArray,List.set_cons_zero,List.set_cons_succ,i64_w,i32_w]
        rfl
       refine take_ (i:=1) (N:=some 62) (v:= ?_) (a':= ?_) #[true,true,true,true,false,true,false,false,true,true,false,false,false,false] rfl rfl (by kernel_rfl) (fun _ _ _ h=>h) (Or.inl ⟨by rfl,?_⟩) hHeld ?_ ?_
       rotate_left
       ·rintro w' ⟨s0,s1⟩
        go_simp
        with_reducible rfl
       rotate_left
       ·simp only[Act.put,List.setIfInBounds_toArray,List.set_cons_zero,List.set_cons_succ,i64_w,i32_w]
        rfl
       refine take_ (i:=4) (N:=some 65) (v:= ?_) (a':= ?_) #[true,true,true,true,true,true,false,false,true,true,false,false,false,false] rfl rfl (by kernel_rfl) (fun _ _ _ h=>h) (Or.inl ⟨by rfl,?_⟩) hHeld ?_ ?_
       rotate_left
       ·rintro w' ⟨s0,s1⟩
        go_simp
        with_reducible rfl
       rotate_left
       ·simp only[Act.put,List.setIfInBounds_toArray,List.set_cons_zero,List.set_cons_succ,i64_w,i32_w]
        rfl
       refine pure_ (i:=6) (N:=some 67) (v:= ?_) (a':= ?_) #[true,true,true,true,true,true,true,false,true,true,false,false,false,false] rfl rfl (by kernel_rfl) (fun _ _ _ h=>h) (Or.inl ⟨by rfl,?_⟩) ?_ ?_
       rotate_left
       ·intro w'
        go_simp
        with_reducible rfl
       rotate_left
       ·simp only[Act.put,List.setIfInBounds_toArray,List.set_cons_zero,List.set_cons_succ,i64_w,i32_w]
        rfl
       refine take_ (i:=7) (N:=some 68) (v:= ?_) (a':= ?_) #[true,true,true,true,true,true,true,true,true,true,false,false,false,false] rfl rfl (by kernel_rfl) (fun _ _ _ h=>h) (Or.inl ⟨by rfl,?_⟩) hHeld ?_ ?_
       rotate_left
       ·rintro w' ⟨s0,s1⟩
        go_simp
        with_reducible rfl
       rotate_left
       ·simp only[Act.put,List.setIfInBounds_toArray,List.set_cons_zero,List.set_cons_succ,i64_w,i32_w]
        rfl
       refine one_ (i:=10) (N:=some 71) #[true,true,true,true,true,true,true,true,true,true,true,false,false,false] rfl rfl (by kernel_rfl) (by decide) (fun K hK=> ?_);refine value_ (w1:= ?_) (v:= ?_) (by rfl) rfl ?_ ?_
       rotate_left 2
       ·go_simp
        constructor
        ·rfl
        ·rfl
       refine hK.out _ _ ⟨(blk_cell (blk_alloc BK5.out _) 4).trans rfl,(World.cell?_alloc_lt _ _ _ (World.block_lt_of_cell? _ _ hHeld.2)).trans hHeld.2⟩ (fun hHeld2=> ?_);clear hK K hHeld2;refine norm_ (a':= ?_) ?_ ?_
       rotate_left
       ·show Act.put _ (some 71) _=_
        simp only[Act.put,List.setIfInBounds_toArray,List.set_cons_zero,List.set_cons_succ,i64_w,i32_w];rfl
       refine one_ (i:=11) (N:=some 72) #[true,true,true,true,true,true,true,true,true,true,true,true,false,false] rfl rfl (by kernel_rfl) (by decide) (fun K hK=> ?_);refine Kd.R_append_step k79 (w0:=w) w.heap.size (by rfl) (.tmp 68) (.tmp 71) 67 79 (.agg #[(.int .i64 0),(.bool false)]) 16 rfl Try.underlying67 info79 rfl (by decide) (by omega) (.slice Ar RW.length cr) RW (⟨xj,true⟩:S79) [.int .i64 xj, .bool true] (fun k_=>oki k_∨((fun _=>True)) k_∧w14.heap.size≤k_) (fun _=>False) rfl rfl ?aP (fun _ hk=>hk.elim) ?aF ?aO ?aB ?aS ?aL ?_
       (case aP=>exact k79_mkM _ _ _ (⟨xj,true⟩:S79))
       (case aF=>exact fun k_ hk=> .inr ⟨trivial,hk⟩)
       (case aO=>exact Kd.R_mono UU.out (fun _ hk=> .inl hk))
       (case aB=>exact HB.out)
       (case aS=>exact HB.out.size)
       (case aL=>have:=HRL.out;omega)
       intro v_ w16 ho hb hg hat
       clear hat
       have m0_:=Aside0.mk (blk_grown BK111.out hg (Kd.R_ne UU.out BK111.out (by decide)));have m1_:=Aside0.mk (blk_grown BK4.out hg (Kd.R_ne UU.out BK4.out (by decide)));have m2_:=Aside0.mk (blk_grown BK5.out hg (Kd.R_ne UU.out BK5.out (by decide)));have m3_:=Aside0.mk (Kd.S_over' Hv21.out (Kd.R_typed UU.out) (by decide) hg);have m4_:=Aside0.mk (Kd.S_over' Hv23.out (Kd.R_typed UU.out) (by decide) hg);have m5_:=Aside0.mk (Kd.R_over' HLL1.out (Kd.R_typed UU.out) (by decide) hg);have m6_:=Aside0.mk (Kd.H_grown (Kd.H_widen HH.out) hg (fun k_ e_=> .inl (UU.out.1 k_ e_)));have m7_:=Aside0.mk (hb);have m8_:=Aside0.mk (ho);clear BK111 BK4 BK5 Hv21 Hv23 HLL1 HH HB UU;have BK111:=m0_;clear m0_;have BK4:=m1_;clear m1_;have BK5:=m2_;clear m2_;have Hv21:=m3_;clear m3_;have Hv23:=m4_;clear m4_;have HLL1:=m5_;clear m5_;have HH:=m6_;clear m6_;have HB:=m7_;clear m7_;have UU:=m8_;clear m8_;rw[← HST.out] at UU;obtain⟨A2,c2,e2⟩:=Kd.R_slice UU.out;subst e2;obtain⟨_,_,hraw,_,_,hcc_,_⟩:=Kd.H_raw HH.out pk qk;obtain⟨_,hfr_⟩:=Kd.H_at HH.out pk qk;have hx4:=hcc_ 0 _ rfl;have hf4:=hfr_ 0;rw[show ((Kd.slice 79 k79)).sz=1 from rfl,Nat.mul_one,Nat.add_zero,Int.toNat_natCast] at hx4 hf4;have HRAW:=Aside0.mk hraw;clear hcc_ hfr_ hraw ho hb hg;refine hK.out _ _ ⟨(blk_cell BK5.out 4).trans rfl,hx4⟩ (fun hHeld=> ?_);clear hK K;refine norm_ (a':= ?_) ?_ ?_
       rotate_left
       ·show Act.put _ (some 72) _=_
        simp only[Act.put,List.setIfInBounds_toArray,List.set_cons_zero,List.set_cons_succ,i64_w,i32_w];rfl
       refine pure_ (i:=12) (N:=some 73) (v:= ?_) (a':= ?_) #[true,true,true,true,true,true,true,true,true,true,true,true,true,false] rfl rfl (by kernel_rfl) (fun _ _ _ h=>h) (Or.inl ⟨by rfl,?_⟩) ?_ ?_
       rotate_left
       ·intro w'
        go_simp
        with_reducible rfl
       rotate_left
       ·simp only[Act.put,List.setIfInBounds_toArray,List.set_cons_zero,List.set_cons_succ,i64_w,i32_w]
        rfl
       have HP:=Kd.S_seg0 HH.out pk qk (seg:=[.slice A2 RW2.length c2]) (j:=0) (show 1≤1 from by decide) (x':=RW2) (Kd.M_row UU.out) (fun _ hk=>hk);rw[show ((Kd.slice 79 k79)).sz=1 from rfl,Nat.mul_one,Nat.add_zero,Int.toNat_natCast,List.set_set] at HP;have HG2:w16.grownBy (w16.setCell ⟨go,k,none⟩ (.slice A2 RW2.length c2)) (some go):=HP.2;have HO:=Aside0.mk (show Kd.S (Kd.slice 79 k79) 67 (w16.setCell ⟨go,k,none⟩ (.slice A2 RW2.length c2)) w.heap.size (fun _=>True) (.slice (some ⟨go,0,none⟩) n0 co) ((rowsAt l0_2 n0 k).set k RW2) from HP.1);refine last_ (i:=13) (N:=none) #[true,true,true,true,true,true,true,true,true,true,true,true,true,true] rfl rfl (by kernel_rfl) (by decide) (fun K hK=> ?_);refine skip_ (w1:=w16.setCell ⟨go,k,none⟩ (.slice A2 RW2.length c2)) (by rfl) rfl ?_ ?_
       ·go_simp
       refine hK.out _ _ ?_;clear hK K;have m0_:=Aside0.mk (blk_grown BK111.out HG2 (Kd.R_ne HRAW.out BK111.out (by decide)));have m1_:=Aside0.mk (blk_grown BK4.out HG2 (Kd.R_ne HRAW.out BK4.out (by decide)));have m2_:=Aside0.mk (blk_grown BK5.out HG2 (Kd.R_ne HRAW.out BK5.out (by decide)));have m3_:=Aside0.mk (Kd.S_over' Hv21.out (Kd.R_typed HRAW.out) (by decide) HG2);have m4_:=Aside0.mk (Kd.S_over' Hv23.out (Kd.R_typed HRAW.out) (by decide) HG2);have m5_:=Aside0.mk (Kd.R_over' HLL1.out (Kd.R_typed HRAW.out) (by decide) HG2);have m6_:=Aside0.mk ((below_set HB.out GBO.out:Below w.heap.size w (w16.setCell ⟨go,k,none⟩ (.slice A2 RW2.length c2))));clear BK111 BK4 BK5 Hv21 Hv23 HLL1 HB;have BK111:=m0_;clear m0_;have BK4:=m1_;clear m1_;have BK5:=m2_;clear m2_;have Hv21:=m3_;clear m3_;have Hv23:=m4_;clear m4_;have HLL1:=m5_;clear m5_;have HB:=m6_;clear m6_;clear HP HG2 HRAW UU HH hHeld hx4 hf4;refine done_ (by kernel_rfl) ?_;generalize w16.setCell ⟨go,k,none⟩ (.slice A2 RW2.length c2)=w17 at HO BK111 BK4 BK5 Hv21 Hv23 HLL1 HB ⊢;rw[HRW2.out] at HO;clear HRW2 HST HRW;go_wp2_with fail;go_roundw
       case rel=>exact⟨j+1,by omega,by first|rfl|go_num,HO,BK111,BK4,BK5,Hv21,Hv23,HLL1,HB⟩
       case measure=>simp[intOf]<;>omega
      ·have ej:j=LL1.length:=by omega
       subst ej;rw[List.take_length] at HO;have cj:decide ((LL1.length:Int)<(LL1.length:Int))=false:=decide_eq_false (by omega);obtain⟨RW,hRW⟩: ∃ r_,r_=((([]:List S79) ++ LL0.map (fun i=>(⟨i,false⟩:S79))) ++ LL1.map (fun i=>(⟨i,true⟩:S79))):=⟨_,rfl⟩;have HRU:Aside0 (RW=stepsU l0_2 n0 (k:Int)):=⟨by rw[hRW,HELL0.out,HELL1.out,HL0.out,HL1.out];rfl⟩;have HRL:Aside0 (RW.length≤1000000):=⟨by rw[hRW];simp;have:=HLE0.out;have:=HLE1.out;omega⟩;rw[← hRW] at HO;clear hRW;obtain⟨oki,c_,_,hM_,hcc_,_,_,hH_⟩:=Kd.S_elem HO.out [] (k:Int) pk qk;obtain⟨vr,rfl,hR_⟩:=hM_;rw[show ((rowsAt l0_2 n0 k).set k RW).getD (k:Int).toNat []=RW from rd_set (rowsAt l0_2 n0 k) k RW (by rw[rowsAt_len];exact hlt)] at hR_;obtain⟨Ar,cr,er⟩:=Kd.R_slice hR_;subst er;have hx4:=hcc_ 0 _ rfl;rw[show ((Kd.slice 79 k79)).sz=1 from rfl,Nat.mul_one,Nat.add_zero,Int.toNat_natCast] at hx4;have UU:=Aside0.mk hR_;have HH:=Aside0.mk hH_;clear hcc_ hR_ hH_;have hx5:wr.cell? ⟨gb5,4,none⟩=some (.slice (some ⟨go,0,none⟩) n0 co):=(blk_cell BK5.out 4).trans rfl;have HEN:Aside0 (ends l0_2 n0):=⟨fun i hi=>⟨HE0.out i hi,HE1.out i hi⟩⟩;go_wp2_with (first|(go_at_call 85;refine(sort_row HH.out UU.out HRU.out hlt HEN.out (by omega) HRL.out).mono ?_;rintro e_ w20 ⟨rfl,vv,hg,hty,hS⟩;rw[List.set_set,rowsAt_set l0_2 n0 k hlt] at hS;have m0_:=Aside0.mk (blk_grown BK111.out hg (fun he=>by obtain⟨_,cells_,hc_⟩:=hty _ he.symm;have t_:=BK111.out.symm.trans hc_;simp at t_));have m1_:=Aside0.mk (blk_grown BK4.out hg (fun he=>by obtain⟨_,cells_,hc_⟩:=hty _ he.symm;have t_:=BK4.out.symm.trans hc_;simp at t_));have m2_:=Aside0.mk (blk_grown BK5.out hg (fun he=>by obtain⟨_,cells_,hc_⟩:=hty _ he.symm;have t_:=BK5.out.symm.trans hc_;simp at t_));have m3_:=Aside0.mk (Kd.S_over' (v:=vv) Hv21.out (fun k_ hk_=>(hty k_ hk_).2) (by decide) hg);have m4_:=Aside0.mk (Kd.S_over' (v:=vv) Hv23.out (fun k_ hk_=>(hty k_ hk_).2) (by decide) hg);have m5_:=Aside0.mk (HB.out.grown hg HB.out.size (fun k_ hk_=>(hty k_ hk_).1));have m6_:=Aside0.mk hS;clear hg hty hS HO BK111 BK4 BK5 Hv21 Hv23 HLL1 HB UU HH hx4 hx5;have HO:=m6_;have BK111:=m0_;have BK4:=m1_;have BK5:=m2_;have Hv21:=m3_;have Hv23:=m4_;have HB:=m5_;clear m0_ m1_ m2_ m3_ m4_ m5_ m6_)|fail);go_roundw
       case rel=>exact⟨k+1,by omega,by first|rfl|go_num,HO,BK111,BK4,BK5,Hv21,Hv23,HB⟩
       case measure=>simp[intOf]<;>omega
  ·have ek:n0=k:=by omega
   subst ek;have hx0:wr.cell? ⟨gb5,0,none⟩=some (.int .i64 (n0:Int)):=(blk_cell BK5.out 0).trans rfl;have hx1:wr.cell? ⟨gb5,1,none⟩=some (.bool a0_1):=(blk_cell BK5.out 1).trans rfl;have hx2:wr.cell? ⟨gb5,2,none⟩=some (.slice A0_2 l0_2.length c0_2):=(blk_cell BK5.out 2).trans rfl;have hx3:wr.cell? ⟨gb5,3,none⟩=some (.slice A1 n1 c1):=(blk_cell BK5.out 3).trans rfl;have hx4:wr.cell? ⟨gb5,4,none⟩=some (.slice Ao n0 co):=(blk_cell BK5.out 4).trans rfl;have hy0:wr.cell? ⟨gb4,0,none⟩=some (.int .i64 0):=(blk_cell BK4.out 0).trans rfl;have hf0:=blk_frozen BK4.out 0;have hy1:wr.cell? ⟨gb4,1,none⟩=some (.bool false):=(blk_cell BK4.out 1).trans rfl;have hf1:=blk_frozen BK4.out 1;have hy2:wr.cell? ⟨gb4,2,none⟩=some (.slice none 0 0):=(blk_cell BK4.out 2).trans rfl;have hf2:=blk_frozen BK4.out 2;have hy3:wr.cell? ⟨gb4,3,none⟩=some (.slice none 0 0):=(blk_cell BK4.out 3).trans rfl;have hf3:=blk_frozen BK4.out 3;have hy4:wr.cell? ⟨gb4,4,none⟩=some (.slice none 0 0):=(blk_cell BK4.out 4).trans rfl;have hf4:=blk_frozen BK4.out 4;have GE4':=GE4.out;go_wp2;refine bodyPost_ret (results_cell_row rfl _ _ gb4 107 #[.int .i64 (n0:Int), .bool a0_1, .slice A0_2 l0_2.length c0_2, .slice A1 n1 c1, .slice Ao n0 co] (0,0) _ rfl (by refine blk_put (cs:= #[.int .i64 (n0:Int), .bool a0_1, .slice A0_2 l0_2.length c0_2, .slice A1 n1 c1, .slice none 0 0]) ?_ 4 _ rfl;refine blk_put (cs:= #[.int .i64 (n0:Int), .bool a0_1, .slice A0_2 l0_2.length c0_2, .slice none 0 0, .slice none 0 0]) ?_ 3 _ rfl;refine blk_put (cs:= #[.int .i64 (n0:Int), .bool a0_1, .slice none 0 0, .slice none 0 0, .slice none 0 0]) ?_ 2 _ rfl;refine blk_put (cs:= #[.int .i64 (n0:Int), .bool false, .slice none 0 0, .slice none 0 0, .slice none 0 0]) ?_ 1 _ rfl;refine blk_put (cs:= #[.int .i64 0, .bool false, .slice none 0 0, .slice none 0 0, .slice none 0 0]) ?_ 0 _ rfl;exact BK4.out) Try.underlying107 rfl (by kernel_rfl)) rfl ?_;exact⟨_,rfl,Kd.S_mono (Kd.S_far (p:=⟨gb4,4,none⟩) (Kd.S_far (p:=⟨gb4,3,none⟩) (Kd.S_far (p:=⟨gb4,2,none⟩) (Kd.S_far (p:=⟨gb4,1,none⟩) (Kd.S_far (p:=⟨gb4,0,none⟩) (Kd.S_types HO.out BK4.out (by decide)) (fun _ hk=>hk.2) (.int .i64 (n0:Int))) (fun _ hk=>hk.2) (.bool a0_1)) (fun _ hk=>hk.2) (.slice A0_2 l0_2.length c0_2)) (fun _ hk=>hk.2) (.slice A1 n1 c1)) (fun _ hk=>hk.2) (.slice Ao n0 co)) (fun _ _=>trivial),by repeat(first|exact HB.out|refine below_set ?_ GE4.out)⟩
end H
end Go.Proofs.Ytoedkglggapggaa
