/- What the law's row needs of these texts, taken out of them by wip/tool/mini.py: P17 QRead12B QEndsB QTcPure QTcCheck QTcCheckC P12 P13 P14 P1 P15 P16. -/
import Derived.Test.YtjaoknhhoicigaaMepocfe
set_option linter.unusedVariables false
set_option linter.unusedSimpArgs false
open Go.RowKit Go.Proofs.YtjaoknhhoicigaaW.PrintWords Go.Proofs.YtjaoknhhoicigaaW.PrintLast Go.Proofs.YtjaoknhhoicigaaW.PrintMore
namespace Go.Proofs.Ytjaoknhhoicigaa
namespace P
attribute [local go_sem] max2_int min2_int max_two min_two max_three min_three max_four min_four
def ebbtidelaw12_Read.l0:Nat→Int→Int→Int→Bool→List (S77)→Int→Int→Int→Int→Bool→List (S73)→Option (Int × Bool × (List (S73)) × Int × Int × Int)
 |0,_,_,_,_,_,_,_,_,_,_,_=>none
 |k+1,x1,x9,x174000,x174001,x174002,x174003,x174004,x174005,Uh,x176001,x176002=>if x9<(x174002.length:Int) then(if x9<x1 then(if 0≤x9 then(if Uh=0 then(none) else(if x176002.length<4398046511104 then(ebbtidelaw12_Read.l0 k x1 (wrap64 (x9+1)) x174000 x174001 x174002 x174003 x174004 x174005 Uh x176001 (x176002 ++ [(⟨Int.tmod (wrap64 ((rd_T77 x174002 x9).f0)) Uh,Int.tmod (wrap64 ((rd_T77 x174002 x9).f1)) Uh,Int.tmod (wrap64 ((rd_T77 x174002 x9).f2)) 6,Int.tmod (wrap64 ((rd_T77 x174002 x9).f3)) 4⟩:S73)])) else(none))) else(none)) else(if Uh=0 then(none) else(if (wrap64 (Uh - 1))=0 then(none) else(some (Uh,x176001,x176002,Int.tmod (wrap64 (x174003)) Uh,Int.tmod (wrap64 ((wrap64 ((Int.tmod (wrap64 (x174003)) Uh)+1))+(Int.tmod (wrap64 (x174004)) (wrap64 (Uh - 1))))) Uh,Int.tmod (wrap64 (x174005)) 8))))) else(if Uh=0 then(none) else(if (wrap64 (Uh - 1))=0 then(none) else(some (Uh,x176001,x176002,Int.tmod (wrap64 (x174003)) Uh,Int.tmod (wrap64 ((wrap64 ((Int.tmod (wrap64 (x174003)) Uh)+1))+(Int.tmod (wrap64 (x174004)) (wrap64 (Uh - 1))))) Uh,Int.tmod (wrap64 (x174005)) 8))))
def ebbtidelaw12_Read.f (k:Nat) (Zb:Int) (Zc:Bool) (Za:List (S77)) (Xt:Int) (Xu:Int) (Xv:Int) (a1:Int):Option (Int × Bool × (List (S73)) × Int × Int × Int):=ebbtidelaw12_Read.l0 k a1 0 Zb Zc Za Xt Xu Xv (wrap64 (2+(Int.tmod (wrap64 (Zb)) 4))) Zc ([]:List (S73))
def ebbtidelaw12_Read.T6:Bool × List (List Nat × List Nat):=(true,[([],[]),([0],[0]),([],[]),([2],[2]),([3],[3]),([],[]),([5],[5]),([4,6],[4,6]),([],[]),([8],[8]),([9],[9]),([],[]),([11],[11]),([10,12],[10,12]),([],[]),([14],[14]),([15],[15]),([16],[16]),([],[]),([18],[18]),([19],[19]),([20],[20]),([7,13,17,21],[7,13,17,21]),([22],[22]),([1,23],[1,23]),([0,1,2,3,4,5,6,7,8,9,10,11,12,13,14,15,16,17,18,19,20,21,22,23,24],[]),([25,24,24,0,1,2,3,4,5,6,7,8,9,10,11,12,13,14,15,16,17,18,19,20,21,22,23,24],[24,25])])
def ebbtidelaw12_Read.B6:List Nat:=[0,1,0,4,12,0,32,124,0,256,768,0,2048,7936,0,16384,49152,114688,0,262144,786432,1835008,4194300,8388604,16777215,33554431,67108863]
theorem ebbtidelaw12_Read.tab6:rtab .any (opsOf Try.f12 6)=ebbtidelaw12_Read.T6:=by kernel_rfl
theorem ebbtidelaw12_Read.bits6:waitsOk ebbtidelaw12_Read.T6.2 ebbtidelaw12_Read.B6=true:=by kernel_rfl
def ebbtidelaw12_Read.T8:Bool × List (List Nat × List Nat):=(true,[([],[]),([0],[0]),([],[]),([2],[2]),([3],[3]),([],[]),([5],[5]),([6],[6]),([4,7],[4,7]),([1,8],[1,8]),([],[]),([10],[10]),([9,11],[9,11]),([12,0,1,2,3,4,5,6,7,8,9,10,11,12],[12])])
def ebbtidelaw12_Read.B8:List Nat:=[0,1,0,4,12,0,32,96,252,511,0,1024,4095,8191]
theorem ebbtidelaw12_Read.tab8:rtab .any (opsOf Try.f12 8)=ebbtidelaw12_Read.T8:=by kernel_rfl
theorem ebbtidelaw12_Read.bits8:waitsOk ebbtidelaw12_Read.T8.2 ebbtidelaw12_Read.B8=true:=by kernel_rfl
def ebbtidelaw12_Read.T9:Bool × List (List Nat × List Nat):=(true,[([],[]),([],[]),([],[]),([],[]),([3],[3]),([4],[4]),([5],[5]),([0,0],[0]),([1,7,0,1,7],[1]),([2,8,0,1,2,7,8],[2]),([6,9,0,1,2,3,4,5,6,7,8,9],[6])])
def ebbtidelaw12_Read.B9:List Nat:=[0,0,0,0,8,24,56,1,131,391,1023]
theorem ebbtidelaw12_Read.tab9:rtab .any (opsOf Try.f12 9)=ebbtidelaw12_Read.T9:=by kernel_rfl
theorem ebbtidelaw12_Read.bits9:waitsOk ebbtidelaw12_Read.T9.2 ebbtidelaw12_Read.B9=true:=by kernel_rfl
set_option maxHeartbeats 8000000 in
set_option maxRecDepth 100000 in
theorem ebbtidelaw12_Read.calls (k:Nat) (Zb:Int) (Zc:Bool) (Zg:Option Addr) (Zd:Nat) (Za:List (S77)) (Xt:Int) (Xu:Int) (Xv:Int) (a1:Int) (r1:Int) (r2:Bool) (r3:List (S73)) (r4:Int) (r5:Int) (r6:Int) (w:World) (Wg:Kd.C k77 w Zg Za.length Za) (Wh:Za.length≤Zd) (h:ebbtidelaw12_Read.f k Zb Zc Za Xt Xu Xv a1=some (r1,r2,r3,r4,r5,r6)):
  Calls Try.prog 12 #[.agg #[.int .u8 Zb, .bool Zc, .slice Zg Za.length Zd, .int .u8 Xt, .int .u8 Xu, .int .u8 Xv], .int .i64 a1] w fun e w'=> ∃ v2_:Value,e= .returned (.tuple #[.agg #[.int .i64 r1, .bool r2,v2_], .int .i64 r4, .int .i64 r5, .int .i64 r6])∧Kd.R k73 73 w' w.heap.size (fun _=>True) v2_ r3∧Below w.heap.size w w':=by
 have hu24:=Try.underlying24;have hu32:=Try.underlying32;have hu77:=Try.underlying77;have hu73:=Try.underlying73;have Xl:=Ya Wg;have Wd:=Ya Wh;clear Wg Wh;have HB:=Ya (Yo w.heap.size w);have H:(ebbtidelaw12_Read.l0 k a1 0 Zb Zc Za Xt Xu Xv (wrap64 (2+(Int.tmod (wrap64 (Zb)) 4))) Zc ([]:List (S73)))=some (r1,r2,r3,r4,r5,r6):=h;clear h;have H':=Ya H;clear H;go_enter Try.func12,Try.ntmps12;go_wp2_with (first|((with_reducible refine gate_dst (N:=2) rfl ?_);refine Yz ?hg (N:=2) ?hd (cs:= #[.int .u8 Zb, .bool Zc, .slice Zg Za.length Zd, .int .u8 Xt, .int .u8 Xu, .int .u8 Xv]) (t:=24) ?hr ?_;(case hd=>rfl);(case hg=>rfl);(case hr=>first|(go_simp;done)|(go_simp;rfl));intro Xg hg w3 Zi hb;have n0_:=Ya (Yk (by repeat(first|(with_reducible first|exact HB.out|apply Ye|apply Yd|apply Yg)|exact HB.out)) hb);have n1_:=Ya (Zi);have n2_:=Ya ((by rw[hg];exact(Yi (by repeat(first|(with_reducible first|exact HB.out|apply Ye|apply Yd|apply Yg)|exact HB.out))):w.heap.size≤Xg));have n3_:=Ya ((by rw[hg];exact(Yi (by repeat(first|(with_reducible first|exact HB.out|apply Ye|apply Yd|apply Yg)|exact HB.out))):w.heap.size≤Xg));clear HB;have HB:=n0_;have Zn:=n1_;have GW173:=n2_;have GE173:=n3_;clear n0_ n1_ n2_ n3_;clear hb Zi hg)|((with_reducible refine gate_dst (N:=4) rfl ?_);refine Yz ?hg (N:=4) ?hd (cs:= #[.int .i64 0, .bool false, .slice none 0 0]) (t:=32) ?hr ?_;(case hd=>rfl);(case hg=>rfl);(case hr=>first|(go_simp;done)|(go_simp;rfl));intro Zz hg w4 Zi hb;have n0_:=Ya (Yn (g:=Xg) (o:= .cells #[.int .u8 Zb, .bool Zc, .slice Zg Za.length Zd, .int .u8 Xt, .int .u8 Xu, .int .u8 Xv] 24 (0,0)) (by(with_reducible repeat(first|refine Yl ?_ _|refine Ym ?_|refine Yj ?_ _));exact Zn.out) hb);have n1_:=Ya (Yk (by repeat(first|(with_reducible first|exact HB.out|apply Ye|apply Yd|apply Yg|refine Yh ?_ GE173.out)|exact HB.out)) hb);have n2_:=Ya (Zi);have n3_:=Ya ((by rw[hg];exact(Yi (by repeat(first|(with_reducible first|exact HB.out|apply Ye|apply Yd|apply Yg|refine Yh ?_ GE173.out)|exact HB.out))):w.heap.size≤Zz));have n4_:=Ya ((by rw[hg];exact(Yi (by repeat(first|(with_reducible first|exact HB.out|apply Ye|apply Yd|apply Yg|refine Yh ?_ GE173.out)|exact HB.out))):w.heap.size≤Zz));have n5_:=Ya ((by rw[hg];exact Nat.ne_of_lt (blk_lt (g:=Xg) (o:= .cells #[.int .u8 Zb, .bool Zc, .slice Zg Za.length Zd, .int .u8 Xt, .int .u8 Xu, .int .u8 Xv] 24 (0,0)) (by(with_reducible repeat(first|refine Yl ?_ _|refine Ym ?_|refine Yj ?_ _));exact Zn.out)):Xg≠Zz));have n6_:=Ya ((by rw[hg];exact Nat.ne_of_gt (blk_lt (g:=Xg) (o:= .cells #[.int .u8 Zb, .bool Zc, .slice Zg Za.length Zd, .int .u8 Xt, .int .u8 Xu, .int .u8 Xv] 24 (0,0)) (by(with_reducible repeat(first|refine Yl ?_ _|refine Ym ?_|refine Yj ?_ _));exact Zn.out)):Zz≠Xg));clear Zn;clear HB;have Zn:=n0_;have HB:=n1_;have Wb:=n2_;have GW174:=n3_;have GE174:=n4_;have Zv:=n5_;have Je:=n6_;clear n0_ n1_ n2_ n3_ n4_ n5_ n6_;clear hb Zi hg;have hnb5:=Zv.out;have hnc5:=Je.out;have hcz6_0:w4.cell? ⟨Xg,0,none⟩=some (.int .u8 Zb):=(Yc Zn.out 0).trans rfl;have hcz6_1:w4.cell? ⟨Xg,1,none⟩=some (.bool Zc):=(Yc Zn.out 1).trans rfl;have hcz6_2:w4.cell? ⟨Xg,2,none⟩=some (.slice Zg Za.length Zd):=(Yc Zn.out 2).trans rfl;have hcz6_3:w4.cell? ⟨Xg,3,none⟩=some (.int .u8 Xt):=(Yc Zn.out 3).trans rfl;have hcz6_4:w4.cell? ⟨Xg,4,none⟩=some (.int .u8 Xu):=(Yc Zn.out 4).trans rfl;have hcz6_5:w4.cell? ⟨Xg,5,none⟩=some (.int .u8 Xv):=(Yc Zn.out 5).trans rfl;have hfz6_0:=Yf Zn.out 0;have hfz6_1:=Yf Zn.out 1;have hfz6_2:=Yf Zn.out 2;have hfz6_3:=Yf Zn.out 3;have hfz6_4:=Yf Zn.out 4;have hfz6_5:=Yf Zn.out 5)|((with_reducible refine gate_dst (N:=8) rfl ?_);refine Yz ?hg (N:=8) ?hd (cs:= #[.int .i64 0, .bool false, .slice none 0 0]) (t:=32) ?hr ?_;(case hd=>rfl);(case hg=>rfl);(case hr=>first|(go_simp;done)|(go_simp;rfl));intro Vb hg w7 Zi hb;have n0_:=Ya (Yn (g:=Xg) (o:= .cells #[.int .u8 Zb, .bool Zc, .slice Zg Za.length Zd, .int .u8 Xt, .int .u8 Xu, .int .u8 Xv] 24 (0,0)) (by(with_reducible repeat(first|refine Yl ?_ _|refine Ym ?_|refine Yj ?_ _));exact Zn.out) hb);have n1_:=Ya (Yn (g:=Zz) (o:= .cells #[.int .i64 0, .bool false, .slice none 0 0] 32 (0,0)) (by(with_reducible repeat(first|refine Yl ?_ _|refine Ym ?_|refine Yj ?_ _));exact Wb.out) hb);have n2_:=Ya (Yk (by repeat(first|(with_reducible first|exact HB.out|apply Ye|apply Yd|apply Yg|refine Yh ?_ GE173.out|refine Yh ?_ GE174.out)|exact HB.out)) hb);have n3_:=Ya (Zi);have n4_:=Ya ((by rw[hg];exact(Yi (by repeat(first|(with_reducible first|exact HB.out|apply Ye|apply Yd|apply Yg|refine Yh ?_ GE173.out|refine Yh ?_ GE174.out)|exact HB.out))):w.heap.size≤Vb));have n5_:=Ya ((by rw[hg];exact(Yi (by repeat(first|(with_reducible first|exact HB.out|apply Ye|apply Yd|apply Yg|refine Yh ?_ GE173.out|refine Yh ?_ GE174.out)|exact HB.out))):w.heap.size≤Vb));have n6_:=Ya ((by rw[hg];exact Nat.ne_of_lt (blk_lt (g:=Xg) (o:= .cells #[.int .u8 Zb, .bool Zc, .slice Zg Za.length Zd, .int .u8 Xt, .int .u8 Xu, .int .u8 Xv] 24 (0,0)) (by(with_reducible repeat(first|refine Yl ?_ _|refine Ym ?_|refine Yj ?_ _));exact Zn.out)):Xg≠Vb));have n7_:=Ya ((by rw[hg];exact Nat.ne_of_gt (blk_lt (g:=Xg) (o:= .cells #[.int .u8 Zb, .bool Zc, .slice Zg Za.length Zd, .int .u8 Xt, .int .u8 Xu, .int .u8 Xv] 24 (0,0)) (by(with_reducible repeat(first|refine Yl ?_ _|refine Ym ?_|refine Yj ?_ _));exact Zn.out)):Vb≠Xg));have n8_:=Ya ((by rw[hg];exact Nat.ne_of_lt (blk_lt (g:=Zz) (o:= .cells #[.int .i64 0, .bool false, .slice none 0 0] 32 (0,0)) (by(with_reducible repeat(first|refine Yl ?_ _|refine Ym ?_|refine Yj ?_ _));exact Wb.out)):Zz≠Vb));have n9_:=Ya ((by rw[hg];exact Nat.ne_of_gt (blk_lt (g:=Zz) (o:= .cells #[.int .i64 0, .bool false, .slice none 0 0] 32 (0,0)) (by(with_reducible repeat(first|refine Yl ?_ _|refine Ym ?_|refine Yj ?_ _));exact Wb.out)):Vb≠Zz));clear Zn;clear Wb;clear HB;have Zn:=n0_;have Wb:=n1_;have HB:=n2_;have Xc:=n3_;have GW175:=n4_;have GE175:=n5_;have Jm:=n6_;have NB175_173:=n7_;have Vo:=n8_;have Xj:=n9_;clear n0_ n1_ n2_ n3_ n4_ n5_ n6_ n7_ n8_ n9_;clear hb Zi hg;have hnb8:=NB175_173.out;have hnc8:=Jm.out;have hnb9:=Xj.out;have hnc9:=Vo.out;have hcz10_0:w7.cell? ⟨Vb,0,none⟩=some (.int .i64 0):=(Yc Xc.out 0).trans rfl;have hcz10_1:w7.cell? ⟨Vb,1,none⟩=some (.bool false):=(Yc Xc.out 1).trans rfl;have hcz10_2:w7.cell? ⟨Vb,2,none⟩=some (.slice none 0 0):=(Yc Xc.out 2).trans rfl;have hfz10_0:=Yf Xc.out 0;have hfz10_1:=Yf Xc.out 1;have hfz10_2:=Yf Xc.out 2));go_loopg [9] k (fun kq v9 w'=> ∃ (Xk:Int) (Ue:List (S73)) (u176002:Value),v9= .int .i64 Xk∧Aside0 (ebbtidelaw12_Read.l0 kq a1 Xk Zb Zc Za Xt Xu Xv (wrap64 (2+(Int.tmod (wrap64 (Zb)) 4))) Zc Ue=some (r1,r2,r3,r4,r5,r6))∧Aside0 (kq≤k)∧Aside0 (Kd.R k73 73 w' w.heap.size (fun _=>True) u176002 Ue)∧Aside0 (w'.heap[Xg]? =some (.cells #[.int .u8 Zb, .bool Zc,(.slice Zg Za.length Zd), .int .u8 Xt, .int .u8 Xu, .int .u8 Xv] 24 (0,0)))∧Aside0 (w'.heap[Zz]? =some (.cells #[.int .i64 0, .bool false,(.slice none 0 0)] 32 (0,0)))∧Aside0 (w'.heap[Vb]? =some (.cells #[.int .i64 (wrap64 (2+(Int.tmod (wrap64 (Zb)) 4))), .bool Zc,u176002] 32 (0,0)))∧Aside0 (Below w.heap.size w w'))
 case atStart=>exact⟨(0),(([]:List (S73))),(.slice none 0 0),(by first|rfl|(simp;done)|(simp[*];done)),H',⟨Nat.le_refl _⟩,⟨by first|exact Kd.R_nil _ _ _ _ _|exact Kd.N_nil _ _ _ _ _|exact Kd.V_nil _ _ _ _ _|exact Kd.Q_nil _ _ _ _ _|exact Kd.S_nil _ _ _ _ _⟩,⟨by(with_reducible repeat(first|refine Yl ?_ _|refine Ym ?_|refine Yj ?_ _));refine blk_far ?_ Jm.out _;(with_reducible repeat(first|refine Yl ?_ _|refine Ym ?_|refine Yj ?_ _));refine blk_far ?_ Jm.out _;(with_reducible repeat(first|refine Yl ?_ _|refine Ym ?_|refine Yj ?_ _));refine blk_far ?_ Jm.out _;(with_reducible repeat(first|refine Yl ?_ _|refine Ym ?_|refine Yj ?_ _));exact Zn.out⟩,⟨by(with_reducible repeat(first|refine Yl ?_ _|refine Ym ?_|refine Yj ?_ _));refine blk_far ?_ Vo.out _;(with_reducible repeat(first|refine Yl ?_ _|refine Ym ?_|refine Yj ?_ _));refine blk_far ?_ Vo.out _;(with_reducible repeat(first|refine Yl ?_ _|refine Ym ?_|refine Yj ?_ _));refine blk_far ?_ Vo.out _;(with_reducible repeat(first|refine Yl ?_ _|refine Ym ?_|refine Yj ?_ _));exact Wb.out⟩,⟨by(with_reducible repeat(first|refine Yl ?_ _|refine Ym ?_|refine Yj ?_ _));refine YA (cs:= #[.int .i64 (wrap64 (2+(Int.tmod (wrap64 (Zb)) 4))), .bool Zc, .slice none 0 0]) ?_ 2 _ rfl;(with_reducible repeat(first|refine Yl ?_ _|refine Ym ?_|refine Yj ?_ _));refine YA (cs:= #[.int .i64 (wrap64 (2+(Int.tmod (wrap64 (Zb)) 4))), .bool false, .slice none 0 0]) ?_ 1 _ rfl;(with_reducible repeat(first|refine Yl ?_ _|refine Ym ?_|refine Yj ?_ _));refine YA (cs:= #[.int .i64 0, .bool false, .slice none 0 0]) ?_ 0 _ rfl;(with_reducible repeat(first|refine Yl ?_ _|refine Ym ?_|refine Yj ?_ _));exact Xc.out⟩,⟨by repeat(first|(with_reducible first|exact HB.out|apply Ye|apply Yd|apply Yg|refine Yh ?_ GE173.out|refine Yh ?_ GE174.out|refine Yh ?_ GE175.out)|exact HB.out)⟩⟩
 case round=>
  clear H';try clear c1
  try clear p2
  try clear c5
  try clear p6
  try clear c8
  try clear c9
  try clear hcz10_0
  try clear hcz10_1
  try clear hcz10_2
  try clear hcz6_0
  try clear hcz6_1
  try clear hcz6_2
  try clear hcz6_3
  try clear hcz6_4
  try clear hcz6_5
  try clear hfz10_0
  try clear hfz10_1
  try clear hfz10_2
  try clear hfz6_0
  try clear hfz6_1
  try clear hfz6_2
  try clear hfz6_3
  try clear hfz6_4
  try clear hfz6_5
  obtain⟨Xk,Ue,u176002,rfl,HA,HK1,HO_176002,Zn,Wb,Xc,HB⟩:=hrel;cases gk with
  |zero=>exact absurd HA.out (by simp[ebbtidelaw12_Read.l0])
  |succ k1=>
   have H:=HA.out;clear HA;simp only[ebbtidelaw12_Read.l0] at H;by_cases c11:Xk<(Za.length:Int)
   rotate_left
   ·rw[Yy c11] at H
    have c11b0:decide (Xk<(Za.length:Int))=false:=Yw c11;clear c11;by_cases c42:(wrap64 (2+(Int.tmod (wrap64 (Zb)) 4)))=0
    ·rw[Yx c42] at H
     exact absurd H (by simp)
    rw[Yy c42] at H;have c42b0:((wrap64 (2+(Int.tmod (wrap64 (Zb)) 4))) == 0)=false:=beq_eq_false_iff_ne.mpr c42;have c42b1:((wrap64 (2+(Int.tmod (wrap64 (Zb)) 4))) != 0)=true:=bne_iff_ne.mpr c42;by_cases c43:(wrap64 ((wrap64 (2+(Int.tmod (wrap64 (Zb)) 4))) - 1))=0
    ·rw[Yx c43] at H
     exact absurd H (by simp)
    rw[Yy c43] at H;have c43b0:((wrap64 ((wrap64 (2+(Int.tmod (wrap64 (Zb)) 4))) - 1)) == 0)=false:=beq_eq_false_iff_ne.mpr c43;have c43b1:((wrap64 ((wrap64 (2+(Int.tmod (wrap64 (Zb)) 4))) - 1)) != 0)=true:=bne_iff_ne.mpr c43;simp only[Option.some.injEq,Prod.mk.injEq] at H;obtain⟨rfl,rfl,rfl,rfl,rfl,rfl⟩:=H;have hnb44:=Zv.out;have hnc44:=Je.out;have hnb45:=Jm.out;have hnc45:=NB175_173.out;have hcz46_0:wr.cell? ⟨Xg,0,none⟩=some (.int .u8 Zb):=(Yc Zn.out 0).trans rfl;have hcz46_1:wr.cell? ⟨Xg,1,none⟩=some (.bool Zc):=(Yc Zn.out 1).trans rfl;have hcz46_2:wr.cell? ⟨Xg,2,none⟩=some (.slice Zg Za.length Zd):=(Yc Zn.out 2).trans rfl;have hcz46_3:wr.cell? ⟨Xg,3,none⟩=some (.int .u8 Xt):=(Yc Zn.out 3).trans rfl;have hcz46_4:wr.cell? ⟨Xg,4,none⟩=some (.int .u8 Xu):=(Yc Zn.out 4).trans rfl;have hcz46_5:wr.cell? ⟨Xg,5,none⟩=some (.int .u8 Xv):=(Yc Zn.out 5).trans rfl;have hfz46_0:=Yf Zn.out 0;have hfz46_1:=Yf Zn.out 1;have hfz46_2:=Yf Zn.out 2;have hfz46_3:=Yf Zn.out 3;have hfz46_4:=Yf Zn.out 4;have hfz46_5:=Yf Zn.out 5;have hnb47:=Xj.out;have hnc47:=Vo.out;have hcz48_0:wr.cell? ⟨Vb,0,none⟩=some (.int .i64 (wrap64 (2+(Int.tmod (wrap64 (Zb)) 4)))):=(Yc Xc.out 0).trans rfl;have hcz48_1:wr.cell? ⟨Vb,1,none⟩=some (.bool Zc):=(Yc Xc.out 1).trans rfl;have hcz48_2:wr.cell? ⟨Vb,2,none⟩=some (u176002):=(Yc Xc.out 2).trans rfl;have hfz48_0:=Yf Xc.out 0;have hfz48_1:=Yf Xc.out 1;have hfz48_2:=Yf Xc.out 2;try go_wp2
    have n0_:=Ya (Yp HO_176002.out);have n1_:=Ya (Ym Zn.out);have n2_:=Ya (Ym Wb.out);have n3_:=Ya (Ym Xc.out);have n4_:=Ya (Yg HB.out);clear HO_176002;clear Zn;clear Wb;clear Xc;clear HB;have HO_176002:=n0_;have Zn:=n1_;have Wb:=n2_;have Xc:=n3_;have HB:=n4_;clear n0_ n1_ n2_ n3_ n4_;refine start_ (n:=14) (S:=fun w'=>w'.cell? ⟨Xg,0,none⟩=some (.int .u8 Zb)∧w'.cell? ⟨Xg,1,none⟩=some (.bool Zc)∧w'.cell? ⟨Xg,2,none⟩=some (.slice Zg Za.length Zd)∧w'.cell? ⟨Xg,3,none⟩=some (.int .u8 Xt)∧w'.cell? ⟨Xg,4,none⟩=some (.int .u8 Xu)∧w'.cell? ⟨Xg,5,none⟩=some (.int .u8 Xv)∧w'.cell? ⟨Vb,0,none⟩=some (.int .i64 (wrap64 (2+(Int.tmod (wrap64 (Zb)) 4))))∧w'.cell? ⟨Vb,1,none⟩=some (.bool Zc)∧w'.cell? ⟨Vb,2,none⟩=some (u176002)) (ds:=[]) #[false,false,false,false,false,false,false,false,false,false,false,false,false,false] (by kernel_rfl) rfl rfl ⟨(Yc Zn.out 0).trans rfl,(Yc Zn.out 1).trans rfl,(Yc Zn.out 2).trans rfl,(Yc Zn.out 3).trans rfl,(Yc Zn.out 4).trans rfl,(Yc Zn.out 5).trans rfl,(Yc Xc.out 0).trans rfl,(Yc Xc.out 1).trans rfl,(Yc Xc.out 2).trans rfl⟩ (fun hHeld=> ?_);refine with_tabW ebbtidelaw12_Read.tab8 ebbtidelaw12_Read.bits8 (fun HT_ HW_=> ?_);generalize wr.drew=w49 at HO_176002 Zn Wb Xc HB hHeld ⊢;refine pure_ (i:=0) (N:=some 70) (v:= ?_) (a':= ?_) #[true,false,false,false,false,false,false,false,false,false,false,false,false,false] rfl rfl (any_of HT_.out (by kernel_rfl)) (fun _ _ _ h=>h) (Or.inl ⟨by rfl,?_⟩) ?_ ?_
    rotate_left
    ·intro w'
     go_simp
     with_reducible rfl
    rotate_left
    ·simp only[Act.put,List.setIfInBounds_toArray,List.set_cons_zero,List.set_cons_succ,i64_w,i32_w]
     rfl
    refine pure_ (i:=1) (N:=some 71) (v:= ?_) (a':= ?_) #[true,true,false,false,false,false,false,false,false,false,false,false,false,false] rfl rfl (any_of HT_.out (by kernel_rfl)) (fun _ _ _ h=>h) (Or.inl ⟨by rfl,?_⟩) ?_ ?_
    rotate_left
    ·intro w'
     go_simp
     with_reducible rfl
    rotate_left
    ·simp only[Act.put,List.setIfInBounds_toArray,List.set_cons_zero,List.set_cons_succ,i64_w,i32_w]
     rfl
    refine pure_ (i:=2) (N:=some 72) (v:= ?_) (a':= ?_) #[true,true,true,false,false,false,false,false,false,false,false,false,false,false] rfl rfl (any_of HT_.out (by kernel_rfl)) (fun _ _ _ h=>h) (Or.inl ⟨by rfl,?_⟩) ?_ ?_
    rotate_left
    ·intro w'
     go_simp
     with_reducible rfl
    rotate_left
    ·simp only[Act.put,List.setIfInBounds_toArray,List.set_cons_zero,List.set_cons_succ,i64_w,i32_w]
     rfl
    refine pure_ (i:=5) (N:=some 75) (v:= ?_) (a':= ?_) #[true,true,true,false,false,true,false,false,false,false,false,false,false,false] rfl rfl (any_of HT_.out (by kernel_rfl)) (fun _ _ _ h=>h) (Or.inl ⟨by rfl,?_⟩) ?_ ?_
    rotate_left
    ·intro w'
     go_simp
     with_reducible rfl
    rotate_left
    ·simp only[Act.put,List.setIfInBounds_toArray,List.set_cons_zero,List.set_cons_succ,i64_w,i32_w]
     rfl
    refine pure_ (i:=10) (N:=some 80) (v:= ?_) (a':= ?_) #[true,true,true,false,false,true,false,false,false,false,true,false,false,false] rfl rfl (any_of HT_.out (by kernel_rfl)) (fun _ _ _ h=>h) (Or.inl ⟨by rfl,?_⟩) ?_ ?_
    rotate_left
    ·intro w'
     go_simp
     with_reducible rfl
    rotate_left
    ·simp only[Act.put,List.setIfInBounds_toArray,List.set_cons_zero,List.set_cons_succ,i64_w,i32_w]
     rfl
    refine take_ (i:=3) (N:=some 73) (v:= ?_) (a':= ?_) #[true,true,true,true,false,true,false,false,false,false,true,false,false,false] rfl rfl (take_ofW HT_.out HW_.out (by kernel_rfl)) (fun _ _ _ h=>h) (Or.inl ⟨by rfl,?_⟩) hHeld ?_ ?_
    rotate_left
    ·rintro w' ⟨s0,s1,s2,s3,s4,s5,s6,s7,s8⟩
     go_simp
     with_reducible rfl
    rotate_left
    ·simp only[Act.put,List.setIfInBounds_toArray,List.set_cons_zero,List.set_cons_succ,i64_w,i32_w]
     rfl
    refine pure_ (i:=4) (N:=some 74) (v:= ?_) (a':= ?_) #[true,true,true,true,true,true,false,false,false,false,true,false,false,false] rfl rfl (any_of HT_.out (by kernel_rfl)) (fun _ _ _ h=>h) (Or.inl ⟨by rfl,?_⟩) ?_ ?_
    rotate_left
    ·intro w'
     go_simp
     with_reducible rfl
    rotate_left
    ·simp only[Act.put,List.setIfInBounds_toArray,List.set_cons_zero,List.set_cons_succ,i64_w,i32_w]
     rfl
    refine take_ (i:=6) (N:=some 76) (v:= ?_) (a':= ?_) #[true,true,true,true,true,true,true,false,false,false,true,false,false,false] rfl rfl (take_ofW HT_.out HW_.out (by kernel_rfl)) (fun _ _ _ h=>h) (Or.inl ⟨by rfl,?_⟩) hHeld ?_ ?_
    rotate_left
    ·rintro w' ⟨s0,s1,s2,s3,s4,s5,s6,s7,s8⟩
     go_simp
     with_reducible rfl
    rotate_left
    ·simp only[Act.put,List.setIfInBounds_toArray,List.set_cons_zero,List.set_cons_succ,i64_w,i32_w]
     rfl
    refine pure_ (i:=7) (N:=some 77) (v:= ?_) (a':= ?_) #[true,true,true,true,true,true,true,true,false,false,true,false,false,false] rfl rfl (any_of HT_.out (by kernel_rfl)) (fun _ _ _ h=>h) (Or.inl ⟨by rfl,?_⟩) ?_ ?_
    rotate_left
    ·intro w'
     go_simp
     with_reducible rfl
    rotate_left
    ·simp only[Act.put,List.setIfInBounds_toArray,List.set_cons_zero,List.set_cons_succ,i64_w,i32_w]
     rfl
    refine pure_ (i:=8) (N:=some 78) (v:= ?_) (a':= ?_) #[true,true,true,true,true,true,true,true,true,false,true,false,false,false] rfl rfl (any_of HT_.out (by kernel_rfl)) (fun _ _ _ h=>h) (Or.inl ⟨by rfl,?_⟩) ?_ ?_
    rotate_left
    ·intro w'
     go_simp
     with_reducible rfl
    rotate_left
    ·simp only[Act.put,List.setIfInBounds_toArray,List.set_cons_zero,List.set_cons_succ,i64_w,i32_w]
     rfl
    refine pure_ (i:=9) (N:=some 79) (v:= ?_) (a':= ?_) #[true,true,true,true,true,true,true,true,true,true,true,false,false,false] rfl rfl (any_of HT_.out (by kernel_rfl)) (fun _ _ _ h=>h) (Or.inl ⟨by rfl,?_⟩) ?_ ?_
    rotate_left
    ·intro w'
     go_simp
     with_reducible rfl
    rotate_left
    ·simp only[Act.put,List.setIfInBounds_toArray,List.set_cons_zero,List.set_cons_succ,i64_w,i32_w]
     rfl
    refine take_ (i:=11) (N:=some 81) (v:= ?_) (a':= ?_) #[true,true,true,true,true,true,true,true,true,true,true,true,false,false] rfl rfl (take_ofW HT_.out HW_.out (by kernel_rfl)) (fun _ _ _ h=>h) (Or.inl ⟨by rfl,?_⟩) hHeld ?_ ?_
    rotate_left
    ·rintro w' ⟨s0,s1,s2,s3,s4,s5,s6,s7,s8⟩
     go_simp
     with_reducible rfl
    rotate_left
    ·simp only[Act.put,List.setIfInBounds_toArray,List.set_cons_zero,List.set_cons_succ,i64_w,i32_w]
     rfl
    refine pure_ (i:=12) (N:=some 82) (v:= ?_) (a':= ?_) #[true,true,true,true,true,true,true,true,true,true,true,true,true,false] rfl rfl (any_of HT_.out (by kernel_rfl)) (fun _ _ _ h=>h) (Or.inl ⟨by rfl,?_⟩) ?_ ?_
    rotate_left
    ·intro w'
     go_simp
     with_reducible rfl
    rotate_left
    ·simp only[Act.put,List.setIfInBounds_toArray,List.set_cons_zero,List.set_cons_succ,i64_w,i32_w]
     rfl
    refine pure_ (i:=13) (N:=some 12) (v:= ?_) (a':= ?_) #[true,true,true,true,true,true,true,true,true,true,true,true,true,true] rfl rfl (any_of HT_.out (by kernel_rfl)) (fun _ _ _ h=>h) (Or.inl ⟨by rfl,?_⟩) ?_ ?_
    rotate_left
    ·intro w'
     go_simp
     with_reducible rfl
    rotate_left
    ·simp only[Act.put,List.setIfInBounds_toArray,List.set_cons_zero,List.set_cons_succ,i64_w,i32_w]
     rfl
    refine done_ (done_of HT_.out (by kernel_rfl)) ?_;try go_wp2
    have n0_:=Ya (Yp HO_176002.out);have n1_:=Ya (Ym Zn.out);have n2_:=Ya (Ym Wb.out);have n3_:=Ya (Ym Xc.out);have n4_:=Ya (Yg HB.out);clear HO_176002;clear Zn;clear Wb;clear Xc;clear HB;have HO_176002:=n0_;have Zn:=n1_;have Wb:=n2_;have Xc:=n3_;have HB:=n4_;clear n0_ n1_ n2_ n3_ n4_;obtain⟨Ao53,co53,eo53⟩:=Kd.R_slice HO_176002.out
    (first|subst eo53|(injection eo53 with f1_ f2_ f3_;have f4_:=f1_.symm;have f5_:=f3_.symm;clear f1_ f2_ f3_;subst f4_;subst f5_))
    refine start_ (n:=11) (S:=fun w'=>w'.cell? ⟨Vb,0,none⟩=some (.int .i64 (wrap64 (2+(Int.tmod (wrap64 (Zb)) 4))))∧w'.cell? ⟨Vb,1,none⟩=some (.bool Zc)∧w'.cell? ⟨Vb,2,none⟩=some (.slice Ao53 Ue.length co53)∧w'.cell? ⟨Xg,0,none⟩=some (.int .u8 Zb)∧w'.cell? ⟨Xg,1,none⟩=some (.bool Zc)∧w'.cell? ⟨Xg,2,none⟩=some (.slice Zg Za.length Zd)∧w'.cell? ⟨Xg,3,none⟩=some (.int .u8 Xt)∧w'.cell? ⟨Xg,4,none⟩=some (.int .u8 Xu)∧w'.cell? ⟨Xg,5,none⟩=some (.int .u8 Xv)) (ds:=[]) #[false,false,false,false,false,false,false,false,false,false,false] (by kernel_rfl) rfl rfl ⟨(Yc Xc.out 0).trans rfl,(Yc Xc.out 1).trans rfl,(Yc Xc.out 2).trans rfl,(Yc Zn.out 0).trans rfl,(Yc Zn.out 1).trans rfl,(Yc Zn.out 2).trans rfl,(Yc Zn.out 3).trans rfl,(Yc Zn.out 4).trans rfl,(Yc Zn.out 5).trans rfl⟩ (fun hHeld=> ?_);refine with_tabW ebbtidelaw12_Read.tab9 ebbtidelaw12_Read.bits9 (fun HT_ HW_=> ?_);generalize w49.drew=w50 at HO_176002 Zn Wb Xc HB hHeld ⊢;refine pure_ (i:=1) (N:=some 84) (v:= ?_) (a':= ?_) #[false,true,false,false,false,false,false,false,false,false,false] rfl rfl (any_of HT_.out (by kernel_rfl)) (fun _ _ _ h=>h) (Or.inl ⟨by rfl,?_⟩) ?_ ?_
    rotate_left
    ·intro w'
     go_simp
     with_reducible rfl
    rotate_left
    ·simp only[Act.put,List.setIfInBounds_toArray,List.set_cons_zero,List.set_cons_succ,i64_w,i32_w]
     rfl
    refine pure_ (i:=2) (N:=some 85) (v:= ?_) (a':= ?_) #[false,true,true,false,false,false,false,false,false,false,false] rfl rfl (any_of HT_.out (by kernel_rfl)) (fun _ _ _ h=>h) (Or.inl ⟨by rfl,?_⟩) ?_ ?_
    rotate_left
    ·intro w'
     go_simp
     with_reducible rfl
    rotate_left
    ·simp only[Act.put,List.setIfInBounds_toArray,List.set_cons_zero,List.set_cons_succ,i64_w,i32_w]
     rfl
    refine pure_ (i:=3) (N:=some 86) (v:= ?_) (a':= ?_) #[false,true,true,true,false,false,false,false,false,false,false] rfl rfl (any_of HT_.out (by kernel_rfl)) (fun _ _ _ h=>h) (Or.inl ⟨by rfl,?_⟩) ?_ ?_
    rotate_left
    ·intro w'
     go_simp
     with_reducible rfl
    rotate_left
    ·simp only[Act.put,List.setIfInBounds_toArray,List.set_cons_zero,List.set_cons_succ,i64_w,i32_w]
     rfl
    refine take_ (i:=0) (N:=some 83) (v:= ?_) (a':= ?_) #[true,true,true,true,false,false,false,false,false,false,false] rfl rfl (take_ofW HT_.out HW_.out (by kernel_rfl)) (fun _ _ _ h=>h) (Or.inl ⟨by rfl,?_⟩) hHeld ?_ ?_
    rotate_left
    ·rintro w' ⟨s0,s1,s2,s3,s4,s5,s6,s7,s8⟩
     go_simp
     with_reducible rfl
    rotate_left
    ·simp only[Act.put,List.setIfInBounds_toArray,List.set_cons_zero,List.set_cons_succ,i64_w,i32_w]
     rfl
    refine take_ (i:=4) (N:=some 87) (v:= ?_) (a':= ?_) #[true,true,true,true,true,false,false,false,false,false,false] rfl rfl (take_ofW HT_.out HW_.out (by kernel_rfl)) (fun _ _ _ h=>h) (Or.inl ⟨by rfl,?_⟩) hHeld ?_ ?_
    rotate_left
    ·rintro w' ⟨s0,s1,s2,s3,s4,s5,s6,s7,s8⟩
     go_simp
     with_reducible rfl
    rotate_left
    ·simp only[Act.put,List.setIfInBounds_toArray,List.set_cons_zero,List.set_cons_succ,i64_w,i32_w]
     rfl
    refine pure_ (i:=5) (N:=some 88) (v:= ?_) (a':= ?_) #[true,true,true,true,true,true,false,false,false,false,false] rfl rfl (any_of HT_.out (by kernel_rfl)) (fun _ _ _ h=>h) (Or.inl ⟨by rfl,?_⟩) ?_ ?_
    rotate_left
    ·intro w'
     go_simp
     with_reducible rfl
    rotate_left
    ·simp only[Act.put,List.setIfInBounds_toArray,List.set_cons_zero,List.set_cons_succ,i64_w,i32_w]
     rfl
    refine pure_ (i:=6) (N:=some 89) (v:= ?_) (a':= ?_) #[true,true,true,true,true,true,true,false,false,false,false] rfl rfl (any_of HT_.out (by kernel_rfl)) (fun _ _ _ h=>h) (Or.inl ⟨by rfl,?_⟩) ?_ ?_
    rotate_left
    ·intro w'
     go_simp
     with_reducible rfl
    rotate_left
    ·simp only[Act.put,List.setIfInBounds_toArray,List.set_cons_zero,List.set_cons_succ,i64_w,i32_w]
     rfl
    refine one_ (i:=7) (N:=none) #[true,true,true,true,true,true,true,true,false,false,false] rfl rfl (one_of HT_.out (by kernel_rfl)) (by decide) (fun K hK=> ?_);have hs51:w50.cell? ⟨Zz,0,none⟩=some (.int .i64 0):=(Yc Wb.out 0).trans rfl;have hfs51:=Yf Wb.out 0;have hns51_0:=Zv.out;have hns51_2:=Xj.out;have hms51_0:=Je.out;have hms51_2:=Vo.out;have hs52:w50.cell? ⟨Zz,1,none⟩=some (.bool false):=(Yc Wb.out 1).trans rfl;have hfs52:=Yf Wb.out 1;have hns52_0:=Zv.out;have hns52_2:=Xj.out;have hms52_0:=Je.out;have hms52_2:=Vo.out;have hs54:w50.cell? ⟨Zz,2,none⟩=some (.slice none 0 0):=(Yc Wb.out 2).trans rfl;have hfs54:=Yf Wb.out 2;have hns54_0:=Zv.out;have hns54_2:=Xj.out;have hms54_0:=Je.out;have hms54_2:=Vo.out;refine skip_ (w1:= ?_) (by rfl) rfl ?_ ?_
    rotate_left
    ·go_simp
     rfl
    refine hK.out _ _ ⟨((cell_far (p:=⟨Zz,_,none⟩) Xj.out _).trans (((cell_far (p:=⟨Zz,_,none⟩) Xj.out _).trans (((cell_far (p:=⟨Zz,_,none⟩) Xj.out _).trans (hHeld.1)))))),((cell_far (p:=⟨Zz,_,none⟩) Xj.out _).trans (((cell_far (p:=⟨Zz,_,none⟩) Xj.out _).trans (((cell_far (p:=⟨Zz,_,none⟩) Xj.out _).trans (hHeld.2.1)))))),((cell_far (p:=⟨Zz,_,none⟩) Xj.out _).trans (((cell_far (p:=⟨Zz,_,none⟩) Xj.out _).trans (((cell_far (p:=⟨Zz,_,none⟩) Xj.out _).trans (hHeld.2.2.1)))))),((cell_far (p:=⟨Zz,_,none⟩) Zv.out _).trans (((cell_far (p:=⟨Zz,_,none⟩) Zv.out _).trans (((cell_far (p:=⟨Zz,_,none⟩) Zv.out _).trans (hHeld.2.2.2.1)))))),((cell_far (p:=⟨Zz,_,none⟩) Zv.out _).trans (((cell_far (p:=⟨Zz,_,none⟩) Zv.out _).trans (((cell_far (p:=⟨Zz,_,none⟩) Zv.out _).trans (hHeld.2.2.2.2.1)))))),((cell_far (p:=⟨Zz,_,none⟩) Zv.out _).trans (((cell_far (p:=⟨Zz,_,none⟩) Zv.out _).trans (((cell_far (p:=⟨Zz,_,none⟩) Zv.out _).trans (hHeld.2.2.2.2.2.1)))))),((cell_far (p:=⟨Zz,_,none⟩) Zv.out _).trans (((cell_far (p:=⟨Zz,_,none⟩) Zv.out _).trans (((cell_far (p:=⟨Zz,_,none⟩) Zv.out _).trans (hHeld.2.2.2.2.2.2.1)))))),((cell_far (p:=⟨Zz,_,none⟩) Zv.out _).trans (((cell_far (p:=⟨Zz,_,none⟩) Zv.out _).trans (((cell_far (p:=⟨Zz,_,none⟩) Zv.out _).trans (hHeld.2.2.2.2.2.2.2.1)))))),((cell_far (p:=⟨Zz,_,none⟩) Zv.out _).trans (((cell_far (p:=⟨Zz,_,none⟩) Zv.out _).trans (((cell_far (p:=⟨Zz,_,none⟩) Zv.out _).trans (hHeld.2.2.2.2.2.2.2.2))))))⟩ (fun hHeld=> ?_);clear hK K;refine pure_ (i:=8) (N:=some 5) (v:= ?_) (a':= ?_) #[true,true,true,true,true,true,true,true,true,false,false] rfl rfl (any_of HT_.out (by kernel_rfl)) (fun _ _ _ h=>h) (Or.inl ⟨by rfl,?_⟩) ?_ ?_
    rotate_left
    ·intro w'
     go_simp
     with_reducible rfl
    rotate_left
    ·simp only[Act.put,List.setIfInBounds_toArray,List.set_cons_zero,List.set_cons_succ,i64_w,i32_w]
     rfl
    refine pure_ (i:=9) (N:=some 6) (v:= ?_) (a':= ?_) #[true,true,true,true,true,true,true,true,true,true,false] rfl rfl (any_of HT_.out (by kernel_rfl)) (fun _ _ _ h=>h) (Or.inl ⟨by rfl,?_⟩) ?_ ?_
    rotate_left
    ·intro w'
     go_simp
     with_reducible rfl
    rotate_left
    ·simp only[Act.put,List.setIfInBounds_toArray,List.set_cons_zero,List.set_cons_succ,i64_w,i32_w]
     rfl
    refine pure_ (i:=10) (N:=some 7) (v:= ?_) (a':= ?_) #[true,true,true,true,true,true,true,true,true,true,true] rfl rfl (any_of HT_.out (by kernel_rfl)) (fun _ _ _ h=>h) (Or.inl ⟨by rfl,?_⟩) ?_ ?_
    rotate_left
    ·intro w'
     go_simp
     with_reducible rfl
    rotate_left
    ·simp only[Act.put,List.setIfInBounds_toArray,List.set_cons_zero,List.set_cons_succ,i64_w,i32_w]
     rfl
    refine done_ (done_of HT_.out (by kernel_rfl)) ?_;try go_wp2
    refine bodyPost_ret (results_list (rs:=[.cell 4 32, .tmp 5, .tmp 6, .tmp 7]) rfl (by simp) (.cell Zz 32 #[.int .i64 (wrap64 (2+(Int.tmod (wrap64 (Zb)) 4))), .bool Zc, .slice Ao53 Ue.length co53] (0,0) _ rfl (by(with_reducible repeat(first|refine Yl ?_ _|refine Ym ?_|refine Yj ?_ _));refine YA (cs:= #[.int .i64 (wrap64 (2+(Int.tmod (wrap64 (Zb)) 4))), .bool Zc, .slice none 0 0]) ?_ 2 _ rfl;(with_reducible repeat(first|refine Yl ?_ _|refine Ym ?_|refine Yj ?_ _));refine YA (cs:= #[.int .i64 (wrap64 (2+(Int.tmod (wrap64 (Zb)) 4))), .bool false, .slice none 0 0]) ?_ 1 _ rfl;(with_reducible repeat(first|refine Yl ?_ _|refine Ym ?_|refine Yj ?_ _));refine YA (cs:= #[.int .i64 0, .bool false, .slice none 0 0]) ?_ 0 _ rfl;(with_reducible repeat(first|refine Yl ?_ _|refine Ym ?_|refine Yj ?_ _));exact Wb.out) Try.underlying32 rfl (by kernel_rfl) (.tmp (.tmp (.tmp .nil))))) rfl ?_;exact⟨_,by first|rfl|(simp[errW_none,errW_some]<;>rfl)|(simp[*,errW_none,errW_some]<;>rfl),by(with_reducible repeat(first|apply Yr|apply Yq|apply Yp));exact Kd.R_mono (Kd.R_far (p:=⟨Zz,2,none⟩) (Kd.R_far (p:=⟨Zz,1,none⟩) (Kd.R_far (p:=⟨Zz,0,none⟩) (Kd.R_types HO_176002.out Wb.out (by decide)) (fun _ hk=>hk.2) (.int .i64 (wrap64 (2+(Int.tmod (wrap64 (Zb)) 4))))) (fun _ hk=>hk.2) (.bool Zc)) (fun _ hk=>hk.2) (.slice Ao53 Ue.length co53)) (fun _ hk=>trivial),by repeat(first|(with_reducible first|exact HB.out|apply Ye|apply Yd|apply Yg|refine Yh ?_ GE173.out|refine Yh ?_ GE174.out|refine Yh ?_ GE175.out)|exact HB.out)⟩
   rw[Yx c11] at H;have c11b0:decide (Xk<(Za.length:Int))=true:=Yv c11;clear c11;by_cases c12:Xk<a1
   rotate_left
   ·rw[Yy c12] at H
    have c12b0:decide (Xk<a1)=false:=Yw c12;clear c12;by_cases c29:(wrap64 (2+(Int.tmod (wrap64 (Zb)) 4)))=0
    ·rw[Yx c29] at H
     exact absurd H (by simp)
    rw[Yy c29] at H;have c29b0:((wrap64 (2+(Int.tmod (wrap64 (Zb)) 4))) == 0)=false:=beq_eq_false_iff_ne.mpr c29;have c29b1:((wrap64 (2+(Int.tmod (wrap64 (Zb)) 4))) != 0)=true:=bne_iff_ne.mpr c29;by_cases c30:(wrap64 ((wrap64 (2+(Int.tmod (wrap64 (Zb)) 4))) - 1))=0
    ·rw[Yx c30] at H
     exact absurd H (by simp)
    rw[Yy c30] at H;have c30b0:((wrap64 ((wrap64 (2+(Int.tmod (wrap64 (Zb)) 4))) - 1)) == 0)=false:=beq_eq_false_iff_ne.mpr c30;have c30b1:((wrap64 ((wrap64 (2+(Int.tmod (wrap64 (Zb)) 4))) - 1)) != 0)=true:=bne_iff_ne.mpr c30;simp only[Option.some.injEq,Prod.mk.injEq] at H;obtain⟨rfl,rfl,rfl,rfl,rfl,rfl⟩:=H;have hnb31:=Zv.out;have hnc31:=Je.out;have hnb32:=Jm.out;have hnc32:=NB175_173.out;have hcz33_0:wr.cell? ⟨Xg,0,none⟩=some (.int .u8 Zb):=(Yc Zn.out 0).trans rfl;have hcz33_1:wr.cell? ⟨Xg,1,none⟩=some (.bool Zc):=(Yc Zn.out 1).trans rfl;have hcz33_2:wr.cell? ⟨Xg,2,none⟩=some (.slice Zg Za.length Zd):=(Yc Zn.out 2).trans rfl;have hcz33_3:wr.cell? ⟨Xg,3,none⟩=some (.int .u8 Xt):=(Yc Zn.out 3).trans rfl;have hcz33_4:wr.cell? ⟨Xg,4,none⟩=some (.int .u8 Xu):=(Yc Zn.out 4).trans rfl;have hcz33_5:wr.cell? ⟨Xg,5,none⟩=some (.int .u8 Xv):=(Yc Zn.out 5).trans rfl;have hfz33_0:=Yf Zn.out 0;have hfz33_1:=Yf Zn.out 1;have hfz33_2:=Yf Zn.out 2;have hfz33_3:=Yf Zn.out 3;have hfz33_4:=Yf Zn.out 4;have hfz33_5:=Yf Zn.out 5;have hnb34:=Xj.out;have hnc34:=Vo.out;have hcz35_0:wr.cell? ⟨Vb,0,none⟩=some (.int .i64 (wrap64 (2+(Int.tmod (wrap64 (Zb)) 4)))):=(Yc Xc.out 0).trans rfl;have hcz35_1:wr.cell? ⟨Vb,1,none⟩=some (.bool Zc):=(Yc Xc.out 1).trans rfl;have hcz35_2:wr.cell? ⟨Vb,2,none⟩=some (u176002):=(Yc Xc.out 2).trans rfl;have hfz35_0:=Yf Xc.out 0;have hfz35_1:=Yf Xc.out 1;have hfz35_2:=Yf Xc.out 2;try go_wp2
    have n0_:=Ya (Yp HO_176002.out);have n1_:=Ya (Ym Zn.out);have n2_:=Ya (Ym Wb.out);have n3_:=Ya (Ym Xc.out);have n4_:=Ya (Yg HB.out);clear HO_176002;clear Zn;clear Wb;clear Xc;clear HB;have HO_176002:=n0_;have Zn:=n1_;have Wb:=n2_;have Xc:=n3_;have HB:=n4_;clear n0_ n1_ n2_ n3_ n4_;refine start_ (n:=14) (S:=fun w'=>w'.cell? ⟨Xg,0,none⟩=some (.int .u8 Zb)∧w'.cell? ⟨Xg,1,none⟩=some (.bool Zc)∧w'.cell? ⟨Xg,2,none⟩=some (.slice Zg Za.length Zd)∧w'.cell? ⟨Xg,3,none⟩=some (.int .u8 Xt)∧w'.cell? ⟨Xg,4,none⟩=some (.int .u8 Xu)∧w'.cell? ⟨Xg,5,none⟩=some (.int .u8 Xv)∧w'.cell? ⟨Vb,0,none⟩=some (.int .i64 (wrap64 (2+(Int.tmod (wrap64 (Zb)) 4))))∧w'.cell? ⟨Vb,1,none⟩=some (.bool Zc)∧w'.cell? ⟨Vb,2,none⟩=some (u176002)) (ds:=[]) #[false,false,false,false,false,false,false,false,false,false,false,false,false,false] (by kernel_rfl) rfl rfl ⟨(Yc Zn.out 0).trans rfl,(Yc Zn.out 1).trans rfl,(Yc Zn.out 2).trans rfl,(Yc Zn.out 3).trans rfl,(Yc Zn.out 4).trans rfl,(Yc Zn.out 5).trans rfl,(Yc Xc.out 0).trans rfl,(Yc Xc.out 1).trans rfl,(Yc Xc.out 2).trans rfl⟩ (fun hHeld=> ?_);refine with_tabW ebbtidelaw12_Read.tab8 ebbtidelaw12_Read.bits8 (fun HT_ HW_=> ?_);generalize wr.drew=w36 at HO_176002 Zn Wb Xc HB hHeld ⊢;refine pure_ (i:=0) (N:=some 70) (v:= ?_) (a':= ?_) #[true,false,false,false,false,false,false,false,false,false,false,false,false,false] rfl rfl (any_of HT_.out (by kernel_rfl)) (fun _ _ _ h=>h) (Or.inl ⟨by rfl,?_⟩) ?_ ?_
    rotate_left
    ·intro w'
     go_simp
     with_reducible rfl
    rotate_left
    ·simp only[Act.put,List.setIfInBounds_toArray,List.set_cons_zero,List.set_cons_succ,i64_w,i32_w]
     rfl
    refine pure_ (i:=1) (N:=some 71) (v:= ?_) (a':= ?_) #[true,true,false,false,false,false,false,false,false,false,false,false,false,false] rfl rfl (any_of HT_.out (by kernel_rfl)) (fun _ _ _ h=>h) (Or.inl ⟨by rfl,?_⟩) ?_ ?_
    rotate_left
    ·intro w'
     go_simp
     with_reducible rfl
    rotate_left
    ·simp only[Act.put,List.setIfInBounds_toArray,List.set_cons_zero,List.set_cons_succ,i64_w,i32_w]
     rfl
    refine pure_ (i:=2) (N:=some 72) (v:= ?_) (a':= ?_) #[true,true,true,false,false,false,false,false,false,false,false,false,false,false] rfl rfl (any_of HT_.out (by kernel_rfl)) (fun _ _ _ h=>h) (Or.inl ⟨by rfl,?_⟩) ?_ ?_
    rotate_left
    ·intro w'
     go_simp
     with_reducible rfl
    rotate_left
    ·simp only[Act.put,List.setIfInBounds_toArray,List.set_cons_zero,List.set_cons_succ,i64_w,i32_w]
     rfl
    refine pure_ (i:=5) (N:=some 75) (v:= ?_) (a':= ?_) #[true,true,true,false,false,true,false,false,false,false,false,false,false,false] rfl rfl (any_of HT_.out (by kernel_rfl)) (fun _ _ _ h=>h) (Or.inl ⟨by rfl,?_⟩) ?_ ?_
    rotate_left
    ·intro w'
     go_simp
     with_reducible rfl
    rotate_left
    ·simp only[Act.put,List.setIfInBounds_toArray,List.set_cons_zero,List.set_cons_succ,i64_w,i32_w]
     rfl
    refine pure_ (i:=10) (N:=some 80) (v:= ?_) (a':= ?_) #[true,true,true,false,false,true,false,false,false,false,true,false,false,false] rfl rfl (any_of HT_.out (by kernel_rfl)) (fun _ _ _ h=>h) (Or.inl ⟨by rfl,?_⟩) ?_ ?_
    rotate_left
    ·intro w'
     go_simp
     with_reducible rfl
    rotate_left
    ·simp only[Act.put,List.setIfInBounds_toArray,List.set_cons_zero,List.set_cons_succ,i64_w,i32_w]
     rfl
    refine take_ (i:=3) (N:=some 73) (v:= ?_) (a':= ?_) #[true,true,true,true,false,true,false,false,false,false,true,false,false,false] rfl rfl (take_ofW HT_.out HW_.out (by kernel_rfl)) (fun _ _ _ h=>h) (Or.inl ⟨by rfl,?_⟩) hHeld ?_ ?_
    rotate_left
    ·rintro w' ⟨s0,s1,s2,s3,s4,s5,s6,s7,s8⟩
     go_simp
     with_reducible rfl
    rotate_left
    ·simp only[Act.put,List.setIfInBounds_toArray,List.set_cons_zero,List.set_cons_succ,i64_w,i32_w]
     rfl
    refine pure_ (i:=4) (N:=some 74) (v:= ?_) (a':= ?_) #[true,true,true,true,true,true,false,false,false,false,true,false,false,false] rfl rfl (any_of HT_.out (by kernel_rfl)) (fun _ _ _ h=>h) (Or.inl ⟨by rfl,?_⟩) ?_ ?_
    rotate_left
    ·intro w'
     go_simp
     with_reducible rfl
    rotate_left
    ·simp only[Act.put,List.setIfInBounds_toArray,List.set_cons_zero,List.set_cons_succ,i64_w,i32_w]
     rfl
    refine take_ (i:=6) (N:=some 76) (v:= ?_) (a':= ?_) #[true,true,true,true,true,true,true,false,false,false,true,false,false,false] rfl rfl (take_ofW HT_.out HW_.out (by kernel_rfl)) (fun _ _ _ h=>h) (Or.inl ⟨by rfl,?_⟩) hHeld ?_ ?_
    rotate_left
    ·rintro w' ⟨s0,s1,s2,s3,s4,s5,s6,s7,s8⟩
     go_simp
     with_reducible rfl
    rotate_left
    ·simp only[Act.put,List.setIfInBounds_toArray,List.set_cons_zero,List.set_cons_succ,i64_w,i32_w]
     rfl
    refine pure_ (i:=7) (N:=some 77) (v:= ?_) (a':= ?_) #[true,true,true,true,true,true,true,true,false,false,true,false,false,false] rfl rfl (any_of HT_.out (by kernel_rfl)) (fun _ _ _ h=>h) (Or.inl ⟨by rfl,?_⟩) ?_ ?_
    rotate_left
    ·intro w'
     go_simp
     with_reducible rfl
    rotate_left
    ·simp only[Act.put,List.setIfInBounds_toArray,List.set_cons_zero,List.set_cons_succ,i64_w,i32_w]
     rfl
    refine pure_ (i:=8) (N:=some 78) (v:= ?_) (a':= ?_) #[true,true,true,true,true,true,true,true,true,false,true,false,false,false] rfl rfl (any_of HT_.out (by kernel_rfl)) (fun _ _ _ h=>h) (Or.inl ⟨by rfl,?_⟩) ?_ ?_
    rotate_left
    ·intro w'
     go_simp
     with_reducible rfl
    rotate_left
    ·simp only[Act.put,List.setIfInBounds_toArray,List.set_cons_zero,List.set_cons_succ,i64_w,i32_w]
     rfl
    refine pure_ (i:=9) (N:=some 79) (v:= ?_) (a':= ?_) #[true,true,true,true,true,true,true,true,true,true,true,false,false,false] rfl rfl (any_of HT_.out (by kernel_rfl)) (fun _ _ _ h=>h) (Or.inl ⟨by rfl,?_⟩) ?_ ?_
    rotate_left
    ·intro w'
     go_simp
     with_reducible rfl
    rotate_left
    ·simp only[Act.put,List.setIfInBounds_toArray,List.set_cons_zero,List.set_cons_succ,i64_w,i32_w]
     rfl
    refine take_ (i:=11) (N:=some 81) (v:= ?_) (a':= ?_) #[true,true,true,true,true,true,true,true,true,true,true,true,false,false] rfl rfl (take_ofW HT_.out HW_.out (by kernel_rfl)) (fun _ _ _ h=>h) (Or.inl ⟨by rfl,?_⟩) hHeld ?_ ?_
    rotate_left
    ·rintro w' ⟨s0,s1,s2,s3,s4,s5,s6,s7,s8⟩
     go_simp
     with_reducible rfl
    rotate_left
    ·simp only[Act.put,List.setIfInBounds_toArray,List.set_cons_zero,List.set_cons_succ,i64_w,i32_w]
     rfl
    refine pure_ (i:=12) (N:=some 82) (v:= ?_) (a':= ?_) #[true,true,true,true,true,true,true,true,true,true,true,true,true,false] rfl rfl (any_of HT_.out (by kernel_rfl)) (fun _ _ _ h=>h) (Or.inl ⟨by rfl,?_⟩) ?_ ?_
    rotate_left
    ·intro w'
     go_simp
     with_reducible rfl
    rotate_left
    ·simp only[Act.put,List.setIfInBounds_toArray,List.set_cons_zero,List.set_cons_succ,i64_w,i32_w]
     rfl
    refine pure_ (i:=13) (N:=some 12) (v:= ?_) (a':= ?_) #[true,true,true,true,true,true,true,true,true,true,true,true,true,true] rfl rfl (any_of HT_.out (by kernel_rfl)) (fun _ _ _ h=>h) (Or.inl ⟨by rfl,?_⟩) ?_ ?_
    rotate_left
    ·intro w'
     go_simp
     with_reducible rfl
    rotate_left
    ·simp only[Act.put,List.setIfInBounds_toArray,List.set_cons_zero,List.set_cons_succ,i64_w,i32_w]
     rfl
    refine done_ (done_of HT_.out (by kernel_rfl)) ?_;try go_wp2
    have n0_:=Ya (Yp HO_176002.out);have n1_:=Ya (Ym Zn.out);have n2_:=Ya (Ym Wb.out);have n3_:=Ya (Ym Xc.out);have n4_:=Ya (Yg HB.out);clear HO_176002;clear Zn;clear Wb;clear Xc;clear HB;have HO_176002:=n0_;have Zn:=n1_;have Wb:=n2_;have Xc:=n3_;have HB:=n4_;clear n0_ n1_ n2_ n3_ n4_;obtain⟨Ao40,co40,eo40⟩:=Kd.R_slice HO_176002.out
    (first|subst eo40|(injection eo40 with f1_ f2_ f3_;have f4_:=f1_.symm;have f5_:=f3_.symm;clear f1_ f2_ f3_;subst f4_;subst f5_))
    refine start_ (n:=11) (S:=fun w'=>w'.cell? ⟨Vb,0,none⟩=some (.int .i64 (wrap64 (2+(Int.tmod (wrap64 (Zb)) 4))))∧w'.cell? ⟨Vb,1,none⟩=some (.bool Zc)∧w'.cell? ⟨Vb,2,none⟩=some (.slice Ao40 Ue.length co40)∧w'.cell? ⟨Xg,0,none⟩=some (.int .u8 Zb)∧w'.cell? ⟨Xg,1,none⟩=some (.bool Zc)∧w'.cell? ⟨Xg,2,none⟩=some (.slice Zg Za.length Zd)∧w'.cell? ⟨Xg,3,none⟩=some (.int .u8 Xt)∧w'.cell? ⟨Xg,4,none⟩=some (.int .u8 Xu)∧w'.cell? ⟨Xg,5,none⟩=some (.int .u8 Xv)) (ds:=[]) #[false,false,false,false,false,false,false,false,false,false,false] (by kernel_rfl) rfl rfl ⟨(Yc Xc.out 0).trans rfl,(Yc Xc.out 1).trans rfl,(Yc Xc.out 2).trans rfl,(Yc Zn.out 0).trans rfl,(Yc Zn.out 1).trans rfl,(Yc Zn.out 2).trans rfl,(Yc Zn.out 3).trans rfl,(Yc Zn.out 4).trans rfl,(Yc Zn.out 5).trans rfl⟩ (fun hHeld=> ?_);refine with_tabW ebbtidelaw12_Read.tab9 ebbtidelaw12_Read.bits9 (fun HT_ HW_=> ?_);generalize w36.drew=w37 at HO_176002 Zn Wb Xc HB hHeld ⊢;refine pure_ (i:=1) (N:=some 84) (v:= ?_) (a':= ?_) #[false,true,false,false,false,false,false,false,false,false,false] rfl rfl (any_of HT_.out (by kernel_rfl)) (fun _ _ _ h=>h) (Or.inl ⟨by rfl,?_⟩) ?_ ?_
    rotate_left
    ·intro w'
     go_simp
     with_reducible rfl
    rotate_left
    ·simp only[Act.put,List.setIfInBounds_toArray,List.set_cons_zero,List.set_cons_succ,i64_w,i32_w]
     rfl
    refine pure_ (i:=2) (N:=some 85) (v:= ?_) (a':= ?_) #[false,true,true,false,false,false,false,false,false,false,false] rfl rfl (any_of HT_.out (by kernel_rfl)) (fun _ _ _ h=>h) (Or.inl ⟨by rfl,?_⟩) ?_ ?_
    rotate_left
    ·intro w'
     go_simp
     with_reducible rfl
    rotate_left
    ·simp only[Act.put,List.setIfInBounds_toArray,List.set_cons_zero,List.set_cons_succ,i64_w,i32_w]
     rfl
    refine pure_ (i:=3) (N:=some 86) (v:= ?_) (a':= ?_) #[false,true,true,true,false,false,false,false,false,false,false] rfl rfl (any_of HT_.out (by kernel_rfl)) (fun _ _ _ h=>h) (Or.inl ⟨by rfl,?_⟩) ?_ ?_
    rotate_left
    ·intro w'
     go_simp
     with_reducible rfl
    rotate_left
    ·simp only[Act.put,List.setIfInBounds_toArray,List.set_cons_zero,List.set_cons_succ,i64_w,i32_w]
     rfl
    refine take_ (i:=0) (N:=some 83) (v:= ?_) (a':= ?_) #[true,true,true,true,false,false,false,false,false,false,false] rfl rfl (take_ofW HT_.out HW_.out (by kernel_rfl)) (fun _ _ _ h=>h) (Or.inl ⟨by rfl,?_⟩) hHeld ?_ ?_
    rotate_left
    ·rintro w' ⟨s0,s1,s2,s3,s4,s5,s6,s7,s8⟩
     go_simp
     with_reducible rfl
    rotate_left
    ·simp only[Act.put,List.setIfInBounds_toArray,List.set_cons_zero,List.set_cons_succ,i64_w,i32_w]
     rfl
    refine take_ (i:=4) (N:=some 87) (v:= ?_) (a':= ?_) #[true,true,true,true,true,false,false,false,false,false,false] rfl rfl (take_ofW HT_.out HW_.out (by kernel_rfl)) (fun _ _ _ h=>h) (Or.inl ⟨by rfl,?_⟩) hHeld ?_ ?_
    rotate_left
    ·rintro w' ⟨s0,s1,s2,s3,s4,s5,s6,s7,s8⟩
     go_simp
     with_reducible rfl
    rotate_left
    ·simp only[Act.put,List.setIfInBounds_toArray,List.set_cons_zero,List.set_cons_succ,i64_w,i32_w]
     rfl
    refine pure_ (i:=5) (N:=some 88) (v:= ?_) (a':= ?_) #[true,true,true,true,true,true,false,false,false,false,false] rfl rfl (any_of HT_.out (by kernel_rfl)) (fun _ _ _ h=>h) (Or.inl ⟨by rfl,?_⟩) ?_ ?_
    rotate_left
    ·intro w'
     go_simp
     with_reducible rfl
    rotate_left
    ·simp only[Act.put,List.setIfInBounds_toArray,List.set_cons_zero,List.set_cons_succ,i64_w,i32_w]
     rfl
    refine pure_ (i:=6) (N:=some 89) (v:= ?_) (a':= ?_) #[true,true,true,true,true,true,true,false,false,false,false] rfl rfl (any_of HT_.out (by kernel_rfl)) (fun _ _ _ h=>h) (Or.inl ⟨by rfl,?_⟩) ?_ ?_
    rotate_left
    ·intro w'
     go_simp
     with_reducible rfl
    rotate_left
    ·simp only[Act.put,List.setIfInBounds_toArray,List.set_cons_zero,List.set_cons_succ,i64_w,i32_w]
     rfl
    refine one_ (i:=7) (N:=none) #[true,true,true,true,true,true,true,true,false,false,false] rfl rfl (one_of HT_.out (by kernel_rfl)) (by decide) (fun K hK=> ?_);have hs38:w37.cell? ⟨Zz,0,none⟩=some (.int .i64 0):=(Yc Wb.out 0).trans rfl;have hfs38:=Yf Wb.out 0;have hns38_0:=Zv.out;have hns38_2:=Xj.out;have hms38_0:=Je.out;have hms38_2:=Vo.out;have hs39:w37.cell? ⟨Zz,1,none⟩=some (.bool false):=(Yc Wb.out 1).trans rfl;have hfs39:=Yf Wb.out 1;have hns39_0:=Zv.out;have hns39_2:=Xj.out;have hms39_0:=Je.out;have hms39_2:=Vo.out;have hs41:w37.cell? ⟨Zz,2,none⟩=some (.slice none 0 0):=(Yc Wb.out 2).trans rfl;have hfs41:=Yf Wb.out 2;have hns41_0:=Zv.out;have hns41_2:=Xj.out;have hms41_0:=Je.out;have hms41_2:=Vo.out;refine skip_ (w1:= ?_) (by rfl) rfl ?_ ?_
    rotate_left
    ·go_simp
     rfl
    refine hK.out _ _ ⟨((cell_far (p:=⟨Zz,_,none⟩) Xj.out _).trans (((cell_far (p:=⟨Zz,_,none⟩) Xj.out _).trans (((cell_far (p:=⟨Zz,_,none⟩) Xj.out _).trans (hHeld.1)))))),((cell_far (p:=⟨Zz,_,none⟩) Xj.out _).trans (((cell_far (p:=⟨Zz,_,none⟩) Xj.out _).trans (((cell_far (p:=⟨Zz,_,none⟩) Xj.out _).trans (hHeld.2.1)))))),((cell_far (p:=⟨Zz,_,none⟩) Xj.out _).trans (((cell_far (p:=⟨Zz,_,none⟩) Xj.out _).trans (((cell_far (p:=⟨Zz,_,none⟩) Xj.out _).trans (hHeld.2.2.1)))))),((cell_far (p:=⟨Zz,_,none⟩) Zv.out _).trans (((cell_far (p:=⟨Zz,_,none⟩) Zv.out _).trans (((cell_far (p:=⟨Zz,_,none⟩) Zv.out _).trans (hHeld.2.2.2.1)))))),((cell_far (p:=⟨Zz,_,none⟩) Zv.out _).trans (((cell_far (p:=⟨Zz,_,none⟩) Zv.out _).trans (((cell_far (p:=⟨Zz,_,none⟩) Zv.out _).trans (hHeld.2.2.2.2.1)))))),((cell_far (p:=⟨Zz,_,none⟩) Zv.out _).trans (((cell_far (p:=⟨Zz,_,none⟩) Zv.out _).trans (((cell_far (p:=⟨Zz,_,none⟩) Zv.out _).trans (hHeld.2.2.2.2.2.1)))))),((cell_far (p:=⟨Zz,_,none⟩) Zv.out _).trans (((cell_far (p:=⟨Zz,_,none⟩) Zv.out _).trans (((cell_far (p:=⟨Zz,_,none⟩) Zv.out _).trans (hHeld.2.2.2.2.2.2.1)))))),((cell_far (p:=⟨Zz,_,none⟩) Zv.out _).trans (((cell_far (p:=⟨Zz,_,none⟩) Zv.out _).trans (((cell_far (p:=⟨Zz,_,none⟩) Zv.out _).trans (hHeld.2.2.2.2.2.2.2.1)))))),((cell_far (p:=⟨Zz,_,none⟩) Zv.out _).trans (((cell_far (p:=⟨Zz,_,none⟩) Zv.out _).trans (((cell_far (p:=⟨Zz,_,none⟩) Zv.out _).trans (hHeld.2.2.2.2.2.2.2.2))))))⟩ (fun hHeld=> ?_);clear hK K;refine pure_ (i:=8) (N:=some 5) (v:= ?_) (a':= ?_) #[true,true,true,true,true,true,true,true,true,false,false] rfl rfl (any_of HT_.out (by kernel_rfl)) (fun _ _ _ h=>h) (Or.inl ⟨by rfl,?_⟩) ?_ ?_
    rotate_left
    ·intro w'
     go_simp
     with_reducible rfl
    rotate_left
    ·simp only[Act.put,List.setIfInBounds_toArray,List.set_cons_zero,List.set_cons_succ,i64_w,i32_w]
     rfl
    refine pure_ (i:=9) (N:=some 6) (v:= ?_) (a':= ?_) #[true,true,true,true,true,true,true,true,true,true,false] rfl rfl (any_of HT_.out (by kernel_rfl)) (fun _ _ _ h=>h) (Or.inl ⟨by rfl,?_⟩) ?_ ?_
    rotate_left
    ·intro w'
     go_simp
     with_reducible rfl
    rotate_left
    ·simp only[Act.put,List.setIfInBounds_toArray,List.set_cons_zero,List.set_cons_succ,i64_w,i32_w]
     rfl
    refine pure_ (i:=10) (N:=some 7) (v:= ?_) (a':= ?_) #[true,true,true,true,true,true,true,true,true,true,true] rfl rfl (any_of HT_.out (by kernel_rfl)) (fun _ _ _ h=>h) (Or.inl ⟨by rfl,?_⟩) ?_ ?_
    rotate_left
    ·intro w'
     go_simp
     with_reducible rfl
    rotate_left
    ·simp only[Act.put,List.setIfInBounds_toArray,List.set_cons_zero,List.set_cons_succ,i64_w,i32_w]
     rfl
    refine done_ (done_of HT_.out (by kernel_rfl)) ?_;try go_wp2
    refine bodyPost_ret (results_list (rs:=[.cell 4 32, .tmp 5, .tmp 6, .tmp 7]) rfl (by simp) (.cell Zz 32 #[.int .i64 (wrap64 (2+(Int.tmod (wrap64 (Zb)) 4))), .bool Zc, .slice Ao40 Ue.length co40] (0,0) _ rfl (by(with_reducible repeat(first|refine Yl ?_ _|refine Ym ?_|refine Yj ?_ _));refine YA (cs:= #[.int .i64 (wrap64 (2+(Int.tmod (wrap64 (Zb)) 4))), .bool Zc, .slice none 0 0]) ?_ 2 _ rfl;(with_reducible repeat(first|refine Yl ?_ _|refine Ym ?_|refine Yj ?_ _));refine YA (cs:= #[.int .i64 (wrap64 (2+(Int.tmod (wrap64 (Zb)) 4))), .bool false, .slice none 0 0]) ?_ 1 _ rfl;(with_reducible repeat(first|refine Yl ?_ _|refine Ym ?_|refine Yj ?_ _));refine YA (cs:= #[.int .i64 0, .bool false, .slice none 0 0]) ?_ 0 _ rfl;(with_reducible repeat(first|refine Yl ?_ _|refine Ym ?_|refine Yj ?_ _));exact Wb.out) Try.underlying32 rfl (by kernel_rfl) (.tmp (.tmp (.tmp .nil))))) rfl ?_;exact⟨_,by first|rfl|(simp[errW_none,errW_some]<;>rfl)|(simp[*,errW_none,errW_some]<;>rfl),by(with_reducible repeat(first|apply Yr|apply Yq|apply Yp));exact Kd.R_mono (Kd.R_far (p:=⟨Zz,2,none⟩) (Kd.R_far (p:=⟨Zz,1,none⟩) (Kd.R_far (p:=⟨Zz,0,none⟩) (Kd.R_types HO_176002.out Wb.out (by decide)) (fun _ hk=>hk.2) (.int .i64 (wrap64 (2+(Int.tmod (wrap64 (Zb)) 4))))) (fun _ hk=>hk.2) (.bool Zc)) (fun _ hk=>hk.2) (.slice Ao40 Ue.length co40)) (fun _ hk=>trivial),by repeat(first|(with_reducible first|exact HB.out|apply Ye|apply Yd|apply Yg|refine Yh ?_ GE173.out|refine Yh ?_ GE174.out|refine Yh ?_ GE175.out)|exact HB.out)⟩
   rw[Yx c12] at H;have c12b0:decide (Xk<a1)=true:=Yv c12;clear c12;by_cases c13:0≤Xk
   rotate_left
   ·rw[Yy c13] at H
    exact absurd H (by simp)
   rw[Yx c13] at H;have c13b0:decide (0≤Xk)=true:=Yv c13;clear c13;by_cases c14:(wrap64 (2+(Int.tmod (wrap64 (Zb)) 4)))=0
   ·rw[Yx c14] at H
    exact absurd H (by simp)
   rw[Yy c14] at H;have c14b0:((wrap64 (2+(Int.tmod (wrap64 (Zb)) 4))) == 0)=false:=beq_eq_false_iff_ne.mpr c14;have c14b1:((wrap64 (2+(Int.tmod (wrap64 (Zb)) 4))) != 0)=true:=bne_iff_ne.mpr c14;by_cases c15:Ue.length<4398046511104
   rotate_left
   ·rw[Yy c15] at H
    exact absurd H (by simp)
   rw[Yx c15] at H;have LMc15:=Ya c15;clear c15;obtain⟨y178,hy178⟩: ∃ y_:List (S73),y_=(Ue ++ [(⟨Int.tmod (wrap64 ((rd_T77 Za Xk).f0)) (wrap64 (2+(Int.tmod (wrap64 (Zb)) 4))),Int.tmod (wrap64 ((rd_T77 Za Xk).f1)) (wrap64 (2+(Int.tmod (wrap64 (Zb)) 4))),Int.tmod (wrap64 ((rd_T77 Za Xk).f2)) 6,Int.tmod (wrap64 ((rd_T77 Za Xk).f3)) 4⟩:S73)]):=⟨_,rfl⟩;replace H:(ebbtidelaw12_Read.l0 k1 a1 (wrap64 (Xk+1)) Zb Zc Za Xt Xu Xv (wrap64 (2+(Int.tmod (wrap64 (Zb)) 4))) Zc y178)=some (r1,r2,r3,r4,r5,r6):=by first|(rw[hy178];with_reducible exact H)|(have H2_:=(Option.bind_some _ _).symm.trans H;rw[hy178];with_reducible exact H2_)|(have H2_:=(Option.bind_some _ _).symm.trans H;with_reducible exact H2_)|with_reducible exact H|(rw[hy178];exact H)|exact H
   have Ny178:=Ya hy178;clear hy178;have H':=Ya H;clear H;have hnb16:=Zv.out;have hnc16:=Je.out;have hnb17:=Jm.out;have hnc17:=NB175_173.out;have hcz18_0:wr.cell? ⟨Xg,0,none⟩=some (.int .u8 Zb):=(Yc Zn.out 0).trans rfl;have hcz18_1:wr.cell? ⟨Xg,1,none⟩=some (.bool Zc):=(Yc Zn.out 1).trans rfl;have hcz18_2:wr.cell? ⟨Xg,2,none⟩=some (.slice Zg Za.length Zd):=(Yc Zn.out 2).trans rfl;have hcz18_3:wr.cell? ⟨Xg,3,none⟩=some (.int .u8 Xt):=(Yc Zn.out 3).trans rfl;have hcz18_4:wr.cell? ⟨Xg,4,none⟩=some (.int .u8 Xu):=(Yc Zn.out 4).trans rfl;have hcz18_5:wr.cell? ⟨Xg,5,none⟩=some (.int .u8 Xv):=(Yc Zn.out 5).trans rfl;have hfz18_0:=Yf Zn.out 0;have hfz18_1:=Yf Zn.out 1;have hfz18_2:=Yf Zn.out 2;have hfz18_3:=Yf Zn.out 3;have hfz18_4:=Yf Zn.out 4;have hfz18_5:=Yf Zn.out 5;have p176:0≤(Xk:Int):=Yu (by first|(with_reducible assumption)|assumption);have q176:Xk<(Za.length:Int):=Yu (by first|(with_reducible assumption)|assumption);obtain⟨ad176,e176,hx176_0,hx176_1,hx176_2,hx176_3⟩:=at_T77 Xl.out Xk p176 q176;cases e176;replace hx176_0:=(HB.out.cell (Yb w _ hx176_0)).trans hx176_0;replace hx176_1:=(HB.out.cell (Yb w _ hx176_1)).trans hx176_1;replace hx176_2:=(HB.out.cell (Yb w _ hx176_2)).trans hx176_2;replace hx176_3:=(HB.out.cell (Yb w _ hx176_3)).trans hx176_3;replace p176:=eq_true p176;replace q176:=eq_true q176;try go_wp2_with (first|((with_reducible refine gate_dst (N:=10) rfl ?_);refine Yz ?hg (N:=10) ?hd (cs:= #[.int .u8 0, .int .u8 0, .int .u8 0, .int .u8 0]) (t:=77) ?hr ?_;(case hd=>rfl);(case hg=>rfl);(case hr=>first|(go_simp;done)|(go_simp;rfl));intro Wl hg w19 Zi hb;have n0_:=Ya (Ys (by(with_reducible repeat(first|apply Yr|apply Yq|apply Yp));exact HO_176002.out) hb);have n1_:=Ya (Yn (g:=Xg) (o:= .cells #[.int .u8 Zb, .bool Zc, .slice (some ad176) Za.length Zd, .int .u8 Xt, .int .u8 Xu, .int .u8 Xv] 24 (0,0)) (by(with_reducible repeat(first|refine Yl ?_ _|refine Ym ?_|refine Yj ?_ _));exact Zn.out) hb);have n2_:=Ya (Yn (g:=Zz) (o:= .cells #[.int .i64 0, .bool false, .slice none 0 0] 32 (0,0)) (by(with_reducible repeat(first|refine Yl ?_ _|refine Ym ?_|refine Yj ?_ _));exact Wb.out) hb);have n3_:=Ya (Yn (g:=Vb) (o:= .cells #[.int .i64 (wrap64 (2+(Int.tmod (wrap64 (Zb)) 4))), .bool Zc,u176002] 32 (0,0)) (by(with_reducible repeat(first|refine Yl ?_ _|refine Ym ?_|refine Yj ?_ _));exact Xc.out) hb);have n4_:=Ya (Yk (by repeat(first|(with_reducible first|exact HB.out|apply Ye|apply Yd|apply Yg|refine Yh ?_ GE173.out|refine Yh ?_ GE174.out|refine Yh ?_ GE175.out)|exact HB.out)) hb);have n5_:=Ya (Zi);have n6_:=Ya ((by rw[hg];exact(Yi (by repeat(first|(with_reducible first|exact HB.out|apply Ye|apply Yd|apply Yg|refine Yh ?_ GE173.out|refine Yh ?_ GE174.out|refine Yh ?_ GE175.out)|exact HB.out))):w.heap.size≤Wl));have n7_:=Ya ((by rw[hg];exact(Yi (by repeat(first|(with_reducible first|exact HB.out|apply Ye|apply Yd|apply Yg|refine Yh ?_ GE173.out|refine Yh ?_ GE174.out|refine Yh ?_ GE175.out)|exact HB.out))):w.heap.size≤Wl));have n8_:=Ya ((by rw[hg];exact Nat.ne_of_lt (blk_lt (g:=Xg) (o:= .cells #[.int .u8 Zb, .bool Zc, .slice (some ad176) Za.length Zd, .int .u8 Xt, .int .u8 Xu, .int .u8 Xv] 24 (0,0)) (by(with_reducible repeat(first|refine Yl ?_ _|refine Ym ?_|refine Yj ?_ _));exact Zn.out)):Xg≠Wl));have n9_:=Ya ((by rw[hg];exact Nat.ne_of_gt (blk_lt (g:=Xg) (o:= .cells #[.int .u8 Zb, .bool Zc, .slice (some ad176) Za.length Zd, .int .u8 Xt, .int .u8 Xu, .int .u8 Xv] 24 (0,0)) (by(with_reducible repeat(first|refine Yl ?_ _|refine Ym ?_|refine Yj ?_ _));exact Zn.out)):Wl≠Xg));have n10_:=Ya ((by rw[hg];exact Nat.ne_of_lt (blk_lt (g:=Zz) (o:= .cells #[.int .i64 0, .bool false, .slice none 0 0] 32 (0,0)) (by(with_reducible repeat(first|refine Yl ?_ _|refine Ym ?_|refine Yj ?_ _));exact Wb.out)):Zz≠Wl));have n11_:=Ya ((by rw[hg];exact Nat.ne_of_gt (blk_lt (g:=Zz) (o:= .cells #[.int .i64 0, .bool false, .slice none 0 0] 32 (0,0)) (by(with_reducible repeat(first|refine Yl ?_ _|refine Ym ?_|refine Yj ?_ _));exact Wb.out)):Wl≠Zz));have n12_:=Ya ((by rw[hg];exact Nat.ne_of_lt (blk_lt (g:=Vb) (o:= .cells #[.int .i64 (wrap64 (2+(Int.tmod (wrap64 (Zb)) 4))), .bool Zc,u176002] 32 (0,0)) (by(with_reducible repeat(first|refine Yl ?_ _|refine Ym ?_|refine Yj ?_ _));exact Xc.out)):Vb≠Wl));have n13_:=Ya ((by rw[hg];exact Nat.ne_of_gt (blk_lt (g:=Vb) (o:= .cells #[.int .i64 (wrap64 (2+(Int.tmod (wrap64 (Zb)) 4))), .bool Zc,u176002] 32 (0,0)) (by(with_reducible repeat(first|refine Yl ?_ _|refine Ym ?_|refine Yj ?_ _));exact Xc.out)):Wl≠Vb));clear HO_176002;clear Zn;clear Wb;clear Xc;clear HB;have HO_176002:=n0_;have Zn:=n1_;have Wb:=n2_;have Xc:=n3_;have HB:=n4_;have Uc:=n5_;have GW177:=n6_;have GE177:=n7_;have NB173_177:=n8_;have NB177_173:=n9_;have NB174_177:=n10_;have NB177_174:=n11_;have NB175_177:=n12_;have NB177_175:=n13_;clear n0_ n1_ n2_ n3_ n4_ n5_ n6_ n7_ n8_ n9_ n10_ n11_ n12_ n13_;clear hb Zi hg;have hnb20:=NB177_173.out;have hnc20:=NB173_177.out;have hnb21:=NB177_174.out;have hnc21:=NB174_177.out;have hnb22:=NB177_175.out;have hnc22:=NB175_177.out;have hcz23_0:w19.cell? ⟨Wl,0,none⟩=some (.int .u8 0):=(Yc Uc.out 0).trans rfl;have hcz23_1:w19.cell? ⟨Wl,1,none⟩=some (.int .u8 0):=(Yc Uc.out 1).trans rfl;have hcz23_2:w19.cell? ⟨Wl,2,none⟩=some (.int .u8 0):=(Yc Uc.out 2).trans rfl;have hcz23_3:w19.cell? ⟨Wl,3,none⟩=some (.int .u8 0):=(Yc Uc.out 3).trans rfl;have hfz23_0:=Yf Uc.out 0;have hfz23_1:=Yf Uc.out 1;have hfz23_2:=Yf Uc.out 2;have hfz23_3:=Yf Uc.out 3))
   have n0_:Aside0 (Kd.R k73 73 ((((w19.setCell ⟨Wl,0,none⟩ (.int .u8 ((rd_T77 Za Xk).f0))).setCell ⟨Wl,1,none⟩ (.int .u8 ((rd_T77 Za Xk).f1))).setCell ⟨Wl,2,none⟩ (.int .u8 ((rd_T77 Za Xk).f2))).setCell ⟨Wl,3,none⟩ (.int .u8 ((rd_T77 Za Xk).f3))) w.heap.size (fun _=>True) u176002 Ue):=⟨by(with_reducible repeat(first|apply Yr|apply Yq|apply Yp));exact Kd.R_mono (Kd.R_far (p:=⟨Wl,3,none⟩) (Kd.R_far (p:=⟨Wl,2,none⟩) (Kd.R_far (p:=⟨Wl,1,none⟩) (Kd.R_far (p:=⟨Wl,0,none⟩) (Kd.R_types HO_176002.out Uc.out (by decide)) (fun _ hk=>hk.2) (.int .u8 ((rd_T77 Za Xk).f0))) (fun _ hk=>hk.2) (.int .u8 ((rd_T77 Za Xk).f1))) (fun _ hk=>hk.2) (.int .u8 ((rd_T77 Za Xk).f2))) (fun _ hk=>hk.2) (.int .u8 ((rd_T77 Za Xk).f3))) (fun _ hk=>trivial)⟩;have n1_:Aside0 (((((w19.setCell ⟨Wl,0,none⟩ (.int .u8 ((rd_T77 Za Xk).f0))).setCell ⟨Wl,1,none⟩ (.int .u8 ((rd_T77 Za Xk).f1))).setCell ⟨Wl,2,none⟩ (.int .u8 ((rd_T77 Za Xk).f2))).setCell ⟨Wl,3,none⟩ (.int .u8 ((rd_T77 Za Xk).f3))).heap[Xg]? =some (.cells #[.int .u8 Zb, .bool Zc, .slice (some ad176) Za.length Zd, .int .u8 Xt, .int .u8 Xu, .int .u8 Xv] 24 (0,0))):=⟨by(with_reducible repeat(first|refine Yl ?_ _|refine Ym ?_|refine Yj ?_ _));refine blk_far ?_ NB173_177.out _;(with_reducible repeat(first|refine Yl ?_ _|refine Ym ?_|refine Yj ?_ _));refine blk_far ?_ NB173_177.out _;(with_reducible repeat(first|refine Yl ?_ _|refine Ym ?_|refine Yj ?_ _));refine blk_far ?_ NB173_177.out _;(with_reducible repeat(first|refine Yl ?_ _|refine Ym ?_|refine Yj ?_ _));refine blk_far ?_ NB173_177.out _;(with_reducible repeat(first|refine Yl ?_ _|refine Ym ?_|refine Yj ?_ _));exact Zn.out⟩;have n2_:Aside0 (((((w19.setCell ⟨Wl,0,none⟩ (.int .u8 ((rd_T77 Za Xk).f0))).setCell ⟨Wl,1,none⟩ (.int .u8 ((rd_T77 Za Xk).f1))).setCell ⟨Wl,2,none⟩ (.int .u8 ((rd_T77 Za Xk).f2))).setCell ⟨Wl,3,none⟩ (.int .u8 ((rd_T77 Za Xk).f3))).heap[Zz]? =some (.cells #[.int .i64 0, .bool false, .slice none 0 0] 32 (0,0))):=⟨by(with_reducible repeat(first|refine Yl ?_ _|refine Ym ?_|refine Yj ?_ _));refine blk_far ?_ NB174_177.out _;(with_reducible repeat(first|refine Yl ?_ _|refine Ym ?_|refine Yj ?_ _));refine blk_far ?_ NB174_177.out _;(with_reducible repeat(first|refine Yl ?_ _|refine Ym ?_|refine Yj ?_ _));refine blk_far ?_ NB174_177.out _;(with_reducible repeat(first|refine Yl ?_ _|refine Ym ?_|refine Yj ?_ _));refine blk_far ?_ NB174_177.out _;(with_reducible repeat(first|refine Yl ?_ _|refine Ym ?_|refine Yj ?_ _));exact Wb.out⟩;have n3_:Aside0 (((((w19.setCell ⟨Wl,0,none⟩ (.int .u8 ((rd_T77 Za Xk).f0))).setCell ⟨Wl,1,none⟩ (.int .u8 ((rd_T77 Za Xk).f1))).setCell ⟨Wl,2,none⟩ (.int .u8 ((rd_T77 Za Xk).f2))).setCell ⟨Wl,3,none⟩ (.int .u8 ((rd_T77 Za Xk).f3))).heap[Vb]? =some (.cells #[.int .i64 (wrap64 (2+(Int.tmod (wrap64 (Zb)) 4))), .bool Zc,u176002] 32 (0,0))):=⟨by(with_reducible repeat(first|refine Yl ?_ _|refine Ym ?_|refine Yj ?_ _));refine blk_far ?_ NB175_177.out _;(with_reducible repeat(first|refine Yl ?_ _|refine Ym ?_|refine Yj ?_ _));refine blk_far ?_ NB175_177.out _;(with_reducible repeat(first|refine Yl ?_ _|refine Ym ?_|refine Yj ?_ _));refine blk_far ?_ NB175_177.out _;(with_reducible repeat(first|refine Yl ?_ _|refine Ym ?_|refine Yj ?_ _));refine blk_far ?_ NB175_177.out _;(with_reducible repeat(first|refine Yl ?_ _|refine Ym ?_|refine Yj ?_ _));exact Xc.out⟩;have n4_:Aside0 (((((w19.setCell ⟨Wl,0,none⟩ (.int .u8 ((rd_T77 Za Xk).f0))).setCell ⟨Wl,1,none⟩ (.int .u8 ((rd_T77 Za Xk).f1))).setCell ⟨Wl,2,none⟩ (.int .u8 ((rd_T77 Za Xk).f2))).setCell ⟨Wl,3,none⟩ (.int .u8 ((rd_T77 Za Xk).f3))).heap[Wl]? =some (.cells #[.int .u8 ((rd_T77 Za Xk).f0), .int .u8 ((rd_T77 Za Xk).f1), .int .u8 ((rd_T77 Za Xk).f2), .int .u8 ((rd_T77 Za Xk).f3)] 77 (0,0))):=⟨by(with_reducible repeat(first|refine Yl ?_ _|refine Ym ?_|refine Yj ?_ _));refine YA (cs:= #[.int .u8 ((rd_T77 Za Xk).f0), .int .u8 ((rd_T77 Za Xk).f1), .int .u8 ((rd_T77 Za Xk).f2), .int .u8 0]) ?_ 3 _ rfl;(with_reducible repeat(first|refine Yl ?_ _|refine Ym ?_|refine Yj ?_ _));refine YA (cs:= #[.int .u8 ((rd_T77 Za Xk).f0), .int .u8 ((rd_T77 Za Xk).f1), .int .u8 0, .int .u8 0]) ?_ 2 _ rfl;(with_reducible repeat(first|refine Yl ?_ _|refine Ym ?_|refine Yj ?_ _));refine YA (cs:= #[.int .u8 ((rd_T77 Za Xk).f0), .int .u8 0, .int .u8 0, .int .u8 0]) ?_ 1 _ rfl;(with_reducible repeat(first|refine Yl ?_ _|refine Ym ?_|refine Yj ?_ _));refine YA (cs:= #[.int .u8 0, .int .u8 0, .int .u8 0, .int .u8 0]) ?_ 0 _ rfl;(with_reducible repeat(first|refine Yl ?_ _|refine Ym ?_|refine Yj ?_ _));exact Uc.out⟩;have n5_:Aside0 (Below w.heap.size w ((((w19.setCell ⟨Wl,0,none⟩ (.int .u8 ((rd_T77 Za Xk).f0))).setCell ⟨Wl,1,none⟩ (.int .u8 ((rd_T77 Za Xk).f1))).setCell ⟨Wl,2,none⟩ (.int .u8 ((rd_T77 Za Xk).f2))).setCell ⟨Wl,3,none⟩ (.int .u8 ((rd_T77 Za Xk).f3)))):=⟨by repeat(first|(with_reducible first|exact HB.out|apply Ye|apply Yd|apply Yg|refine Yh ?_ GE173.out|refine Yh ?_ GE174.out|refine Yh ?_ GE175.out|refine Yh ?_ GE177.out)|exact HB.out)⟩
   (try clear HO_176002)
   (try clear Zn)
   (try clear Wb)
   (try clear Xc)
   (try clear Uc)
   (try clear HB)
   generalize ((((w19.setCell ⟨Wl,0,none⟩ (.int .u8 ((rd_T77 Za Xk).f0))).setCell ⟨Wl,1,none⟩ (.int .u8 ((rd_T77 Za Xk).f1))).setCell ⟨Wl,2,none⟩ (.int .u8 ((rd_T77 Za Xk).f2))).setCell ⟨Wl,3,none⟩ (.int .u8 ((rd_T77 Za Xk).f3)))=w24 at n0_ n1_ n2_ n3_ n4_ n5_ ⊢;have HO_176002:=n0_;have Zn:=n1_;have Wb:=n2_;have Xc:=n3_;have Uc:=n4_;have HB:=n5_;clear n0_ n1_ n2_ n3_ n4_ n5_;have n0_:=Ya (Yp HO_176002.out);have n1_:=Ya (Ym Zn.out);have n2_:=Ya (Ym Wb.out);have n3_:=Ya (Ym Xc.out);have n4_:=Ya (Ym Uc.out);have n5_:=Ya (Yg HB.out);clear HO_176002;clear Zn;clear Wb;clear Xc;clear Uc;clear HB;have HO_176002:=n0_;have Zn:=n1_;have Wb:=n2_;have Xc:=n3_;have Uc:=n4_;have HB:=n5_;clear n0_ n1_ n2_ n3_ n4_ n5_;refine start_ (n:=27) (S:=fun w'=>w'.cell? ⟨Vb,0,none⟩=some (.int .i64 (wrap64 (2+(Int.tmod (wrap64 (Zb)) 4))))∧w'.cell? ⟨Vb,1,none⟩=some (.bool Zc)∧w'.cell? ⟨Vb,2,none⟩=some (u176002)∧w'.cell? ⟨Wl,0,none⟩=some (.int .u8 ((rd_T77 Za Xk).f0))∧w'.cell? ⟨Wl,1,none⟩=some (.int .u8 ((rd_T77 Za Xk).f1))∧w'.cell? ⟨Wl,2,none⟩=some (.int .u8 ((rd_T77 Za Xk).f2))∧w'.cell? ⟨Wl,3,none⟩=some (.int .u8 ((rd_T77 Za Xk).f3))) (ds:=[26]) #[false,false,false,false,false,false,false,false,false,false,false,false,false,false,false,false,false,false,false,false,false,false,false,false,false,false,false] (by kernel_rfl) rfl rfl ⟨(Yc Xc.out 0).trans rfl,(Yc Xc.out 1).trans rfl,(Yc Xc.out 2).trans rfl,(Yc Uc.out 0).trans rfl,(Yc Uc.out 1).trans rfl,(Yc Uc.out 2).trans rfl,(Yc Uc.out 3).trans rfl⟩ (fun hHeld=> ?_);refine with_tabW ebbtidelaw12_Read.tab6 ebbtidelaw12_Read.bits6 (fun HT_ HW_=> ?_);generalize w24.drew=w25 at HO_176002 Zn Wb Xc Uc HB hHeld ⊢;refine pure_ (i:=0) (N:=some 38) (v:= ?_) (a':= ?_) #[true,false,false,false,false,false,false,false,false,false,false,false,false,false,false,false,false,false,false,false,false,false,false,false,false,false,false] rfl rfl (any_of HT_.out (by kernel_rfl)) (fun _ _ _ h=>h) (Or.inl ⟨by rfl,?_⟩) ?_ ?_
   rotate_left
   ·intro w'
    go_simp
    with_reducible rfl
   rotate_left
   ·simp only[Act.put,List.setIfInBounds_toArray,List.set_cons_zero,List.set_cons_succ,i64_w,i32_w]
    rfl
   refine pure_ (i:=2) (N:=some 40) (v:= ?_) (a':= ?_) #[true,false,true,false,false,false,false,false,false,false,false,false,false,false,false,false,false,false,false,false,false,false,false,false,false,false,false] rfl rfl (any_of HT_.out (by kernel_rfl)) (fun _ _ _ h=>h) (Or.inl ⟨by rfl,?_⟩) ?_ ?_
   rotate_left
   ·intro w'
    go_simp
    with_reducible rfl
   rotate_left
   ·simp only[Act.put,List.setIfInBounds_toArray,List.set_cons_zero,List.set_cons_succ,i64_w,i32_w]
    rfl
   refine pure_ (i:=5) (N:=some 43) (v:= ?_) (a':= ?_) #[true,false,true,false,false,true,false,false,false,false,false,false,false,false,false,false,false,false,false,false,false,false,false,false,false,false,false] rfl rfl (any_of HT_.out (by kernel_rfl)) (fun _ _ _ h=>h) (Or.inl ⟨by rfl,?_⟩) ?_ ?_
   rotate_left
   ·intro w'
    go_simp
    with_reducible rfl
   rotate_left
   ·simp only[Act.put,List.setIfInBounds_toArray,List.set_cons_zero,List.set_cons_succ,i64_w,i32_w]
    rfl
   refine pure_ (i:=8) (N:=some 46) (v:= ?_) (a':= ?_) #[true,false,true,false,false,true,false,false,true,false,false,false,false,false,false,false,false,false,false,false,false,false,false,false,false,false,false] rfl rfl (any_of HT_.out (by kernel_rfl)) (fun _ _ _ h=>h) (Or.inl ⟨by rfl,?_⟩) ?_ ?_
   rotate_left
   ·intro w'
    go_simp
    with_reducible rfl
   rotate_left
   ·simp only[Act.put,List.setIfInBounds_toArray,List.set_cons_zero,List.set_cons_succ,i64_w,i32_w]
    rfl
   refine pure_ (i:=11) (N:=some 49) (v:= ?_) (a':= ?_) #[true,false,true,false,false,true,false,false,true,false,false,true,false,false,false,false,false,false,false,false,false,false,false,false,false,false,false] rfl rfl (any_of HT_.out (by kernel_rfl)) (fun _ _ _ h=>h) (Or.inl ⟨by rfl,?_⟩) ?_ ?_
   rotate_left
   ·intro w'
    go_simp
    with_reducible rfl
   rotate_left
   ·simp only[Act.put,List.setIfInBounds_toArray,List.set_cons_zero,List.set_cons_succ,i64_w,i32_w]
    rfl
   refine pure_ (i:=14) (N:=some 52) (v:= ?_) (a':= ?_) #[true,false,true,false,false,true,false,false,true,false,false,true,false,false,true,false,false,false,false,false,false,false,false,false,false,false,false] rfl rfl (any_of HT_.out (by kernel_rfl)) (fun _ _ _ h=>h) (Or.inl ⟨by rfl,?_⟩) ?_ ?_
   rotate_left
   ·intro w'
    go_simp
    with_reducible rfl
   rotate_left
   ·simp only[Act.put,List.setIfInBounds_toArray,List.set_cons_zero,List.set_cons_succ,i64_w,i32_w]
    rfl
   refine pure_ (i:=18) (N:=some 56) (v:= ?_) (a':= ?_) #[true,false,true,false,false,true,false,false,true,false,false,true,false,false,true,false,false,false,true,false,false,false,false,false,false,false,false] rfl rfl (any_of HT_.out (by kernel_rfl)) (fun _ _ _ h=>h) (Or.inl ⟨by rfl,?_⟩) ?_ ?_
   rotate_left
   ·intro w'
    go_simp
    with_reducible rfl
   rotate_left
   ·simp only[Act.put,List.setIfInBounds_toArray,List.set_cons_zero,List.set_cons_succ,i64_w,i32_w]
    rfl
   refine take_ (i:=1) (N:=some 39) (v:= ?_) (a':= ?_) #[true,true,true,false,false,true,false,false,true,false,false,true,false,false,true,false,false,false,true,false,false,false,false,false,false,false,false] rfl rfl (take_ofW HT_.out HW_.out (by kernel_rfl)) (fun _ _ _ h=>h) (Or.inl ⟨by rfl,?_⟩) hHeld ?_ ?_
   rotate_left
   ·rintro w' ⟨s0,s1,s2,s3,s4,s5,s6⟩
    go_simp
    with_reducible rfl
   rotate_left
   ·simp only[Act.put,List.setIfInBounds_toArray,List.set_cons_zero,List.set_cons_succ,i64_w,i32_w]
    rfl
   refine take_ (i:=3) (N:=some 41) (v:= ?_) (a':= ?_) #[true,true,true,true,false,true,false,false,true,false,false,true,false,false,true,false,false,false,true,false,false,false,false,false,false,false,false] rfl rfl (take_ofW HT_.out HW_.out (by kernel_rfl)) (fun _ _ _ h=>h) (Or.inl ⟨by rfl,?_⟩) hHeld ?_ ?_
   rotate_left
   ·rintro w' ⟨s0,s1,s2,s3,s4,s5,s6⟩
    go_simp
    with_reducible rfl
   rotate_left
   ·simp only[Act.put,List.setIfInBounds_toArray,List.set_cons_zero,List.set_cons_succ,i64_w,i32_w]
    rfl
   refine pure_ (i:=4) (N:=some 42) (v:= ?_) (a':= ?_) #[true,true,true,true,true,true,false,false,true,false,false,true,false,false,true,false,false,false,true,false,false,false,false,false,false,false,false] rfl rfl (any_of HT_.out (by kernel_rfl)) (fun _ _ _ h=>h) (Or.inl ⟨by rfl,?_⟩) ?_ ?_
   rotate_left
   ·intro w'
    go_simp
    with_reducible rfl
   rotate_left
   ·simp only[Act.put,List.setIfInBounds_toArray,List.set_cons_zero,List.set_cons_succ,i64_w,i32_w]
    rfl
   refine take_ (i:=6) (N:=some 44) (v:= ?_) (a':= ?_) #[true,true,true,true,true,true,true,false,true,false,false,true,false,false,true,false,false,false,true,false,false,false,false,false,false,false,false] rfl rfl (take_ofW HT_.out HW_.out (by kernel_rfl)) (fun _ _ _ h=>h) (Or.inl ⟨by rfl,?_⟩) hHeld ?_ ?_
   rotate_left
   ·rintro w' ⟨s0,s1,s2,s3,s4,s5,s6⟩
    go_simp
    with_reducible rfl
   rotate_left
   ·simp only[Act.put,List.setIfInBounds_toArray,List.set_cons_zero,List.set_cons_succ,i64_w,i32_w]
    rfl
   refine pure_ (i:=7) (N:=some 45) (v:= ?_) (a':= ?_) #[true,true,true,true,true,true,true,true,true,false,false,true,false,false,true,false,false,false,true,false,false,false,false,false,false,false,false] rfl rfl (any_of HT_.out (by kernel_rfl)) (fun _ _ _ h=>h) (Or.inl ⟨by rfl,?_⟩) ?_ ?_
   rotate_left
   ·intro w'
    go_simp
    with_reducible rfl
   rotate_left
   ·simp only[Act.put,List.setIfInBounds_toArray,List.set_cons_zero,List.set_cons_succ,i64_w,i32_w]
    rfl
   refine take_ (i:=9) (N:=some 47) (v:= ?_) (a':= ?_) #[true,true,true,true,true,true,true,true,true,true,false,true,false,false,true,false,false,false,true,false,false,false,false,false,false,false,false] rfl rfl (take_ofW HT_.out HW_.out (by kernel_rfl)) (fun _ _ _ h=>h) (Or.inl ⟨by rfl,?_⟩) hHeld ?_ ?_
   rotate_left
   ·rintro w' ⟨s0,s1,s2,s3,s4,s5,s6⟩
    go_simp
    with_reducible rfl
   rotate_left
   ·simp only[Act.put,List.setIfInBounds_toArray,List.set_cons_zero,List.set_cons_succ,i64_w,i32_w]
    rfl
   refine pure_ (i:=10) (N:=some 48) (v:= ?_) (a':= ?_) #[true,true,true,true,true,true,true,true,true,true,true,true,false,false,true,false,false,false,true,false,false,false,false,false,false,false,false] rfl rfl (any_of HT_.out (by kernel_rfl)) (fun _ _ _ h=>h) (Or.inl ⟨by rfl,?_⟩) ?_ ?_
   rotate_left
   ·intro w'
    go_simp
    with_reducible rfl
   rotate_left
   ·simp only[Act.put,List.setIfInBounds_toArray,List.set_cons_zero,List.set_cons_succ,i64_w,i32_w]
    rfl
   refine take_ (i:=12) (N:=some 50) (v:= ?_) (a':= ?_) #[true,true,true,true,true,true,true,true,true,true,true,true,true,false,true,false,false,false,true,false,false,false,false,false,false,false,false] rfl rfl (take_ofW HT_.out HW_.out (by kernel_rfl)) (fun _ _ _ h=>h) (Or.inl ⟨by rfl,?_⟩) hHeld ?_ ?_
   rotate_left
   ·rintro w' ⟨s0,s1,s2,s3,s4,s5,s6⟩
    go_simp
    with_reducible rfl
   rotate_left
   ·simp only[Act.put,List.setIfInBounds_toArray,List.set_cons_zero,List.set_cons_succ,i64_w,i32_w]
    rfl
   refine pure_ (i:=13) (N:=some 51) (v:= ?_) (a':= ?_) #[true,true,true,true,true,true,true,true,true,true,true,true,true,true,true,false,false,false,true,false,false,false,false,false,false,false,false] rfl rfl (any_of HT_.out (by kernel_rfl)) (fun _ _ _ h=>h) (Or.inl ⟨by rfl,?_⟩) ?_ ?_
   rotate_left
   ·intro w'
    go_simp
    with_reducible rfl
   rotate_left
   ·simp only[Act.put,List.setIfInBounds_toArray,List.set_cons_zero,List.set_cons_succ,i64_w,i32_w]
    rfl
   refine take_ (i:=15) (N:=some 53) (v:= ?_) (a':= ?_) #[true,true,true,true,true,true,true,true,true,true,true,true,true,true,true,true,false,false,true,false,false,false,false,false,false,false,false] rfl rfl (take_ofW HT_.out HW_.out (by kernel_rfl)) (fun _ _ _ h=>h) (Or.inl ⟨by rfl,?_⟩) hHeld ?_ ?_
   rotate_left
   ·rintro w' ⟨s0,s1,s2,s3,s4,s5,s6⟩
    go_simp
    with_reducible rfl
   rotate_left
   ·simp only[Act.put,List.setIfInBounds_toArray,List.set_cons_zero,List.set_cons_succ,i64_w,i32_w]
    rfl
   refine pure_ (i:=16) (N:=some 54) (v:= ?_) (a':= ?_) #[true,true,true,true,true,true,true,true,true,true,true,true,true,true,true,true,true,false,true,false,false,false,false,false,false,false,false] rfl rfl (any_of HT_.out (by kernel_rfl)) (fun _ _ _ h=>h) (Or.inl ⟨by rfl,?_⟩) ?_ ?_
   rotate_left
   ·intro w'
    go_simp
    with_reducible rfl
   rotate_left
   ·simp only[Act.put,List.setIfInBounds_toArray,List.set_cons_zero,List.set_cons_succ,i64_w,i32_w]
    rfl
   refine pure_ (i:=17) (N:=some 55) (v:= ?_) (a':= ?_) #[true,true,true,true,true,true,true,true,true,true,true,true,true,true,true,true,true,true,true,false,false,false,false,false,false,false,false] rfl rfl (any_of HT_.out (by kernel_rfl)) (fun _ _ _ h=>h) (Or.inl ⟨by rfl,?_⟩) ?_ ?_
   rotate_left
   ·intro w'
    go_simp
    with_reducible rfl
   rotate_left
   ·simp only[Act.put,List.setIfInBounds_toArray,List.set_cons_zero,List.set_cons_succ,i64_w,i32_w]
    rfl
   refine take_ (i:=19) (N:=some 57) (v:= ?_) (a':= ?_) #[true,true,true,true,true,true,true,true,true,true,true,true,true,true,true,true,true,true,true,true,false,false,false,false,false,false,false] rfl rfl (take_ofW HT_.out HW_.out (by kernel_rfl)) (fun _ _ _ h=>h) (Or.inl ⟨by rfl,?_⟩) hHeld ?_ ?_
   rotate_left
   ·rintro w' ⟨s0,s1,s2,s3,s4,s5,s6⟩
    go_simp
    with_reducible rfl
   rotate_left
   ·simp only[Act.put,List.setIfInBounds_toArray,List.set_cons_zero,List.set_cons_succ,i64_w,i32_w]
    rfl
   refine pure_ (i:=20) (N:=some 58) (v:= ?_) (a':= ?_) #[true,true,true,true,true,true,true,true,true,true,true,true,true,true,true,true,true,true,true,true,true,false,false,false,false,false,false] rfl rfl (any_of HT_.out (by kernel_rfl)) (fun _ _ _ h=>h) (Or.inl ⟨by rfl,?_⟩) ?_ ?_
   rotate_left
   ·intro w'
    go_simp
    with_reducible rfl
   rotate_left
   ·simp only[Act.put,List.setIfInBounds_toArray,List.set_cons_zero,List.set_cons_succ,i64_w,i32_w]
    rfl
   refine pure_ (i:=21) (N:=some 59) (v:= ?_) (a':= ?_) #[true,true,true,true,true,true,true,true,true,true,true,true,true,true,true,true,true,true,true,true,true,true,false,false,false,false,false] rfl rfl (any_of HT_.out (by kernel_rfl)) (fun _ _ _ h=>h) (Or.inl ⟨by rfl,?_⟩) ?_ ?_
   rotate_left
   ·intro w'
    go_simp
    with_reducible rfl
   rotate_left
   ·simp only[Act.put,List.setIfInBounds_toArray,List.set_cons_zero,List.set_cons_succ,i64_w,i32_w]
    rfl
   refine pure_ (i:=22) (N:=some 60) (v:= ?_) (a':= ?_) #[true,true,true,true,true,true,true,true,true,true,true,true,true,true,true,true,true,true,true,true,true,true,true,false,false,false,false] rfl rfl (any_of HT_.out (by kernel_rfl)) (fun _ _ _ h=>h) (Or.inl ⟨by rfl,?_⟩) ?_ ?_
   rotate_left
   ·intro w'
    go_simp
    with_reducible rfl
   rotate_left
   ·simp only[Act.put,List.setIfInBounds_toArray,List.set_cons_zero,List.set_cons_succ,i64_w,i32_w]
    rfl
   refine one_ (i:=23) (N:=some 61) #[true,true,true,true,true,true,true,true,true,true,true,true,true,true,true,true,true,true,true,true,true,true,true,true,false,false,false] rfl rfl (one_of HT_.out (by kernel_rfl)) (by decide) (fun K hK=> ?_);refine value_ (w1:= ?_) (v:= ?_) (by rfl) rfl ?_ ?_
   rotate_left 2
   ·go_simp
    constructor
    ·rfl
    ·rfl
   refine hK.out _ _ ⟨(Yc (Yj Xc.out _) 0).trans rfl,(Yc (Yj Xc.out _) 1).trans rfl,(Yc (Yj Xc.out _) 2).trans rfl,(Yc (Yj Uc.out _) 0).trans rfl,(Yc (Yj Uc.out _) 1).trans rfl,(Yc (Yj Uc.out _) 2).trans rfl,(Yc (Yj Uc.out _) 3).trans rfl⟩ (fun hHeld=> ?_);clear hK K;refine norm_ (a':= ?_) ?_ ?_
   rotate_left
   ·show Act.put _ (some 61) _=_
    simp only[Act.put,List.setIfInBounds_toArray,List.set_cons_zero,List.set_cons_succ,i64_w,i32_w];rfl
   refine one_ (i:=24) (N:=some 62) #[true,true,true,true,true,true,true,true,true,true,true,true,true,true,true,true,true,true,true,true,true,true,true,true,true,false,false] rfl rfl (one_of HT_.out (by kernel_rfl)) (by decide) (fun K hK=> ?_);refine Kd.R_append_step k73 (w0:=w) w.heap.size (by rfl) (.tmp 39) (.tmp 61) 30 73 (.agg #[(.int .i64 0),(.int .i64 0),(.int .i64 0),(.int .i64 0)]) 32 rfl Try.underlying30 info73 rfl (by decide) (by omega) u176002 Ue (⟨Int.tmod (wrap64 ((rd_T77 Za Xk).f0)) (wrap64 (2+(Int.tmod (wrap64 (Zb)) 4))),Int.tmod (wrap64 ((rd_T77 Za Xk).f1)) (wrap64 (2+(Int.tmod (wrap64 (Zb)) 4))),Int.tmod (wrap64 ((rd_T77 Za Xk).f2)) 6,Int.tmod (wrap64 ((rd_T77 Za Xk).f3)) 4⟩:S73) [.int .i64 (Int.tmod (wrap64 ((rd_T77 Za Xk).f0)) (wrap64 (2+(Int.tmod (wrap64 (Zb)) 4)))), .int .i64 (Int.tmod (wrap64 ((rd_T77 Za Xk).f1)) (wrap64 (2+(Int.tmod (wrap64 (Zb)) 4)))), .int .i64 (Int.tmod (wrap64 ((rd_T77 Za Xk).f2)) 6), .int .i64 (Int.tmod (wrap64 ((rd_T77 Za Xk).f3)) 4)] (fun _=>True) (fun _=>False) rfl rfl ?aP (fun _ hk=>hk.elim) ?aF ?aO ?aB ?aS ?aL ?_
   (case aP=>exact k73_mkM _ _ _ (⟨Int.tmod (wrap64 ((rd_T77 Za Xk).f0)) (wrap64 (2+(Int.tmod (wrap64 (Zb)) 4))),Int.tmod (wrap64 ((rd_T77 Za Xk).f1)) (wrap64 (2+(Int.tmod (wrap64 (Zb)) 4))),Int.tmod (wrap64 ((rd_T77 Za Xk).f2)) 6,Int.tmod (wrap64 ((rd_T77 Za Xk).f3)) 4⟩:S73))
   (case aB=>exact(by repeat(first|(with_reducible first|exact HB.out|apply Ye|apply Yd|apply Yg|refine Yh ?_ GE173.out|refine Yh ?_ GE174.out|refine Yh ?_ GE175.out|refine Yh ?_ GE177.out)|exact HB.out)))
   (case aF=>exact(fun _ _=>trivial))
   (case aO=>exact(by(with_reducible repeat(first|apply Yr|apply Yq|apply Yp));exact HO_176002.out))
   (case aS=>exact(Yi (by repeat(first|(with_reducible first|exact HB.out|apply Ye|apply Yd|apply Yg|refine Yh ?_ GE173.out|refine Yh ?_ GE174.out|refine Yh ?_ GE175.out|refine Yh ?_ GE177.out)|exact HB.out))))
   (case aL=>have:=LMc15.out;omega)
   intro v179 w26 ho hb hg hat
   rw[← Ny178.out] at ho;have n0_:=Ya (blk_grown (g:=Xg) (o:= .cells #[.int .u8 Zb, .bool Zc, .slice (some ad176) Za.length Zd, .int .u8 Xt, .int .u8 Xu, .int .u8 Xv] 24 (0,0)) (by(with_reducible repeat(first|refine Yl ?_ _|refine Ym ?_|refine Yj ?_ _));exact Zn.out) hg (Kd.R_ne HO_176002.out Zn.out (by decide)));have n1_:=Ya (blk_grown (g:=Zz) (o:= .cells #[.int .i64 0, .bool false, .slice none 0 0] 32 (0,0)) (by(with_reducible repeat(first|refine Yl ?_ _|refine Ym ?_|refine Yj ?_ _));exact Wb.out) hg (Kd.R_ne HO_176002.out Wb.out (by decide)));have n2_:=Ya (blk_grown (g:=Vb) (o:= .cells #[.int .i64 (wrap64 (2+(Int.tmod (wrap64 (Zb)) 4))), .bool Zc,u176002] 32 (0,0)) (by(with_reducible repeat(first|refine Yl ?_ _|refine Ym ?_|refine Yj ?_ _));exact Xc.out) hg (Kd.R_ne HO_176002.out Xc.out (by decide)));have n3_:=Ya (blk_grown (g:=Wl) (o:= .cells #[.int .u8 ((rd_T77 Za Xk).f0), .int .u8 ((rd_T77 Za Xk).f1), .int .u8 ((rd_T77 Za Xk).f2), .int .u8 ((rd_T77 Za Xk).f3)] 77 (0,0)) (by(with_reducible repeat(first|refine Yl ?_ _|refine Ym ?_|refine Yj ?_ _));exact Uc.out) hg (Kd.R_ne HO_176002.out Uc.out (by decide)));have n4_:=Ya (hb);have n5_:=Ya (ho);clear Zn;clear Wb;clear Xc;clear Uc;clear HB;clear HO_176002;have Zn:=n0_;have Wb:=n1_;have Xc:=n2_;have Uc:=n3_;have HB:=n4_;have HO180:=n5_;clear n0_ n1_ n2_ n3_ n4_ n5_;clear ho hb hg hat
   obtain⟨Ao27,co27,eo27⟩:=Kd.R_slice HO180.out
   (first|subst eo27|(injection eo27 with f1_ f2_ f3_;have f4_:=f1_.symm;have f5_:=f3_.symm;clear f1_ f2_ f3_;subst f4_;subst f5_))
   refine hK.out _ _ ⟨(Yc Xc.out 0).trans rfl,(Yc Xc.out 1).trans rfl,(Yc Xc.out 2).trans rfl,(Yc Uc.out 0).trans rfl,(Yc Uc.out 1).trans rfl,(Yc Uc.out 2).trans rfl,(Yc Uc.out 3).trans rfl⟩ (fun hHeld=> ?_);clear hK K;refine norm_ (a':= ?_) ?_ ?_
   rotate_left
   ·show Act.put _ (some 62) _=_
    simp only[Act.put,List.setIfInBounds_toArray,List.set_cons_zero,List.set_cons_succ,i64_w,i32_w];rfl
   refine pure_ (i:=25) (N:=some 63) (v:= ?_) (a':= ?_) #[true,true,true,true,true,true,true,true,true,true,true,true,true,true,true,true,true,true,true,true,true,true,true,true,true,true,false] rfl rfl (any_of HT_.out (by kernel_rfl)) (fun _ _ _ h=>h) (Or.inl ⟨by rfl,?_⟩) ?_ ?_
   rotate_left
   ·intro w'
    go_simp
    with_reducible rfl
   rotate_left
   ·simp only[Act.put,List.setIfInBounds_toArray,List.set_cons_zero,List.set_cons_succ,i64_w,i32_w]
    rfl
   refine last_ (i:=26) (N:=none) #[true,true,true,true,true,true,true,true,true,true,true,true,true,true,true,true,true,true,true,true,true,true,true,true,true,true,true] rfl rfl (one_of HT_.out (by kernel_rfl)) (by decide) (fun K hK=> ?_);have hs28:w26.cell? ⟨Vb,2,none⟩=some (u176002):=(Yc Xc.out 2).trans rfl;have hfs28:=Yf Xc.out 2;have hns28_0:=Jm.out;have hns28_1:=Vo.out;have hns28_3:=NB177_175.out;have hms28_0:=NB175_173.out;have hms28_1:=Xj.out;have hms28_3:=NB175_177.out;refine skip_ (w1:= ?_) (by rfl) rfl ?_ ?_
   rotate_left
   ·go_simp
    rfl
   refine hK.out _ _ ?_;clear hK K;refine done_ (done_of HT_.out (by kernel_rfl)) ?_;try go_wp2
   go_roundg k1
   case measure=>have:=HK1.out;omega
   case rel=>exact⟨(wrap64 (Xk+1)),(y178),(.slice Ao27 y178.length co27),(by first|rfl|(simp;done)|(simp[*];done)),H',⟨by have:=HK1.out;omega⟩,⟨by(with_reducible repeat(first|apply Yr|apply Yq|apply Yp));exact Kd.R_mono (Kd.R_far (p:=⟨Vb,2,none⟩) (Kd.R_types HO180.out Xc.out (by decide)) (fun _ hk=>hk.2) (.slice Ao27 y178.length co27)) (fun _ hk=>trivial)⟩,⟨by(with_reducible repeat(first|refine Yl ?_ _|refine Ym ?_|refine Yj ?_ _));refine blk_far ?_ Jm.out _;(with_reducible repeat(first|refine Yl ?_ _|refine Ym ?_|refine Yj ?_ _));exact Zn.out⟩,⟨by(with_reducible repeat(first|refine Yl ?_ _|refine Ym ?_|refine Yj ?_ _));refine blk_far ?_ Vo.out _;(with_reducible repeat(first|refine Yl ?_ _|refine Ym ?_|refine Yj ?_ _));exact Wb.out⟩,⟨by(with_reducible repeat(first|refine Yl ?_ _|refine Ym ?_|refine Yj ?_ _));refine YA (cs:= #[.int .i64 (wrap64 (2+(Int.tmod (wrap64 (Zb)) 4))), .bool Zc,u176002]) ?_ 2 _ rfl;(with_reducible repeat(first|refine Yl ?_ _|refine Ym ?_|refine Yj ?_ _));exact Xc.out⟩,⟨by repeat(first|(with_reducible first|exact HB.out|apply Ye|apply Yd|apply Yg|refine Yh ?_ GE173.out|refine Yh ?_ GE174.out|refine Yh ?_ GE175.out|refine Yh ?_ GE177.out)|exact HB.out)⟩⟩
end P
namespace Q
open P
structure EndsOk (n s t:Int):Prop where
 s0:0≤s
 t0:0≤t
 sn:s<n
 tn:t<n
 ne:s≠t
def U8 (x:Int):Prop:=(Lit.int .u8 x).wf=true
def U16 (x:Int):Prop:=(Lit.int .u16 x).wf=true
theorem u8_in {x:Int} (h:U8 x):0≤x∧x≤255:=by
 unfold U8 at h;simp[Lit.wf,IntKind.min,IntKind.max,IntKind.signed,IntKind.bits] at h;omega
theorem u16_in {x:Int} (h:U16 x):0≤x∧x≤65535:=by
 unfold U16 at h;simp[Lit.wf,IntKind.min,IntKind.max,IntKind.signed,IntKind.bits] at h;omega
def BitOk (b:S77):Prop:=U8 b.f0∧U8 b.f1∧U8 b.f2∧U8 b.f3
def SmallOk (x:Int × Bool × List S77 × Int × Int × Int):Prop:=
 U8 x.1∧True∧(x.2.2.1.length≤9223372036854775807∧ ∀ b∈x.2.2.1,BitOk b)∧U8 x.2.2.2.1∧U8 x.2.2.2.2.1∧U8 x.2.2.2.2.2
theorem tmod_in {x m:Int} (h0:0≤x) (hm:0<m):0≤Int.tmod x m∧Int.tmod x m<m:=⟨Int.tmod_nonneg _ h0,Int.tmod_lt_of_pos _ hm⟩
structure SmallNet (m:Int) (hold:Bool) (r:Int × Bool × List S73 × Int × Int × Int):Prop where
 lo:2≤r.1
 hi:r.1≤5
 hold:r.2.1=hold
 net:NetOk r.1 r.2.2.1
 ends:EndsOk r.1 r.2.2.2.1 r.2.2.2.2.1
 s0:0≤r.2.2.2.2.2
 s1:r.2.2.2.2.2≤7
 len:(r.2.2.1.length:Int)≤m
 arcs: ∀ a∈r.2.2.1,a.f2≤5∧a.f3≤3
theorem read_l0 (m:Int) (hm0:0≤m) (hm:m≤100) (a0:Int) (hold:Bool) (bits:List S77) (a3 a4 a5 N:Int) (hb: ∀ b∈bits,BitOk b) (h3:U8 a3) (h4:U8 a4) (h5:U8 a5) (hN0:2≤N) (hN1:N≤5) (d:Nat):
  ∀ (i:Nat) (arcs:List S73),(i:Int)+d=m→arcs.length=i→(∀ a∈arcs,ArcOk N a∧a.f2≤5∧a.f3≤3)→
   ∃ r,Ev (fun k=>ebbtidelaw12_Read.l0 k m (i:Int) a0 hold bits a3 a4 a5 N hold arcs) r∧SmallNet m hold r:=by
 have h3:=u8_in h3;have h4:=u8_in h4;have h5:=u8_in h5;have w3:=tmod_in (x:=a3) (m:=N) h3.1 (by omega);have w4:=tmod_in (x:=a4) (m:=N - 1) h4.1 (by omega);have w5:=tmod_in (x:=a5) (m:=8) h5.1 (by omega);have wt:=tmod_in (x:=Int.tmod a3 N+1+Int.tmod a4 (N - 1)) (m:=N) (by omega) (by omega);have hne:Int.tmod a3 N≠Int.tmod (Int.tmod a3 N+1+Int.tmod a4 (N - 1)) N:=by
  intro e;rw[Int.tmod_eq_emod_of_nonneg (a:=Int.tmod a3 N+1+Int.tmod a4 (N - 1)) (by omega)] at e;generalize Int.tmod a3 N=s at *;generalize Int.tmod a4 (N - 1)=t at *;have h1:=Int.emod_add_mul_ediv (s+1+t) N;rw[← e] at h1;generalize (s+1+t) / N=q at h1;have hcase:q≤0∨q=1∨2≤q:=by omega
  rcases hcase with hq|hq|hq
  ·have:N * q≤0:=Int.mul_nonpos_of_nonneg_of_nonpos (by omega) hq
   omega
  ·subst hq;omega
  ·have:N * 2≤N * q:=Int.mul_le_mul_of_nonneg_left hq (by omega)
   omega
 have fin: ∀ arcs:List S73,(arcs.length:Int)≤m→(∀ a∈arcs,ArcOk N a∧a.f2≤5∧a.f3≤3)→
   SmallNet m hold (N,hold,arcs,Int.tmod (wrap64 a3) N,Int.tmod (wrap64 (wrap64 (Int.tmod (wrap64 a3) N+1)+Int.tmod (wrap64 a4) (wrap64 (N - 1)))) N,Int.tmod (wrap64 a5) 8):=by
  intro arcs hl ha;rw[wrap_id (x:=a3) (by omega) (by omega),wrap_id (x:=a4) (by omega) (by omega),wrap_id (x:=a5) (by omega) (by omega),wrap_id (x:=N - 1) (by omega) (by omega),wrap_id (x:=Int.tmod a3 N+1) (by omega) (by omega),wrap_id (by omega) (by omega)];exact⟨hN0,hN1,rfl,⟨by show 1≤N;omega,by show N≤50;omega,by show arcs.length≤200;omega,fun a h=>(ha a h).1⟩,⟨w3.1,wt.1,w3.2,wt.2,hne⟩,w5.1,by show Int.tmod a5 8≤7;omega,hl,fun a h=>(ha a h).2⟩
 have hw:wrap64 (N - 1)=N - 1:=wrap_id (by omega) (by omega)
 induction d with
 |zero=>
  intro i arcs hi hl ha;refine⟨_,?_,fin arcs (by omega) ha⟩;refine Ev.succ ?_;simp only[ebbtidelaw12_Read.l0];refine Ev.ite (fun g=> ?_) (fun g=> ?_)
  ·exact Ev.neg (by omega) (Ev.neg (by omega) (Ev.neg (by omega) (Ev.now _)))
  ·exact Ev.neg (by omega) (Ev.neg (by omega) (Ev.now _))
 |succ d ih=>
  intro i arcs hi hl ha;by_cases g:(i:Int)<(bits.length:Int)
  ·have hbit:=hb (rd_T77 bits (i:Int)) (getD_mem (by omega))
   obtain⟨b0,b1,b2,b3⟩:=hbit;have b0:=u8_in b0;have b1:=u8_in b1;have b2:=u8_in b2;have b3:=u8_in b3;have v0:=tmod_in (m:=N) b0.1 (by omega);have v1:=tmod_in (m:=N) b1.1 (by omega);have v2:=tmod_in (m:=6) b2.1 (by omega);have v3:=tmod_in (m:=4) b3.1 (by omega);obtain⟨r,hr,hp⟩:=ih (i+1) (arcs ++ [(⟨Int.tmod (rd_T77 bits (i:Int)).f0 N,Int.tmod (rd_T77 bits (i:Int)).f1 N,Int.tmod (rd_T77 bits (i:Int)).f2 6,Int.tmod (rd_T77 bits (i:Int)).f3 4⟩:S73)]) (by omega) (by simp[hl]) (by
    intro a h;rcases List.mem_append.1 h with h|h
    ·exact ha a h
    ·rw[List.mem_singleton.1 h]
     exact⟨⟨v0.1,v1.1,v2.1,v3.1,v0.2,v1.2,by show Int.tmod _ 6≤1048576;omega,by show Int.tmod _ 4≤1048576;omega⟩,by show Int.tmod _ 6≤5;omega,by show Int.tmod _ 4≤3;omega⟩)
   refine⟨r,?_,hp⟩;refine Ev.succ ?_;simp only[ebbtidelaw12_Read.l0];refine Ev.pos g (Ev.pos (by omega) (Ev.pos (by omega) (Ev.neg (by omega) (Ev.pos (by omega) ?_))));rw[wrap_succ (n:=101) (by omega) (by omega),wrap_id (x:=(rd_T77 bits (i:Int)).f0) (by omega) (by omega),wrap_id (x:=(rd_T77 bits (i:Int)).f1) (by omega) (by omega),wrap_id (x:=(rd_T77 bits (i:Int)).f2) (by omega) (by omega),wrap_id (x:=(rd_T77 bits (i:Int)).f3) (by omega) (by omega)];exact hr
  ·refine⟨_,?_,fin arcs (by omega) ha⟩
   refine Ev.succ ?_;simp only[ebbtidelaw12_Read.l0];exact Ev.neg g (Ev.neg (by omega) (Ev.neg (by omega) (Ev.now _)))
theorem read_ev (m:Int) (hm0:0≤m) (hm:m≤100) (a0:Int) (hold:Bool) (bits:List S77) (a3 a4 a5:Int) (h:SmallOk (a0,hold,bits,a3,a4,a5)):
  ∃ r,Ev (fun k=>ebbtidelaw12_Read.f k a0 hold bits a3 a4 a5 m) r∧SmallNet m hold r:=by
 obtain⟨h0,_,⟨_,hb⟩,h3,h4,h5⟩:=h;have h0':=u8_in h0;simp only at h0';have w0:=tmod_in (x:=a0) (m:=4) h0'.1 (by omega);unfold ebbtidelaw12_Read.f;rw[wrap_id (x:=a0) (by omega) (by omega),wrap_id (by omega) (by omega)];exact read_l0 m hm0 hm a0 hold bits a3 a4 a5 _ hb h3 h4 h5 (by omega) (by omega) m.toNat 0 [] (by omega) rfl (by simp)
end Q
namespace Q
open P
def endsErrQ (n:Int) (l:List S73) (s t:Int):Int:=if netErr n l=0 then(if s<0∨t<0∨n≤s∨n≤t∨s=t then 70 else 0) else netErr n l
theorem endsErrQ_ok {n:Int} {l:List S73} {s t:Int} (h:endsErrQ n l s t=0):NetOk n l∧EndsOk n s t:=by
 unfold endsErrQ at h;split at h
 ·split at h
  ·omega
  ·exact⟨netErr_ok (by assumption),by omega,by omega,by omega,by omega,by omega⟩
 ·exact absurd h (by assumption)
theorem endsQ_of {n:Int} {l:List S73} {s t:Int} (h:NetOk n l) (he:EndsOk n s t):endsErrQ n l s t=0:=by
 have:=he.s0;have:=he.t0;have:=he.sn;have:=he.tn;have:=he.ne;unfold endsErrQ;rw[Yx (netOk_err h),Yy (by omega)]
theorem endsQ_ev (n:Int) (b:Bool) (l:List S73) (s t:Int):Ev (fun k=>static_Ends.f k n b l s t) (endsErrQ n l s t):=by
 unfold static_Ends.f endsErrQ;refine Ev.bind (check_ev n b l) ?_;refine Ev.ite (fun h=> ?_) (fun h=> ?_)
 ·rw[Yx h]
  unfold mn mx;refine Ev.ite (fun g=> ?_) (fun g=> ?_)
  ·exact Ev.done (by rw[Yx (by omega)])
  refine Ev.ite (fun g=> ?_) (fun g=> ?_)
  ·exact Ev.done (by rw[Yx (by omega)])
  refine Ev.ite (fun g=> ?_) (fun g=> ?_)
  ·exact Ev.done (by rw[Yx (by omega)])
  ·exact Ev.done (by rw[Yy (by omega)])
 ·rw[Yy h]
  exact Ev.now _
theorem ref_endsQ_ev (n:Int) (b:Bool) (l:List S73) (s t:Int):Ev (fun k=>ebbtideref07_Ends.f k n b l s t) (endsErrQ n l s t):=by
 unfold ebbtideref07_Ends.f endsErrQ;refine Ev.bind (ref_check_ev n b l) ?_;refine Ev.ite (fun h=> ?_) (fun h=> ?_)
 ·rw[Yx h]
  refine Ev.call (node_eq n b l s) ?_;refine Ev.ite (fun g=> ?_) (fun g=> ?_)
  ·have g:=Yu g
   refine Ev.call (node_eq n b l t) ?_;refine Ev.ite (fun g2=> ?_) (fun g2=> ?_)
   ·have g2:=Yu g2
    refine Ev.ite (fun g3=> ?_) (fun g3=> ?_)
    ·exact Ev.done (by rw[Yx (by omega)])
    ·exact Ev.done (by rw[Yy (by omega)])
   ·have g2:=of_decide_eq_false (Bool.eq_false_iff.2 g2)
    exact Ev.done (by rw[Yx (by omega)])
  ·have g:=of_decide_eq_false (Bool.eq_false_iff.2 g)
   exact Ev.done (by rw[Yx (by omega)])
 ·rw[Yy h]
  exact Ev.now _
end Q
namespace Q
open P
open H
def spanErr (n:Int) (l:List S73) (s t h:Int):Int:=if endsErrQ n l s t=0 then(if h<0 then 1 else if h>1024 then 2 else 0) else endsErrQ n l s t
theorem spanErr_ok {n:Int} {l:List S73} {s t h:Int} (e:spanErr n l s t h=0):NetOk n l∧EndsOk n s t∧0≤h∧h≤1024:=by
 unfold spanErr at e;split at e
 ·have h2:=endsErrQ_ok (by assumption)
  split at e
  ·omega
  ·split at e
   ·omega
   ·exact⟨h2.1,h2.2,by omega,by omega⟩
 ·exact absurd e (by assumption)
theorem spanErr_mk {n:Int} {l:List S73} {s t h:Int} (hn:NetOk n l) (he:EndsOk n s t) (h0:0≤h) (h1:h≤1024):spanErr n l s t h=0:=by
 unfold spanErr;rw[Yx (endsQ_of hn he),Yy (by omega),Yy (by omega)]
theorem horizon_eq (h:Int):span_Horizon.f h=some (if h<0 then 1 else if h>1024 then 2 else 0):=by
 unfold span_Horizon.f;split
 ·rfl
 ·split<;>rfl
theorem span_asked_ev (n:Int) (b:Bool) (l:List S73) (s t h:Int):Ev (fun k=>span_Asked.f k n b l s t h) (spanErr n l s t h):=by
 unfold span_Asked.f spanErr;refine Ev.bind (endsQ_ev n b l s t) ?_;refine Ev.ite (fun g=> ?_) (fun g=> ?_)
 ·rw[Yx g]
  exact Ev.call (horizon_eq h) (Ev.now _)
 ·rw[Yy g]
  exact Ev.now _
theorem ref_span_eq (h:Int):ebbtideref12_Span.f h=some (if h<0 then 1 else if h>1024 then 2 else 0):=by
 unfold ebbtideref12_Span.f;split
 ·rfl
 ·split<;>rfl
theorem ref_span_asked_ev (n:Int) (b:Bool) (l:List S73) (s t h:Int):Ev (fun k=>ebbtideref12_Asked.f k n b l s t h) (spanErr n l s t h):=by
 unfold ebbtideref12_Asked.f spanErr;refine Ev.bind (ref_endsQ_ev n b l s t) ?_;refine Ev.ite (fun g=> ?_) (fun g=> ?_)
 ·rw[Yx g]
  exact Ev.call (ref_span_eq h) (Ev.now _)
 ·rw[Yy g]
  exact Ev.now _
def endsN (S:Int→Int→Bool) (s t:Int):Nat→Bool
 |0=>true
 |k+1=>endsN S s t k && (S s k && !S t k)
def risesAll (S:Int→Int→Bool) (h:Nat):Nat→Bool
 |0=>true
 |v+1=>risesAll S h v && risesN S v h
def tcRes (n:Int) (p:Bool) (l:List S73) (s t h:Int) (x:List S53):Int × Int:=
 if spanErr n l s t h=0 then
  (if x.all (slotOkB n h)=true then
   (if endsN (hasL x) s t (h.toNat+1)=true then(if p=true∧ ¬ risesAll (hasL x) h.toNat n.toNat=true then(0,181) else(takesL (hasL x) h l,0)) else(0,181))
   else(0,180))
 else(0,spanErr n l s t h)
theorem arc_sm {n:Int} {a:S73} (h:ArcOk n a) (hn:n≤50):ArcSm a:=
 ⟨h.f0,h.f1,h.f2,h.f3,by have:=h.h0;omega,by have:=h.h1;omega,h.h2,h.h3⟩
theorem ends_bad {S:Int→Int→Bool} {s t:Int} {k:Nat} (h:(S s k && !S t k)=false): ∀ m,k<m→endsN S s t m=false
 |0,hk=>absurd hk (Nat.not_lt_zero _)
 |m+1,hk=>by
  unfold endsN;by_cases e:k=m
  ·subst e;rw[h];simp
  ·rw[ends_bad h m (by omega)];rfl
theorem rises_bad {S:Int→Int→Bool} {h v:Nat} (hv:risesN S v h=false): ∀ m,v<m→risesAll S h m=false
 |0,hk=>absurd hk (Nat.not_lt_zero _)
 |m+1,hk=>by
  unfold risesAll;by_cases e:v=m
  ·subst e;rw[hv];simp
  ·rw[rises_bad hv m (by omega)];rfl
end Q
namespace H
open Go.Maps P Q
theorem Yn {w w':World} {g:Nat} {o:Obj} (h:w.heap[g]? =some o) (hb:Below w.heap.size w w'):w'.heap[g]? =some o:=(hb.block g (Array.getElem?_eq_some_iff.1 h).1).trans h
set_option maxHeartbeats 2000000 in
set_option maxRecDepth 100000 in
theorem check_walk (n:Int) (p:Bool) (A:Option Addr) (c:Nat) (l:List S73) (s t h:Int) (B:Option Addr) (cB:Nat) (x:List S53) (w:World) (hr:Kd.C k73 w A l.length l) (hc:l.length≤c) (hx:Kd.C k53 w B x.length x) (hcx:x.length≤cB):
  Calls Try.prog 10 #[(.agg #[.int .i64 n, .bool p, .slice A l.length c]), .int .i64 s, .int .i64 t, .int .i64 h, .slice B x.length cB] w fun e w'=>e= .returned (.tuple #[.int .i64 (tcRes n p l s t h x).1, .int .i64 (tcRes n p l s t h x).2])∧Below w.heap.size w w':=by
 have HR:=Ya hr;have HC:=Ya hc;have HX:=Ya hx;obtain⟨ka,hka⟩:=(span_asked_ev n p l s t h).rounds;have HKA:=Ya hka;clear hr hc hx hcx hka;obtain⟨err,herr⟩: ∃ e_,spanErr n l s t h=e_:=⟨_,rfl⟩;rw[herr] at HKA;have b0:Below w.heap.size w (w.alloc (.cells #[.int .i64 n, .bool p, .slice A l.length c] 32)):=(Yo _ _).alloc (Nat.le_refl _) _;have HB0:=Ya b0;clear b0;by_cases hz:err=0
 ·obtain⟨hn,hends,h0,hh⟩:=spanErr_ok (herr.trans hz)
  have n1:=hn.lo;have n2:=hn.hi;have s0:=hends.s0;have s1:=hends.sn;have t0:=hends.t0;have t1:=hends.tn;have HN:=Ya hn;have HZ:=Ya (herr.trans hz);have e1:(err != 0)=false:=bne_eq_false_iff_eq.mpr hz;have e2:(err == 0)=true:=beq_iff_eq.mpr hz;clear hends herr hz hn;go_enter Try.func10,Try.ntmps10;go_wp2_with fail;refine(span_Asked.calls ka n p _ _ l s t h err _ (Yt HR.out HB0.out) HC.out HKA.out).mono ?_;rintro e w1 ⟨rfl,hb1⟩;have HB1:=Ya (below_then HB0.out HB0.out.size hb1);have HK:Aside0 (w1.heap[w.heap.size]? =some (.cells #[.int .i64 n, .bool p, .slice A l.length c] 32 (0,0))):=⟨Yn (MapKept.heap_alloc _ _).1 hb1⟩;clear hb1 HB0 HKA;have d0:w1.cell? ⟨w.heap.size,0,none⟩=some (.int .i64 n):=(Yc HK.out 0).trans rfl;go_wp2_with fail;refine(of_calls B cB x n h w1 (Yt HX.out HB1.out) (by omega) (by omega)).mono ?_;rintro e w2 ⟨hpost,hb2⟩;clear d0;have HB2:=Ya (below_then HB1.out HB1.out.size hb2);have HK2:Aside0 (w2.heap[w.heap.size]? =some (.cells #[.int .i64 n, .bool p, .slice A l.length c] 32 (0,0))):=⟨Yn HK.out hb2⟩;clear hb2 HK HB1;by_cases hall:x.all (slotOkB n h)=true
  ·unfold OfPost at hpost
   rw[Yx hall] at hpost;obtain⟨b,m,hbm,rfl,hset⟩:=hpost;have HS2:=Ya hset;have HALL:=Ya hall;clear hset hall hbm;obtain⟨S,hS⟩: ∃ S,hasL x=S:=⟨_,rfl⟩;rw[hS] at HS2;have HSX:=Ya hS;clear hS;have HWS:Aside0 ((Lit.int .i64 s).wf=true):=⟨wf_i64 (by omega) (by omega)⟩;have HWT:Aside0 ((Lit.int .i64 t).wf=true):=⟨wf_i64 (by omega) (by omega)⟩;go_wp2_with fail;go_loopw [36,14] (fun i _ wr=> ∃ k:Nat,k≤h.toNat+1∧i= .int .i64 k∧Aside0 (endsN S s t k=true)∧Aside0 (SetAt wr b m S)∧Aside0 (wr.heap[w.heap.size]? =some (.cells #[.int .i64 n, .bool p, .slice A l.length c] 32 (0,0)))∧Aside0 (Below w.heap.size w wr)) (fun i _ _=>h.toNat+1 - (intOf i).toNat)
   case atStart=>exact⟨0,Nat.zero_le _,rfl,⟨rfl⟩,HS2,HK2,HB2⟩
   case round=>
    obtain⟨k,hk,rfl,HE,HS3,HK3,HB3⟩:=hrel;have HRES: ∀ r:Int × Int,tcRes n p l s t h x=r→Aside0 (tcRes n p l s t h x=r):=fun _ h=>⟨h⟩
    by_cases hlt:(k:Int)<h+1
    ·have HBAD:Aside0 ((S s k && !S t k)=false→tcRes n p l s t h x=(0,181)):=⟨fun hb=>by
      unfold tcRes;rw[Yx HZ.out,Yx HALL.out,HSX.out,Yy (by rw[ends_bad hb (h.toNat+1) (by omega)];decide)]⟩
     go_wp2_with fail;refine(has_calls s (k:Int) HWS.out (wf_i64 (by omega) (by omega)) _ HS3.out).mono ?_;rintro e w4 ⟨rfl,hb4⟩;have HS4:=Ya (HS3.out.below hb4);have HK4:Aside0 (w4.heap[w.heap.size]? =some (.cells #[.int .i64 n, .bool p, .slice A l.length c] 32 (0,0))):=⟨Yn HK3.out hb4⟩;have HB4:=Ya (below_then HB3.out HB3.out.size hb4);clear hb4 HS3 HK3 HB3;cases hx1:S s k with
     |false=>
      have HX1:=Ya hx1;clear hx1;go_wp2_with fail;go_ret2;exact⟨by rw[HBAD.out (by rw[HX1.out];rfl)];rfl,HB4.out⟩
     |true=>
      have HX1:=Ya hx1;clear hx1;go_wp2_with fail;refine(has_calls t (k:Int) HWT.out (wf_i64 (by omega) (by omega)) _ HS4.out).mono ?_;rintro e w5 ⟨rfl,hb5⟩;have HS5:=Ya (HS4.out.below hb5);have HK5:Aside0 (w5.heap[w.heap.size]? =some (.cells #[.int .i64 n, .bool p, .slice A l.length c] 32 (0,0))):=⟨Yn HK4.out hb5⟩;have HB5:=Ya (below_then HB4.out HB4.out.size hb5);clear hb5 HS4 HK4 HB4;cases hx2:S t k with
      |true=>
       have HX2:=Ya hx2;clear hx2;go_wp2_with fail;go_ret2;exact⟨by rw[HBAD.out (by rw[HX1.out,HX2.out];rfl)];rfl,HB5.out⟩
      |false=>
       have HX2:=Ya hx2;clear hx2;go_wp2_with fail;go_roundw
       case rel=>exact⟨k+1,by omega,by go_num,⟨by unfold endsN;rw[HE.out,HX1.out,HX2.out];rfl⟩,HS5,HK5,HB5⟩
       case measure=>simp[intOf];omega
    ·have HEN:Aside0 (endsN S s t (h.toNat+1)=true):=⟨by rw[show h.toNat+1=k by omega];exact HE.out⟩
     have d0:wr.cell? ⟨w.heap.size,0,none⟩=some (.int .i64 n):=(Yc HK3.out 0).trans rfl;clear HE;go_wp2_with fail;clear d0;go_loopw [53,15] (fun i _ wr=> ∃ v:Nat,v≤n.toNat∧i= .int .i64 v∧Aside0 (p=true→risesAll S h.toNat v=true)∧Aside0 (SetAt wr b m S)∧Aside0 (wr.heap[w.heap.size]? =some (.cells #[.int .i64 n, .bool p, .slice A l.length c] 32 (0,0)))∧Aside0 (Below w.heap.size w wr)) (fun i _ _=>n.toNat - (intOf i).toNat)
     case atStart=>exact⟨0,Nat.zero_le _,rfl,⟨fun _=>rfl⟩,HS3,HK3,HB3⟩
     case round=>
      clear HS3 HK3 HB3;obtain⟨v,hv,rfl,HE,HS3,HK3,HB3⟩:=hrel;have d1:wr.cell? ⟨w.heap.size,1,none⟩=some (.bool p):=(Yc HK3.out 1).trans rfl;by_cases hvlt:(v:Int)<n
      ·cases p with
       |false=>
        go_wp2_with fail;go_roundw
        case rel=>exact⟨v+1,by omega,by go_num,⟨fun hp=>by cases hp⟩,HS3,HK3,HB3⟩
        case measure=>simp[intOf];omega
       |true=>
        have hhn:h=((h.toNat:Nat):Int):=by omega
        have HHN:=Ya hhn;clear hhn;go_wp2_with fail;rw[HHN.out];refine(rises_calls (v:Int) h.toNat (wf_i64 (by omega) (by omega)) (by omega) _ HS3.out).mono ?_;rintro e w4 ⟨rfl,hb4⟩;rw[← HHN.out];have HS4:=Ya (HS3.out.below hb4);have HK4:Aside0 (w4.heap[w.heap.size]? =some (.cells #[.int .i64 n, .bool true, .slice A l.length c] 32 (0,0))):=⟨Yn HK3.out hb4⟩;have HB4:=Ya (below_then HB3.out HB3.out.size hb4);clear hb4 HS3 HK3 HB3 d1;cases hx1:risesN S v h.toNat with
        |true=>
         have HX1:=Ya hx1;clear hx1;go_wp2_with fail;go_roundw
         case rel=>exact⟨v+1,by omega,by go_num,⟨fun _=>by unfold risesAll;rw[HE.out (by trivial),HX1.out];rfl⟩,HS4,HK4,HB4⟩
         case measure=>simp[intOf];omega
        |false=>
         have HX1:=Ya hx1;clear hx1;have HFIN:Aside0 (tcRes n true l s t h x=(0,181)):=⟨by
          unfold tcRes;rw[Yx HZ.out,Yx HALL.out,HSX.out,Yx HEN.out,Yx ⟨rfl,by rw[rises_bad HX1.out n.toNat (by omega)];decide⟩]⟩
         go_wp2_with fail;go_ret2;exact⟨by rw[HFIN.out];rfl,HB4.out⟩
      ·have HFIN:Aside0 (tcRes n p l s t h x=(takesL S h l,0)):=⟨by
        unfold tcRes;rw[Yx HZ.out,Yx HALL.out,HSX.out,Yx HEN.out,Yy (fun⟨a,b⟩=>b (by rw[show n.toNat=v by omega];exact HE.out a))]⟩
       have d0:wr.cell? ⟨w.heap.size,0,none⟩=some (.int .i64 n):=(Yc HK3.out 0).trans rfl;have d2:wr.cell? ⟨w.heap.size,2,none⟩=some (.slice A l.length c):=(Yc HK3.out 2).trans rfl;go_wp2_with fail;refine(takes_calls n p A c l h _ (Yt HR.out HB3.out) HN.out.len (fun a ha=>arc_sm (HN.out.arcs a ha) HN.out.hi) h0 (by omega) HS3.out).mono ?_;rintro e w4 ⟨rfl,hb4⟩;have HB4:=Ya (below_then HB3.out HB3.out.size hb4);clear hb4;go_wp2_with fail;go_ret2;exact⟨by rw[HFIN.out];rfl,HB4.out⟩
  ·unfold OfPost at hpost
   rw[Yy hall] at hpost;subst hpost;have HFIN:Aside0 (tcRes n p l s t h x=(0,180)):=⟨by unfold tcRes;rw[Yx HZ.out,Yy hall]⟩;clear hall;go_wp2_with fail;go_ret2;exact⟨by rw[HFIN.out];rfl,HB2.out⟩
 ·have HFIN:Aside0 (tcRes n p l s t h x=(0,err)):=⟨by unfold tcRes;rw[Yy (by rw[herr];exact hz),herr]⟩
  have e1:(err != 0)=true:=bne_iff_ne.mpr hz;have e2:(err == 0)=false:=beq_eq_false_iff_ne.mpr hz;clear hz herr;go_enter Try.func10,Try.ntmps10;go_wp2_with fail;refine(span_Asked.calls ka n p _ _ l s t h err _ (Yt HR.out HB0.out) HC.out HKA.out).mono ?_;rintro e w1 ⟨rfl,hb1⟩;have HB1:=Ya (below_then HB0.out HB0.out.size hb1);clear hb1 HB0 HKA;go_wp2_with fail;go_ret2;exact⟨by rw[HFIN.out];rfl,HB1.out⟩
end H
namespace H
open Go.Maps P Q
theorem timecut_Check_calls (n:Int) (p:Bool) (A:Option Addr) (c:Nat) (l:List S73) (s t h:Int) (B:Option Addr) (cB:Nat) (x:List S53) (r1 r2:Int) (w:World) (hr:Kd.C k73 w A l.length l) (hc:l.length≤c) (hx:Kd.C k53 w B x.length x) (hcx:x.length≤cB)
  (hf:some (tcRes n p l s t h x)=some (r1,r2)):
  Calls Try.prog 10 #[.agg #[.int .i64 n, .bool p, .slice A l.length c], .int .i64 s, .int .i64 t, .int .i64 h, .slice B x.length cB] w fun e w'=>e= .returned (.tuple #[.int .i64 r1, .int .i64 r2])∧Below w.heap.size w w':=by
 have e:=Option.some.inj hf;have e1:r1=(tcRes n p l s t h x).1:=by rw[e]
 have e2:r2=(tcRes n p l s t h x).2:=by rw[e]
 rw[e1,e2];exact check_walk n p A c l s t h B cB x w hr hc hx hcx
end H
namespace P
attribute [local go_sem] max2_int min2_int max_two min_two max_three min_three max_four min_four
def timecut_Check.f (Zb:Int) (Zc:Bool) (Za:List (S73)) (a1:Int) (a2:Int) (a3:Int) (l4:List (S53)):Option (Int × Int):=some (Q.tcRes Zb Zc Za a1 a2 a3 l4)
theorem timecut_Check.calls (Zb:Int) (Zc:Bool) (Zg:Option Addr) (Zd:Nat) (Za:List (S73)) (a1:Int) (a2:Int) (a3:Int) (A4:Option Addr) (c4:Nat) (l4:List (S53)) (r1:Int) (r2:Int) (w:World) (Wg:Kd.C k73 w Zg Za.length Za) (Wh:Za.length≤Zd) (hr4:Kd.C k53 w A4 l4.length l4) (hc4:l4.length≤c4) (h:timecut_Check.f Zb Zc Za a1 a2 a3 l4=some (r1,r2)):
  Calls Try.prog 10 #[.agg #[.int .i64 Zb, .bool Zc, .slice Zg Za.length Zd], .int .i64 a1, .int .i64 a2, .int .i64 a3, .slice A4 l4.length c4] w fun e w'=>e= .returned (.tuple #[.int .i64 r1, .int .i64 r2])∧Below w.heap.size w w':=H.timecut_Check_calls Zb Zc Zg Zd Za a1 a2 a3 A4 c4 l4 r1 r2 w Wg Wh hr4 hc4 h
end P
namespace P
attribute [local go_sem] max2_int min2_int max_two min_two max_three min_three max_four min_four
def ebbtidelaw14_Line.f (a0:Bool):Option (Int × Bool × (List (S73))):=some (3,a0,(([(⟨0,1,2,1⟩:S73),(⟨1,2,2,1⟩:S73)]:List (S73))))
set_option maxHeartbeats 8000000 in
set_option maxRecDepth 100000 in
theorem ebbtidelaw14_Line.calls (a0:Bool) (r1:Int) (r2:Bool) (r3:List (S73)) (w:World) (h:ebbtidelaw14_Line.f a0=some (r1,r2,r3)):
  Calls Try.prog 17 #[.bool a0] w fun e w'=> ∃ v2_:Value,e= .returned (.agg #[.int .i64 r1, .bool r2,v2_])∧Kd.R k73 73 w' w.heap.size (fun _=>True) v2_ r3∧Below w.heap.size w w':=by
 have hu32:=Try.underlying32;have hu73:=Try.underlying73;have HB:=Ya (Yo w.heap.size w);have H:(some (3,a0,(([(⟨0,1,2,1⟩:S73),(⟨1,2,2,1⟩:S73)]:List (S73)))))=some (r1,r2,r3):=h;clear h;obtain⟨y114,hy114⟩: ∃ y_:List (S73),y_=(([(⟨0,1,2,1⟩:S73),(⟨1,2,2,1⟩:S73)]:List (S73))):=⟨_,rfl⟩;replace H:(some (3,a0,y114))=some (r1,r2,r3):=by first|(rw[hy114];with_reducible exact H)|(have H2_:=(Option.bind_some _ _).symm.trans H;rw[hy114];with_reducible exact H2_)|(have H2_:=(Option.bind_some _ _).symm.trans H;with_reducible exact H2_)|with_reducible exact H|(rw[hy114];exact H)|exact H
 have Ny114:=Ya hy114;clear hy114;simp only[Option.some.injEq,Prod.mk.injEq] at H;obtain⟨rfl,rfl,rfl⟩:=H;go_enter Try.func17,Try.ntmps17;go_wp2_with (first|((with_reducible refine gate_dst (N:=2) rfl ?_);refine Yz ?hg (N:=2) ?hd (cs:= #[.int .i64 0, .bool false, .slice none 0 0]) (t:=32) ?hr ?_;(case hd=>rfl);(case hg=>rfl);(case hr=>first|(go_simp;done)|(go_simp;rfl));intro gb113 hg w2 Zi hb;have n0_:=Ya (Yk (by repeat(first|(with_reducible first|exact HB.out|apply Ye|apply Yd|apply Yg)|exact HB.out)) hb);have n1_:=Ya (Zi);have n2_:=Ya ((by rw[hg];exact(Yi (by repeat(first|(with_reducible first|exact HB.out|apply Ye|apply Yd|apply Yg)|exact HB.out))):w.heap.size≤gb113));have n3_:=Ya ((by rw[hg];exact(Yi (by repeat(first|(with_reducible first|exact HB.out|apply Ye|apply Yd|apply Yg)|exact HB.out))):w.heap.size≤gb113));clear HB;have HB:=n0_;have BK113:=n1_;have GW113:=n2_;have GE113:=n3_;clear n0_ n1_ n2_ n3_;clear hb Zi hg)|((with_reducible refine gate_dst (N:=6) rfl ?_);refine Kd.R_lit k73 _ 73 ?hg (N:=6) ?hd (xs:=([(⟨0,1,2,1⟩:S73),(⟨1,2,2,1⟩:S73)]:List (S73))) (inner:=[.int .i64 0, .int .i64 1, .int .i64 2, .int .i64 1, .int .i64 1, .int .i64 2, .int .i64 2, .int .i64 1]) (ok:=fun _=>True) (okp:=fun _=>True) ?hr ?hp (fun _ hk=>hk) trivial (Yo _ _) (Nat.le_refl _) (by simp) ?_;(case hd=>rfl);(case hg=>rfl);(case hr=>first|(go_simp;done)|(go_simp;rfl));(case hp=>exact(Reps.c4 (show Kd.M k73 _ _ _ (⟨0,1,2,1⟩:S73) [.int .i64 0, .int .i64 1, .int .i64 2, .int .i64 1] from(k73_mkM _ _ _ (⟨0,1,2,1⟩:S73) )) (Reps.c4 (show Kd.M k73 _ _ _ (⟨1,2,2,1⟩:S73) [.int .i64 1, .int .i64 2, .int .i64 2, .int .i64 1] from(k73_mkM _ _ _ (⟨1,2,2,1⟩:S73) )) (Reps.none _ _))));intro v115 w3 ho4 hb hg_ hnew_;clear hg_ hnew_;(first|rw[← Ny114.out] at ho4|(simp only[Int.reduceToNat] at ho4;rw[← Ny114.out] at ho4));have n0_:=Ya (Kd.R_lower ho4 (Yi (by repeat(first|(with_reducible first|exact HB.out|apply Ye|apply Yd|apply Yg|refine Yh ?_ GE113.out)|exact HB.out))));have n1_:=Ya (Yn (g:=gb113) (o:= .cells #[.int .i64 0, .bool false, .slice none 0 0] 32 (0,0)) (by(with_reducible repeat(first|refine Yl ?_ _|refine Ym ?_|refine Yj ?_ _));exact BK113.out) hb);have n2_:=Ya (Yk (by repeat(first|(with_reducible first|exact HB.out|apply Ye|apply Yd|apply Yg|refine Yh ?_ GE113.out)|exact HB.out)) hb);clear BK113;clear HB;have HO116:=n0_;have BK113:=n1_;have HB:=n2_;clear n0_ n1_ n2_;clear hb ho4;obtain⟨Ao5,co5,eo5⟩:=Kd.R_slice HO116.out;subst eo5;have hcz6_0:w3.cell? ⟨gb113,0,none⟩=some (.int .i64 0):=(Yc BK113.out 0).trans rfl;have hcz6_1:w3.cell? ⟨gb113,1,none⟩=some (.bool false):=(Yc BK113.out 1).trans rfl;have hcz6_2:w3.cell? ⟨gb113,2,none⟩=some (.slice none 0 0):=(Yc BK113.out 2).trans rfl;have hfz6_0:=Yf BK113.out 0;have hfz6_1:=Yf BK113.out 1;have hfz6_2:=Yf BK113.out 2));refine bodyPost_ret (results_cell_row rfl _ _ gb113 32 #[.int .i64 3, .bool a0, .slice Ao5 y114.length co5] (0,0) _ rfl (by(with_reducible repeat(first|refine Yl ?_ _|refine Ym ?_|refine Yj ?_ _));refine YA (cs:= #[.int .i64 3, .bool a0, .slice none 0 0]) ?_ 2 _ rfl;(with_reducible repeat(first|refine Yl ?_ _|refine Ym ?_|refine Yj ?_ _));refine YA (cs:= #[.int .i64 3, .bool false, .slice none 0 0]) ?_ 1 _ rfl;(with_reducible repeat(first|refine Yl ?_ _|refine Ym ?_|refine Yj ?_ _));refine YA (cs:= #[.int .i64 0, .bool false, .slice none 0 0]) ?_ 0 _ rfl;(with_reducible repeat(first|refine Yl ?_ _|refine Ym ?_|refine Yj ?_ _));exact BK113.out) Try.underlying32 rfl (by kernel_rfl)) rfl ?_;exact⟨_,by first|rfl|(simp[errW_none,errW_some]<;>rfl)|(simp[*,errW_none,errW_some]<;>rfl),by(with_reducible repeat(first|apply Yr|apply Yq|apply Yp));exact Kd.R_mono (Kd.R_far (p:=⟨gb113,2,none⟩) (Kd.R_far (p:=⟨gb113,1,none⟩) (Kd.R_far (p:=⟨gb113,0,none⟩) (Kd.R_types HO116.out BK113.out (by decide)) (fun _ hk=>hk.2) (.int .i64 3)) (fun _ hk=>hk.2) (.bool a0)) (fun _ hk=>hk.2) (.slice Ao5 y114.length co5)) (fun _ hk=>trivial),by repeat(first|(with_reducible first|exact HB.out|apply Ye|apply Yd|apply Yg|refine Yh ?_ GE113.out)|exact HB.out)⟩
end P
namespace P
attribute [local go_sem] max2_int min2_int max_two min_two max_three min_three max_four min_four
mutual
def timecut_From.l0:Nat→List Int→List (S53)→Int→Int→Option ((List (S53)) × Int)
 |0,_,_,_,_=>none
 |k+1,x2,x10,x31,x32=>if x32<x31 then(timecut_From.l1 k x2 x10 x32 x31 x32 x2 (x2.length:Int) 0) else(some (x10,0))
def timecut_From.l1:Nat→List Int→List (S53)→Int→Int→Int→List Int→Int→Int→Option ((List (S53)) × Int)
 |0,_,_,_,_,_,_,_,_=>none
 |k+1,x2,x10,x11,x31,x32,x35,x36,x37=>if x37<x36 then(if 0≤x37 then(if x37<(x35.length:Int) then(if (rd x35 x37)≤x11 then(if x10.length<8796093022208 then(timecut_From.l1 k x2 (x10 ++ [(⟨x37,x11⟩:S53)]) x11 x31 x32 x35 x36 (wrap64 (x37+1))) else(none)) else(timecut_From.l1 k x2 x10 x11 x31 x32 x35 x36 (wrap64 (x37+1)))) else(none)) else(none)) else(timecut_From.l0 k x2 x10 x31 (wrap64 (x32+1)))
end
def timecut_From.f (k:Nat) (Zb:Int) (Zc:Bool) (Za:List (S73)) (a1:Int) (l2:List Int):Option ((List (S53)) × Int):=(netfmt_Check.f k Zb Zc Za).bind fun t118=>(if t118=0 then((span_Horizon.f a1).bind fun t119=>(if t119=0 then(if (l2.length:Int)=Zb then(timecut_From.l0 k l2 (([]:List (S53))) (wrap64 (a1+1)) 0) else(some (([]:List (S53)),1))) else(some (([]:List (S53)),t119)))) else(some (([]:List (S53)),t118)))
theorem timecut_From.mono_l: ∀ k,(∀ y0 y1 y2 y3,LeO (timecut_From.l0 k y0 y1 y2 y3) (timecut_From.l0 (k+1) y0 y1 y2 y3))∧(∀ y0 y1 y2 y3 y4 y5 y6 y7,LeO (timecut_From.l1 k y0 y1 y2 y3 y4 y5 y6 y7) (timecut_From.l1 (k+1) y0 y1 y2 y3 y4 y5 y6 y7))
 |0=>⟨fun _ _ _ _ r h=>by simp[timecut_From.l0] at h,fun _ _ _ _ _ _ _ _ r h=>by simp[timecut_From.l1] at h⟩
 |k+1=>by
  obtain⟨ih0,ih1⟩:=timecut_From.mono_l k;refine⟨?_,?_⟩
  ·intro y0 y1 y2 y3
   unfold timecut_From.l0;repeat' first
   |(with_reducible exact ih0 _ _ _ _)
   |(with_reducible exact ih1 _ _ _ _ _ _ _ _)
   |(with_reducible exact netfmt_Check.mono _ _ _ _)
   |(with_reducible exact LeO.refl _)
   |(with_reducible exact LeO.none _)
   |(with_reducible refine LeO.ite ?_ ?_)
   |(with_reducible refine LeO.bind ?_ (fun _=> ?_))
   |exact ih0 _ _ _ _
   |exact ih1 _ _ _ _ _ _ _ _
   |exact netfmt_Check.mono _ _ _ _
   |exact LeO.none _
   |refine LeO.ite ?_ ?_
   |refine LeO.bind ?_ (fun _=> ?_)
  ·intro y0 y1 y2 y3 y4 y5 y6 y7
   unfold timecut_From.l1;repeat' first
   |(with_reducible exact ih0 _ _ _ _)
   |(with_reducible exact ih1 _ _ _ _ _ _ _ _)
   |(with_reducible exact netfmt_Check.mono _ _ _ _)
   |(with_reducible exact LeO.refl _)
   |(with_reducible exact LeO.none _)
   |(with_reducible refine LeO.ite ?_ ?_)
   |(with_reducible refine LeO.bind ?_ (fun _=> ?_))
   |exact ih0 _ _ _ _
   |exact ih1 _ _ _ _ _ _ _ _
   |exact netfmt_Check.mono _ _ _ _
   |exact LeO.none _
   |refine LeO.ite ?_ ?_
   |refine LeO.bind ?_ (fun _=> ?_)
theorem timecut_From.mono: ∀ a0 a1 a2 a3 a4 k,LeO (timecut_From.f k a0 a1 a2 a3 a4) (timecut_From.f (k+1) a0 a1 a2 a3 a4):=by
 intro a0 a1 a2 a3 a4 k;obtain⟨ih0,ih1⟩:=timecut_From.mono_l k;unfold timecut_From.f;repeat' first
   |(with_reducible exact ih0 _ _ _ _)
   |(with_reducible exact ih1 _ _ _ _ _ _ _ _)
   |(with_reducible exact netfmt_Check.mono _ _ _ _)
   |(with_reducible exact LeO.refl _)
   |(with_reducible exact LeO.none _)
   |(with_reducible refine LeO.ite ?_ ?_)
   |(with_reducible refine LeO.bind ?_ (fun _=> ?_))
   |exact ih0 _ _ _ _
   |exact ih1 _ _ _ _ _ _ _ _
   |exact netfmt_Check.mono _ _ _ _
   |exact LeO.none _
   |refine LeO.ite ?_ ?_
   |refine LeO.bind ?_ (fun _=> ?_)
set_option maxHeartbeats 8000000 in
set_option maxRecDepth 100000 in
theorem timecut_From.calls (k:Nat) (Zb:Int) (Zc:Bool) (Zg:Option Addr) (Zd:Nat) (Za:List (S73)) (a1:Int) (A2:Option Addr) (c2:Nat) (l2:List Int) (r1:List (S53)) (r2:Int) (w:World) (Wg:Kd.C k73 w Zg Za.length Za) (Wh:Za.length≤Zd) (hr2:Kd.C (Kd.int .i64) w A2 l2.length l2) (hc2:l2.length≤c2) (h:timecut_From.f k Zb Zc Za a1 l2=some (r1,r2)):
  Calls Try.prog 18 #[.agg #[.int .i64 Zb, .bool Zc, .slice Zg Za.length Zd], .int .i64 a1, .slice A2 l2.length c2] w fun e w'=> ∃ v0_:Value,e= .returned (.tuple #[v0_, .int .i64 r2])∧Kd.R k53 53 w' w.heap.size (fun _=>True) v0_ r1∧Below w.heap.size w w':=by
 have hu32:=Try.underlying32;have hu53:=Try.underlying53;have Xl:=Ya Wg;have Wd:=Ya Wh;clear Wg Wh;have HR2:=Ya hr2;have HC2:=Ya hc2;clear hr2 hc2;have HB:=Ya (Yo w.heap.size w);have H:((netfmt_Check.f k Zb Zc Za).bind fun t118=>(if t118=0 then((span_Horizon.f a1).bind fun t119=>(if t119=0 then(if (l2.length:Int)=Zb then(timecut_From.l0 k l2 (([]:List (S53))) (wrap64 (a1+1)) 0) else(some (([]:List (S53)),1))) else(some (([]:List (S53)),t119)))) else(some (([]:List (S53)),t118))))=some (r1,r2):=h;clear h;replace H:=Option.bind_eq_some_iff.mp H;obtain⟨t118,A40,H⟩:=H;replace H:(if t118=0 then((span_Horizon.f a1).bind fun t119=>(if t119=0 then(if (l2.length:Int)=Zb then(timecut_From.l0 k l2 (([]:List (S53))) (wrap64 (a1+1)) 0) else(some (([]:List (S53)),1))) else(some (([]:List (S53)),t119)))) else(some (([]:List (S53)),t118)))=some (r1,r2):=H;have A4:=Ya A40;clear A40;by_cases c5:t118=0
 rotate_left
 ·rw[Yy c5] at H
  have c5b0:(t118 == 0)=false:=beq_eq_false_iff_ne.mpr c5;have c5b1:(t118 != 0)=true:=bne_iff_ne.mpr c5;simp only[Option.some.injEq,Prod.mk.injEq] at H;obtain⟨rfl,rfl⟩:=H;go_enter Try.func18,Try.ntmps18;go_wp2_with (first|((with_reducible refine gate_dst (N:=3) rfl ?_);refine Yz ?hg (N:=3) ?hd (cs:= #[.int .i64 Zb, .bool Zc, .slice Zg Za.length Zd]) (t:=32) ?hr ?_;(case hd=>rfl);(case hg=>rfl);(case hr=>first|(go_simp;done)|(go_simp;rfl));intro Vh hg w29 Zi hb;have n0_:=Ya (Yk (by repeat(first|(with_reducible first|exact HB.out|apply Ye|apply Yd|apply Yg)|exact HB.out)) hb);have n1_:=Ya (Zi);have n2_:=Ya ((by rw[hg];exact(Yi (by repeat(first|(with_reducible first|exact HB.out|apply Ye|apply Yd|apply Yg)|exact HB.out))):w.heap.size≤Vh));have n3_:=Ya ((by rw[hg];exact(Yi (by repeat(first|(with_reducible first|exact HB.out|apply Ye|apply Yd|apply Yg)|exact HB.out))):w.heap.size≤Vh));clear HB;have HB:=n0_;have Xm:=n1_;have GW117:=n2_;have Jv:=n3_;clear n0_ n1_ n2_ n3_;clear hb Zi hg;have hcz30_0:w29.cell? ⟨Vh,0,none⟩=some (.int .i64 Zb):=(Yc Xm.out 0).trans rfl;have hcz30_1:w29.cell? ⟨Vh,1,none⟩=some (.bool Zc):=(Yc Xm.out 1).trans rfl;have hcz30_2:w29.cell? ⟨Vh,2,none⟩=some (.slice Zg Za.length Zd):=(Yc Xm.out 2).trans rfl;have hfz30_0:=Yf Xm.out 0;have hfz30_1:=Yf Xm.out 1;have hfz30_2:=Yf Xm.out 2)|((with_reducible refine gate_callee (f:=33) rfl ?_);refine goesL_ (some 15) rfl rfl Try.func33 (by kernel_rfl) rfl #[.agg #[.int .i64 Zb, .bool Zc, .slice Zg Za.length Zd]] rfl (by(try simp only[List.map_toArray,List.map_cons,List.map_nil]);first|done|rfl|(simp only[List.length_drop,List.length_take];rfl)) ?_;(with_reducible refine(netfmt_Check.calls k Zb Zc _ _ Za t118 _ ?side1 ?side2 A4.out).mono ?_);(case side1=>repeat(first|exact(Yt Xl.out HB.out)|(with_reducible refine Kd.C_alloc ?_ _)|(with_reducible refine Kd.C_drewN ?_ _)|(with_reducible refine Kd.C_drew ?_)));(case side2=>exact Wd.out);rintro e w31 ⟨rfl,hb⟩;refine⟨_,rfl,?_⟩;have n0_:=Ya (Yn (g:=Vh) (o:= .cells #[.int .i64 Zb, .bool Zc, .slice Zg Za.length Zd] 32 (0,0)) (by(with_reducible repeat(first|refine Yl ?_ _|refine Ym ?_|refine Yj ?_ _));exact Xm.out) hb);have n1_:=Ya (Yk (by repeat(first|(with_reducible first|exact HB.out|apply Ye|apply Yd|apply Yg|refine Yh ?_ Jv.out)|exact HB.out)) hb);clear Xm;clear HB;have Xm:=n0_;have HB:=n1_;clear n0_ n1_;(try clear hb);(try clear hb2);(try clear hk);(try clear hi)));go_ret2;exact⟨_,by first|rfl|(simp[errW_none,errW_some]<;>rfl)|(simp[*,errW_none,errW_some]<;>rfl),by first|exact Kd.R_nil _ _ _ _ _|exact Kd.N_nil _ _ _ _ _|exact Kd.V_nil _ _ _ _ _|exact Kd.Q_nil _ _ _ _ _|exact Kd.S_nil _ _ _ _ _,by repeat(first|(with_reducible first|exact HB.out|apply Ye|apply Yd|apply Yg|refine Yh ?_ Jv.out)|exact HB.out)⟩
 rw[Yx c5] at H;have c5b0:(t118 == 0)=true:=beq_iff_eq.mpr c5;have c5b1:(t118 != 0)=false:=bne_eq_false_iff_eq.mpr c5;clear c5;replace H:=Option.bind_eq_some_iff.mp H;obtain⟨t119,A60,H⟩:=H;replace H:(if t119=0 then(if (l2.length:Int)=Zb then(timecut_From.l0 k l2 (([]:List (S53))) (wrap64 (a1+1)) 0) else(some (([]:List (S53)),1))) else(some (([]:List (S53)),t119)))=some (r1,r2):=H;have A6:=Ya A60;clear A60;by_cases c7:t119=0
 rotate_left
 ·rw[Yy c7] at H
  have c7b0:(t119 == 0)=false:=beq_eq_false_iff_ne.mpr c7;have c7b1:(t119 != 0)=true:=bne_iff_ne.mpr c7;simp only[Option.some.injEq,Prod.mk.injEq] at H;obtain⟨rfl,rfl⟩:=H;go_enter Try.func18,Try.ntmps18;go_wp2_with (first|((with_reducible refine gate_dst (N:=3) rfl ?_);refine Yz ?hg (N:=3) ?hd (cs:= #[.int .i64 Zb, .bool Zc, .slice Zg Za.length Zd]) (t:=32) ?hr ?_;(case hd=>rfl);(case hg=>rfl);(case hr=>first|(go_simp;done)|(go_simp;rfl));intro Vh hg w26 Zi hb;have n0_:=Ya (Yk (by repeat(first|(with_reducible first|exact HB.out|apply Ye|apply Yd|apply Yg)|exact HB.out)) hb);have n1_:=Ya (Zi);have n2_:=Ya ((by rw[hg];exact(Yi (by repeat(first|(with_reducible first|exact HB.out|apply Ye|apply Yd|apply Yg)|exact HB.out))):w.heap.size≤Vh));have n3_:=Ya ((by rw[hg];exact(Yi (by repeat(first|(with_reducible first|exact HB.out|apply Ye|apply Yd|apply Yg)|exact HB.out))):w.heap.size≤Vh));clear HB;have HB:=n0_;have Xm:=n1_;have GW117:=n2_;have Jv:=n3_;clear n0_ n1_ n2_ n3_;clear hb Zi hg;have hcz27_0:w26.cell? ⟨Vh,0,none⟩=some (.int .i64 Zb):=(Yc Xm.out 0).trans rfl;have hcz27_1:w26.cell? ⟨Vh,1,none⟩=some (.bool Zc):=(Yc Xm.out 1).trans rfl;have hcz27_2:w26.cell? ⟨Vh,2,none⟩=some (.slice Zg Za.length Zd):=(Yc Xm.out 2).trans rfl;have hfz27_0:=Yf Xm.out 0;have hfz27_1:=Yf Xm.out 1;have hfz27_2:=Yf Xm.out 2)|((with_reducible refine gate_callee (f:=33) rfl ?_);refine goesL_ (some 15) rfl rfl Try.func33 (by kernel_rfl) rfl #[.agg #[.int .i64 Zb, .bool Zc, .slice Zg Za.length Zd]] rfl (by(try simp only[List.map_toArray,List.map_cons,List.map_nil]);first|done|rfl|(simp only[List.length_drop,List.length_take];rfl)) ?_;(with_reducible refine(netfmt_Check.calls k Zb Zc _ _ Za t118 _ ?side1 ?side2 A4.out).mono ?_);(case side1=>repeat(first|exact(Yt Xl.out HB.out)|(with_reducible refine Kd.C_alloc ?_ _)|(with_reducible refine Kd.C_drewN ?_ _)|(with_reducible refine Kd.C_drew ?_)));(case side2=>exact Wd.out);rintro e w28 ⟨rfl,hb⟩;refine⟨_,rfl,?_⟩;have n0_:=Ya (Yn (g:=Vh) (o:= .cells #[.int .i64 Zb, .bool Zc, .slice Zg Za.length Zd] 32 (0,0)) (by(with_reducible repeat(first|refine Yl ?_ _|refine Ym ?_|refine Yj ?_ _));exact Xm.out) hb);have n1_:=Ya (Yk (by repeat(first|(with_reducible first|exact HB.out|apply Ye|apply Yd|apply Yg|refine Yh ?_ Jv.out)|exact HB.out)) hb);clear Xm;clear HB;have Xm:=n0_;have HB:=n1_;clear n0_ n1_;(try clear hb);(try clear hb2);(try clear hk);(try clear hi))|((with_reducible refine gate_callee (f:=34) rfl ?_);refine goesL_ (some 20) rfl rfl Try.func34 (by kernel_rfl) rfl #[.int .i64 a1] rfl (by(try simp only[List.map_toArray,List.map_cons,List.map_nil]);first|done|rfl|(simp only[List.length_drop,List.length_take];rfl)) ?_;(with_reducible refine(span_Horizon.calls a1 t119 _ A6.out).mono ?_);rintro e w' ⟨rfl,⟨nd,rfl⟩⟩;refine⟨_,rfl,?_⟩));go_ret2;exact⟨_,by first|rfl|(simp[errW_none,errW_some]<;>rfl)|(simp[*,errW_none,errW_some]<;>rfl),by first|exact Kd.R_nil _ _ _ _ _|exact Kd.N_nil _ _ _ _ _|exact Kd.V_nil _ _ _ _ _|exact Kd.Q_nil _ _ _ _ _|exact Kd.S_nil _ _ _ _ _,by repeat(first|(with_reducible first|exact HB.out|apply Ye|apply Yd|apply Yg|refine Yh ?_ Jv.out)|exact HB.out)⟩
 rw[Yx c7] at H;have c7b0:(t119 == 0)=true:=beq_iff_eq.mpr c7;have c7b1:(t119 != 0)=false:=bne_eq_false_iff_eq.mpr c7;clear c7;by_cases c8:(l2.length:Int)=Zb
 rotate_left
 ·rw[Yy c8] at H
  have c8b0:((l2.length:Int) == Zb)=false:=beq_eq_false_iff_ne.mpr c8;have c8b1:((l2.length:Int) != Zb)=true:=bne_iff_ne.mpr c8;simp only[Option.some.injEq,Prod.mk.injEq] at H;obtain⟨rfl,rfl⟩:=H;go_enter Try.func18,Try.ntmps18;go_wp2_with (first|((with_reducible refine gate_dst (N:=3) rfl ?_);refine Yz ?hg (N:=3) ?hd (cs:= #[.int .i64 Zb, .bool Zc, .slice Zg Za.length Zd]) (t:=32) ?hr ?_;(case hd=>rfl);(case hg=>rfl);(case hr=>first|(go_simp;done)|(go_simp;rfl));intro Vh hg w22 Zi hb;have n0_:=Ya (Yk (by repeat(first|(with_reducible first|exact HB.out|apply Ye|apply Yd|apply Yg)|exact HB.out)) hb);have n1_:=Ya (Zi);have n2_:=Ya ((by rw[hg];exact(Yi (by repeat(first|(with_reducible first|exact HB.out|apply Ye|apply Yd|apply Yg)|exact HB.out))):w.heap.size≤Vh));have n3_:=Ya ((by rw[hg];exact(Yi (by repeat(first|(with_reducible first|exact HB.out|apply Ye|apply Yd|apply Yg)|exact HB.out))):w.heap.size≤Vh));clear HB;have HB:=n0_;have Xm:=n1_;have GW117:=n2_;have Jv:=n3_;clear n0_ n1_ n2_ n3_;clear hb Zi hg;have hcz23_0:w22.cell? ⟨Vh,0,none⟩=some (.int .i64 Zb):=(Yc Xm.out 0).trans rfl;have hcz23_1:w22.cell? ⟨Vh,1,none⟩=some (.bool Zc):=(Yc Xm.out 1).trans rfl;have hcz23_2:w22.cell? ⟨Vh,2,none⟩=some (.slice Zg Za.length Zd):=(Yc Xm.out 2).trans rfl;have hfz23_0:=Yf Xm.out 0;have hfz23_1:=Yf Xm.out 1;have hfz23_2:=Yf Xm.out 2)|((with_reducible refine gate_callee (f:=33) rfl ?_);refine goesL_ (some 15) rfl rfl Try.func33 (by kernel_rfl) rfl #[.agg #[.int .i64 Zb, .bool Zc, .slice Zg Za.length Zd]] rfl (by(try simp only[List.map_toArray,List.map_cons,List.map_nil]);first|done|rfl|(simp only[List.length_drop,List.length_take];rfl)) ?_;(with_reducible refine(netfmt_Check.calls k Zb Zc _ _ Za t118 _ ?side1 ?side2 A4.out).mono ?_);(case side1=>repeat(first|exact(Yt Xl.out HB.out)|(with_reducible refine Kd.C_alloc ?_ _)|(with_reducible refine Kd.C_drewN ?_ _)|(with_reducible refine Kd.C_drew ?_)));(case side2=>exact Wd.out);rintro e w24 ⟨rfl,hb⟩;refine⟨_,rfl,?_⟩;have n0_:=Ya (Yn (g:=Vh) (o:= .cells #[.int .i64 Zb, .bool Zc, .slice Zg Za.length Zd] 32 (0,0)) (by(with_reducible repeat(first|refine Yl ?_ _|refine Ym ?_|refine Yj ?_ _));exact Xm.out) hb);have n1_:=Ya (Yk (by repeat(first|(with_reducible first|exact HB.out|apply Ye|apply Yd|apply Yg|refine Yh ?_ Jv.out)|exact HB.out)) hb);clear Xm;clear HB;have Xm:=n0_;have HB:=n1_;clear n0_ n1_;(try clear hb);(try clear hb2);(try clear hk);(try clear hi))|((with_reducible refine gate_callee (f:=34) rfl ?_);refine goesL_ (some 20) rfl rfl Try.func34 (by kernel_rfl) rfl #[.int .i64 a1] rfl (by(try simp only[List.map_toArray,List.map_cons,List.map_nil]);first|done|rfl|(simp only[List.length_drop,List.length_take];rfl)) ?_;(with_reducible refine(span_Horizon.calls a1 t119 _ A6.out).mono ?_);rintro e w' ⟨rfl,⟨nd,rfl⟩⟩;refine⟨_,rfl,?_⟩;have hcz25_0:w24.cell? ⟨Vh,0,none⟩=some (.int .i64 Zb):=(Yc Xm.out 0).trans rfl;have hcz25_1:w24.cell? ⟨Vh,1,none⟩=some (.bool Zc):=(Yc Xm.out 1).trans rfl;have hcz25_2:w24.cell? ⟨Vh,2,none⟩=some (.slice Zg Za.length Zd):=(Yc Xm.out 2).trans rfl;have hfz25_0:=Yf Xm.out 0;have hfz25_1:=Yf Xm.out 1;have hfz25_2:=Yf Xm.out 2));go_ret2;exact⟨_,by first|rfl|(simp[errW_none,errW_some]<;>rfl)|(simp[*,errW_none,errW_some]<;>rfl),by first|exact Kd.R_nil _ _ _ _ _|exact Kd.N_nil _ _ _ _ _|exact Kd.V_nil _ _ _ _ _|exact Kd.Q_nil _ _ _ _ _|exact Kd.S_nil _ _ _ _ _,by repeat(first|(with_reducible first|exact HB.out|apply Ye|apply Yd|apply Yg|refine Yh ?_ Jv.out)|exact HB.out)⟩
 rw[Yx c8] at H;have c8b0:((l2.length:Int) == Zb)=true:=beq_iff_eq.mpr c8;have c8b1:((l2.length:Int) != Zb)=false:=bne_eq_false_iff_eq.mpr c8;clear c8;obtain⟨y120,hy120⟩: ∃ y_:List (S53),y_=(([]:List (S53))):=⟨_,rfl⟩;replace H:(timecut_From.l0 k l2 y120 (wrap64 (a1+1)) 0)=some (r1,r2):=by first|(rw[hy120];with_reducible exact H)|(have H2_:=(Option.bind_some _ _).symm.trans H;rw[hy120];with_reducible exact H2_)|(have H2_:=(Option.bind_some _ _).symm.trans H;with_reducible exact H2_)|with_reducible exact H|(rw[hy120];exact H)|exact H
 have Ny120:=Ya hy120;clear hy120;have H':=Ya H;clear H;go_enter Try.func18,Try.ntmps18;go_wp2_with (first|((with_reducible refine gate_dst (N:=3) rfl ?_);refine Yz ?hg (N:=3) ?hd (cs:= #[.int .i64 Zb, .bool Zc, .slice Zg Za.length Zd]) (t:=32) ?hr ?_;(case hd=>rfl);(case hg=>rfl);(case hr=>first|(go_simp;done)|(go_simp;rfl));intro Vh hg w9 Zi hb;have n0_:=Ya (Yk (by repeat(first|(with_reducible first|exact HB.out|apply Ye|apply Yd|apply Yg)|exact HB.out)) hb);have n1_:=Ya (Zi);have n2_:=Ya ((by rw[hg];exact(Yi (by repeat(first|(with_reducible first|exact HB.out|apply Ye|apply Yd|apply Yg)|exact HB.out))):w.heap.size≤Vh));have n3_:=Ya ((by rw[hg];exact(Yi (by repeat(first|(with_reducible first|exact HB.out|apply Ye|apply Yd|apply Yg)|exact HB.out))):w.heap.size≤Vh));clear HB;have HB:=n0_;have Xm:=n1_;have GW117:=n2_;have Jv:=n3_;clear n0_ n1_ n2_ n3_;clear hb Zi hg;have hcz10_0:w9.cell? ⟨Vh,0,none⟩=some (.int .i64 Zb):=(Yc Xm.out 0).trans rfl;have hcz10_1:w9.cell? ⟨Vh,1,none⟩=some (.bool Zc):=(Yc Xm.out 1).trans rfl;have hcz10_2:w9.cell? ⟨Vh,2,none⟩=some (.slice Zg Za.length Zd):=(Yc Xm.out 2).trans rfl;have hfz10_0:=Yf Xm.out 0;have hfz10_1:=Yf Xm.out 1;have hfz10_2:=Yf Xm.out 2)|((with_reducible refine gate_callee (f:=33) rfl ?_);refine goesL_ (some 15) rfl rfl Try.func33 (by kernel_rfl) rfl #[.agg #[.int .i64 Zb, .bool Zc, .slice Zg Za.length Zd]] rfl (by(try simp only[List.map_toArray,List.map_cons,List.map_nil]);first|done|rfl|(simp only[List.length_drop,List.length_take];rfl)) ?_;(with_reducible refine(netfmt_Check.calls k Zb Zc _ _ Za t118 _ ?side1 ?side2 A4.out).mono ?_);(case side1=>repeat(first|exact(Yt Xl.out HB.out)|(with_reducible refine Kd.C_alloc ?_ _)|(with_reducible refine Kd.C_drewN ?_ _)|(with_reducible refine Kd.C_drew ?_)));(case side2=>exact Wd.out);rintro e w11 ⟨rfl,hb⟩;refine⟨_,rfl,?_⟩;have n0_:=Ya (Yn (g:=Vh) (o:= .cells #[.int .i64 Zb, .bool Zc, .slice Zg Za.length Zd] 32 (0,0)) (by(with_reducible repeat(first|refine Yl ?_ _|refine Ym ?_|refine Yj ?_ _));exact Xm.out) hb);have n1_:=Ya (Yk (by repeat(first|(with_reducible first|exact HB.out|apply Ye|apply Yd|apply Yg|refine Yh ?_ Jv.out)|exact HB.out)) hb);clear Xm;clear HB;have Xm:=n0_;have HB:=n1_;clear n0_ n1_;(try clear hb);(try clear hb2);(try clear hk);(try clear hi))|((with_reducible refine gate_callee (f:=34) rfl ?_);refine goesL_ (some 20) rfl rfl Try.func34 (by kernel_rfl) rfl #[.int .i64 a1] rfl (by(try simp only[List.map_toArray,List.map_cons,List.map_nil]);first|done|rfl|(simp only[List.length_drop,List.length_take];rfl)) ?_;(with_reducible refine(span_Horizon.calls a1 t119 _ A6.out).mono ?_);rintro e w' ⟨rfl,⟨nd,rfl⟩⟩;refine⟨_,rfl,?_⟩;have hcz12_0:w11.cell? ⟨Vh,0,none⟩=some (.int .i64 Zb):=(Yc Xm.out 0).trans rfl;have hcz12_1:w11.cell? ⟨Vh,1,none⟩=some (.bool Zc):=(Yc Xm.out 1).trans rfl;have hcz12_2:w11.cell? ⟨Vh,2,none⟩=some (.slice Zg Za.length Zd):=(Yc Xm.out 2).trans rfl;have hfz12_0:=Yf Xm.out 0;have hfz12_1:=Yf Xm.out 1;have hfz12_2:=Yf Xm.out 2)|((with_reducible refine gate_dst (N:=29) rfl ?_);refine Kd.R_lit k53 _ 53 ?hg (N:=29) ?hd (xs:=([]:List (S53))) (inner:=[]) (ok:=fun _=>True) (okp:=fun _=>True) ?hr ?hp (fun _ hk=>hk) trivial (Yo _ _) (Nat.le_refl _) (by simp) ?_;(case hd=>rfl);(case hg=>rfl);(case hr=>first|(go_simp;done)|(go_simp;rfl));(case hp=>exact(Reps.none _ _));intro v121 w13 ho14 hb hg_ hnew_;clear hg_ hnew_;(first|rw[← Ny120.out] at ho14|(simp only[Int.reduceToNat] at ho14;rw[← Ny120.out] at ho14));have n0_:=Ya (Kd.R_lower ho14 (Yi (by repeat(first|(with_reducible first|exact HB.out|apply Ye|apply Yd|apply Yg|refine Yh ?_ Jv.out)|exact HB.out))));have n1_:=Ya (Yn (g:=Vh) (o:= .cells #[.int .i64 Zb, .bool Zc, .slice Zg Za.length Zd] 32 (0,0)) (by(with_reducible repeat(first|refine Yl ?_ _|refine Ym ?_|refine Yj ?_ _));exact Xm.out) hb);have n2_:=Ya (Yk (by repeat(first|(with_reducible first|exact HB.out|apply Ye|apply Yd|apply Yg|refine Yh ?_ Jv.out)|exact HB.out)) hb);clear Xm;clear HB;have HO122:=n0_;have Xm:=n1_;have HB:=n2_;clear n0_ n1_ n2_;clear hb ho14));go_loopg [10,32] k (fun kq v10 v32 w'=> ∃ (Ze:List (S53)) (x32_1:Int),v32= .int .i64 x32_1∧Aside0 (timecut_From.l0 kq l2 Ze (wrap64 (a1+1)) x32_1=some (r1,r2))∧Aside0 (kq≤k)∧Aside0 (Kd.R k53 53 w' w.heap.size (fun _=>True) v10 Ze)∧Aside0 (w'.heap[Vh]? =some (.cells #[.int .i64 Zb, .bool Zc,(.slice Zg Za.length Zd)] 32 (0,0)))∧Aside0 (Below w.heap.size w w'))
 case atStart=>exact⟨(y120),(0),(by first|rfl|(simp;done)|(simp[*];done)),H',⟨Nat.le_refl _⟩,⟨by(with_reducible repeat(first|apply Yr|apply Yq|apply Yp));exact HO122.out⟩,⟨by(with_reducible repeat(first|refine Yl ?_ _|refine Ym ?_|refine Yj ?_ _));exact Xm.out⟩,⟨by repeat(first|(with_reducible first|exact HB.out|apply Ye|apply Yd|apply Yg|refine Yh ?_ Jv.out)|exact HB.out)⟩⟩
 case round=>
  clear H';try clear c1
  try clear c2
  try clear p2
  try clear c3
  try clear c5
  try clear c5b0
  try clear c5b1
  try clear p6
  try clear c7
  try clear c7b0
  try clear c7b1
  try clear c8
  try clear c8b0
  try clear c8b1
  try clear hcz10_0
  try clear hcz10_1
  try clear hcz10_2
  try clear hcz12_0
  try clear hcz12_1
  try clear hcz12_2
  try clear hfz10_0
  try clear hfz10_1
  try clear hfz10_2
  try clear hfz12_0
  try clear hfz12_1
  try clear hfz12_2
  obtain⟨Ze,x32_1,rfl,HA,HK1,HO_10,Xm,HB⟩:=hrel;cases gk with
  |zero=>exact absurd HA.out (by simp[timecut_From.l0])
  |succ k1=>
   have H:=HA.out;clear HA;simp only[timecut_From.l0] at H;by_cases c15:x32_1<(wrap64 (a1+1))
   rotate_left
   ·rw[Yy c15] at H
    have c15b0:decide (x32_1<(wrap64 (a1+1)))=false:=Yw c15;clear c15;simp only[Option.some.injEq,Prod.mk.injEq] at H;obtain⟨rfl,rfl⟩:=H;go_wp2;go_ret2;exact⟨_,by first|rfl|(simp[errW_none,errW_some]<;>rfl)|(simp[*,errW_none,errW_some]<;>rfl),by(with_reducible repeat(first|apply Yr|apply Yq|apply Yp));exact HO_10.out,by repeat(first|(with_reducible first|exact HB.out|apply Ye|apply Yd|apply Yg|refine Yh ?_ Jv.out)|exact HB.out)⟩
   rw[Yx c15] at H;have c15b0:decide (x32_1<(wrap64 (a1+1)))=true:=Yv c15;clear c15;have H':=Ya H;clear H;go_wp2;go_loopg [10,37] k1 (fun kq v10 v37 w'=> ∃ (x10_2:List (S53)) (Un:Int),v37= .int .i64 Un∧Aside0 (timecut_From.l1 kq l2 x10_2 x32_1 (wrap64 (a1+1)) x32_1 l2 (l2.length:Int) Un=some (r1,r2))∧Aside0 (kq≤k1)∧Aside0 (Kd.R k53 53 w' w.heap.size (fun _=>True) v10 x10_2)∧Aside0 (w'.heap[Vh]? =some (.cells #[.int .i64 Zb, .bool Zc,(.slice Zg Za.length Zd)] 32 (0,0)))∧Aside0 (Below w.heap.size w w'))
   case atStart=>exact⟨(Ze),(0),(by first|rfl|(simp;done)|(simp[*];done)),H',⟨Nat.le_refl _⟩,⟨by(with_reducible repeat(first|apply Yr|apply Yq|apply Yp));exact HO_10.out⟩,⟨by(with_reducible repeat(first|refine Yl ?_ _|refine Ym ?_|refine Yj ?_ _));exact Xm.out⟩,⟨by repeat(first|(with_reducible first|exact HB.out|apply Ye|apply Yd|apply Yg|refine Yh ?_ Jv.out)|exact HB.out)⟩⟩
   case round=>
    clear H';try clear c1
    try clear c2
    try clear p2
    try clear c3
    try clear c5
    try clear c5b0
    try clear c5b1
    try clear p6
    try clear c7
    try clear c7b0
    try clear c7b1
    try clear c8
    try clear c8b0
    try clear c8b1
    try clear c15
    try clear c15b0
    try clear hcz10_0
    try clear hcz10_1
    try clear hcz10_2
    try clear hcz12_0
    try clear hcz12_1
    try clear hcz12_2
    try clear hfz10_0
    try clear hfz10_1
    try clear hfz10_2
    try clear hfz12_0
    try clear hfz12_1
    try clear hfz12_2
    try clear p2
    try clear p6
    obtain⟨x10_2,Un,rfl,HA,HK2,HO_10,Xm,HB⟩:=hrel;cases gk with
    |zero=>exact absurd HA.out (by simp[timecut_From.l1])
    |succ k2=>
     have H:=HA.out;clear HA;simp only[timecut_From.l1] at H;by_cases c16:Un<(l2.length:Int)
     rotate_left
     ·rw[Yy c16] at H
      have c16b0:decide (Un<(l2.length:Int))=false:=Yw c16;clear c16;have H':=Ya H;clear H;go_wp2;go_roundg k2
      case measure=>have:=HK1.out;have:=HK2.out;omega
      case rel=>exact⟨(x10_2),(wrap64 (x32_1+1)),(by first|rfl|(simp;done)|(simp[*];done)),H',⟨by have:=HK1.out;have:=HK2.out;omega⟩,⟨by(with_reducible repeat(first|apply Yr|apply Yq|apply Yp));exact HO_10.out⟩,⟨by(with_reducible repeat(first|refine Yl ?_ _|refine Ym ?_|refine Yj ?_ _));exact Xm.out⟩,⟨by repeat(first|(with_reducible first|exact HB.out|apply Ye|apply Yd|apply Yg|refine Yh ?_ Jv.out)|exact HB.out)⟩⟩
     rw[Yx c16] at H;have c16b0:decide (Un<(l2.length:Int))=true:=Yv c16;clear c16;by_cases c17:0≤Un
     rotate_left
     ·rw[Yy c17] at H
      exact absurd H (by simp)
     rw[Yx c17] at H;have c17b0:decide (0≤Un)=true:=Yv c17;clear c17;by_cases c18:Un<(l2.length:Int)
     rotate_left
     ·rw[Yy c18] at H
      exact absurd H (by simp)
     rw[Yx c18] at H;have c18b0:decide (Un<(l2.length:Int))=true:=Yv c18;clear c18;by_cases c19:(rd l2 Un)≤x32_1
     rotate_left
     ·rw[Yy c19] at H
      have c19b0:decide ((rd l2 Un)≤x32_1)=false:=Yw c19;clear c19;have H':=Ya H;clear H;have p123:0≤(Un:Int):=Yu (by first|(with_reducible assumption)|assumption);have q123:Un<(l2.length:Int):=Yu (by first|(with_reducible assumption)|assumption);obtain⟨ad123,e123,hx123_0⟩:=Kd.at_int HR2.out Un p123 q123;cases e123;replace hx123_0:=(HB.out.cell (Yb w _ hx123_0)).trans hx123_0;replace p123:=eq_true p123;replace q123:=eq_true q123;go_wp2;go_roundg k2
      case measure=>have:=HK1.out;have:=HK2.out;omega
      case rel=>exact⟨(x10_2),(wrap64 (Un+1)),(by first|rfl|(simp;done)|(simp[*];done)),H',⟨by have:=HK1.out;have:=HK2.out;omega⟩,⟨by(with_reducible repeat(first|apply Yr|apply Yq|apply Yp));exact HO_10.out⟩,⟨by(with_reducible repeat(first|refine Yl ?_ _|refine Ym ?_|refine Yj ?_ _));exact Xm.out⟩,⟨by repeat(first|(with_reducible first|exact HB.out|apply Ye|apply Yd|apply Yg|refine Yh ?_ Jv.out)|exact HB.out)⟩⟩
     rw[Yx c19] at H;have c19b0:decide ((rd l2 Un)≤x32_1)=true:=Yv c19;clear c19;by_cases c20:x10_2.length<8796093022208
     rotate_left
     ·rw[Yy c20] at H
      exact absurd H (by simp)
     rw[Yx c20] at H;have LMc20:=Ya c20;clear c20;obtain⟨y124,hy124⟩: ∃ y_:List (S53),y_=(x10_2 ++ [(⟨Un,x32_1⟩:S53)]):=⟨_,rfl⟩;replace H:(timecut_From.l1 k2 l2 y124 x32_1 (wrap64 (a1+1)) x32_1 l2 (l2.length:Int) (wrap64 (Un+1)))=some (r1,r2):=by first|(rw[hy124];with_reducible exact H)|(have H2_:=(Option.bind_some _ _).symm.trans H;rw[hy124];with_reducible exact H2_)|(have H2_:=(Option.bind_some _ _).symm.trans H;with_reducible exact H2_)|with_reducible exact H|(rw[hy124];exact H)|exact H
     have Ny124:=Ya hy124;clear hy124;have H':=Ya H;clear H;have p123:0≤(Un:Int):=Yu (by first|(with_reducible assumption)|assumption);have q123:Un<(l2.length:Int):=Yu (by first|(with_reducible assumption)|assumption);obtain⟨ad123,e123,hx123_0⟩:=Kd.at_int HR2.out Un p123 q123;cases e123;replace hx123_0:=(HB.out.cell (Yb w _ hx123_0)).trans hx123_0;replace p123:=eq_true p123;replace q123:=eq_true q123;go_wp2_with (first|((with_reducible refine gate_builtin (b:= .append) (xs:= #[.tmp 45, .tmp 49]) rfl ?_);at_builtin;refine Kd.R_append k53 (w0:=w) w.heap.size rfl (.tmp 45) (.tmp 49) 40 53 (.agg #[(.int .i64 0),(.int .i64 0)]) 16 rfl Try.underlying40 info53 rfl (by decide) (by omega) u10 x10_2 (⟨Un,x32_1⟩:S53) [.int .i64 Un, .int .i64 x32_1] (fun _=>True) (fun _=>False) rfl rfl ?aP (fun _ hk=>hk.elim) ?aF ?aO ?aB ?aS ?aL ?_;(case aP=>exact k53_mkM _ _ _ (⟨Un,x32_1⟩:S53));(case aB=>exact(by repeat(first|(with_reducible first|exact HB.out|apply Ye|apply Yd|apply Yg|refine Yh ?_ Jv.out)|exact HB.out)));(case aF=>exact(fun _ _=>trivial));(case aO=>exact(by(with_reducible repeat(first|apply Yr|apply Yq|apply Yp));exact HO_10.out));(case aS=>exact(Yi (by repeat(first|(with_reducible first|exact HB.out|apply Ye|apply Yd|apply Yg|refine Yh ?_ Jv.out)|exact HB.out))));(case aL=>have:=LMc20.out;omega);intro v125 w21 ho hb hg hat;rw[← Ny124.out] at ho;have n0_:=Ya (blk_grown (g:=Vh) (o:= .cells #[.int .i64 Zb, .bool Zc, .slice Zg Za.length Zd] 32 (0,0)) (by(with_reducible repeat(first|refine Yl ?_ _|refine Ym ?_|refine Yj ?_ _));exact Xm.out) hg (Kd.R_ne HO_10.out Xm.out (by decide)));have n1_:=Ya (hb);have n2_:=Ya (ho);clear Xm;clear HB;clear HO_10;have Xm:=n0_;have HB:=n1_;have HO126:=n2_;clear n0_ n1_ n2_;clear ho hb hg hat));go_roundg k2
     case measure=>have:=HK1.out;have:=HK2.out;omega
     case rel=>exact⟨(y124),(wrap64 (Un+1)),(by first|rfl|(simp;done)|(simp[*];done)),H',⟨by have:=HK1.out;have:=HK2.out;omega⟩,⟨by(with_reducible repeat(first|apply Yr|apply Yq|apply Yp));exact HO126.out⟩,⟨by(with_reducible repeat(first|refine Yl ?_ _|refine Ym ?_|refine Yj ?_ _));exact Xm.out⟩,⟨by repeat(first|(with_reducible first|exact HB.out|apply Ye|apply Yd|apply Yg|refine Yh ?_ Jv.out)|exact HB.out)⟩⟩
end P
namespace P
attribute [local go_sem] max2_int min2_int max_two min_two max_three min_three max_four min_four
theorem eqA53 (d:Nat) (w:World) (x0 y0:Int) (x1 y1:Int):
  (Op.equalIn (d+2) 53 (.agg #[.int .i64 x0, .int .i64 x1]) (.agg #[.int .i64 y0, .int .i64 y1])).run Try.prog w= .ok (x0 == y0 && (x1 == y1)) w:=by
 refine eqA_of Try.underlying53 (by kernel_rfl) ?_;refine eqf_cons (by rfl) (by go_simp;rfl) (by go_simp;rfl) (by go_simp) ?_;exact eqf_last (by rfl) (by go_simp;rfl) (by go_simp;rfl) (by go_simp)
end P
namespace P
attribute [local go_sem] max2_int min2_int max_two min_two max_three min_three max_four min_four
attribute [local go_sem high] eqA53
def ebbtideref03_SameSlots.l0:Nat→List (S53)→List (S53)→Int→Option (Bool)
 |0,_,_,_=>none
 |k+1,x0,x1,x5=>if x5<(x0.length:Int) then(if 0≤x5 then(if x5<(x1.length:Int) then(if (!(((rd_T53 x0 x5).f0) == ((rd_T53 x1 x5).f0)) || (!(((rd_T53 x0 x5).f1) == ((rd_T53 x1 x5).f1))))=true then(some false) else(ebbtideref03_SameSlots.l0 k x0 x1 (wrap64 (x5+1)))) else(none)) else(none)) else(some true)
def ebbtideref03_SameSlots.f (k:Nat) (l0:List (S53)) (l1:List (S53)):Option (Bool):=if (l0.length:Int)=(l1.length:Int) then(ebbtideref03_SameSlots.l0 k l0 l1 0) else(some false)
theorem ebbtideref03_SameSlots.mono_l: ∀ k,(∀ y0 y1 y2,LeO (ebbtideref03_SameSlots.l0 k y0 y1 y2) (ebbtideref03_SameSlots.l0 (k+1) y0 y1 y2))
 |0=>fun _ _ _ r h=>by simp[ebbtideref03_SameSlots.l0] at h
 |k+1=>by
  have ih0:=ebbtideref03_SameSlots.mono_l k
  ·intro y0 y1 y2
   unfold ebbtideref03_SameSlots.l0;repeat' first
   |(with_reducible exact ih0 _ _ _)
   |(with_reducible exact LeO.refl _)
   |(with_reducible exact LeO.none _)
   |(with_reducible refine LeO.ite ?_ ?_)
   |(with_reducible refine LeO.bind ?_ (fun _=> ?_))
   |exact ih0 _ _ _
   |exact LeO.none _
   |refine LeO.ite ?_ ?_
   |refine LeO.bind ?_ (fun _=> ?_)
theorem ebbtideref03_SameSlots.mono: ∀ a0 a1 k,LeO (ebbtideref03_SameSlots.f k a0 a1) (ebbtideref03_SameSlots.f (k+1) a0 a1):=by
 intro a0 a1 k;have ih0:=ebbtideref03_SameSlots.mono_l k;unfold ebbtideref03_SameSlots.f;repeat' first
   |(with_reducible exact ih0 _ _ _)
   |(with_reducible exact LeO.refl _)
   |(with_reducible exact LeO.none _)
   |(with_reducible refine LeO.ite ?_ ?_)
   |(with_reducible refine LeO.bind ?_ (fun _=> ?_))
   |exact ih0 _ _ _
   |exact LeO.none _
   |refine LeO.ite ?_ ?_
   |refine LeO.bind ?_ (fun _=> ?_)
set_option maxHeartbeats 8000000 in
set_option maxRecDepth 100000 in
theorem ebbtideref03_SameSlots.calls (k:Nat) (A0:Option Addr) (c0:Nat) (l0:List (S53)) (A1:Option Addr) (c1:Nat) (l1:List (S53)) (r:Bool) (w:World) (hr0:Kd.C k53 w A0 l0.length l0) (hc0:l0.length≤c0) (hr1:Kd.C k53 w A1 l1.length l1) (hc1:l1.length≤c1) (h:ebbtideref03_SameSlots.f k l0 l1=some r):
  Calls Try.prog 19 #[.slice A0 l0.length c0, .slice A1 l1.length c1] w fun e w'=>e= .returned (.bool r)∧Drawn0 w w':=by
 have hu53:=Try.underlying53;have HR0:=Ya hr0;have HC0:=Ya hc0;clear hr0 hc0;have HR1:=Ya hr1;have HC1:=Ya hc1;clear hr1 hc1;have H:(if (l0.length:Int)=(l1.length:Int) then(ebbtideref03_SameSlots.l0 k l0 l1 0) else(some false))=some r:=h;clear h;by_cases c3:(l0.length:Int)=(l1.length:Int)
 rotate_left
 ·rw[Yy c3] at H
  have c3b0:((l0.length:Int) == (l1.length:Int))=false:=beq_eq_false_iff_ne.mpr c3;have c3b1:((l0.length:Int) != (l1.length:Int))=true:=bne_iff_ne.mpr c3;have c3b2:(l0.length == l1.length)=false:=by first|simpa using c3|(simp at c3 ⊢;omega)
  obtain rfl:=Option.some.inj H;go_enter Try.func19,Try.ntmps19;go_wp2;repeat(go_quiet (fail);try go_wp2)
  go_ret;exact⟨by first|rfl|(simp;done)|(simp[*];done),by repeat(first|exact Drawn0.refl _|apply Drawn0.step)⟩
 rw[Yx c3] at H;have c3b0:((l0.length:Int) == (l1.length:Int))=true:=beq_iff_eq.mpr c3;have c3b1:((l0.length:Int) != (l1.length:Int))=false:=bne_eq_false_iff_eq.mpr c3;have c3b2:(l0.length == l1.length)=true:=by first|simpa using c3|(simp at c3 ⊢;omega)
 clear c3;have H':=Ya H;clear H;go_enter Try.func19,Try.ntmps19;go_wp2;repeat(go_quiet (fail);try go_wp2)
 go_loopg [5] k (fun kq v5 w'=> ∃ (Zh:Int),v5= .int .i64 Zh∧Aside0 (ebbtideref03_SameSlots.l0 kq l0 l1 Zh=some r)∧Aside0 (kq≤k)∧Drawn0 w w')
 case atStart=>exact⟨(0),(by first|rfl|(simp;done)|(simp[*];done)),H',⟨Nat.le_refl _⟩,by repeat(first|exact Drawn0.refl _|apply Drawn0.step)⟩
 case round=>
  clear H';try clear c1
  try clear p2
  try clear c3
  try clear c3b0
  try clear c3b1
  try clear c3b2
  obtain⟨Zh,rfl,HA,HK1,⟨m1,rfl⟩⟩:=hrel;cases gk with
  |zero=>exact absurd HA.out (by simp[ebbtideref03_SameSlots.l0])
  |succ k1=>
   have H:=HA.out;clear HA;simp only[ebbtideref03_SameSlots.l0] at H;by_cases c4:Zh<(l0.length:Int)
   rotate_left
   ·rw[Yy c4] at H
    have c4b0:decide (Zh<(l0.length:Int))=false:=Yw c4;clear c4;obtain rfl:=Option.some.inj H;go_wp2;repeat(go_quiet (fail);try go_wp2)
    go_ret;exact⟨by first|rfl|(simp;done)|(simp[*];done),by repeat(first|exact Drawn0.refl _|apply Drawn0.step)⟩
   rw[Yx c4] at H;have c4b0:decide (Zh<(l0.length:Int))=true:=Yv c4;clear c4;by_cases c5:0≤Zh
   rotate_left
   ·rw[Yy c5] at H
    exact absurd H (by simp)
   rw[Yx c5] at H;have c5b0:decide (0≤Zh)=true:=Yv c5;clear c5;by_cases c6:Zh<(l1.length:Int)
   rotate_left
   ·rw[Yy c6] at H
    exact absurd H (by simp)
   rw[Yx c6] at H;have c6b0:decide (Zh<(l1.length:Int))=true:=Yv c6;clear c6;by_cases c7:(!(((rd_T53 l0 Zh).f0) == ((rd_T53 l1 Zh).f0)) || (!(((rd_T53 l0 Zh).f1) == ((rd_T53 l1 Zh).f1))))=true
   ·rw[Yx c7] at H
    have c7b0:(!(((rd_T53 l0 Zh).f0) == ((rd_T53 l1 Zh).f0)) || (!(((rd_T53 l0 Zh).f1) == ((rd_T53 l1 Zh).f1))))=true:=c7;clear c7;obtain rfl:=Option.some.inj H;have p127:0≤(Zh:Int):=Yu (by first|(with_reducible assumption)|assumption);have q127:Zh<(l0.length:Int):=Yu (by first|(with_reducible assumption)|assumption);obtain⟨ad127,e127,hx127_0,hx127_1⟩:=at_T53 HR0.out Zh p127 q127;cases e127;replace p127:=eq_true p127;replace q127:=eq_true q127;have p128:0≤(Zh:Int):=Yu (by first|(with_reducible assumption)|assumption);have q128:Zh<(l1.length:Int):=Yu (by first|(with_reducible assumption)|assumption);obtain⟨ad128,e128,hx128_0,hx128_1⟩:=at_T53 HR1.out Zh p128 q128;cases e128;replace p128:=eq_true p128;replace q128:=eq_true q128;go_wp2;repeat(go_quiet (fail);try go_wp2)
    go_ret;exact⟨by first|rfl|(simp;done)|(simp[*];done),by repeat(first|exact Drawn0.refl _|apply Drawn0.step)⟩
   rw[Yy c7] at H;have c7b0:(!(((rd_T53 l0 Zh).f0) == ((rd_T53 l1 Zh).f0)) || (!(((rd_T53 l0 Zh).f1) == ((rd_T53 l1 Zh).f1))))=false:=by simpa using c7
   clear c7;have H':=Ya H;clear H;have p127:0≤(Zh:Int):=Yu (by first|(with_reducible assumption)|assumption);have q127:Zh<(l0.length:Int):=Yu (by first|(with_reducible assumption)|assumption);obtain⟨ad127,e127,hx127_0,hx127_1⟩:=at_T53 HR0.out Zh p127 q127;cases e127;replace p127:=eq_true p127;replace q127:=eq_true q127;have p128:0≤(Zh:Int):=Yu (by first|(with_reducible assumption)|assumption);have q128:Zh<(l1.length:Int):=Yu (by first|(with_reducible assumption)|assumption);obtain⟨ad128,e128,hx128_0,hx128_1⟩:=at_T53 HR1.out Zh p128 q128;cases e128;replace p128:=eq_true p128;replace q128:=eq_true q128;go_wp2;repeat(go_quiet (fail);try go_wp2)
   go_roundg k1
   case measure=>have:=HK1.out;omega
   case rel=>exact⟨(wrap64 (Zh+1)),(by first|rfl|(simp;done)|(simp[*];done)),H',⟨by have:=HK1.out;omega⟩,by repeat(first|exact Drawn0.refl _|apply Drawn0.step)⟩
end P
namespace P
attribute [local go_sem] max2_int min2_int max_two min_two max_three min_three max_four min_four
def ebbtidelaw18_awake.f (k:Nat)  :Option (Bool):=(some (([(⟨0,0⟩:S53),(⟨0,1⟩:S53),(⟨0,2⟩:S53)]:List (S53)):List (S53))).bind fun y129=>((ebbtidelaw14_Line.f true).bind fun bt132=>((timecut_Check.f bt132.1 bt132.2.1 bt132.2.2 0 2 2 y129).bind fun bt137=>((ebbtidelaw14_Line.f true).bind fun bt139=>((timecut_Check.f bt139.1 bt139.2.1 bt139.2.2 0 2 2 (([(⟨0,0⟩:S53),(⟨0,1⟩:S53),(⟨0,2⟩:S53),(⟨1,1⟩:S53),(⟨1,2⟩:S53)]:List (S53)))).bind fun bt147=>((ebbtidelaw14_Line.f true).bind fun bt149=>(if 2≤(y129.length:Int) then((timecut_Check.f bt149.1 bt149.2.1 bt149.2.2 0 2 2 (y129.take 2)).bind fun bt158=>((ebbtidelaw14_Line.f true).bind fun bt160=>((timecut_From.f k bt160.1 bt160.2.1 bt160.2.2 2 (([0,3,9]:List Int))).bind fun bt168=>(if bt137.2=0 then(if bt137.1=4 then(if bt147.2=0 then(if bt147.1=2 then(if bt158.2=181 then(if bt168.2=0 then((ebbtideref03_SameSlots.f k bt168.1 y129).bind fun t172=>(some t172)) else(some false)) else(some false)) else(some false)) else(some false)) else(some false)) else(some false))))) else(none)))))))
theorem ebbtidelaw18_awake.mono: ∀ k,LeO (ebbtidelaw18_awake.f k ) (ebbtidelaw18_awake.f (k+1) ):=by
 intro  k;unfold ebbtidelaw18_awake.f;repeat' first
   |(with_reducible exact ebbtideref03_SameSlots.mono _ _ _)
   |(with_reducible exact timecut_From.mono _ _ _ _ _ _)
   |(with_reducible exact LeO.refl _)
   |(with_reducible exact LeO.none _)
   |(with_reducible refine LeO.ite ?_ ?_)
   |(with_reducible refine LeO.bind ?_ (fun _=> ?_))
   |exact ebbtideref03_SameSlots.mono _ _ _
   |exact timecut_From.mono _ _ _ _ _ _
   |exact LeO.none _
   |refine LeO.ite ?_ ?_
   |refine LeO.bind ?_ (fun _=> ?_)
def ebbtidelaw18_awake.T4:Bool × List (List Nat × List Nat):=(true,[([],[]),([],[]),([1],[1]),([0,2,0],[0,2]),([3],[3]),([4],[4]),([4],[4]),([5,3,0,1,2,3,4,5],[5]),([6,7,0,1,2,3,4,5,6,7],[6])])
def ebbtidelaw18_awake.B4:List Nat:=[0,0,2,7,15,31,31,63,255]
theorem ebbtidelaw18_awake.tab4:rtab .any (opsOf Try.f7 4)=ebbtidelaw18_awake.T4:=by kernel_rfl
theorem ebbtidelaw18_awake.bits4:waitsOk ebbtidelaw18_awake.T4.2 ebbtidelaw18_awake.B4=true:=by kernel_rfl
set_option maxHeartbeats 8000000 in
set_option maxRecDepth 100000 in
theorem ebbtidelaw18_awake.calls (k:Nat)  (r:Bool) (w:World) (h:ebbtidelaw18_awake.f k  =some r) (hrT_:r=true:=by first|rfl|exact Aside0.out (by assumption)):
  Calls Try.prog 7 #[] w fun e w'=>e= .returned (.bool r)∧Below w.heap.size w w':=by
 have HRT:=Ya hrT_;clear hrT_;have hu53:=Try.underlying53;have HB:=Ya (Yo w.heap.size w);have H:((some (([(⟨0,0⟩:S53),(⟨0,1⟩:S53),(⟨0,2⟩:S53)]:List (S53)):List (S53))).bind fun y129=>((ebbtidelaw14_Line.f true).bind fun bt132=>((timecut_Check.f bt132.1 bt132.2.1 bt132.2.2 0 2 2 y129).bind fun bt137=>((ebbtidelaw14_Line.f true).bind fun bt139=>((timecut_Check.f bt139.1 bt139.2.1 bt139.2.2 0 2 2 (([(⟨0,0⟩:S53),(⟨0,1⟩:S53),(⟨0,2⟩:S53),(⟨1,1⟩:S53),(⟨1,2⟩:S53)]:List (S53)))).bind fun bt147=>((ebbtidelaw14_Line.f true).bind fun bt149=>(if 2≤(y129.length:Int) then((timecut_Check.f bt149.1 bt149.2.1 bt149.2.2 0 2 2 (y129.take 2)).bind fun bt158=>((ebbtidelaw14_Line.f true).bind fun bt160=>((timecut_From.f k bt160.1 bt160.2.1 bt160.2.2 2 (([0,3,9]:List Int))).bind fun bt168=>(if bt137.2=0 then(if bt137.1=4 then(if bt147.2=0 then(if bt147.1=2 then(if bt158.2=181 then(if bt168.2=0 then((ebbtideref03_SameSlots.f k bt168.1 y129).bind fun t172=>(some t172)) else(some false)) else(some false)) else(some false)) else(some false)) else(some false)) else(some false))))) else(none))))))))=some r:=h;clear h;obtain⟨y129,hy129⟩: ∃ y_:List (S53),y_=(([(⟨0,0⟩:S53),(⟨0,1⟩:S53),(⟨0,2⟩:S53)]:List (S53))):=⟨_,rfl⟩;replace H:((ebbtidelaw14_Line.f true).bind fun bt132=>((timecut_Check.f bt132.1 bt132.2.1 bt132.2.2 0 2 2 y129).bind fun bt137=>((ebbtidelaw14_Line.f true).bind fun bt139=>((timecut_Check.f bt139.1 bt139.2.1 bt139.2.2 0 2 2 (([(⟨0,0⟩:S53),(⟨0,1⟩:S53),(⟨0,2⟩:S53),(⟨1,1⟩:S53),(⟨1,2⟩:S53)]:List (S53)))).bind fun bt147=>((ebbtidelaw14_Line.f true).bind fun bt149=>(if 2≤(y129.length:Int) then((timecut_Check.f bt149.1 bt149.2.1 bt149.2.2 0 2 2 (y129.take 2)).bind fun bt158=>((ebbtidelaw14_Line.f true).bind fun bt160=>((timecut_From.f k bt160.1 bt160.2.1 bt160.2.2 2 (([0,3,9]:List Int))).bind fun bt168=>(if bt137.2=0 then(if bt137.1=4 then(if bt147.2=0 then(if bt147.1=2 then(if bt158.2=181 then(if bt168.2=0 then((ebbtideref03_SameSlots.f k bt168.1 y129).bind fun t172=>(some t172)) else(some false)) else(some false)) else(some false)) else(some false)) else(some false)) else(some false))))) else(none)))))))=some r:=by first|(rw[hy129];with_reducible exact H)|(have H2_:=(Option.bind_some _ _).symm.trans H;rw[hy129];with_reducible exact H2_)|(have H2_:=(Option.bind_some _ _).symm.trans H;with_reducible exact H2_)|with_reducible exact H|(rw[hy129];exact H)|exact H
 have Ny129:=Ya hy129;clear hy129;replace H:=Option.bind_eq_some_iff.mp H;obtain⟨⟨t132,t133,t134⟩,A10,H⟩:=H;replace H:((timecut_Check.f t132 t133 t134 0 2 2 y129).bind fun bt137=>((ebbtidelaw14_Line.f true).bind fun bt139=>((timecut_Check.f bt139.1 bt139.2.1 bt139.2.2 0 2 2 (([(⟨0,0⟩:S53),(⟨0,1⟩:S53),(⟨0,2⟩:S53),(⟨1,1⟩:S53),(⟨1,2⟩:S53)]:List (S53)))).bind fun bt147=>((ebbtidelaw14_Line.f true).bind fun bt149=>(if 2≤(y129.length:Int) then((timecut_Check.f bt149.1 bt149.2.1 bt149.2.2 0 2 2 (y129.take 2)).bind fun bt158=>((ebbtidelaw14_Line.f true).bind fun bt160=>((timecut_From.f k bt160.1 bt160.2.1 bt160.2.2 2 (([0,3,9]:List Int))).bind fun bt168=>(if bt137.2=0 then(if bt137.1=4 then(if bt147.2=0 then(if bt147.1=2 then(if bt158.2=181 then(if bt168.2=0 then((ebbtideref03_SameSlots.f k bt168.1 y129).bind fun t172=>(some t172)) else(some false)) else(some false)) else(some false)) else(some false)) else(some false)) else(some false))))) else(none))))))=some r:=H;have A1:=Ya A10;clear A10;replace H:=Option.bind_eq_some_iff.mp H;obtain⟨⟨t137,t138⟩,A20,H⟩:=H;replace H:((ebbtidelaw14_Line.f true).bind fun bt139=>((timecut_Check.f bt139.1 bt139.2.1 bt139.2.2 0 2 2 (([(⟨0,0⟩:S53),(⟨0,1⟩:S53),(⟨0,2⟩:S53),(⟨1,1⟩:S53),(⟨1,2⟩:S53)]:List (S53)))).bind fun bt147=>((ebbtidelaw14_Line.f true).bind fun bt149=>(if 2≤(y129.length:Int) then((timecut_Check.f bt149.1 bt149.2.1 bt149.2.2 0 2 2 (y129.take 2)).bind fun bt158=>((ebbtidelaw14_Line.f true).bind fun bt160=>((timecut_From.f k bt160.1 bt160.2.1 bt160.2.2 2 (([0,3,9]:List Int))).bind fun bt168=>(if t138=0 then(if t137=4 then(if bt147.2=0 then(if bt147.1=2 then(if bt158.2=181 then(if bt168.2=0 then((ebbtideref03_SameSlots.f k bt168.1 y129).bind fun t172=>(some t172)) else(some false)) else(some false)) else(some false)) else(some false)) else(some false)) else(some false))))) else(none)))))=some r:=H;have A2:=Ya A20;clear A20;replace H:=Option.bind_eq_some_iff.mp H;obtain⟨⟨t139,t140,t141⟩,A30,H⟩:=H;replace H:((timecut_Check.f t139 t140 t141 0 2 2 (([(⟨0,0⟩:S53),(⟨0,1⟩:S53),(⟨0,2⟩:S53),(⟨1,1⟩:S53),(⟨1,2⟩:S53)]:List (S53)))).bind fun bt147=>((ebbtidelaw14_Line.f true).bind fun bt149=>(if 2≤(y129.length:Int) then((timecut_Check.f bt149.1 bt149.2.1 bt149.2.2 0 2 2 (y129.take 2)).bind fun bt158=>((ebbtidelaw14_Line.f true).bind fun bt160=>((timecut_From.f k bt160.1 bt160.2.1 bt160.2.2 2 (([0,3,9]:List Int))).bind fun bt168=>(if t138=0 then(if t137=4 then(if bt147.2=0 then(if bt147.1=2 then(if bt158.2=181 then(if bt168.2=0 then((ebbtideref03_SameSlots.f k bt168.1 y129).bind fun t172=>(some t172)) else(some false)) else(some false)) else(some false)) else(some false)) else(some false)) else(some false))))) else(none))))=some r:=H;have A3:=Ya A30;clear A30;obtain⟨y144,hy144⟩: ∃ y_:List (S53),y_=(([(⟨0,0⟩:S53),(⟨0,1⟩:S53),(⟨0,2⟩:S53),(⟨1,1⟩:S53),(⟨1,2⟩:S53)]:List (S53))):=⟨_,rfl⟩;replace H:((timecut_Check.f t139 t140 t141 0 2 2 y144).bind fun bt147=>((ebbtidelaw14_Line.f true).bind fun bt149=>(if 2≤(y129.length:Int) then((timecut_Check.f bt149.1 bt149.2.1 bt149.2.2 0 2 2 (y129.take 2)).bind fun bt158=>((ebbtidelaw14_Line.f true).bind fun bt160=>((timecut_From.f k bt160.1 bt160.2.1 bt160.2.2 2 (([0,3,9]:List Int))).bind fun bt168=>(if t138=0 then(if t137=4 then(if bt147.2=0 then(if bt147.1=2 then(if bt158.2=181 then(if bt168.2=0 then((ebbtideref03_SameSlots.f k bt168.1 y129).bind fun t172=>(some t172)) else(some false)) else(some false)) else(some false)) else(some false)) else(some false)) else(some false))))) else(none))))=some r:=by first|(rw[hy144];with_reducible exact H)|(have H2_:=(Option.bind_some _ _).symm.trans H;rw[hy144];with_reducible exact H2_)|(have H2_:=(Option.bind_some _ _).symm.trans H;with_reducible exact H2_)|with_reducible exact H|(rw[hy144];exact H)|exact H
 have Ny144:=Ya hy144;clear hy144;replace H:=Option.bind_eq_some_iff.mp H;obtain⟨⟨t147,t148⟩,A40,H⟩:=H;replace H:((ebbtidelaw14_Line.f true).bind fun bt149=>(if 2≤(y129.length:Int) then((timecut_Check.f bt149.1 bt149.2.1 bt149.2.2 0 2 2 (y129.take 2)).bind fun bt158=>((ebbtidelaw14_Line.f true).bind fun bt160=>((timecut_From.f k bt160.1 bt160.2.1 bt160.2.2 2 (([0,3,9]:List Int))).bind fun bt168=>(if t138=0 then(if t137=4 then(if t148=0 then(if t147=2 then(if bt158.2=181 then(if bt168.2=0 then((ebbtideref03_SameSlots.f k bt168.1 y129).bind fun t172=>(some t172)) else(some false)) else(some false)) else(some false)) else(some false)) else(some false)) else(some false))))) else(none)))=some r:=H;have A4:=Ya A40;clear A40;replace H:=Option.bind_eq_some_iff.mp H;obtain⟨⟨t149,t150,t151⟩,A50,H⟩:=H;replace H:(if 2≤(y129.length:Int) then((timecut_Check.f t149 t150 t151 0 2 2 (y129.take 2)).bind fun bt158=>((ebbtidelaw14_Line.f true).bind fun bt160=>((timecut_From.f k bt160.1 bt160.2.1 bt160.2.2 2 (([0,3,9]:List Int))).bind fun bt168=>(if t138=0 then(if t137=4 then(if t148=0 then(if t147=2 then(if bt158.2=181 then(if bt168.2=0 then((ebbtideref03_SameSlots.f k bt168.1 y129).bind fun t172=>(some t172)) else(some false)) else(some false)) else(some false)) else(some false)) else(some false)) else(some false))))) else(none))=some r:=H;have A5:=Ya A50;clear A50;by_cases c6:2≤(y129.length:Int)
 rotate_left
 ·rw[Yy c6] at H
  exact absurd H (by simp)
 rw[Yx c6] at H;have c6b0:=eq_true c6;have c6b1:decide (2≤(y129.length:Int))=true:=Yv c6;clear c6;obtain⟨y154,hy154⟩: ∃ y_:List (S53),y_=(y129.take 2):=⟨_,rfl⟩;replace H:((timecut_Check.f t149 t150 t151 0 2 2 y154).bind fun bt158=>((ebbtidelaw14_Line.f true).bind fun bt160=>((timecut_From.f k bt160.1 bt160.2.1 bt160.2.2 2 (([0,3,9]:List Int))).bind fun bt168=>(if t138=0 then(if t137=4 then(if t148=0 then(if t147=2 then(if bt158.2=181 then(if bt168.2=0 then((ebbtideref03_SameSlots.f k bt168.1 y129).bind fun t172=>(some t172)) else(some false)) else(some false)) else(some false)) else(some false)) else(some false)) else(some false)))))=some r:=by first|(rw[hy154];with_reducible exact H)|(have H2_:=(Option.bind_some _ _).symm.trans H;rw[hy154];with_reducible exact H2_)|(have H2_:=(Option.bind_some _ _).symm.trans H;with_reducible exact H2_)|with_reducible exact H|(rw[hy154];exact H)|exact H
 have Ny154:=Ya hy154;clear hy154;replace H:=Option.bind_eq_some_iff.mp H;obtain⟨⟨t158,t159⟩,A70,H⟩:=H;replace H:((ebbtidelaw14_Line.f true).bind fun bt160=>((timecut_From.f k bt160.1 bt160.2.1 bt160.2.2 2 (([0,3,9]:List Int))).bind fun bt168=>(if t138=0 then(if t137=4 then(if t148=0 then(if t147=2 then(if t159=181 then(if bt168.2=0 then((ebbtideref03_SameSlots.f k bt168.1 y129).bind fun t172=>(some t172)) else(some false)) else(some false)) else(some false)) else(some false)) else(some false)) else(some false))))=some r:=H;have A7:=Ya A70;clear A70;replace H:=Option.bind_eq_some_iff.mp H;obtain⟨⟨t160,t161,t162⟩,A80,H⟩:=H;replace H:((timecut_From.f k t160 t161 t162 2 (([0,3,9]:List Int))).bind fun bt168=>(if t138=0 then(if t137=4 then(if t148=0 then(if t147=2 then(if t159=181 then(if bt168.2=0 then((ebbtideref03_SameSlots.f k bt168.1 y129).bind fun t172=>(some t172)) else(some false)) else(some false)) else(some false)) else(some false)) else(some false)) else(some false)))=some r:=H;have A8:=Ya A80;clear A80;obtain⟨y165,hy165⟩: ∃ y_:List Int,y_=(([0,3,9]:List Int)):=⟨_,rfl⟩;replace H:((timecut_From.f k t160 t161 t162 2 y165).bind fun bt168=>(if t138=0 then(if t137=4 then(if t148=0 then(if t147=2 then(if t159=181 then(if bt168.2=0 then((ebbtideref03_SameSlots.f k bt168.1 y129).bind fun t172=>(some t172)) else(some false)) else(some false)) else(some false)) else(some false)) else(some false)) else(some false)))=some r:=by first|(rw[hy165];with_reducible exact H)|(have H2_:=(Option.bind_some _ _).symm.trans H;rw[hy165];with_reducible exact H2_)|(have H2_:=(Option.bind_some _ _).symm.trans H;with_reducible exact H2_)|with_reducible exact H|(rw[hy165];exact H)|exact H
 have Ny165:=Ya hy165;clear hy165;replace H:=Option.bind_eq_some_iff.mp H;obtain⟨⟨t168,t171⟩,A90,H⟩:=H;replace H:(if t138=0 then(if t137=4 then(if t148=0 then(if t147=2 then(if t159=181 then(if t171=0 then((ebbtideref03_SameSlots.f k t168 y129).bind fun t172=>(some t172)) else(some false)) else(some false)) else(some false)) else(some false)) else(some false)) else(some false))=some r:=H;have A9:=Ya A90;clear A90;by_cases c10:t138=0
 rotate_left
 ·rw[Yy c10] at H
  exact absurd (Option.some.inj H) (by rw[HRT.out];decide)
 rw[Yx c10] at H;have c10b0:(t138 == 0)=true:=beq_iff_eq.mpr c10;have c10b1:(t138 != 0)=false:=bne_eq_false_iff_eq.mpr c10;clear c10;by_cases c11:t137=4
 rotate_left
 ·rw[Yy c11] at H
  exact absurd (Option.some.inj H) (by rw[HRT.out];decide)
 rw[Yx c11] at H;have c11b0:(t137 == 4)=true:=beq_iff_eq.mpr c11;have c11b1:(t137 != 4)=false:=bne_eq_false_iff_eq.mpr c11;clear c11;by_cases c12:t148=0
 rotate_left
 ·rw[Yy c12] at H
  exact absurd (Option.some.inj H) (by rw[HRT.out];decide)
 rw[Yx c12] at H;have c12b0:(t148 == 0)=true:=beq_iff_eq.mpr c12;have c12b1:(t148 != 0)=false:=bne_eq_false_iff_eq.mpr c12;clear c12;by_cases c13:t147=2
 rotate_left
 ·rw[Yy c13] at H
  exact absurd (Option.some.inj H) (by rw[HRT.out];decide)
 rw[Yx c13] at H;have c13b0:(t147 == 2)=true:=beq_iff_eq.mpr c13;have c13b1:(t147 != 2)=false:=bne_eq_false_iff_eq.mpr c13;clear c13;by_cases c14:t159=181
 rotate_left
 ·rw[Yy c14] at H
  exact absurd (Option.some.inj H) (by rw[HRT.out];decide)
 rw[Yx c14] at H;have c14b0:(t159 == 181)=true:=beq_iff_eq.mpr c14;have c14b1:(t159 != 181)=false:=bne_eq_false_iff_eq.mpr c14;clear c14;by_cases c15:t171=0
 rotate_left
 ·rw[Yy c15] at H
  exact absurd (Option.some.inj H) (by rw[HRT.out];decide)
 rw[Yx c15] at H;have c15b0:(t171 == 0)=true:=beq_iff_eq.mpr c15;have c15b1:(t171 != 0)=false:=bne_eq_false_iff_eq.mpr c15;clear c15;replace H:=Option.bind_eq_some_iff.mp H;obtain⟨t172,A160,H⟩:=H;replace H:(some t172)=some r:=H;have A16:=Ya A160;clear A160;obtain rfl:=Option.some.inj H;go_enter Try.func7,Try.ntmps7;try go_wp2_with (first|((with_reducible refine gate_dst (N:=13) rfl ?_);refine Kd.R_lit k53 _ 53 ?hg (N:=13) ?hd (xs:=([(⟨0,0⟩:S53),(⟨0,1⟩:S53),(⟨0,2⟩:S53)]:List (S53))) (inner:=[.int .i64 0, .int .i64 0, .int .i64 0, .int .i64 1, .int .i64 0, .int .i64 2]) (ok:=fun _=>True) (okp:=fun _=>True) ?hr ?hp (fun _ hk=>hk) trivial (Yo _ _) (Nat.le_refl _) (by simp) ?_;(case hd=>rfl);(case hg=>rfl);(case hr=>first|(go_simp;done)|(go_simp;rfl));(case hp=>exact(Reps.c2 (show Kd.M k53 _ _ _ (⟨0,0⟩:S53) [.int .i64 0, .int .i64 0] from(k53_mkM _ _ _ (⟨0,0⟩:S53) )) (Reps.c2 (show Kd.M k53 _ _ _ (⟨0,1⟩:S53) [.int .i64 0, .int .i64 1] from(k53_mkM _ _ _ (⟨0,1⟩:S53) )) (Reps.c2 (show Kd.M k53 _ _ _ (⟨0,2⟩:S53) [.int .i64 0, .int .i64 2] from(k53_mkM _ _ _ (⟨0,2⟩:S53) )) (Reps.none _ _)))));intro v130 w17 ho18 hb hg_ hnew_;clear hg_ hnew_;(first|rw[← Ny129.out] at ho18|(simp only[Int.reduceToNat] at ho18;rw[← Ny129.out] at ho18));have n0_:=Ya (Kd.R_lower ho18 (Yi (by repeat(first|(with_reducible first|exact HB.out|apply Ye|apply Yd|apply Yg)|exact HB.out))));have n1_:=Ya (Yk (by repeat(first|(with_reducible first|exact HB.out|apply Ye|apply Yd|apply Yg)|exact HB.out)) hb);clear HB;have Wx:=n0_;have HB:=n1_;clear n0_ n1_;clear hb ho18)|((with_reducible refine gate_callee (f:=17) rfl ?_);refine goesL_ (some 15) rfl rfl Try.func17 (by kernel_rfl) rfl #[.bool true] rfl (by(try simp only[List.map_toArray,List.map_cons,List.map_nil]);first|done|rfl|(simp only[List.length_drop,List.length_take];rfl)) ?_;(with_reducible refine(ebbtidelaw14_Line.calls true t132 t133 t134 _ A1.out).mono ?_);rintro e w19 ⟨v135,rfl,ho0,hb⟩;refine⟨_,rfl,?_⟩;have n0_:=Ya (Ys (by(with_reducible repeat(first|apply Yr|apply Yq|apply Yp));exact Wx.out) hb);have n1_:=Ya (Kd.R_lower ho0 (Yi (by repeat(first|(with_reducible first|exact HB.out|apply Ye|apply Yd|apply Yg)|exact HB.out))));have n2_:=Ya (Yk (by repeat(first|(with_reducible first|exact HB.out|apply Ye|apply Yd|apply Yg)|exact HB.out)) hb);clear Wx;clear HB;have Wx:=n0_;have Vi:=n1_;have HB:=n2_;clear n0_ n1_ n2_;(try clear hb);(try clear hb2);(try clear hk);(try clear hi);(try clear ho0);obtain⟨Ao20,co20,eo20⟩:=Kd.R_slice Vi.out;subst eo20;obtain⟨Ao21,co21,eo21⟩:=Kd.R_slice Wx.out;subst eo21)|((with_reducible refine gate_callee (f:=10) rfl ?_);refine goesL_ (some 17) rfl rfl Try.func10 (by kernel_rfl) rfl #[.agg #[.int .i64 t132, .bool t133, .slice Ao20 t134.length co20], .int .i64 0, .int .i64 2, .int .i64 2, .slice Ao21 y129.length co21] rfl (by(try simp only[List.map_toArray,List.map_cons,List.map_nil]);first|done|rfl|(simp only[List.length_drop,List.length_take];rfl)) ?_;(with_reducible refine(timecut_Check.calls t132 t133 _ _ t134 0 2 2 _ _ y129 t137 t138 _ ?side1 ?side2 ?side3 ?side4 A2.out).mono ?_);(case side1=>repeat(first|exact(Kd.R_reads' Vi.out).2.2|(with_reducible refine Kd.C_alloc ?_ _)|(with_reducible refine Kd.C_drewN ?_ _)|(with_reducible refine Kd.C_drew ?_)));(case side2=>exact(Kd.R_reads' Vi.out).2.1);(case side3=>repeat(first|exact(Kd.R_reads' Wx.out).2.2|(with_reducible refine Kd.C_alloc ?_ _)|(with_reducible refine Kd.C_drewN ?_ _)|(with_reducible refine Kd.C_drew ?_)));(case side4=>exact(Kd.R_reads' Wx.out).2.1);rintro e w22 ⟨rfl,hb⟩;refine⟨_,rfl,?_⟩;have n0_:=Ya (Ys (by(with_reducible repeat(first|apply Yr|apply Yq|apply Yp));exact Wx.out) hb);have n1_:=Ya (Ys (by(with_reducible repeat(first|apply Yr|apply Yq|apply Yp));exact Vi.out) hb);have n2_:=Ya (Yk (by repeat(first|(with_reducible first|exact HB.out|apply Ye|apply Yd|apply Yg)|exact HB.out)) hb);clear Wx;clear Vi;clear HB;have Wx:=n0_;have Vi:=n1_;have HB:=n2_;clear n0_ n1_ n2_;(try clear hb);(try clear hb2);(try clear hk);(try clear hi))|((with_reducible refine gate_callee (f:=17) rfl ?_);refine goesL_ (some 21) rfl rfl Try.func17 (by kernel_rfl) rfl #[.bool true] rfl (by(try simp only[List.map_toArray,List.map_cons,List.map_nil]);first|done|rfl|(simp only[List.length_drop,List.length_take];rfl)) ?_;(with_reducible refine(ebbtidelaw14_Line.calls true t139 t140 t141 _ A3.out).mono ?_);rintro e w23 ⟨v142,rfl,ho0,hb⟩;refine⟨_,rfl,?_⟩;have n0_:=Ya (Ys (by(with_reducible repeat(first|apply Yr|apply Yq|apply Yp));exact Wx.out) hb);have n1_:=Ya (Kd.R_elder' (by(with_reducible repeat(first|apply Yr|apply Yq|apply Yp));exact Vi.out) (Kd.R_base ho0) hb);have n2_:=Ya (Kd.R_lower (Kd.R_new' ho0 (Kd.R_lt (by(with_reducible repeat(first|apply Yr|apply Yq|apply Yp));exact Vi.out))) (Yi (by repeat(first|(with_reducible first|exact HB.out|apply Ye|apply Yd|apply Yg)|exact HB.out))));have n3_:=Ya (Yk (by repeat(first|(with_reducible first|exact HB.out|apply Ye|apply Yd|apply Yg)|exact HB.out)) hb);clear Wx;clear Vi;clear HB;have Wx:=n0_;have Vi:=n1_;have Ui:=n2_;have HB:=n3_;clear n0_ n1_ n2_ n3_;(try clear hb);(try clear hb2);(try clear hk);(try clear hi);(try clear ho0))|((with_reducible refine gate_dst (N:=27) rfl ?_);refine Kd.R_lit k53 _ 53 ?hg (N:=27) ?hd (xs:=([(⟨0,0⟩:S53),(⟨0,1⟩:S53),(⟨0,2⟩:S53),(⟨1,1⟩:S53),(⟨1,2⟩:S53)]:List (S53))) (inner:=[.int .i64 0, .int .i64 0, .int .i64 0, .int .i64 1, .int .i64 0, .int .i64 2, .int .i64 1, .int .i64 1, .int .i64 1, .int .i64 2]) (ok:=fun _=>True) (okp:=fun _=>True) ?hr ?hp (fun _ hk=>hk) trivial (Yo _ _) (Nat.le_refl _) (by simp) ?_;(case hd=>rfl);(case hg=>rfl);(case hr=>first|(go_simp;done)|(go_simp;rfl));(case hp=>exact(Reps.c2 (show Kd.M k53 _ _ _ (⟨0,0⟩:S53) [.int .i64 0, .int .i64 0] from(k53_mkM _ _ _ (⟨0,0⟩:S53) )) (Reps.c2 (show Kd.M k53 _ _ _ (⟨0,1⟩:S53) [.int .i64 0, .int .i64 1] from(k53_mkM _ _ _ (⟨0,1⟩:S53) )) (Reps.c2 (show Kd.M k53 _ _ _ (⟨0,2⟩:S53) [.int .i64 0, .int .i64 2] from(k53_mkM _ _ _ (⟨0,2⟩:S53) )) (Reps.c2 (show Kd.M k53 _ _ _ (⟨1,1⟩:S53) [.int .i64 1, .int .i64 1] from(k53_mkM _ _ _ (⟨1,1⟩:S53) )) (Reps.c2 (show Kd.M k53 _ _ _ (⟨1,2⟩:S53) [.int .i64 1, .int .i64 2] from(k53_mkM _ _ _ (⟨1,2⟩:S53) )) (Reps.none _ _)))))));intro v145 w24 ho25 hb hg_ hnew_;clear hg_ hnew_;(first|rw[← Ny144.out] at ho25|(simp only[Int.reduceToNat] at ho25;rw[← Ny144.out] at ho25));have n0_:=Ya (Kd.R_elder' (by(with_reducible repeat(first|apply Yr|apply Yq|apply Yp));exact Wx.out) (Kd.R_base ho25) hb);have n1_:=Ya (Ys (by(with_reducible repeat(first|apply Yr|apply Yq|apply Yp));exact Vi.out) hb);have n2_:=Ya (Ys (by(with_reducible repeat(first|apply Yr|apply Yq|apply Yp));exact Ui.out) hb);have n3_:=Ya (Kd.R_lower (Kd.R_new' ho25 (Kd.R_lt (by(with_reducible repeat(first|apply Yr|apply Yq|apply Yp));exact Wx.out))) (Yi (by repeat(first|(with_reducible first|exact HB.out|apply Ye|apply Yd|apply Yg)|exact HB.out))));have n4_:=Ya (Yk (by repeat(first|(with_reducible first|exact HB.out|apply Ye|apply Yd|apply Yg)|exact HB.out)) hb);clear Wx;clear Vi;clear Ui;clear HB;have Wx:=n0_;have Vi:=n1_;have Ui:=n2_;have Uo:=n3_;have HB:=n4_;clear n0_ n1_ n2_ n3_ n4_;clear hb ho25;obtain⟨Ao26,co26,eo26⟩:=Kd.R_slice Ui.out;subst eo26;obtain⟨Ao27,co27,eo27⟩:=Kd.R_slice Uo.out;subst eo27)|((with_reducible refine gate_callee (f:=10) rfl ?_);refine goesL_ (some 28) rfl rfl Try.func10 (by kernel_rfl) rfl #[.agg #[.int .i64 t139, .bool t140, .slice Ao26 t141.length co26], .int .i64 0, .int .i64 2, .int .i64 2, .slice Ao27 y144.length co27] rfl (by(try simp only[List.map_toArray,List.map_cons,List.map_nil]);first|done|rfl|(simp only[List.length_drop,List.length_take];rfl)) ?_;(with_reducible refine(timecut_Check.calls t139 t140 _ _ t141 0 2 2 _ _ y144 t147 t148 _ ?side1 ?side2 ?side3 ?side4 A4.out).mono ?_);(case side1=>repeat(first|exact(Kd.R_reads' Ui.out).2.2|(with_reducible refine Kd.C_alloc ?_ _)|(with_reducible refine Kd.C_drewN ?_ _)|(with_reducible refine Kd.C_drew ?_)));(case side2=>exact(Kd.R_reads' Ui.out).2.1);(case side3=>repeat(first|exact(Kd.R_reads' Uo.out).2.2|(with_reducible refine Kd.C_alloc ?_ _)|(with_reducible refine Kd.C_drewN ?_ _)|(with_reducible refine Kd.C_drew ?_)));(case side4=>exact(Kd.R_reads' Uo.out).2.1);rintro e w28 ⟨rfl,hb⟩;refine⟨_,rfl,?_⟩;have n0_:=Ya (Ys (by(with_reducible repeat(first|apply Yr|apply Yq|apply Yp));exact Wx.out) hb);have n1_:=Ya (Ys (by(with_reducible repeat(first|apply Yr|apply Yq|apply Yp));exact Vi.out) hb);have n2_:=Ya (Ys (by(with_reducible repeat(first|apply Yr|apply Yq|apply Yp));exact Ui.out) hb);have n3_:=Ya (Ys (by(with_reducible repeat(first|apply Yr|apply Yq|apply Yp));exact Uo.out) hb);have n4_:=Ya (Yk (by repeat(first|(with_reducible first|exact HB.out|apply Ye|apply Yd|apply Yg)|exact HB.out)) hb);clear Wx;clear Vi;clear Ui;clear Uo;clear HB;have Wx:=n0_;have Vi:=n1_;have Ui:=n2_;have Uo:=n3_;have HB:=n4_;clear n0_ n1_ n2_ n3_ n4_;(try clear hb);(try clear hb2);(try clear hk);(try clear hi)))
 have n0_:=Ya (Yp Wx.out);have n1_:=Ya (Yp Vi.out);have n2_:=Ya (Yp Ui.out);have n3_:=Ya (Yp Uo.out);have n4_:=Ya (Yg HB.out);clear Wx;clear Vi;clear Ui;clear Uo;clear HB;have Wx:=n0_;have Vi:=n1_;have Ui:=n2_;have Uo:=n3_;have HB:=n4_;clear n0_ n1_ n2_ n3_ n4_;have q30:(2:Int)≤((y129.length:Int):Int):=Yu (by first|(with_reducible assumption)|assumption);obtain⟨i030,hi030,_,hsz30,_⟩:=info_parts info53;have hroom30:y129.length≤co21:=(Kd.R_reads' Wx.out).2.1;have hC30:Kd.C k53 _ Ao21 y129.length y129:=(Kd.R_reads' Wx.out).2.2;have hcut30:=cut_to (P:=Try.prog) 40 53 .i64 Try.underlying40 hi030 Ao21 y129.length co21 2 (by omega) q30 hroom30;have hr30:=Kd.C_take (m:=2) hC30 (by omega);have hy30:y154.length=(2:Int).toNat:=(by rw[Ny154.out,List.length_take];omega);rw[← Ny154.out] at hr30;rw[← hy30] at hcut30;have Jl:=Ya hr30;have HC157:=Ya (show y154.length≤co21 from by omega);clear hr30 hC30 hroom30 hi030 hsz30;have KY30:=Ya hy30;clear hy30;have KL30:=Ya (show 2≤y129.length from by omega);replace q30:=eq_true q30;refine start_ (n:=9) (S:=fun w'=>True) (ds:=[]) #[false,false,false,false,false,false,false,false,false] (by kernel_rfl) rfl rfl trivial (fun hHeld=> ?_);refine with_tabW ebbtidelaw18_awake.tab4 ebbtidelaw18_awake.bits4 (fun HT_ HW_=> ?_);generalize w28.drew=w29 at Wx Vi Ui Uo HB Jl hHeld ⊢;refine pure_ (i:=1) (N:=some 33) (v:= ?_) (a':= ?_) #[false,true,false,false,false,false,false,false,false] rfl rfl (any_of HT_.out (by kernel_rfl)) (fun _ _ _ h=>h) (Or.inl ⟨by rfl,?_⟩) ?_ ?_
 rotate_left
 ·intro w'
  go_simp
  with_reducible rfl
 rotate_left
 ·simp only[Act.put,List.setIfInBounds_toArray,List.set_cons_zero,List.set_cons_succ,i64_w,i32_w]
  rfl
 refine pure_ (i:=2) (N:=some 34) (v:= ?_) (a':= ?_) #[false,true,true,false,false,false,false,false,false] rfl rfl (any_of HT_.out (by kernel_rfl)) (fun _ _ _ h=>h) (Or.inl ⟨by rfl,?_⟩) ?_ ?_
 rotate_left
 ·intro w'
  go_simp
  with_reducible rfl
 rotate_left
 ·simp only[Act.put,List.setIfInBounds_toArray,List.set_cons_zero,List.set_cons_succ,i64_w,i32_w]
  rfl
 refine one_ (i:=0) (N:=some 32) #[true,true,true,false,false,false,false,false,false] rfl rfl (one_of HT_.out (by kernel_rfl)) (by decide) (fun K hK=> ?_);refine goes_ Try.func17 (by kernel_rfl) rfl #[.bool true] (by rfl) rfl rfl (by(try simp only[List.map_toArray,List.map_cons,List.map_nil]);first|done|rfl|(simp only[List.length_drop,List.length_take];rfl)) ?_
 with_reducible refine(ebbtidelaw14_Line.calls true t149 t150 t151 _ A5.out).mono ?_
 rintro e w31 ⟨v152,rfl,ho0,hb⟩;refine⟨_,rfl,?_⟩;have n0_:=Ya (Ys (by(with_reducible repeat(first|apply Yr|apply Yq|apply Yp));exact Wx.out) hb);have n1_:=Ya (Kd.R_elder' (by(with_reducible repeat(first|apply Yr|apply Yq|apply Yp));exact Vi.out) (Kd.R_base ho0) hb);have n2_:=Ya (Kd.R_elder' (by(with_reducible repeat(first|apply Yr|apply Yq|apply Yp));exact Ui.out) (Kd.R_base ho0) hb);have n3_:=Ya (Ys (by(with_reducible repeat(first|apply Yr|apply Yq|apply Yp));exact Uo.out) hb);have n4_:=Ya (Kd.R_lower (Kd.R_new' (Kd.R_new' ho0 (Kd.R_lt (by(with_reducible repeat(first|apply Yr|apply Yq|apply Yp));exact Vi.out))) (Kd.R_lt (by(with_reducible repeat(first|apply Yr|apply Yq|apply Yp));exact Ui.out))) (Yi (by repeat(first|(with_reducible first|exact HB.out|apply Ye|apply Yd|apply Yg)|exact HB.out))));have n5_:=Ya (Yt (by repeat(first|(with_reducible exact Jl.out)|(with_reducible refine Kd.C_alloc ?_ _)|(with_reducible refine Kd.C_drewN ?_ _)|(with_reducible refine Kd.C_drew ?_)|exact Jl.out)) hb);have n6_:=Ya (Yk (by repeat(first|(with_reducible first|exact HB.out|apply Ye|apply Yd|apply Yg)|exact HB.out)) hb);clear Wx;clear Vi;clear Ui;clear Uo;clear Jl;clear HB;have Wx:=n0_;have Vi:=n1_;have Ui:=n2_;have Uo:=n3_;have HO153:=n4_;have Jl:=n5_;have HB:=n6_;clear n0_ n1_ n2_ n3_ n4_ n5_ n6_
 (try clear hb)
 (try clear hb2)
 (try clear hk)
 (try clear hi)
 (try clear ho0)
 obtain⟨Ao32,co32,eo32⟩:=Kd.R_slice HO153.out
 (first|subst eo32|(injection eo32 with f1_ f2_ f3_;have f4_:=f1_.symm;have f5_:=f3_.symm;clear f1_ f2_ f3_;subst f4_;subst f5_))
 refine hK.out _ _ trivial (fun hHeld=> ?_);clear hK K;refine norm_ (a':= ?_) ?_ ?_
 rotate_left
 ·show Act.put _ (some 32) _=_
  simp only[Act.put,List.setIfInBounds_toArray,List.set_cons_zero,List.set_cons_succ,i64_w,i32_w];rfl
 refine one_ (i:=3) (N:=some 35) #[true,true,true,true,false,false,false,false,false] rfl rfl (one_of HT_.out (by kernel_rfl)) (by decide) (fun K hK=> ?_);refine goes_ Try.func10 (by kernel_rfl) rfl #[.agg #[.int .i64 t149, .bool t150, .slice Ao32 t151.length co32], .int .i64 0, .int .i64 2, .int .i64 2, .slice Ao21 y154.length co21] (by rfl) rfl rfl (by(try simp only[List.map_toArray,List.map_cons,List.map_nil]);first|done|rfl|(simp only[List.length_drop,List.length_take];rfl)) ?_
 with_reducible refine(timecut_Check.calls t149 t150 _ _ t151 0 2 2 _ _ y154 t158 t159 _ ?side1 ?side2 ?side3 ?side4 A7.out).mono ?_
 (case side1=>repeat(first|exact(Kd.R_reads' HO153.out).2.2|(with_reducible refine Kd.C_alloc ?_ _)|(with_reducible refine Kd.C_drewN ?_ _)|(with_reducible refine Kd.C_drew ?_)))
 (case side2=>exact(Kd.R_reads' HO153.out).2.1)
 (case side3=>repeat(first|exact(by repeat(first|(with_reducible exact Jl.out)|(with_reducible refine Kd.C_alloc ?_ _)|(with_reducible refine Kd.C_drewN ?_ _)|(with_reducible refine Kd.C_drew ?_)|exact Jl.out))|(with_reducible refine Kd.C_alloc ?_ _)|(with_reducible refine Kd.C_drewN ?_ _)|(with_reducible refine Kd.C_drew ?_)))
 (case side4=>exact HC157.out)
 rintro e w33 ⟨rfl,hb⟩;refine⟨_,rfl,?_⟩;have n0_:=Ya (Ys (by(with_reducible repeat(first|apply Yr|apply Yq|apply Yp));exact Wx.out) hb);have n1_:=Ya (Ys (by(with_reducible repeat(first|apply Yr|apply Yq|apply Yp));exact Vi.out) hb);have n2_:=Ya (Ys (by(with_reducible repeat(first|apply Yr|apply Yq|apply Yp));exact Ui.out) hb);have n3_:=Ya (Ys (by(with_reducible repeat(first|apply Yr|apply Yq|apply Yp));exact Uo.out) hb);have n4_:=Ya (Ys (by(with_reducible repeat(first|apply Yr|apply Yq|apply Yp));exact HO153.out) hb);have n5_:=Ya (Yt (by repeat(first|(with_reducible exact Jl.out)|(with_reducible refine Kd.C_alloc ?_ _)|(with_reducible refine Kd.C_drewN ?_ _)|(with_reducible refine Kd.C_drew ?_)|exact Jl.out)) hb);have n6_:=Ya (Yk (by repeat(first|(with_reducible first|exact HB.out|apply Ye|apply Yd|apply Yg)|exact HB.out)) hb);clear Wx;clear Vi;clear Ui;clear Uo;clear HO153;clear Jl;clear HB;have Wx:=n0_;have Vi:=n1_;have Ui:=n2_;have Uo:=n3_;have HO153:=n4_;have Jl:=n5_;have HB:=n6_;clear n0_ n1_ n2_ n3_ n4_ n5_ n6_
 (try clear hb)
 (try clear hb2)
 (try clear hk)
 (try clear hi)
 refine hK.out _ _ trivial (fun hHeld=> ?_);clear hK K;refine norm_ (a':= ?_) ?_ ?_
 rotate_left
 ·show Act.put _ (some 35) _=_
  simp only[Act.put,List.setIfInBounds_toArray,List.set_cons_zero,List.set_cons_succ,i64_w,i32_w];rfl
 refine pure_ (i:=4) (N:=some 31) (v:= ?_) (a':= ?_) #[true,true,true,true,true,false,false,false,false] rfl rfl (any_of HT_.out (by kernel_rfl)) (fun _ _ _ h=>h) (Or.inl ⟨by rfl,?_⟩) ?_ ?_
 rotate_left
 ·intro w'
  go_simp
  with_reducible rfl
 rotate_left
 ·simp only[Act.put,List.setIfInBounds_toArray,List.set_cons_zero,List.set_cons_succ,i64_w,i32_w]
  rfl
 refine pure_ (i:=5) (N:=some 36) (v:= ?_) (a':= ?_) #[true,true,true,true,true,true,false,false,false] rfl rfl (any_of HT_.out (by kernel_rfl)) (fun _ _ _ h=>h) (Or.inl ⟨by rfl,?_⟩) ?_ ?_
 rotate_left
 ·intro w'
  go_simp
  with_reducible rfl
 rotate_left
 ·simp only[Act.put,List.setIfInBounds_toArray,List.set_cons_zero,List.set_cons_succ,i64_w,i32_w]
  rfl
 refine pure_ (i:=6) (N:=some 37) (v:= ?_) (a':= ?_) #[true,true,true,true,true,true,true,false,false] rfl rfl (any_of HT_.out (by kernel_rfl)) (fun _ _ _ h=>h) (Or.inl ⟨by rfl,?_⟩) ?_ ?_
 rotate_left
 ·intro w'
  go_simp
  with_reducible rfl
 rotate_left
 ·simp only[Act.put,List.setIfInBounds_toArray,List.set_cons_zero,List.set_cons_succ,i64_w,i32_w]
  rfl
 refine pure_ (i:=7) (N:=some 6) (v:= ?_) (a':= ?_) #[true,true,true,true,true,true,true,true,false] rfl rfl (any_of HT_.out (by kernel_rfl)) (fun _ _ _ h=>h) (Or.inl ⟨by rfl,?_⟩) ?_ ?_
 rotate_left
 ·intro w'
  go_simp
  with_reducible rfl
 rotate_left
 ·simp only[Act.put,List.setIfInBounds_toArray,List.set_cons_zero,List.set_cons_succ,i64_w,i32_w]
  rfl
 refine pure_ (i:=8) (N:=some 7) (v:= ?_) (a':= ?_) #[true,true,true,true,true,true,true,true,true] rfl rfl (any_of HT_.out (by kernel_rfl)) (fun _ _ _ h=>h) (Or.inl ⟨by rfl,?_⟩) ?_ ?_
 rotate_left
 ·intro w'
  go_simp
  with_reducible rfl
 rotate_left
 ·simp only[Act.put,List.setIfInBounds_toArray,List.set_cons_zero,List.set_cons_succ,i64_w,i32_w]
  rfl
 refine done_ (done_of HT_.out (by kernel_rfl)) ?_;try go_wp2_with (first|((with_reducible refine gate_callee (f:=17) rfl ?_);refine goesL_ (some 39) rfl rfl Try.func17 (by kernel_rfl) rfl #[.bool true] rfl (by(try simp only[List.map_toArray,List.map_cons,List.map_nil]);first|done|rfl|(simp only[List.length_drop,List.length_take];rfl)) ?_;(with_reducible refine(ebbtidelaw14_Line.calls true t160 t161 t162 _ A8.out).mono ?_);rintro e w34 ⟨v163,rfl,ho0,hb⟩;refine⟨_,rfl,?_⟩;have n0_:=Ya (Ys (by(with_reducible repeat(first|apply Yr|apply Yq|apply Yp));exact Wx.out) hb);have n1_:=Ya (Kd.R_elder' (by(with_reducible repeat(first|apply Yr|apply Yq|apply Yp));exact Vi.out) (Kd.R_base ho0) hb);have n2_:=Ya (Kd.R_elder' (by(with_reducible repeat(first|apply Yr|apply Yq|apply Yp));exact Ui.out) (Kd.R_base ho0) hb);have n3_:=Ya (Ys (by(with_reducible repeat(first|apply Yr|apply Yq|apply Yp));exact Uo.out) hb);have n4_:=Ya (Kd.R_elder' (by(with_reducible repeat(first|apply Yr|apply Yq|apply Yp));exact HO153.out) (Kd.R_base ho0) hb);have n5_:=Ya (Kd.R_lower (Kd.R_new' (Kd.R_new' (Kd.R_new' ho0 (Kd.R_lt (by(with_reducible repeat(first|apply Yr|apply Yq|apply Yp));exact Vi.out))) (Kd.R_lt (by(with_reducible repeat(first|apply Yr|apply Yq|apply Yp));exact Ui.out))) (Kd.R_lt (by(with_reducible repeat(first|apply Yr|apply Yq|apply Yp));exact HO153.out))) (Yi (by repeat(first|(with_reducible first|exact HB.out|apply Ye|apply Yd|apply Yg)|exact HB.out))));have n6_:=Ya (Yt (by repeat(first|(with_reducible exact Jl.out)|(with_reducible refine Kd.C_alloc ?_ _)|(with_reducible refine Kd.C_drewN ?_ _)|(with_reducible refine Kd.C_drew ?_)|exact Jl.out)) hb);have n7_:=Ya (Yk (by repeat(first|(with_reducible first|exact HB.out|apply Ye|apply Yd|apply Yg)|exact HB.out)) hb);clear Wx;clear Vi;clear Ui;clear Uo;clear HO153;clear Jl;clear HB;have Wx:=n0_;have Vi:=n1_;have Ui:=n2_;have Uo:=n3_;have HO153:=n4_;have HO164:=n5_;have Jl:=n6_;have HB:=n7_;clear n0_ n1_ n2_ n3_ n4_ n5_ n6_ n7_;(try clear hb);(try clear hb2);(try clear hk);(try clear hi);(try clear ho0))|((with_reducible refine gate_dst (N:=40) rfl ?_);refine Kd.R_lit (Kd.int .i64) _ 3 ?hg (N:=40) ?hd (xs:=([0,3,9]:List Int)) (inner:=[.int .i64 0, .int .i64 3, .int .i64 9]) (ok:=fun _=>True) (okp:=fun _=>True) ?hr ?hp (fun _ hk=>hk) trivial (Yo _ _) (Nat.le_refl _) (by simp) ?_;(case hd=>rfl);(case hg=>rfl);(case hr=>first|(go_simp;done)|(go_simp;rfl));(case hp=>exact(Reps.one (show Kd.M (Kd.int .i64) _ _ _ 0 [.int .i64 0] from rfl) (Reps.one (show Kd.M (Kd.int .i64) _ _ _ 3 [.int .i64 3] from rfl) (Reps.one (show Kd.M (Kd.int .i64) _ _ _ 9 [.int .i64 9] from rfl) (Reps.none _ _)))));intro v166 w35 ho36 hb hg_ hnew_;clear hg_ hnew_;(first|rw[← Ny165.out] at ho36|(simp only[Int.reduceToNat] at ho36;rw[← Ny165.out] at ho36));have n0_:=Ya (Ys (by(with_reducible repeat(first|apply Yr|apply Yq|apply Yp));exact Wx.out) hb);have n1_:=Ya (Ys (by(with_reducible repeat(first|apply Yr|apply Yq|apply Yp));exact Vi.out) hb);have n2_:=Ya (Ys (by(with_reducible repeat(first|apply Yr|apply Yq|apply Yp));exact Ui.out) hb);have n3_:=Ya (Ys (by(with_reducible repeat(first|apply Yr|apply Yq|apply Yp));exact Uo.out) hb);have n4_:=Ya (Ys (by(with_reducible repeat(first|apply Yr|apply Yq|apply Yp));exact HO153.out) hb);have n5_:=Ya (Ys (by(with_reducible repeat(first|apply Yr|apply Yq|apply Yp));exact HO164.out) hb);have n6_:=Ya (Kd.R_lower ho36 (Yi (by repeat(first|(with_reducible first|exact HB.out|apply Ye|apply Yd|apply Yg)|exact HB.out))));have n7_:=Ya (Yt (by repeat(first|(with_reducible exact Jl.out)|(with_reducible refine Kd.C_alloc ?_ _)|(with_reducible refine Kd.C_drewN ?_ _)|(with_reducible refine Kd.C_drew ?_)|exact Jl.out)) hb);have n8_:=Ya (Yk (by repeat(first|(with_reducible first|exact HB.out|apply Ye|apply Yd|apply Yg)|exact HB.out)) hb);clear Wx;clear Vi;clear Ui;clear Uo;clear HO153;clear HO164;clear Jl;clear HB;have Wx:=n0_;have Vi:=n1_;have Ui:=n2_;have Uo:=n3_;have HO153:=n4_;have HO164:=n5_;have HO167:=n6_;have Jl:=n7_;have HB:=n8_;clear n0_ n1_ n2_ n3_ n4_ n5_ n6_ n7_ n8_;clear hb ho36;obtain⟨Ao37,co37,eo37⟩:=Kd.R_slice HO164.out;subst eo37;obtain⟨Ao38,co38,eo38⟩:=Kd.R_slice HO167.out;subst eo38)|((with_reducible refine gate_callee (f:=18) rfl ?_);refine goesL_ (some 41) rfl rfl Try.func18 (by kernel_rfl) rfl #[.agg #[.int .i64 t160, .bool t161, .slice Ao37 t162.length co37], .int .i64 2, .slice Ao38 y165.length co38] rfl (by(try simp only[List.map_toArray,List.map_cons,List.map_nil]);first|done|rfl|(simp only[List.length_drop,List.length_take];rfl)) ?_;(with_reducible refine(timecut_From.calls k t160 t161 _ _ t162 2 _ _ y165 t168 t171 _ ?side1 ?side2 ?side3 ?side4 A9.out).mono ?_);(case side1=>repeat(first|exact(Kd.R_reads' HO164.out).2.2|(with_reducible refine Kd.C_alloc ?_ _)|(with_reducible refine Kd.C_drewN ?_ _)|(with_reducible refine Kd.C_drew ?_)));(case side2=>exact(Kd.R_reads' HO164.out).2.1);(case side3=>repeat(first|exact(Kd.R_reads' HO167.out).2.2|(with_reducible refine Kd.C_alloc ?_ _)|(with_reducible refine Kd.C_drewN ?_ _)|(with_reducible refine Kd.C_drew ?_)));(case side4=>exact(Kd.R_reads' HO167.out).2.1);rintro e w39 ⟨v169,rfl,ho0,hb⟩;refine⟨_,rfl,?_⟩;have n0_:=Ya (Kd.R_elder' (by(with_reducible repeat(first|apply Yr|apply Yq|apply Yp));exact Wx.out) (Kd.R_base ho0) hb);have n1_:=Ya (Ys (by(with_reducible repeat(first|apply Yr|apply Yq|apply Yp));exact Vi.out) hb);have n2_:=Ya (Ys (by(with_reducible repeat(first|apply Yr|apply Yq|apply Yp));exact Ui.out) hb);have n3_:=Ya (Kd.R_elder' (by(with_reducible repeat(first|apply Yr|apply Yq|apply Yp));exact Uo.out) (Kd.R_base ho0) hb);have n4_:=Ya (Ys (by(with_reducible repeat(first|apply Yr|apply Yq|apply Yp));exact HO153.out) hb);have n5_:=Ya (Ys (by(with_reducible repeat(first|apply Yr|apply Yq|apply Yp));exact HO164.out) hb);have n6_:=Ya (Ys (by(with_reducible repeat(first|apply Yr|apply Yq|apply Yp));exact HO167.out) hb);have n7_:=Ya (Kd.R_lower (Kd.R_new' (Kd.R_new' ho0 (Kd.R_lt (by(with_reducible repeat(first|apply Yr|apply Yq|apply Yp));exact Wx.out))) (Kd.R_lt (by(with_reducible repeat(first|apply Yr|apply Yq|apply Yp));exact Uo.out))) (Yi (by repeat(first|(with_reducible first|exact HB.out|apply Ye|apply Yd|apply Yg)|exact HB.out))));have n8_:=Ya (Yt (by repeat(first|(with_reducible exact Jl.out)|(with_reducible refine Kd.C_alloc ?_ _)|(with_reducible refine Kd.C_drewN ?_ _)|(with_reducible refine Kd.C_drew ?_)|exact Jl.out)) hb);have n9_:=Ya (Yk (by repeat(first|(with_reducible first|exact HB.out|apply Ye|apply Yd|apply Yg)|exact HB.out)) hb);clear Wx;clear Vi;clear Ui;clear Uo;clear HO153;clear HO164;clear HO167;clear Jl;clear HB;have Wx:=n0_;have Vi:=n1_;have Ui:=n2_;have Uo:=n3_;have HO153:=n4_;have HO164:=n5_;have HO167:=n6_;have HO170:=n7_;have Jl:=n8_;have HB:=n9_;clear n0_ n1_ n2_ n3_ n4_ n5_ n6_ n7_ n8_ n9_;(try clear hb);(try clear hb2);(try clear hk);(try clear hi);(try clear ho0);obtain⟨Ao40,co40,eo40⟩:=Kd.R_slice HO170.out;subst eo40)|(go_at_call 19;(with_reducible refine(ebbtideref03_SameSlots.calls k _ _ t168 _ _ y129 t172 _ ?side1 ?side2 ?side3 ?side4 A16.out).mono ?_);(case side1=>repeat(first|exact(Kd.R_reads' HO170.out).2.2|(with_reducible refine Kd.C_alloc ?_ _)|(with_reducible refine Kd.C_drewN ?_ _)|(with_reducible refine Kd.C_drew ?_)));(case side2=>exact(Kd.R_reads' HO170.out).2.1);(case side3=>repeat(first|exact(Kd.R_reads' Wx.out).2.2|(with_reducible refine Kd.C_alloc ?_ _)|(with_reducible refine Kd.C_drewN ?_ _)|(with_reducible refine Kd.C_drew ?_)));(case side4=>exact(Kd.R_reads' Wx.out).2.1);rintro e w' ⟨rfl,⟨nd,rfl⟩⟩))
 go_ret;exact⟨by first|rfl|(simp[errW_none,errW_some]<;>rfl)|(simp[*,errW_none,errW_some]<;>rfl),by repeat(first|(with_reducible first|exact HB.out|apply Ye|apply Yd|apply Yg)|exact HB.out)⟩
end P
end Go.Proofs.Ytjaoknhhoicigaa
