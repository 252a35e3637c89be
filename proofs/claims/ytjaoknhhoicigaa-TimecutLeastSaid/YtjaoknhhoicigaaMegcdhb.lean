/- What the law's row needs of these texts, taken out of them by wip/tool/mini.py: P42 P43 P44 P45 P46 P47. -/
import Derived.Test.YtjaoknhhoicigaaMaoiegm
import Derived.Test.YtjaoknhhoicigaaMaaiadp
set_option linter.unusedVariables false
set_option linter.unusedSimpArgs false
open Go.RowKit Go.Proofs.YtjaoknhhoicigaaW.PrintWords Go.Proofs.YtjaoknhhoicigaaW.PrintLast Go.Proofs.YtjaoknhhoicigaaW.PrintMore
namespace Go.Proofs.Ytjaoknhhoicigaa
namespace P
attribute [local go_sem] max2_int min2_int max_two min_two max_three min_three max_four min_four
def ebbtideref15_Asked.f (k:Nat) (Zb:Int) (Zc:Bool) (Za:List (S73)) (a1:Int) (a2:Int) (a3:Int):Option (Int):=(ebbtideref12_Asked.f k Zb Zc Za a1 a2 a3).bind fun t408=>(if t408=0 then((ebbtideref15_Fits.f k Zb Zc Za a3).bind fun t409=>(if t409=true then(some 0) else(some 2))) else(some t408))
set_option maxHeartbeats 8000000 in
set_option maxRecDepth 100000 in
theorem ebbtideref15_Asked.calls (k:Nat) (Zb:Int) (Zc:Bool) (Ze:Option Addr) (Zd:Nat) (Za:List (S73)) (a1:Int) (a2:Int) (a3:Int) (r:Int) (w:World) (Zx:Kd.C k73 w Ze Za.length Za) (Zy:Za.length≤Zd) (h:ebbtideref15_Asked.f k Zb Zc Za a1 a2 a3=some r):
  Calls Try.prog 38 #[.agg #[.int .i64 Zb, .bool Zc, .slice Ze Za.length Zd], .int .i64 a1, .int .i64 a2, .int .i64 a3] w fun e w'=>e= .returned (.int .i64 r)∧Below w.heap.size w w':=by
 have hu32:=Try.underlying32;have Zo:=Ya Zx;have Zz:=Ya Zy;clear Zx Zy;have HB:=Ya (Yo w.heap.size w);have H:((ebbtideref12_Asked.f k Zb Zc Za a1 a2 a3).bind fun t408=>(if t408=0 then((ebbtideref15_Fits.f k Zb Zc Za a3).bind fun t409=>(if t409=true then(some 0) else(some 2))) else(some t408)))=some r:=h;clear h;replace H:=Option.bind_eq_some_iff.mp H;obtain⟨t408,A50,H⟩:=H;replace H:(if t408=0 then((ebbtideref15_Fits.f k Zb Zc Za a3).bind fun t409=>(if t409=true then(some 0) else(some 2))) else(some t408))=some r:=H;have A5:=Ya A50;clear A50;by_cases c6:t408=0
 rotate_left
 ·rw[Yy c6] at H
  have c6b0:(t408 == 0)=false:=beq_eq_false_iff_ne.mpr c6;have c6b1:(t408 != 0)=true:=bne_iff_ne.mpr c6;obtain rfl:=Option.some.inj H;go_enter Try.func38,Try.ntmps38;go_wp2_with (first|((with_reducible refine gate_dst (N:=4) rfl ?_);refine Yz ?hg (N:=4) ?hd (cs:= #[.int .i64 Zb, .bool Zc, .slice Ze Za.length Zd]) (t:=32) ?hr ?_;(case hd=>rfl);(case hg=>rfl);(case hr=>first|(go_simp;done)|(go_simp;rfl));intro Uu hg w19 Zf hb;have n0_:=Ya (Yk (by repeat(first|(with_reducible first|exact HB.out|apply Ye|apply Yd|apply Yg)|exact HB.out)) hb);have n1_:=Ya (Zf);have n2_:=Ya ((by rw[hg];exact(Yi (by repeat(first|(with_reducible first|exact HB.out|apply Ye|apply Yd|apply Yg)|exact HB.out))):w.heap.size≤Uu));have n3_:=Ya ((by rw[hg];exact(Yi (by repeat(first|(with_reducible first|exact HB.out|apply Ye|apply Yd|apply Yg)|exact HB.out))):w.heap.size≤Uu));clear HB;have HB:=n0_;have Wf:=n1_;have GW407:=n2_;have GE407:=n3_;clear n0_ n1_ n2_ n3_;clear hb Zf hg;have hcz20_0:w19.cell? ⟨Uu,0,none⟩=some (.int .i64 Zb):=(Yc Wf.out 0).trans rfl;have hcz20_1:w19.cell? ⟨Uu,1,none⟩=some (.bool Zc):=(Yc Wf.out 1).trans rfl;have hcz20_2:w19.cell? ⟨Uu,2,none⟩=some (.slice Ze Za.length Zd):=(Yc Wf.out 2).trans rfl;have hfz20_0:=Yf Wf.out 0;have hfz20_1:=Yf Wf.out 1;have hfz20_2:=Yf Wf.out 2)|((with_reducible refine gate_callee (f:=46) rfl ?_);refine goesL_ (some 14) rfl rfl Try.func46 (by kernel_rfl) rfl #[.agg #[.int .i64 Zb, .bool Zc, .slice Ze Za.length Zd], .int .i64 a1, .int .i64 a2, .int .i64 a3] rfl (by(try simp only[List.map_toArray,List.map_cons,List.map_nil]);first|done|rfl|(simp only[List.length_drop,List.length_take];rfl)) ?_;(with_reducible refine(ebbtideref12_Asked.calls k Zb Zc _ _ Za a1 a2 a3 t408 _ ?side1 ?side2 A5.out).mono ?_);(case side1=>repeat(first|exact(Yt Zo.out HB.out)|(with_reducible refine Kd.C_alloc ?_ _)|(with_reducible refine Kd.C_drewN ?_ _)|(with_reducible refine Kd.C_drew ?_)));(case side2=>exact Zz.out);rintro e w21 ⟨rfl,hb⟩;refine⟨_,rfl,?_⟩;have n0_:=Ya (Yn (g:=Uu) (o:= .cells #[.int .i64 Zb, .bool Zc, .slice Ze Za.length Zd] 32 (0,0)) (by(with_reducible repeat(first|refine Yl ?_ _|refine Ym ?_|refine Yj ?_ _));exact Wf.out) hb);have n1_:=Ya (Yk (by repeat(first|(with_reducible first|exact HB.out|apply Ye|apply Yd|apply Yg|refine Yh ?_ GE407.out)|exact HB.out)) hb);clear Wf;clear HB;have Wf:=n0_;have HB:=n1_;clear n0_ n1_;(try clear hb);(try clear hb2);(try clear hk);(try clear hi)));go_ret;exact⟨by first|rfl|(simp[errW_none,errW_some]<;>rfl)|(simp[*,errW_none,errW_some]<;>rfl),by repeat(first|(with_reducible first|exact HB.out|apply Ye|apply Yd|apply Yg|refine Yh ?_ GE407.out)|exact HB.out)⟩
 rw[Yx c6] at H;have c6b0:(t408 == 0)=true:=beq_iff_eq.mpr c6;have c6b1:(t408 != 0)=false:=bne_eq_false_iff_eq.mpr c6;clear c6;replace H:=Option.bind_eq_some_iff.mp H;obtain⟨t409,A70,H⟩:=H;replace H:(if t409=true then(some 0) else(some 2))=some r:=H;have A7:=Ya A70;clear A70;by_cases c8:t409=true
 ·subst c8
  have H1:(some 0)=some r:=by first|(rw[Yx rfl] at H;exact H)|(rw[Yx trivial] at H;exact H)
  clear H;have H:=H1;clear H1;obtain rfl:=Option.some.inj H;go_enter Try.func38,Try.ntmps38;go_wp2_with (first|((with_reducible refine gate_dst (N:=4) rfl ?_);refine Yz ?hg (N:=4) ?hd (cs:= #[.int .i64 Zb, .bool Zc, .slice Ze Za.length Zd]) (t:=32) ?hr ?_;(case hd=>rfl);(case hg=>rfl);(case hr=>first|(go_simp;done)|(go_simp;rfl));intro Uu hg w9 Zf hb;have n0_:=Ya (Yk (by repeat(first|(with_reducible first|exact HB.out|apply Ye|apply Yd|apply Yg)|exact HB.out)) hb);have n1_:=Ya (Zf);have n2_:=Ya ((by rw[hg];exact(Yi (by repeat(first|(with_reducible first|exact HB.out|apply Ye|apply Yd|apply Yg)|exact HB.out))):w.heap.size≤Uu));have n3_:=Ya ((by rw[hg];exact(Yi (by repeat(first|(with_reducible first|exact HB.out|apply Ye|apply Yd|apply Yg)|exact HB.out))):w.heap.size≤Uu));clear HB;have HB:=n0_;have Wf:=n1_;have GW407:=n2_;have GE407:=n3_;clear n0_ n1_ n2_ n3_;clear hb Zf hg;have Ui:w9.cell? ⟨Uu,0,none⟩=some (.int .i64 Zb):=(Yc Wf.out 0).trans rfl;have Uj:w9.cell? ⟨Uu,1,none⟩=some (.bool Zc):=(Yc Wf.out 1).trans rfl;have hcz10_2:w9.cell? ⟨Uu,2,none⟩=some (.slice Ze Za.length Zd):=(Yc Wf.out 2).trans rfl;have Uk:=Yf Wf.out 0;have Ul:=Yf Wf.out 1;have hfz10_2:=Yf Wf.out 2)|((with_reducible refine gate_callee (f:=46) rfl ?_);refine goesL_ (some 14) rfl rfl Try.func46 (by kernel_rfl) rfl #[.agg #[.int .i64 Zb, .bool Zc, .slice Ze Za.length Zd], .int .i64 a1, .int .i64 a2, .int .i64 a3] rfl (by(try simp only[List.map_toArray,List.map_cons,List.map_nil]);first|done|rfl|(simp only[List.length_drop,List.length_take];rfl)) ?_;(with_reducible refine(ebbtideref12_Asked.calls k Zb Zc _ _ Za a1 a2 a3 t408 _ ?side1 ?side2 A5.out).mono ?_);(case side1=>repeat(first|exact(Yt Zo.out HB.out)|(with_reducible refine Kd.C_alloc ?_ _)|(with_reducible refine Kd.C_drewN ?_ _)|(with_reducible refine Kd.C_drew ?_)));(case side2=>exact Zz.out);rintro e w11 ⟨rfl,hb⟩;refine⟨_,rfl,?_⟩;have n0_:=Ya (Yn (g:=Uu) (o:= .cells #[.int .i64 Zb, .bool Zc, .slice Ze Za.length Zd] 32 (0,0)) (by(with_reducible repeat(first|refine Yl ?_ _|refine Ym ?_|refine Yj ?_ _));exact Wf.out) hb);have n1_:=Ya (Yk (by repeat(first|(with_reducible first|exact HB.out|apply Ye|apply Yd|apply Yg|refine Yh ?_ GE407.out)|exact HB.out)) hb);clear Wf;clear HB;have Wf:=n0_;have HB:=n1_;clear n0_ n1_;(try clear hb);(try clear hb2);(try clear hk);(try clear hi);have hcz12_0:w11.cell? ⟨Uu,0,none⟩=some (.int .i64 Zb):=(Yc Wf.out 0).trans rfl;have hcz12_1:w11.cell? ⟨Uu,1,none⟩=some (.bool Zc):=(Yc Wf.out 1).trans rfl;have hcz12_2:w11.cell? ⟨Uu,2,none⟩=some (.slice Ze Za.length Zd):=(Yc Wf.out 2).trans rfl;have hfz12_0:=Yf Wf.out 0;have hfz12_1:=Yf Wf.out 1;have hfz12_2:=Yf Wf.out 2)|((with_reducible refine gate_callee (f:=49) rfl ?_);refine goesL_ (some 20) rfl rfl Try.func49 (by kernel_rfl) rfl #[.agg #[.int .i64 Zb, .bool Zc, .slice Ze Za.length Zd], .int .i64 a3] rfl (by(try simp only[List.map_toArray,List.map_cons,List.map_nil]);first|done|rfl|(simp only[List.length_drop,List.length_take];rfl)) ?_;(with_reducible refine(ebbtideref15_Fits.calls k Zb Zc _ _ Za a3 true _ ?side1 ?side2 A7.out).mono ?_);(case side1=>repeat(first|exact(Yt Zo.out HB.out)|(with_reducible refine Kd.C_alloc ?_ _)|(with_reducible refine Kd.C_drewN ?_ _)|(with_reducible refine Kd.C_drew ?_)));(case side2=>exact Zz.out);rintro e w13 ⟨rfl,hb⟩;refine⟨_,rfl,?_⟩;have n0_:=Ya (Yn (g:=Uu) (o:= .cells #[.int .i64 Zb, .bool Zc, .slice Ze Za.length Zd] 32 (0,0)) (by(with_reducible repeat(first|refine Yl ?_ _|refine Ym ?_|refine Yj ?_ _));exact Wf.out) hb);have n1_:=Ya (Yk (by repeat(first|(with_reducible first|exact HB.out|apply Ye|apply Yd|apply Yg|refine Yh ?_ GE407.out)|exact HB.out)) hb);clear Wf;clear HB;have Wf:=n0_;have HB:=n1_;clear n0_ n1_;(try clear hb);(try clear hb2);(try clear hk);(try clear hi)));go_ret;exact⟨by first|rfl|(simp[errW_none,errW_some]<;>rfl)|(simp[*,errW_none,errW_some]<;>rfl),by repeat(first|(with_reducible first|exact HB.out|apply Ye|apply Yd|apply Yg|refine Yh ?_ GE407.out)|exact HB.out)⟩
 replace c8:=Bool.eq_false_iff.mpr c8;subst c8;have H1:(some 2)=some r:=by rw[Yy (show ¬ (false=true) by decide)] at H;exact H
 clear H;have H:=H1;clear H1;obtain rfl:=Option.some.inj H;go_enter Try.func38,Try.ntmps38;go_wp2_with (first|((with_reducible refine gate_dst (N:=4) rfl ?_);refine Yz ?hg (N:=4) ?hd (cs:= #[.int .i64 Zb, .bool Zc, .slice Ze Za.length Zd]) (t:=32) ?hr ?_;(case hd=>rfl);(case hg=>rfl);(case hr=>first|(go_simp;done)|(go_simp;rfl));intro Uu hg w14 Zf hb;have n0_:=Ya (Yk (by repeat(first|(with_reducible first|exact HB.out|apply Ye|apply Yd|apply Yg)|exact HB.out)) hb);have n1_:=Ya (Zf);have n2_:=Ya ((by rw[hg];exact(Yi (by repeat(first|(with_reducible first|exact HB.out|apply Ye|apply Yd|apply Yg)|exact HB.out))):w.heap.size≤Uu));have n3_:=Ya ((by rw[hg];exact(Yi (by repeat(first|(with_reducible first|exact HB.out|apply Ye|apply Yd|apply Yg)|exact HB.out))):w.heap.size≤Uu));clear HB;have HB:=n0_;have Wf:=n1_;have GW407:=n2_;have GE407:=n3_;clear n0_ n1_ n2_ n3_;clear hb Zf hg;have hcz15_0:w14.cell? ⟨Uu,0,none⟩=some (.int .i64 Zb):=(Yc Wf.out 0).trans rfl;have hcz15_1:w14.cell? ⟨Uu,1,none⟩=some (.bool Zc):=(Yc Wf.out 1).trans rfl;have hcz15_2:w14.cell? ⟨Uu,2,none⟩=some (.slice Ze Za.length Zd):=(Yc Wf.out 2).trans rfl;have hfz15_0:=Yf Wf.out 0;have hfz15_1:=Yf Wf.out 1;have hfz15_2:=Yf Wf.out 2)|((with_reducible refine gate_callee (f:=46) rfl ?_);refine goesL_ (some 14) rfl rfl Try.func46 (by kernel_rfl) rfl #[.agg #[.int .i64 Zb, .bool Zc, .slice Ze Za.length Zd], .int .i64 a1, .int .i64 a2, .int .i64 a3] rfl (by(try simp only[List.map_toArray,List.map_cons,List.map_nil]);first|done|rfl|(simp only[List.length_drop,List.length_take];rfl)) ?_;(with_reducible refine(ebbtideref12_Asked.calls k Zb Zc _ _ Za a1 a2 a3 t408 _ ?side1 ?side2 A5.out).mono ?_);(case side1=>repeat(first|exact(Yt Zo.out HB.out)|(with_reducible refine Kd.C_alloc ?_ _)|(with_reducible refine Kd.C_drewN ?_ _)|(with_reducible refine Kd.C_drew ?_)));(case side2=>exact Zz.out);rintro e w16 ⟨rfl,hb⟩;refine⟨_,rfl,?_⟩;have n0_:=Ya (Yn (g:=Uu) (o:= .cells #[.int .i64 Zb, .bool Zc, .slice Ze Za.length Zd] 32 (0,0)) (by(with_reducible repeat(first|refine Yl ?_ _|refine Ym ?_|refine Yj ?_ _));exact Wf.out) hb);have n1_:=Ya (Yk (by repeat(first|(with_reducible first|exact HB.out|apply Ye|apply Yd|apply Yg|refine Yh ?_ GE407.out)|exact HB.out)) hb);clear Wf;clear HB;have Wf:=n0_;have HB:=n1_;clear n0_ n1_;(try clear hb);(try clear hb2);(try clear hk);(try clear hi);have Vj:w16.cell? ⟨Uu,0,none⟩=some (.int .i64 Zb):=(Yc Wf.out 0).trans rfl;have Vk:w16.cell? ⟨Uu,1,none⟩=some (.bool Zc):=(Yc Wf.out 1).trans rfl;have hcz17_2:w16.cell? ⟨Uu,2,none⟩=some (.slice Ze Za.length Zd):=(Yc Wf.out 2).trans rfl;have Vl:=Yf Wf.out 0;have Vm:=Yf Wf.out 1;have hfz17_2:=Yf Wf.out 2)|((with_reducible refine gate_callee (f:=49) rfl ?_);refine goesL_ (some 20) rfl rfl Try.func49 (by kernel_rfl) rfl #[.agg #[.int .i64 Zb, .bool Zc, .slice Ze Za.length Zd], .int .i64 a3] rfl (by(try simp only[List.map_toArray,List.map_cons,List.map_nil]);first|done|rfl|(simp only[List.length_drop,List.length_take];rfl)) ?_;(with_reducible refine(ebbtideref15_Fits.calls k Zb Zc _ _ Za a3 false _ ?side1 ?side2 A7.out).mono ?_);(case side1=>repeat(first|exact(Yt Zo.out HB.out)|(with_reducible refine Kd.C_alloc ?_ _)|(with_reducible refine Kd.C_drewN ?_ _)|(with_reducible refine Kd.C_drew ?_)));(case side2=>exact Zz.out);rintro e w18 ⟨rfl,hb⟩;refine⟨_,rfl,?_⟩;have n0_:=Ya (Yn (g:=Uu) (o:= .cells #[.int .i64 Zb, .bool Zc, .slice Ze Za.length Zd] 32 (0,0)) (by(with_reducible repeat(first|refine Yl ?_ _|refine Ym ?_|refine Yj ?_ _));exact Wf.out) hb);have n1_:=Ya (Yk (by repeat(first|(with_reducible first|exact HB.out|apply Ye|apply Yd|apply Yg|refine Yh ?_ GE407.out)|exact HB.out)) hb);clear Wf;clear HB;have Wf:=n0_;have HB:=n1_;clear n0_ n1_;(try clear hb);(try clear hb2);(try clear hk);(try clear hi)));go_ret;exact⟨by first|rfl|(simp[errW_none,errW_some]<;>rfl)|(simp[*,errW_none,errW_some]<;>rfl),by repeat(first|(with_reducible first|exact HB.out|apply Ye|apply Yd|apply Yg|refine Yh ?_ GE407.out)|exact HB.out)⟩
end P
namespace P
attribute [local go_sem] max2_int min2_int max_two min_two max_three min_three max_four min_four
mutual
def ebbtideref15_Arcs.l0:Nat→Int→Int→Int→List (S73)→List (S107)→Int→Int→Int→Bool→List (S73)→Option ((List (S73)) × (List (S107)))
 |0,_,_,_,_,_,_,_,_,_,_=>none
 |k+1,x1,x2,x3,x10,x11,x12,x13,Uw,Um,Wt=>if x13≤x3 then(ebbtideref15_Arcs.l1 k x1 x2 x3 x10 x11 x12 x13 0 Uw Um Wt) else(ebbtideref15_Arcs.l3 k x1 x2 x3 x10 x11 x12 0)
def ebbtideref15_Arcs.l1:Nat→Int→Int→Int→List (S73)→List (S107)→Int→Int→Int→Int→Bool→List (S73)→Option ((List (S73)) × (List (S107)))
 |0,_,_,_,_,_,_,_,_,_,_,_=>none
 |k+1,x1,x2,x3,x10,x11,x12,x13,x14,Uw,Um,Wt=>if x14<(Wt.length:Int) then(if 0≤x14 then(if (wrap64 (x13+((rd_T73 Wt x14).f3)))≤x3 then(if ((rd_T73 Wt x14).f1)=x1 then(ebbtideref15_Arcs.l1 k x1 x2 x3 x10 x11 x12 x13 (wrap64 (x14+1)) Uw Um Wt) else(if ((rd_T73 Wt x14).f0)=x2 then(ebbtideref15_Arcs.l1 k x1 x2 x3 x10 x11 x12 x13 (wrap64 (x14+1)) Uw Um Wt) else(if x10.length<4398046511104 then(if x11.length<4398046511104 then(ebbtideref15_Arcs.l1 k x1 x2 x3 (x10 ++ [(⟨wrap64 ((wrap64 (x13 * x12))+((rd_T73 Wt x14).f0)),wrap64 ((wrap64 ((wrap64 (x13+((rd_T73 Wt x14).f3))) * x12))+((rd_T73 Wt x14).f1)),(rd_T73 Wt x14).f2,0⟩:S73)]) (x11 ++ [(⟨true,false,x14,0,x13⟩:S107)]) x12 x13 (wrap64 (x14+1)) Uw Um Wt) else(none)) else(none)))) else(ebbtideref15_Arcs.l1 k x1 x2 x3 x10 x11 x12 x13 (wrap64 (x14+1)) Uw Um Wt)) else(none)) else(ebbtideref15_Arcs.l2 k x1 x2 x3 x10 x11 x12 x13 0 Uw Um Wt)
def ebbtideref15_Arcs.l2:Nat→Int→Int→Int→List (S73)→List (S107)→Int→Int→Int→Int→Bool→List (S73)→Option ((List (S73)) × (List (S107)))
 |0,_,_,_,_,_,_,_,_,_,_,_=>none
 |k+1,x1,x2,x3,x10,x11,x12,x13,x16,Uw,Um,Wt=>if x16<x12 then(if Um=true then(ebbtideref15_Arcs.j3 k x1 x2 x3 x10 x11 x12 x13 x16 (decide (x13<x3)) Uw Um Wt) else(ebbtideref15_Arcs.j3 k x1 x2 x3 x10 x11 x12 x13 x16 false Uw Um Wt)) else(ebbtideref15_Arcs.j3 k x1 x2 x3 x10 x11 x12 x13 x16 false Uw Um Wt)
def ebbtideref15_Arcs.j3:Nat→Int→Int→Int→List (S73)→List (S107)→Int→Int→Int→Bool→Int→Bool→List (S73)→Option ((List (S73)) × (List (S107)))
 |0,_,_,_,_,_,_,_,_,_,_,_,_=>none
 |k+1,x1,x2,x3,x10,x11,x12,x13,x16,x94,Uw,Um,Wt=>if x94=true then(if x16=x1 then(ebbtideref15_Arcs.l2 k x1 x2 x3 x10 x11 x12 x13 (wrap64 (x16+1)) Uw Um Wt) else(if x16=x2 then(ebbtideref15_Arcs.l2 k x1 x2 x3 x10 x11 x12 x13 (wrap64 (x16+1)) Uw Um Wt) else(if x10.length<4398046511104 then(if x11.length<4398046511104 then(ebbtideref15_Arcs.l2 k x1 x2 x3 (x10 ++ [(⟨wrap64 ((wrap64 (x13 * x12))+x16),wrap64 ((wrap64 ((wrap64 (x13+1)) * x12))+x16),1099511627776,0⟩:S73)]) (x11 ++ [(⟨false,true,0,x16,x13⟩:S107)]) x12 x13 (wrap64 (x16+1)) Uw Um Wt) else(none)) else(none)))) else(ebbtideref15_Arcs.l0 k x1 x2 x3 x10 x11 x12 (wrap64 (x13+1)) Uw Um Wt)
def ebbtideref15_Arcs.l3:Nat→Int→Int→Int→List (S73)→List (S107)→Int→Int→Option ((List (S73)) × (List (S107)))
 |0,_,_,_,_,_,_,_=>none
 |k+1,x1,x2,x3,x10,x11,x12,x17=>if x17≤x3 then(if x10.length<4398046511104 then(if x11.length<4398046511104 then(ebbtideref15_Arcs.l3 k x1 x2 x3 (x10 ++ [(⟨wrap64 ((wrap64 (x3+1)) * x12),wrap64 ((wrap64 (x17 * x12))+x1),1099511627776,0⟩:S73)]) (x11 ++ [(⟨false,false,0,x1,x17⟩:S107)]) x12 (wrap64 (x17+1))) else(none)) else(none)) else(ebbtideref15_Arcs.l4 k x2 x3 x10 x11 x12 0)
def ebbtideref15_Arcs.l4:Nat→Int→Int→List (S73)→List (S107)→Int→Int→Option ((List (S73)) × (List (S107)))
 |0,_,_,_,_,_,_=>none
 |k+1,x2,x3,x10,x11,x12,x18=>if x18≤x3 then(if x10.length<4398046511104 then(if x11.length<4398046511104 then(ebbtideref15_Arcs.l4 k x2 x3 (x10 ++ [(⟨wrap64 ((wrap64 (x18 * x12))+x2),wrap64 ((wrap64 ((wrap64 (x3+1)) * x12))+1),1099511627776,0⟩:S73)]) (x11 ++ [(⟨false,false,0,x2,x18⟩:S107)]) x12 (wrap64 (x18+1))) else(none)) else(none)) else(some (x10,x11))
end
def ebbtideref15_Arcs.f (k:Nat) (Zb:Int) (Zc:Bool) (Za:List (S73)) (a1:Int) (a2:Int) (a3:Int):Option ((List (S73)) × (List (S107))):=ebbtideref15_Arcs.l0 k a1 a2 a3 ([]:List (S73)) ([]:List (S107)) Zb 0 Zb Zc Za
set_option maxHeartbeats 8000000 in
set_option maxRecDepth 100000 in
theorem ebbtideref15_Arcs.calls (k:Nat) (Zb:Int) (Zc:Bool) (Ze:Option Addr) (Zd:Nat) (Za:List (S73)) (a1:Int) (a2:Int) (a3:Int) (r1:List (S73)) (r2:List (S107)) (w:World) (Zx:Kd.C k73 w Ze Za.length Za) (Zy:Za.length≤Zd) (h:ebbtideref15_Arcs.f k Zb Zc Za a1 a2 a3=some (r1,r2)):
  Calls Try.prog 39 #[.agg #[.int .i64 Zb, .bool Zc, .slice Ze Za.length Zd], .int .i64 a1, .int .i64 a2, .int .i64 a3] w fun e w'=> ∃ v0_ v1_:Value,e= .returned (.tuple #[v0_,v1_])∧Kd.R k73 73 w' w.heap.size (fun _=>True) v0_ r1∧Kd.R k107 107 w' w.heap.size (fun _=>True) v1_ r2∧Below w.heap.size w w':=by
 have hu32:=Try.underlying32;have hu73:=Try.underlying73;have hu107:=Try.underlying107;have Zo:=Ya Zx;have Zz:=Ya Zy;clear Zx Zy;have HB:=Ya (Yo w.heap.size w);have H:(ebbtideref15_Arcs.l0 k a1 a2 a3 ([]:List (S73)) ([]:List (S107)) Zb 0 Zb Zc Za)=some (r1,r2):=h;clear h;have H':=Ya H;clear H;go_enter Try.func39,Try.ntmps39;go_wp2_with (first|((with_reducible refine gate_dst (N:=4) rfl ?_);refine Yz ?hg (N:=4) ?hd (cs:= #[.int .i64 Zb, .bool Zc, .slice Ze Za.length Zd]) (t:=32) ?hr ?_;(case hd=>rfl);(case hg=>rfl);(case hr=>first|(go_simp;done)|(go_simp;rfl));intro Xq hg w5 Zf hb;have n0_:=Ya (Yk (by repeat(first|(with_reducible first|exact HB.out|apply Ye|apply Yd|apply Yg)|exact HB.out)) hb);have n1_:=Ya (Zf);have n2_:=Ya ((by rw[hg];exact(Yi (by repeat(first|(with_reducible first|exact HB.out|apply Ye|apply Yd|apply Yg)|exact HB.out))):w.heap.size≤Xq));have n3_:=Ya ((by rw[hg];exact(Yi (by repeat(first|(with_reducible first|exact HB.out|apply Ye|apply Yd|apply Yg)|exact HB.out))):w.heap.size≤Xq));clear HB;have HB:=n0_;have Zj:=n1_;have GW410:=n2_;have Wg:=n3_;clear n0_ n1_ n2_ n3_;clear hb Zf hg;have hcz6_0:w5.cell? ⟨Xq,0,none⟩=some (.int .i64 Zb):=(Yc Zj.out 0).trans rfl;have hcz6_1:w5.cell? ⟨Xq,1,none⟩=some (.bool Zc):=(Yc Zj.out 1).trans rfl;have hcz6_2:w5.cell? ⟨Xq,2,none⟩=some (.slice Ze Za.length Zd):=(Yc Zj.out 2).trans rfl;have hfz6_0:=Yf Zj.out 0;have hfz6_1:=Yf Zj.out 1;have hfz6_2:=Yf Zj.out 2));go_loopg [10,11,13] k (fun kq v10 v11 v13 w'=> ∃ (x10_1:List (S73)) (Wv:List (S107)) (Xx:Int),v13= .int .i64 Xx∧Aside0 (ebbtideref15_Arcs.l0 kq a1 a2 a3 x10_1 Wv Zb Xx Zb Zc Za=some (r1,r2))∧Aside0 (kq≤k)∧Aside0 (Kd.R k73 73 w' w.heap.size (fun _=>True) v10 x10_1)∧Aside0 (Kd.R k107 107 w' w.heap.size (fun _=>True) v11 Wv)∧Aside0 (w'.heap[Xq]? =some (.cells #[.int .i64 Zb, .bool Zc,(.slice Ze Za.length Zd)] 32 (0,0)))∧Aside0 (Below w.heap.size w w'))
 case atStart=>exact⟨(([]:List (S73))),(([]:List (S107))),(0),(by first|rfl|(simp;done)|(simp[*];done)),H',⟨Nat.le_refl _⟩,⟨by first|exact Kd.R_nil _ _ _ _ _|exact Kd.N_nil _ _ _ _ _|exact Kd.V_nil _ _ _ _ _|exact Kd.Q_nil _ _ _ _ _|exact Kd.S_nil _ _ _ _ _⟩,⟨by first|exact Kd.R_nil _ _ _ _ _|exact Kd.N_nil _ _ _ _ _|exact Kd.V_nil _ _ _ _ _|exact Kd.Q_nil _ _ _ _ _|exact Kd.S_nil _ _ _ _ _⟩,⟨by(with_reducible repeat(first|refine Yl ?_ _|refine Ym ?_|refine Yj ?_ _));exact Zj.out⟩,⟨by repeat(first|(with_reducible first|exact HB.out|apply Ye|apply Yd|apply Yg|refine Yh ?_ Wg.out)|exact HB.out)⟩⟩
 case round=>
  clear H';try clear p2
  try clear c3
  try clear hcz6_0
  try clear hcz6_1
  try clear hcz6_2
  try clear hfz6_0
  try clear hfz6_1
  try clear hfz6_2
  obtain⟨x10_1,Wv,Xx,rfl,HA,HK1,HO_10,HO_11,Zj,HB⟩:=hrel;cases gk with
  |zero=>exact absurd HA.out (by simp[ebbtideref15_Arcs.l0])
  |succ k1=>
   have H:=HA.out;clear HA;simp only[ebbtideref15_Arcs.l0] at H;by_cases c7:Xx≤a3
   rotate_left
   ·rw[Yy c7] at H
    have c7b0:decide (Xx≤a3)=false:=Yw c7;clear c7;have H':=Ya H;clear H;go_wp2;go_loopg [10,11,17] k1 (fun kq v10 v11 v17 w'=> ∃ (Uy:List (S73)) (Xg:List (S107)) (x17_2:Int),v17= .int .i64 x17_2∧Aside0 (ebbtideref15_Arcs.l3 kq a1 a2 a3 Uy Xg Zb x17_2=some (r1,r2))∧Aside0 (kq≤k1)∧Aside0 (Kd.R k73 73 w' w.heap.size (fun _=>True) v10 Uy)∧Aside0 (Kd.R k107 107 w' w.heap.size (fun _=>True) v11 Xg)∧Aside0 (w'.heap[Xq]? =some (.cells #[.int .i64 Zb, .bool Zc,(.slice Ze Za.length Zd)] 32 (0,0)))∧Aside0 (Below w.heap.size w w'))
    case atStart=>exact⟨(x10_1),(Wv),(0),(by first|rfl|(simp;done)|(simp[*];done)),H',⟨Nat.le_refl _⟩,⟨by(with_reducible repeat(first|apply Yr|apply Yq|apply Yp));exact HO_10.out⟩,⟨by(with_reducible repeat(first|apply Yr|apply Yq|apply Yp));exact HO_11.out⟩,⟨by(with_reducible repeat(first|refine Yl ?_ _|refine Ym ?_|refine Yj ?_ _));exact Zj.out⟩,⟨by repeat(first|(with_reducible first|exact HB.out|apply Ye|apply Yd|apply Yg|refine Yh ?_ Wg.out)|exact HB.out)⟩⟩
    case round=>
     clear H';try clear c1
     try clear c2
     try clear p2
     try clear c3
     try clear c4
     try clear p4
     try clear q4
     try clear hx4
     try clear p6
     try clear c7
     try clear c7b0
     try clear c8
     try clear c8b0
     try clear c9
     try clear c9b0
     try clear c10
     try clear c10b0
     try clear c11
     try clear c11b0
     try clear c11b1
     try clear c14
     try clear c16
     try clear c16b0
     try clear c16b1
     try clear c19
     try clear c21
     try clear c22
     try clear c25
     try clear c31
     try clear c35
     try clear c35b0
     try clear c36
     try clear c39
     try clear c40
     try clear c40b0
     try clear c40b1
     try clear c41
     try clear c41b0
     try clear c41b1
     try clear p41
     try clear q41
     try clear hx41
     try clear c42
     try clear c43
     try clear hcz12_0
     try clear hcz12_1
     try clear hcz12_2
     try clear hcz15_0
     try clear hcz15_1
     try clear hcz15_2
     try clear hcz15_3
     try clear Vj
     try clear Vk
     try clear hcz17_2
     try clear hcz20_0
     try clear hcz20_1
     try clear hcz20_2
     try clear hcz20_3
     try clear hcz23_0
     try clear hcz23_1
     try clear hcz23_2
     try clear hcz26_0
     try clear hcz26_1
     try clear hcz26_2
     try clear hcz26_3
     try clear hcz29_0
     try clear hcz29_1
     try clear hcz29_2
     try clear hcz32_0
     try clear hcz32_1
     try clear hcz32_2
     try clear hcz32_3
     try clear hcz33_0
     try clear hcz33_1
     try clear hcz33_2
     try clear hcz37_0
     try clear hcz37_1
     try clear hcz37_2
     try clear hcz38_0
     try clear hcz38_1
     try clear hcz38_2
     try clear hcz6_0
     try clear hcz6_1
     try clear hcz6_2
     try clear hfz12_0
     try clear hfz12_1
     try clear hfz12_2
     try clear hfz15_0
     try clear hfz15_1
     try clear hfz15_2
     try clear hfz15_3
     try clear Vl
     try clear Vm
     try clear hfz17_2
     try clear hfz20_0
     try clear hfz20_1
     try clear hfz20_2
     try clear hfz20_3
     try clear hfz23_0
     try clear hfz23_1
     try clear hfz23_2
     try clear hfz26_0
     try clear hfz26_1
     try clear hfz26_2
     try clear hfz26_3
     try clear hfz29_0
     try clear hfz29_1
     try clear hfz29_2
     try clear hfz32_0
     try clear hfz32_1
     try clear hfz32_2
     try clear hfz32_3
     try clear hfz33_0
     try clear hfz33_1
     try clear hfz33_2
     try clear hfz37_0
     try clear hfz37_1
     try clear hfz37_2
     try clear hfz38_0
     try clear hfz38_1
     try clear hfz38_2
     try clear hfz6_0
     try clear hfz6_1
     try clear hfz6_2
     try clear Vu
     try clear Vv
     try clear Vw
     try clear Vx
     try clear p2
     try clear p4
     try clear p411
     try clear p6
     try clear q4
     try clear q411
     obtain⟨Uy,Xg,x17_2,rfl,HA,HK2,HO_10,HO_11,Zj,HB⟩:=hrel;cases gk with
     |zero=>exact absurd HA.out (by simp[ebbtideref15_Arcs.l3])
     |succ k2=>
      have H:=HA.out;clear HA;simp only[ebbtideref15_Arcs.l3] at H;by_cases c46:x17_2≤a3
      ·rw[Yx c46] at H
       have c46b0:decide (x17_2≤a3)=true:=Yv c46;clear c46;by_cases c47:Uy.length<4398046511104
       rotate_left
       ·rw[Yy c47] at H
        exact absurd H (by simp)
       rw[Yx c47] at H;have LMc47:=Ya c47;clear c47;obtain⟨y425,hy425⟩: ∃ y_:List (S73),y_=(Uy ++ [(⟨wrap64 ((wrap64 (a3+1)) * Zb),wrap64 ((wrap64 (x17_2 * Zb))+a1),1099511627776,0⟩:S73)]):=⟨_,rfl⟩;replace H:(if Xg.length<4398046511104 then(ebbtideref15_Arcs.l3 k2 a1 a2 a3 y425 (Xg ++ [(⟨false,false,0,a1,x17_2⟩:S107)]) Zb (wrap64 (x17_2+1))) else(none))=some (r1,r2):=by first|(rw[hy425];with_reducible exact H)|(have H2_:=(Option.bind_some _ _).symm.trans H;rw[hy425];with_reducible exact H2_)|(have H2_:=(Option.bind_some _ _).symm.trans H;with_reducible exact H2_)|with_reducible exact H|(rw[hy425];exact H)|exact H
       have Ny425:=Ya hy425;clear hy425;by_cases c48:Xg.length<4398046511104
       rotate_left
       ·rw[Yy c48] at H
        exact absurd H (by simp)
       rw[Yx c48] at H;have LMc48:=Ya c48;clear c48;obtain⟨y428,hy428⟩: ∃ y_:List (S107),y_=(Xg ++ [(⟨false,false,0,a1,x17_2⟩:S107)]):=⟨_,rfl⟩;replace H:(ebbtideref15_Arcs.l3 k2 a1 a2 a3 y425 y428 Zb (wrap64 (x17_2+1)))=some (r1,r2):=by first|(rw[hy428];with_reducible exact H)|(have H2_:=(Option.bind_some _ _).symm.trans H;rw[hy428];with_reducible exact H2_)|(have H2_:=(Option.bind_some _ _).symm.trans H;with_reducible exact H2_)|with_reducible exact H|(rw[hy428];exact H)|exact H
       have Ny428:=Ya hy428;clear hy428;have H':=Ya H;clear H;go_wp2_with (first|((with_reducible refine gate_builtin (b:= .append) (xs:= #[.tmp 131, .tmp 142]) rfl ?_);at_builtin;refine Kd.R_append k73 (w0:=w) w.heap.size rfl (.tmp 131) (.tmp 142) 30 73 (.agg #[(.int .i64 0),(.int .i64 0),(.int .i64 0),(.int .i64 0)]) 32 rfl Try.underlying30 info73 rfl (by decide) (by omega) u10 Uy (⟨wrap64 ((wrap64 (a3+1)) * Zb),wrap64 ((wrap64 (x17_2 * Zb))+a1),1099511627776,0⟩:S73) [.int .i64 (wrap64 ((wrap64 (a3+1)) * Zb)), .int .i64 (wrap64 ((wrap64 (x17_2 * Zb))+a1)), .int .i64 1099511627776, .int .i64 0] (fun _=>True) (fun _=>False) rfl rfl ?aP (fun _ hk=>hk.elim) ?aF ?aO ?aB ?aS ?aL ?_;(case aP=>exact k73_mkM _ _ _ (⟨wrap64 ((wrap64 (a3+1)) * Zb),wrap64 ((wrap64 (x17_2 * Zb))+a1),1099511627776,0⟩:S73));(case aB=>exact(by repeat(first|(with_reducible first|exact HB.out|apply Ye|apply Yd|apply Yg|refine Yh ?_ Wg.out)|exact HB.out)));(case aF=>exact(fun _ _=>trivial));(case aO=>exact(by(with_reducible repeat(first|apply Yr|apply Yq|apply Yp));exact HO_10.out));(case aS=>exact(Yi (by repeat(first|(with_reducible first|exact HB.out|apply Ye|apply Yd|apply Yg|refine Yh ?_ Wg.out)|exact HB.out))));(case aL=>have:=LMc47.out;omega);intro v426 w49 ho hb hg hat;rw[← Ny425.out] at ho;have n0_:=Ya (Kd.R_over' (by(with_reducible repeat(first|apply Yr|apply Yq|apply Yp));exact HO_11.out) (Kd.R_typed (by(with_reducible repeat(first|apply Yr|apply Yq|apply Yp));exact HO_10.out)) (by decide) hg);have n1_:=Ya (blk_grown (g:=Xq) (o:= .cells #[.int .i64 Zb, .bool Zc, .slice Ze Za.length Zd] 32 (0,0)) (by(with_reducible repeat(first|refine Yl ?_ _|refine Ym ?_|refine Yj ?_ _));exact Zj.out) hg (Kd.R_ne HO_10.out Zj.out (by decide)));have n2_:=Ya (hb);have n3_:=Ya (ho);clear HO_11;clear Zj;clear HB;clear HO_10;have HO_11:=n0_;have Zj:=n1_;have HB:=n2_;have HO427:=n3_;clear n0_ n1_ n2_ n3_;clear ho hb hg hat)|((with_reducible refine gate_builtin (b:= .append) (xs:= #[.tmp 144, .tmp 148]) rfl ?_);at_builtin;refine Kd.R_append k107 (w0:=w) w.heap.size rfl (.tmp 144) (.tmp 148) 93 107 (.agg #[(.bool false),(.bool false),(.int .i64 0),(.int .i64 0),(.int .i64 0)]) 32 rfl Try.underlying93 info107 rfl (by decide) (by omega) u11 Xg (⟨false,false,0,a1,x17_2⟩:S107) [.bool false, .bool false, .int .i64 0, .int .i64 a1, .int .i64 x17_2] (fun _=>True) (fun _=>False) rfl rfl ?aP (fun _ hk=>hk.elim) ?aF ?aO ?aB ?aS ?aL ?_;(case aP=>exact k107_mkM _ _ _ (⟨false,false,0,a1,x17_2⟩:S107));(case aB=>exact(by repeat(first|(with_reducible first|exact HB.out|apply Ye|apply Yd|apply Yg|refine Yh ?_ Wg.out)|exact HB.out)));(case aF=>exact(fun _ _=>trivial));(case aO=>exact(by(with_reducible repeat(first|apply Yr|apply Yq|apply Yp));exact HO_11.out));(case aS=>exact(Yi (by repeat(first|(with_reducible first|exact HB.out|apply Ye|apply Yd|apply Yg|refine Yh ?_ Wg.out)|exact HB.out))));(case aL=>have:=LMc48.out;omega);intro v429 w50 ho hb hg hat;rw[← Ny428.out] at ho;have n0_:=Ya (blk_grown (g:=Xq) (o:= .cells #[.int .i64 Zb, .bool Zc, .slice Ze Za.length Zd] 32 (0,0)) (by(with_reducible repeat(first|refine Yl ?_ _|refine Ym ?_|refine Yj ?_ _));exact Zj.out) hg (Kd.R_ne HO_11.out Zj.out (by decide)));have n1_:=Ya (Kd.R_over' (by(with_reducible repeat(first|apply Yr|apply Yq|apply Yp));exact HO427.out) (Kd.R_typed (by(with_reducible repeat(first|apply Yr|apply Yq|apply Yp));exact HO_11.out)) (by decide) hg);have n2_:=Ya (hb);have n3_:=Ya (ho);clear Zj;clear HO427;clear HB;clear HO_11;have Zj:=n0_;have HO427:=n1_;have HB:=n2_;have HO430:=n3_;clear n0_ n1_ n2_ n3_;clear ho hb hg hat));go_roundg k2
       case measure=>have:=HK1.out;have:=HK2.out;omega
       case rel=>exact⟨(y425),(y428),(wrap64 (x17_2+1)),(by first|rfl|(simp;done)|(simp[*];done)),H',⟨by have:=HK1.out;have:=HK2.out;omega⟩,⟨by(with_reducible repeat(first|apply Yr|apply Yq|apply Yp));exact HO427.out⟩,⟨by(with_reducible repeat(first|apply Yr|apply Yq|apply Yp));exact HO430.out⟩,⟨by(with_reducible repeat(first|refine Yl ?_ _|refine Ym ?_|refine Yj ?_ _));exact Zj.out⟩,⟨by repeat(first|(with_reducible first|exact HB.out|apply Ye|apply Yd|apply Yg|refine Yh ?_ Wg.out)|exact HB.out)⟩⟩
      rw[Yy c46] at H;have c46b0:decide (x17_2≤a3)=false:=Yw c46;clear c46;have H':=Ya H;clear H;go_wp2;go_loopg [10,11,18] k2 (fun kq v10 v11 v18 w'=> ∃ (Jv:List (S73)) (Un:List (S107)) (x18_3:Int),v18= .int .i64 x18_3∧Aside0 (ebbtideref15_Arcs.l4 kq a2 a3 Jv Un Zb x18_3=some (r1,r2))∧Aside0 (kq≤k2)∧Aside0 (Kd.R k73 73 w' w.heap.size (fun _=>True) v10 Jv)∧Aside0 (Kd.R k107 107 w' w.heap.size (fun _=>True) v11 Un)∧Aside0 (w'.heap[Xq]? =some (.cells #[.int .i64 Zb, .bool Zc,(.slice Ze Za.length Zd)] 32 (0,0)))∧Aside0 (Below w.heap.size w w'))
      case atStart=>exact⟨(Uy),(Xg),(0),(by first|rfl|(simp;done)|(simp[*];done)),H',⟨Nat.le_refl _⟩,⟨by(with_reducible repeat(first|apply Yr|apply Yq|apply Yp));exact HO_10.out⟩,⟨by(with_reducible repeat(first|apply Yr|apply Yq|apply Yp));exact HO_11.out⟩,⟨by(with_reducible repeat(first|refine Yl ?_ _|refine Ym ?_|refine Yj ?_ _));exact Zj.out⟩,⟨by repeat(first|(with_reducible first|exact HB.out|apply Ye|apply Yd|apply Yg|refine Yh ?_ Wg.out)|exact HB.out)⟩⟩
      case round=>
       clear H';try clear c1
       try clear c2
       try clear p2
       try clear c3
       try clear c4
       try clear p4
       try clear q4
       try clear hx4
       try clear p6
       try clear c7
       try clear c7b0
       try clear c8
       try clear c8b0
       try clear c9
       try clear c9b0
       try clear c10
       try clear c10b0
       try clear c11
       try clear c11b0
       try clear c11b1
       try clear c14
       try clear c16
       try clear c16b0
       try clear c16b1
       try clear c19
       try clear c21
       try clear c22
       try clear c25
       try clear c31
       try clear c35
       try clear c35b0
       try clear c36
       try clear c39
       try clear c40
       try clear c40b0
       try clear c40b1
       try clear c41
       try clear c41b0
       try clear c41b1
       try clear p41
       try clear q41
       try clear hx41
       try clear c42
       try clear c43
       try clear c46
       try clear c46b0
       try clear c47
       try clear c48
       try clear hcz12_0
       try clear hcz12_1
       try clear hcz12_2
       try clear hcz15_0
       try clear hcz15_1
       try clear hcz15_2
       try clear hcz15_3
       try clear Vj
       try clear Vk
       try clear hcz17_2
       try clear hcz20_0
       try clear hcz20_1
       try clear hcz20_2
       try clear hcz20_3
       try clear hcz23_0
       try clear hcz23_1
       try clear hcz23_2
       try clear hcz26_0
       try clear hcz26_1
       try clear hcz26_2
       try clear hcz26_3
       try clear hcz29_0
       try clear hcz29_1
       try clear hcz29_2
       try clear hcz32_0
       try clear hcz32_1
       try clear hcz32_2
       try clear hcz32_3
       try clear hcz33_0
       try clear hcz33_1
       try clear hcz33_2
       try clear hcz37_0
       try clear hcz37_1
       try clear hcz37_2
       try clear hcz38_0
       try clear hcz38_1
       try clear hcz38_2
       try clear hcz6_0
       try clear hcz6_1
       try clear hcz6_2
       try clear hfz12_0
       try clear hfz12_1
       try clear hfz12_2
       try clear hfz15_0
       try clear hfz15_1
       try clear hfz15_2
       try clear hfz15_3
       try clear Vl
       try clear Vm
       try clear hfz17_2
       try clear hfz20_0
       try clear hfz20_1
       try clear hfz20_2
       try clear hfz20_3
       try clear hfz23_0
       try clear hfz23_1
       try clear hfz23_2
       try clear hfz26_0
       try clear hfz26_1
       try clear hfz26_2
       try clear hfz26_3
       try clear hfz29_0
       try clear hfz29_1
       try clear hfz29_2
       try clear hfz32_0
       try clear hfz32_1
       try clear hfz32_2
       try clear hfz32_3
       try clear hfz33_0
       try clear hfz33_1
       try clear hfz33_2
       try clear hfz37_0
       try clear hfz37_1
       try clear hfz37_2
       try clear hfz38_0
       try clear hfz38_1
       try clear hfz38_2
       try clear hfz6_0
       try clear hfz6_1
       try clear hfz6_2
       try clear Vu
       try clear Vv
       try clear Vw
       try clear Vx
       try clear p2
       try clear p4
       try clear p41
       try clear p411
       try clear p6
       try clear q4
       try clear q41
       try clear q411
       obtain⟨Jv,Un,x18_3,rfl,HA,HK3,HO_10,HO_11,Zj,HB⟩:=hrel;cases gk with
       |zero=>exact absurd HA.out (by simp[ebbtideref15_Arcs.l4])
       |succ k3=>
        have H:=HA.out;clear HA;simp only[ebbtideref15_Arcs.l4] at H;by_cases c51:x18_3≤a3
        rotate_left
        ·rw[Yy c51] at H
         have c51b0:decide (x18_3≤a3)=false:=Yw c51;clear c51;simp only[Option.some.injEq,Prod.mk.injEq] at H;obtain⟨rfl,rfl⟩:=H;go_wp2;go_ret2;exact⟨_,_,by first|rfl|(simp[errW_none,errW_some]<;>rfl)|(simp[*,errW_none,errW_some]<;>rfl),by(with_reducible repeat(first|apply Yr|apply Yq|apply Yp));exact HO_10.out,by(with_reducible repeat(first|apply Yr|apply Yq|apply Yp));exact HO_11.out,by repeat(first|(with_reducible first|exact HB.out|apply Ye|apply Yd|apply Yg|refine Yh ?_ Wg.out)|exact HB.out)⟩
        rw[Yx c51] at H;have c51b0:decide (x18_3≤a3)=true:=Yv c51;clear c51;by_cases c52:Jv.length<4398046511104
        rotate_left
        ·rw[Yy c52] at H
         exact absurd H (by simp)
        rw[Yx c52] at H;have LMc52:=Ya c52;clear c52;obtain⟨y431,hy431⟩: ∃ y_:List (S73),y_=(Jv ++ [(⟨wrap64 ((wrap64 (x18_3 * Zb))+a2),wrap64 ((wrap64 ((wrap64 (a3+1)) * Zb))+1),1099511627776,0⟩:S73)]):=⟨_,rfl⟩;replace H:(if Un.length<4398046511104 then(ebbtideref15_Arcs.l4 k3 a2 a3 y431 (Un ++ [(⟨false,false,0,a2,x18_3⟩:S107)]) Zb (wrap64 (x18_3+1))) else(none))=some (r1,r2):=by first|(rw[hy431];with_reducible exact H)|(have H2_:=(Option.bind_some _ _).symm.trans H;rw[hy431];with_reducible exact H2_)|(have H2_:=(Option.bind_some _ _).symm.trans H;with_reducible exact H2_)|with_reducible exact H|(rw[hy431];exact H)|exact H
        have Ny431:=Ya hy431;clear hy431;by_cases c53:Un.length<4398046511104
        rotate_left
        ·rw[Yy c53] at H
         exact absurd H (by simp)
        rw[Yx c53] at H;have LMc53:=Ya c53;clear c53;obtain⟨y434,hy434⟩: ∃ y_:List (S107),y_=(Un ++ [(⟨false,false,0,a2,x18_3⟩:S107)]):=⟨_,rfl⟩;replace H:(ebbtideref15_Arcs.l4 k3 a2 a3 y431 y434 Zb (wrap64 (x18_3+1)))=some (r1,r2):=by first|(rw[hy434];with_reducible exact H)|(have H2_:=(Option.bind_some _ _).symm.trans H;rw[hy434];with_reducible exact H2_)|(have H2_:=(Option.bind_some _ _).symm.trans H;with_reducible exact H2_)|with_reducible exact H|(rw[hy434];exact H)|exact H
        have Ny434:=Ya hy434;clear hy434;have H':=Ya H;clear H;go_wp2_with (first|((with_reducible refine gate_builtin (b:= .append) (xs:= #[.tmp 155, .tmp 167]) rfl ?_);at_builtin;refine Kd.R_append k73 (w0:=w) w.heap.size rfl (.tmp 155) (.tmp 167) 30 73 (.agg #[(.int .i64 0),(.int .i64 0),(.int .i64 0),(.int .i64 0)]) 32 rfl Try.underlying30 info73 rfl (by decide) (by omega) u10 Jv (⟨wrap64 ((wrap64 (x18_3 * Zb))+a2),wrap64 ((wrap64 ((wrap64 (a3+1)) * Zb))+1),1099511627776,0⟩:S73) [.int .i64 (wrap64 ((wrap64 (x18_3 * Zb))+a2)), .int .i64 (wrap64 ((wrap64 ((wrap64 (a3+1)) * Zb))+1)), .int .i64 1099511627776, .int .i64 0] (fun _=>True) (fun _=>False) rfl rfl ?aP (fun _ hk=>hk.elim) ?aF ?aO ?aB ?aS ?aL ?_;(case aP=>exact k73_mkM _ _ _ (⟨wrap64 ((wrap64 (x18_3 * Zb))+a2),wrap64 ((wrap64 ((wrap64 (a3+1)) * Zb))+1),1099511627776,0⟩:S73));(case aB=>exact(by repeat(first|(with_reducible first|exact HB.out|apply Ye|apply Yd|apply Yg|refine Yh ?_ Wg.out)|exact HB.out)));(case aF=>exact(fun _ _=>trivial));(case aO=>exact(by(with_reducible repeat(first|apply Yr|apply Yq|apply Yp));exact HO_10.out));(case aS=>exact(Yi (by repeat(first|(with_reducible first|exact HB.out|apply Ye|apply Yd|apply Yg|refine Yh ?_ Wg.out)|exact HB.out))));(case aL=>have:=LMc52.out;omega);intro v432 w54 ho hb hg hat;rw[← Ny431.out] at ho;have n0_:=Ya (Kd.R_over' (by(with_reducible repeat(first|apply Yr|apply Yq|apply Yp));exact HO_11.out) (Kd.R_typed (by(with_reducible repeat(first|apply Yr|apply Yq|apply Yp));exact HO_10.out)) (by decide) hg);have n1_:=Ya (blk_grown (g:=Xq) (o:= .cells #[.int .i64 Zb, .bool Zc, .slice Ze Za.length Zd] 32 (0,0)) (by(with_reducible repeat(first|refine Yl ?_ _|refine Ym ?_|refine Yj ?_ _));exact Zj.out) hg (Kd.R_ne HO_10.out Zj.out (by decide)));have n2_:=Ya (hb);have n3_:=Ya (ho);clear HO_11;clear Zj;clear HB;clear HO_10;have HO_11:=n0_;have Zj:=n1_;have HB:=n2_;have HO433:=n3_;clear n0_ n1_ n2_ n3_;clear ho hb hg hat)|((with_reducible refine gate_builtin (b:= .append) (xs:= #[.tmp 169, .tmp 173]) rfl ?_);at_builtin;refine Kd.R_append k107 (w0:=w) w.heap.size rfl (.tmp 169) (.tmp 173) 93 107 (.agg #[(.bool false),(.bool false),(.int .i64 0),(.int .i64 0),(.int .i64 0)]) 32 rfl Try.underlying93 info107 rfl (by decide) (by omega) u11 Un (⟨false,false,0,a2,x18_3⟩:S107) [.bool false, .bool false, .int .i64 0, .int .i64 a2, .int .i64 x18_3] (fun _=>True) (fun _=>False) rfl rfl ?aP (fun _ hk=>hk.elim) ?aF ?aO ?aB ?aS ?aL ?_;(case aP=>exact k107_mkM _ _ _ (⟨false,false,0,a2,x18_3⟩:S107));(case aB=>exact(by repeat(first|(with_reducible first|exact HB.out|apply Ye|apply Yd|apply Yg|refine Yh ?_ Wg.out)|exact HB.out)));(case aF=>exact(fun _ _=>trivial));(case aO=>exact(by(with_reducible repeat(first|apply Yr|apply Yq|apply Yp));exact HO_11.out));(case aS=>exact(Yi (by repeat(first|(with_reducible first|exact HB.out|apply Ye|apply Yd|apply Yg|refine Yh ?_ Wg.out)|exact HB.out))));(case aL=>have:=LMc53.out;omega);intro v435 w55 ho hb hg hat;rw[← Ny434.out] at ho;have n0_:=Ya (blk_grown (g:=Xq) (o:= .cells #[.int .i64 Zb, .bool Zc, .slice Ze Za.length Zd] 32 (0,0)) (by(with_reducible repeat(first|refine Yl ?_ _|refine Ym ?_|refine Yj ?_ _));exact Zj.out) hg (Kd.R_ne HO_11.out Zj.out (by decide)));have n1_:=Ya (Kd.R_over' (by(with_reducible repeat(first|apply Yr|apply Yq|apply Yp));exact HO433.out) (Kd.R_typed (by(with_reducible repeat(first|apply Yr|apply Yq|apply Yp));exact HO_11.out)) (by decide) hg);have n2_:=Ya (hb);have n3_:=Ya (ho);clear Zj;clear HO433;clear HB;clear HO_11;have Zj:=n0_;have HO433:=n1_;have HB:=n2_;have HO436:=n3_;clear n0_ n1_ n2_ n3_;clear ho hb hg hat));go_roundg k3
        case measure=>have:=HK1.out;have:=HK2.out;have:=HK3.out;omega
        case rel=>exact⟨(y431),(y434),(wrap64 (x18_3+1)),(by first|rfl|(simp;done)|(simp[*];done)),H',⟨by have:=HK1.out;have:=HK2.out;have:=HK3.out;omega⟩,⟨by(with_reducible repeat(first|apply Yr|apply Yq|apply Yp));exact HO433.out⟩,⟨by(with_reducible repeat(first|apply Yr|apply Yq|apply Yp));exact HO436.out⟩,⟨by(with_reducible repeat(first|refine Yl ?_ _|refine Ym ?_|refine Yj ?_ _));exact Zj.out⟩,⟨by repeat(first|(with_reducible first|exact HB.out|apply Ye|apply Yd|apply Yg|refine Yh ?_ Wg.out)|exact HB.out)⟩⟩
   rw[Yx c7] at H;have c7b0:decide (Xx≤a3)=true:=Yv c7;clear c7;have H':=Ya H;clear H;go_wp2;go_loopg [10,11,14] k1 (fun kq v10 v11 v14 w'=> ∃ (Uy:List (S73)) (Xg:List (S107)) (Zl:Int),v14= .int .i64 Zl∧Aside0 (ebbtideref15_Arcs.l1 kq a1 a2 a3 Uy Xg Zb Xx Zl Zb Zc Za=some (r1,r2))∧Aside0 (kq≤k1)∧Aside0 (Kd.R k73 73 w' w.heap.size (fun _=>True) v10 Uy)∧Aside0 (Kd.R k107 107 w' w.heap.size (fun _=>True) v11 Xg)∧Aside0 (w'.heap[Xq]? =some (.cells #[.int .i64 Zb, .bool Zc,(.slice Ze Za.length Zd)] 32 (0,0)))∧Aside0 (Below w.heap.size w w'))
   case atStart=>exact⟨(x10_1),(Wv),(0),(by first|rfl|(simp;done)|(simp[*];done)),H',⟨Nat.le_refl _⟩,⟨by(with_reducible repeat(first|apply Yr|apply Yq|apply Yp));exact HO_10.out⟩,⟨by(with_reducible repeat(first|apply Yr|apply Yq|apply Yp));exact HO_11.out⟩,⟨by(with_reducible repeat(first|refine Yl ?_ _|refine Ym ?_|refine Yj ?_ _));exact Zj.out⟩,⟨by repeat(first|(with_reducible first|exact HB.out|apply Ye|apply Yd|apply Yg|refine Yh ?_ Wg.out)|exact HB.out)⟩⟩
   case round=>
    clear H';try clear p2
    try clear c3
    try clear c7
    try clear c7b0
    try clear hcz6_0
    try clear hcz6_1
    try clear hcz6_2
    try clear hfz6_0
    try clear hfz6_1
    try clear hfz6_2
    try clear p2
    obtain⟨Uy,Xg,Zl,rfl,HA,HK2,HO_10,HO_11,Zj,HB⟩:=hrel;cases gk with
    |zero=>exact absurd HA.out (by simp[ebbtideref15_Arcs.l1])
    |succ k2=>
     have H:=HA.out;clear HA;simp only[ebbtideref15_Arcs.l1] at H;by_cases c8:Zl<(Za.length:Int)
     ·rw[Yx c8] at H
      have c8b0:decide (Zl<(Za.length:Int))=true:=Yv c8;clear c8;by_cases c9:0≤Zl
      rotate_left
      ·rw[Yy c9] at H
       exact absurd H (by simp)
      rw[Yx c9] at H;have c9b0:decide (0≤Zl)=true:=Yv c9;clear c9;by_cases c10:(wrap64 (Xx+((rd_T73 Za Zl).f3)))≤a3
      rotate_left
      ·rw[Yy c10] at H
       have c10b0:decide ((wrap64 (Xx+((rd_T73 Za Zl).f3)))≤a3)=false:=Yw c10;clear c10;have H':=Ya H;clear H;have hcz29_0:wr.cell? ⟨Xq,0,none⟩=some (.int .i64 Zb):=(Yc Zj.out 0).trans rfl;have hcz29_1:wr.cell? ⟨Xq,1,none⟩=some (.bool Zc):=(Yc Zj.out 1).trans rfl;have hcz29_2:wr.cell? ⟨Xq,2,none⟩=some (.slice Ze Za.length Zd):=(Yc Zj.out 2).trans rfl;have hfz29_0:=Yf Zj.out 0;have hfz29_1:=Yf Zj.out 1;have hfz29_2:=Yf Zj.out 2;have p411:0≤(Zl:Int):=Yu (by first|(with_reducible assumption)|assumption);have q411:Zl<(Za.length:Int):=Yu (by first|(with_reducible assumption)|assumption);obtain⟨ad411,e411,Vu,Vv,Vw,Vx⟩:=at_T73 Zo.out Zl p411 q411;cases e411;replace Vu:=(HB.out.cell (Yb w _ Vu)).trans Vu;replace Vv:=(HB.out.cell (Yb w _ Vv)).trans Vv;replace Vw:=(HB.out.cell (Yb w _ Vw)).trans Vw;replace Vx:=(HB.out.cell (Yb w _ Vx)).trans Vx;replace p411:=eq_true p411;replace q411:=eq_true q411;go_wp2_with (first|((with_reducible refine gate_dst (N:=15) rfl ?_);refine Yz ?hg (N:=15) ?hd (cs:= #[.int .i64 0, .int .i64 0, .int .i64 0, .int .i64 0]) (t:=73) ?hr ?_;(case hd=>rfl);(case hg=>rfl);(case hr=>first|(go_simp;done)|(go_simp;rfl));intro Zw hg w30 Zf hb;have n0_:=Ya (Ys (Kd.R_elderB (by(with_reducible repeat(first|apply Yr|apply Yq|apply Yp));exact HO_10.out) Zw (Nat.le_of_eq hg.symm)) hb);have n1_:=Ya (Ys (by(with_reducible repeat(first|apply Yr|apply Yq|apply Yp));exact HO_11.out) hb);have n2_:=Ya (Yn (g:=Xq) (o:= .cells #[.int .i64 Zb, .bool Zc, .slice (some ad411) Za.length Zd] 32 (0,0)) (by(with_reducible repeat(first|refine Yl ?_ _|refine Ym ?_|refine Yj ?_ _));exact Zj.out) hb);have n3_:=Ya (Yk (by repeat(first|(with_reducible first|exact HB.out|apply Ye|apply Yd|apply Yg|refine Yh ?_ Wg.out)|exact HB.out)) hb);have n4_:=Ya (Zf);have n5_:=Ya ((by rw[hg];exact(Yi (by repeat(first|(with_reducible first|exact HB.out|apply Ye|apply Yd|apply Yg|refine Yh ?_ Wg.out)|exact HB.out))):w.heap.size≤Zw));have n6_:=Ya ((by rw[hg];exact(Yi (by repeat(first|(with_reducible first|exact HB.out|apply Ye|apply Yd|apply Yg|refine Yh ?_ Wg.out)|exact HB.out))):w.heap.size≤Zw));have n7_:=Ya ((by rw[hg];exact Nat.ne_of_lt (blk_lt (g:=Xq) (o:= .cells #[.int .i64 Zb, .bool Zc, .slice (some ad411) Za.length Zd] 32 (0,0)) (by(with_reducible repeat(first|refine Yl ?_ _|refine Ym ?_|refine Yj ?_ _));exact Zj.out)):Xq≠Zw));have n8_:=Ya ((by rw[hg];exact Nat.ne_of_gt (blk_lt (g:=Xq) (o:= .cells #[.int .i64 Zb, .bool Zc, .slice (some ad411) Za.length Zd] 32 (0,0)) (by(with_reducible repeat(first|refine Yl ?_ _|refine Ym ?_|refine Yj ?_ _));exact Zj.out)):Zw≠Xq));clear HO_10;clear HO_11;clear Zj;clear HB;have HO_10:=n0_;have HO_11:=n1_;have Zj:=n2_;have HB:=n3_;have Wh:=n4_;have GW412:=n5_;have GE412:=n6_;have Xv:=n7_;have NB412_410:=n8_;clear n0_ n1_ n2_ n3_ n4_ n5_ n6_ n7_ n8_;clear hb Zf hg;have hnb31:=NB412_410.out;have hnc31:=Xv.out;have hcz32_0:w30.cell? ⟨Zw,0,none⟩=some (.int .i64 0):=(Yc Wh.out 0).trans rfl;have hcz32_1:w30.cell? ⟨Zw,1,none⟩=some (.int .i64 0):=(Yc Wh.out 1).trans rfl;have hcz32_2:w30.cell? ⟨Zw,2,none⟩=some (.int .i64 0):=(Yc Wh.out 2).trans rfl;have hcz32_3:w30.cell? ⟨Zw,3,none⟩=some (.int .i64 0):=(Yc Wh.out 3).trans rfl;have hfz32_0:=Yf Wh.out 0;have hfz32_1:=Yf Wh.out 1;have hfz32_2:=Yf Wh.out 2;have hfz32_3:=Yf Wh.out 3));go_roundg k2
       case measure=>have:=HK1.out;have:=HK2.out;omega
       case rel=>exact⟨(Uy),(Xg),(wrap64 (Zl+1)),(by first|rfl|(simp;done)|(simp[*];done)),H',⟨by have:=HK1.out;have:=HK2.out;omega⟩,⟨by(with_reducible repeat(first|apply Yr|apply Yq|apply Yp));exact Kd.R_mono (Kd.R_far (p:=⟨Zw,3,none⟩) (Kd.R_far (p:=⟨Zw,2,none⟩) (Kd.R_far (p:=⟨Zw,1,none⟩) (Kd.R_far (p:=⟨Zw,0,none⟩) (Kd.R_mono HO_10.out (fun k_ hk=>(⟨hk,hk.2⟩:_∧k_≠Zw))) (fun _ hk=>hk.2) (.int .i64 ((rd_T73 Za Zl).f0))) (fun _ hk=>hk.2) (.int .i64 ((rd_T73 Za Zl).f1))) (fun _ hk=>hk.2) (.int .i64 ((rd_T73 Za Zl).f2))) (fun _ hk=>hk.2) (.int .i64 ((rd_T73 Za Zl).f3))) (fun _ hk=>trivial)⟩,⟨by(with_reducible repeat(first|apply Yr|apply Yq|apply Yp));exact Kd.R_mono (Kd.R_far (p:=⟨Zw,3,none⟩) (Kd.R_far (p:=⟨Zw,2,none⟩) (Kd.R_far (p:=⟨Zw,1,none⟩) (Kd.R_far (p:=⟨Zw,0,none⟩) (Kd.R_types HO_11.out Wh.out (by decide)) (fun _ hk=>hk.2) (.int .i64 ((rd_T73 Za Zl).f0))) (fun _ hk=>hk.2) (.int .i64 ((rd_T73 Za Zl).f1))) (fun _ hk=>hk.2) (.int .i64 ((rd_T73 Za Zl).f2))) (fun _ hk=>hk.2) (.int .i64 ((rd_T73 Za Zl).f3))) (fun _ hk=>trivial)⟩,⟨by(with_reducible repeat(first|refine Yl ?_ _|refine Ym ?_|refine Yj ?_ _));refine blk_far ?_ Xv.out _;(with_reducible repeat(first|refine Yl ?_ _|refine Ym ?_|refine Yj ?_ _));refine blk_far ?_ Xv.out _;(with_reducible repeat(first|refine Yl ?_ _|refine Ym ?_|refine Yj ?_ _));refine blk_far ?_ Xv.out _;(with_reducible repeat(first|refine Yl ?_ _|refine Ym ?_|refine Yj ?_ _));refine blk_far ?_ Xv.out _;(with_reducible repeat(first|refine Yl ?_ _|refine Ym ?_|refine Yj ?_ _));exact Zj.out⟩,⟨by repeat(first|(with_reducible first|exact HB.out|apply Ye|apply Yd|apply Yg|refine Yh ?_ Wg.out|refine Yh ?_ GE412.out)|exact HB.out)⟩⟩
      rw[Yx c10] at H;have c10b0:decide ((wrap64 (Xx+((rd_T73 Za Zl).f3)))≤a3)=true:=Yv c10;clear c10;by_cases c11:((rd_T73 Za Zl).f1)=a1
      ·rw[Yx c11] at H
       have c11b0:(((rd_T73 Za Zl).f1) == a1)=true:=beq_iff_eq.mpr c11;have c11b1:(((rd_T73 Za Zl).f1) != a1)=false:=bne_eq_false_iff_eq.mpr c11;clear c11;have H':=Ya H;clear H;have hcz12_0:wr.cell? ⟨Xq,0,none⟩=some (.int .i64 Zb):=(Yc Zj.out 0).trans rfl;have hcz12_1:wr.cell? ⟨Xq,1,none⟩=some (.bool Zc):=(Yc Zj.out 1).trans rfl;have hcz12_2:wr.cell? ⟨Xq,2,none⟩=some (.slice Ze Za.length Zd):=(Yc Zj.out 2).trans rfl;have hfz12_0:=Yf Zj.out 0;have hfz12_1:=Yf Zj.out 1;have hfz12_2:=Yf Zj.out 2;have p411:0≤(Zl:Int):=Yu (by first|(with_reducible assumption)|assumption);have q411:Zl<(Za.length:Int):=Yu (by first|(with_reducible assumption)|assumption);obtain⟨ad411,e411,Vu,Vv,Vw,Vx⟩:=at_T73 Zo.out Zl p411 q411;cases e411;replace Vu:=(HB.out.cell (Yb w _ Vu)).trans Vu;replace Vv:=(HB.out.cell (Yb w _ Vv)).trans Vv;replace Vw:=(HB.out.cell (Yb w _ Vw)).trans Vw;replace Vx:=(HB.out.cell (Yb w _ Vx)).trans Vx;replace p411:=eq_true p411;replace q411:=eq_true q411;go_wp2_with (first|((with_reducible refine gate_dst (N:=15) rfl ?_);refine Yz ?hg (N:=15) ?hd (cs:= #[.int .i64 0, .int .i64 0, .int .i64 0, .int .i64 0]) (t:=73) ?hr ?_;(case hd=>rfl);(case hg=>rfl);(case hr=>first|(go_simp;done)|(go_simp;rfl));intro Zw hg w13 Zf hb;have n0_:=Ya (Ys (Kd.R_elderB (by(with_reducible repeat(first|apply Yr|apply Yq|apply Yp));exact HO_10.out) Zw (Nat.le_of_eq hg.symm)) hb);have n1_:=Ya (Ys (by(with_reducible repeat(first|apply Yr|apply Yq|apply Yp));exact HO_11.out) hb);have n2_:=Ya (Yn (g:=Xq) (o:= .cells #[.int .i64 Zb, .bool Zc, .slice (some ad411) Za.length Zd] 32 (0,0)) (by(with_reducible repeat(first|refine Yl ?_ _|refine Ym ?_|refine Yj ?_ _));exact Zj.out) hb);have n3_:=Ya (Yk (by repeat(first|(with_reducible first|exact HB.out|apply Ye|apply Yd|apply Yg|refine Yh ?_ Wg.out)|exact HB.out)) hb);have n4_:=Ya (Zf);have n5_:=Ya ((by rw[hg];exact(Yi (by repeat(first|(with_reducible first|exact HB.out|apply Ye|apply Yd|apply Yg|refine Yh ?_ Wg.out)|exact HB.out))):w.heap.size≤Zw));have n6_:=Ya ((by rw[hg];exact(Yi (by repeat(first|(with_reducible first|exact HB.out|apply Ye|apply Yd|apply Yg|refine Yh ?_ Wg.out)|exact HB.out))):w.heap.size≤Zw));have n7_:=Ya ((by rw[hg];exact Nat.ne_of_lt (blk_lt (g:=Xq) (o:= .cells #[.int .i64 Zb, .bool Zc, .slice (some ad411) Za.length Zd] 32 (0,0)) (by(with_reducible repeat(first|refine Yl ?_ _|refine Ym ?_|refine Yj ?_ _));exact Zj.out)):Xq≠Zw));have n8_:=Ya ((by rw[hg];exact Nat.ne_of_gt (blk_lt (g:=Xq) (o:= .cells #[.int .i64 Zb, .bool Zc, .slice (some ad411) Za.length Zd] 32 (0,0)) (by(with_reducible repeat(first|refine Yl ?_ _|refine Ym ?_|refine Yj ?_ _));exact Zj.out)):Zw≠Xq));clear HO_10;clear HO_11;clear Zj;clear HB;have HO_10:=n0_;have HO_11:=n1_;have Zj:=n2_;have HB:=n3_;have Wh:=n4_;have GW412:=n5_;have GE412:=n6_;have Xv:=n7_;have NB412_410:=n8_;clear n0_ n1_ n2_ n3_ n4_ n5_ n6_ n7_ n8_;clear hb Zf hg;have hnb14:=NB412_410.out;have hnc14:=Xv.out;have hcz15_0:w13.cell? ⟨Zw,0,none⟩=some (.int .i64 0):=(Yc Wh.out 0).trans rfl;have hcz15_1:w13.cell? ⟨Zw,1,none⟩=some (.int .i64 0):=(Yc Wh.out 1).trans rfl;have hcz15_2:w13.cell? ⟨Zw,2,none⟩=some (.int .i64 0):=(Yc Wh.out 2).trans rfl;have hcz15_3:w13.cell? ⟨Zw,3,none⟩=some (.int .i64 0):=(Yc Wh.out 3).trans rfl;have hfz15_0:=Yf Wh.out 0;have hfz15_1:=Yf Wh.out 1;have hfz15_2:=Yf Wh.out 2;have hfz15_3:=Yf Wh.out 3));go_roundg k2
       case measure=>have:=HK1.out;have:=HK2.out;omega
       case rel=>exact⟨(Uy),(Xg),(wrap64 (Zl+1)),(by first|rfl|(simp;done)|(simp[*];done)),H',⟨by have:=HK1.out;have:=HK2.out;omega⟩,⟨by(with_reducible repeat(first|apply Yr|apply Yq|apply Yp));exact Kd.R_mono (Kd.R_far (p:=⟨Zw,3,none⟩) (Kd.R_far (p:=⟨Zw,2,none⟩) (Kd.R_far (p:=⟨Zw,1,none⟩) (Kd.R_far (p:=⟨Zw,0,none⟩) (Kd.R_mono HO_10.out (fun k_ hk=>(⟨hk,hk.2⟩:_∧k_≠Zw))) (fun _ hk=>hk.2) (.int .i64 ((rd_T73 Za Zl).f0))) (fun _ hk=>hk.2) (.int .i64 ((rd_T73 Za Zl).f1))) (fun _ hk=>hk.2) (.int .i64 ((rd_T73 Za Zl).f2))) (fun _ hk=>hk.2) (.int .i64 ((rd_T73 Za Zl).f3))) (fun _ hk=>trivial)⟩,⟨by(with_reducible repeat(first|apply Yr|apply Yq|apply Yp));exact Kd.R_mono (Kd.R_far (p:=⟨Zw,3,none⟩) (Kd.R_far (p:=⟨Zw,2,none⟩) (Kd.R_far (p:=⟨Zw,1,none⟩) (Kd.R_far (p:=⟨Zw,0,none⟩) (Kd.R_types HO_11.out Wh.out (by decide)) (fun _ hk=>hk.2) (.int .i64 ((rd_T73 Za Zl).f0))) (fun _ hk=>hk.2) (.int .i64 ((rd_T73 Za Zl).f1))) (fun _ hk=>hk.2) (.int .i64 ((rd_T73 Za Zl).f2))) (fun _ hk=>hk.2) (.int .i64 ((rd_T73 Za Zl).f3))) (fun _ hk=>trivial)⟩,⟨by(with_reducible repeat(first|refine Yl ?_ _|refine Ym ?_|refine Yj ?_ _));refine blk_far ?_ Xv.out _;(with_reducible repeat(first|refine Yl ?_ _|refine Ym ?_|refine Yj ?_ _));refine blk_far ?_ Xv.out _;(with_reducible repeat(first|refine Yl ?_ _|refine Ym ?_|refine Yj ?_ _));refine blk_far ?_ Xv.out _;(with_reducible repeat(first|refine Yl ?_ _|refine Ym ?_|refine Yj ?_ _));refine blk_far ?_ Xv.out _;(with_reducible repeat(first|refine Yl ?_ _|refine Ym ?_|refine Yj ?_ _));exact Zj.out⟩,⟨by repeat(first|(with_reducible first|exact HB.out|apply Ye|apply Yd|apply Yg|refine Yh ?_ Wg.out|refine Yh ?_ GE412.out)|exact HB.out)⟩⟩
      rw[Yy c11] at H;have c11b0:(((rd_T73 Za Zl).f1) == a1)=false:=beq_eq_false_iff_ne.mpr c11;have c11b1:(((rd_T73 Za Zl).f1) != a1)=true:=bne_iff_ne.mpr c11;by_cases c16:((rd_T73 Za Zl).f0)=a2
      ·rw[Yx c16] at H
       have c16b0:(((rd_T73 Za Zl).f0) == a2)=true:=beq_iff_eq.mpr c16;have c16b1:(((rd_T73 Za Zl).f0) != a2)=false:=bne_eq_false_iff_eq.mpr c16;clear c16;have H':=Ya H;clear H;have Vj:wr.cell? ⟨Xq,0,none⟩=some (.int .i64 Zb):=(Yc Zj.out 0).trans rfl;have Vk:wr.cell? ⟨Xq,1,none⟩=some (.bool Zc):=(Yc Zj.out 1).trans rfl;have hcz17_2:wr.cell? ⟨Xq,2,none⟩=some (.slice Ze Za.length Zd):=(Yc Zj.out 2).trans rfl;have Vl:=Yf Zj.out 0;have Vm:=Yf Zj.out 1;have hfz17_2:=Yf Zj.out 2;have p411:0≤(Zl:Int):=Yu (by first|(with_reducible assumption)|assumption);have q411:Zl<(Za.length:Int):=Yu (by first|(with_reducible assumption)|assumption);obtain⟨ad411,e411,Vu,Vv,Vw,Vx⟩:=at_T73 Zo.out Zl p411 q411;cases e411;replace Vu:=(HB.out.cell (Yb w _ Vu)).trans Vu;replace Vv:=(HB.out.cell (Yb w _ Vv)).trans Vv;replace Vw:=(HB.out.cell (Yb w _ Vw)).trans Vw;replace Vx:=(HB.out.cell (Yb w _ Vx)).trans Vx;replace p411:=eq_true p411;replace q411:=eq_true q411;go_wp2_with (first|((with_reducible refine gate_dst (N:=15) rfl ?_);refine Yz ?hg (N:=15) ?hd (cs:= #[.int .i64 0, .int .i64 0, .int .i64 0, .int .i64 0]) (t:=73) ?hr ?_;(case hd=>rfl);(case hg=>rfl);(case hr=>first|(go_simp;done)|(go_simp;rfl));intro Zw hg w18 Zf hb;have n0_:=Ya (Ys (Kd.R_elderB (by(with_reducible repeat(first|apply Yr|apply Yq|apply Yp));exact HO_10.out) Zw (Nat.le_of_eq hg.symm)) hb);have n1_:=Ya (Ys (by(with_reducible repeat(first|apply Yr|apply Yq|apply Yp));exact HO_11.out) hb);have n2_:=Ya (Yn (g:=Xq) (o:= .cells #[.int .i64 Zb, .bool Zc, .slice (some ad411) Za.length Zd] 32 (0,0)) (by(with_reducible repeat(first|refine Yl ?_ _|refine Ym ?_|refine Yj ?_ _));exact Zj.out) hb);have n3_:=Ya (Yk (by repeat(first|(with_reducible first|exact HB.out|apply Ye|apply Yd|apply Yg|refine Yh ?_ Wg.out)|exact HB.out)) hb);have n4_:=Ya (Zf);have n5_:=Ya ((by rw[hg];exact(Yi (by repeat(first|(with_reducible first|exact HB.out|apply Ye|apply Yd|apply Yg|refine Yh ?_ Wg.out)|exact HB.out))):w.heap.size≤Zw));have n6_:=Ya ((by rw[hg];exact(Yi (by repeat(first|(with_reducible first|exact HB.out|apply Ye|apply Yd|apply Yg|refine Yh ?_ Wg.out)|exact HB.out))):w.heap.size≤Zw));have n7_:=Ya ((by rw[hg];exact Nat.ne_of_lt (blk_lt (g:=Xq) (o:= .cells #[.int .i64 Zb, .bool Zc, .slice (some ad411) Za.length Zd] 32 (0,0)) (by(with_reducible repeat(first|refine Yl ?_ _|refine Ym ?_|refine Yj ?_ _));exact Zj.out)):Xq≠Zw));have n8_:=Ya ((by rw[hg];exact Nat.ne_of_gt (blk_lt (g:=Xq) (o:= .cells #[.int .i64 Zb, .bool Zc, .slice (some ad411) Za.length Zd] 32 (0,0)) (by(with_reducible repeat(first|refine Yl ?_ _|refine Ym ?_|refine Yj ?_ _));exact Zj.out)):Zw≠Xq));clear HO_10;clear HO_11;clear Zj;clear HB;have HO_10:=n0_;have HO_11:=n1_;have Zj:=n2_;have HB:=n3_;have Wh:=n4_;have GW412:=n5_;have GE412:=n6_;have Xv:=n7_;have NB412_410:=n8_;clear n0_ n1_ n2_ n3_ n4_ n5_ n6_ n7_ n8_;clear hb Zf hg;have hnb19:=NB412_410.out;have hnc19:=Xv.out;have hcz20_0:w18.cell? ⟨Zw,0,none⟩=some (.int .i64 0):=(Yc Wh.out 0).trans rfl;have hcz20_1:w18.cell? ⟨Zw,1,none⟩=some (.int .i64 0):=(Yc Wh.out 1).trans rfl;have hcz20_2:w18.cell? ⟨Zw,2,none⟩=some (.int .i64 0):=(Yc Wh.out 2).trans rfl;have hcz20_3:w18.cell? ⟨Zw,3,none⟩=some (.int .i64 0):=(Yc Wh.out 3).trans rfl;have hfz20_0:=Yf Wh.out 0;have hfz20_1:=Yf Wh.out 1;have hfz20_2:=Yf Wh.out 2;have hfz20_3:=Yf Wh.out 3));go_roundg k2
       case measure=>have:=HK1.out;have:=HK2.out;omega
       case rel=>exact⟨(Uy),(Xg),(wrap64 (Zl+1)),(by first|rfl|(simp;done)|(simp[*];done)),H',⟨by have:=HK1.out;have:=HK2.out;omega⟩,⟨by(with_reducible repeat(first|apply Yr|apply Yq|apply Yp));exact Kd.R_mono (Kd.R_far (p:=⟨Zw,3,none⟩) (Kd.R_far (p:=⟨Zw,2,none⟩) (Kd.R_far (p:=⟨Zw,1,none⟩) (Kd.R_far (p:=⟨Zw,0,none⟩) (Kd.R_mono HO_10.out (fun k_ hk=>(⟨hk,hk.2⟩:_∧k_≠Zw))) (fun _ hk=>hk.2) (.int .i64 ((rd_T73 Za Zl).f0))) (fun _ hk=>hk.2) (.int .i64 ((rd_T73 Za Zl).f1))) (fun _ hk=>hk.2) (.int .i64 ((rd_T73 Za Zl).f2))) (fun _ hk=>hk.2) (.int .i64 ((rd_T73 Za Zl).f3))) (fun _ hk=>trivial)⟩,⟨by(with_reducible repeat(first|apply Yr|apply Yq|apply Yp));exact Kd.R_mono (Kd.R_far (p:=⟨Zw,3,none⟩) (Kd.R_far (p:=⟨Zw,2,none⟩) (Kd.R_far (p:=⟨Zw,1,none⟩) (Kd.R_far (p:=⟨Zw,0,none⟩) (Kd.R_types HO_11.out Wh.out (by decide)) (fun _ hk=>hk.2) (.int .i64 ((rd_T73 Za Zl).f0))) (fun _ hk=>hk.2) (.int .i64 ((rd_T73 Za Zl).f1))) (fun _ hk=>hk.2) (.int .i64 ((rd_T73 Za Zl).f2))) (fun _ hk=>hk.2) (.int .i64 ((rd_T73 Za Zl).f3))) (fun _ hk=>trivial)⟩,⟨by(with_reducible repeat(first|refine Yl ?_ _|refine Ym ?_|refine Yj ?_ _));refine blk_far ?_ Xv.out _;(with_reducible repeat(first|refine Yl ?_ _|refine Ym ?_|refine Yj ?_ _));refine blk_far ?_ Xv.out _;(with_reducible repeat(first|refine Yl ?_ _|refine Ym ?_|refine Yj ?_ _));refine blk_far ?_ Xv.out _;(with_reducible repeat(first|refine Yl ?_ _|refine Ym ?_|refine Yj ?_ _));refine blk_far ?_ Xv.out _;(with_reducible repeat(first|refine Yl ?_ _|refine Ym ?_|refine Yj ?_ _));exact Zj.out⟩,⟨by repeat(first|(with_reducible first|exact HB.out|apply Ye|apply Yd|apply Yg|refine Yh ?_ Wg.out|refine Yh ?_ GE412.out)|exact HB.out)⟩⟩
      rw[Yy c16] at H;have c16b0:(((rd_T73 Za Zl).f0) == a2)=false:=beq_eq_false_iff_ne.mpr c16;have c16b1:(((rd_T73 Za Zl).f0) != a2)=true:=bne_iff_ne.mpr c16;by_cases c21:Uy.length<4398046511104
      rotate_left
      ·rw[Yy c21] at H
       exact absurd H (by simp)
      rw[Yx c21] at H;have LMc21:=Ya c21;clear c21;obtain⟨y413,hy413⟩: ∃ y_:List (S73),y_=(Uy ++ [(⟨wrap64 ((wrap64 (Xx * Zb))+((rd_T73 Za Zl).f0)),wrap64 ((wrap64 ((wrap64 (Xx+((rd_T73 Za Zl).f3))) * Zb))+((rd_T73 Za Zl).f1)),(rd_T73 Za Zl).f2,0⟩:S73)]):=⟨_,rfl⟩;replace H:(if Xg.length<4398046511104 then(ebbtideref15_Arcs.l1 k2 a1 a2 a3 y413 (Xg ++ [(⟨true,false,Zl,0,Xx⟩:S107)]) Zb Xx (wrap64 (Zl+1)) Zb Zc Za) else(none))=some (r1,r2):=by first|(rw[hy413];with_reducible exact H)|(have H2_:=(Option.bind_some _ _).symm.trans H;rw[hy413];with_reducible exact H2_)|(have H2_:=(Option.bind_some _ _).symm.trans H;with_reducible exact H2_)|with_reducible exact H|(rw[hy413];exact H)|exact H
      have Ny413:=Ya hy413;clear hy413;by_cases c22:Xg.length<4398046511104
      rotate_left
      ·rw[Yy c22] at H
       exact absurd H (by simp)
      rw[Yx c22] at H;have LMc22:=Ya c22;clear c22;obtain⟨y416,hy416⟩: ∃ y_:List (S107),y_=(Xg ++ [(⟨true,false,Zl,0,Xx⟩:S107)]):=⟨_,rfl⟩;replace H:(ebbtideref15_Arcs.l1 k2 a1 a2 a3 y413 y416 Zb Xx (wrap64 (Zl+1)) Zb Zc Za)=some (r1,r2):=by first|(rw[hy416];with_reducible exact H)|(have H2_:=(Option.bind_some _ _).symm.trans H;rw[hy416];with_reducible exact H2_)|(have H2_:=(Option.bind_some _ _).symm.trans H;with_reducible exact H2_)|with_reducible exact H|(rw[hy416];exact H)|exact H
      have Ny416:=Ya hy416;clear hy416;have H':=Ya H;clear H;have hcz23_0:wr.cell? ⟨Xq,0,none⟩=some (.int .i64 Zb):=(Yc Zj.out 0).trans rfl;have hcz23_1:wr.cell? ⟨Xq,1,none⟩=some (.bool Zc):=(Yc Zj.out 1).trans rfl;have hcz23_2:wr.cell? ⟨Xq,2,none⟩=some (.slice Ze Za.length Zd):=(Yc Zj.out 2).trans rfl;have hfz23_0:=Yf Zj.out 0;have hfz23_1:=Yf Zj.out 1;have hfz23_2:=Yf Zj.out 2;have p411:0≤(Zl:Int):=Yu (by first|(with_reducible assumption)|assumption);have q411:Zl<(Za.length:Int):=Yu (by first|(with_reducible assumption)|assumption);obtain⟨ad411,e411,Vu,Vv,Vw,Vx⟩:=at_T73 Zo.out Zl p411 q411;cases e411;replace Vu:=(HB.out.cell (Yb w _ Vu)).trans Vu;replace Vv:=(HB.out.cell (Yb w _ Vv)).trans Vv;replace Vw:=(HB.out.cell (Yb w _ Vw)).trans Vw;replace Vx:=(HB.out.cell (Yb w _ Vx)).trans Vx;replace p411:=eq_true p411;replace q411:=eq_true q411;go_wp2_with (first|((with_reducible refine gate_dst (N:=15) rfl ?_);refine Yz ?hg (N:=15) ?hd (cs:= #[.int .i64 0, .int .i64 0, .int .i64 0, .int .i64 0]) (t:=73) ?hr ?_;(case hd=>rfl);(case hg=>rfl);(case hr=>first|(go_simp;done)|(go_simp;rfl));intro Zw hg w24 Zf hb;have n0_:=Ya (Ys (Kd.R_elderB (by(with_reducible repeat(first|apply Yr|apply Yq|apply Yp));exact HO_10.out) Zw (Nat.le_of_eq hg.symm)) hb);have n1_:=Ya (Ys (by(with_reducible repeat(first|apply Yr|apply Yq|apply Yp));exact HO_11.out) hb);have n2_:=Ya (Yn (g:=Xq) (o:= .cells #[.int .i64 Zb, .bool Zc, .slice (some ad411) Za.length Zd] 32 (0,0)) (by(with_reducible repeat(first|refine Yl ?_ _|refine Ym ?_|refine Yj ?_ _));exact Zj.out) hb);have n3_:=Ya (Yk (by repeat(first|(with_reducible first|exact HB.out|apply Ye|apply Yd|apply Yg|refine Yh ?_ Wg.out)|exact HB.out)) hb);have n4_:=Ya (Zf);have n5_:=Ya ((by rw[hg];exact(Yi (by repeat(first|(with_reducible first|exact HB.out|apply Ye|apply Yd|apply Yg|refine Yh ?_ Wg.out)|exact HB.out))):w.heap.size≤Zw));have n6_:=Ya ((by rw[hg];exact(Yi (by repeat(first|(with_reducible first|exact HB.out|apply Ye|apply Yd|apply Yg|refine Yh ?_ Wg.out)|exact HB.out))):w.heap.size≤Zw));have n7_:=Ya ((by rw[hg];exact Nat.ne_of_lt (blk_lt (g:=Xq) (o:= .cells #[.int .i64 Zb, .bool Zc, .slice (some ad411) Za.length Zd] 32 (0,0)) (by(with_reducible repeat(first|refine Yl ?_ _|refine Ym ?_|refine Yj ?_ _));exact Zj.out)):Xq≠Zw));have n8_:=Ya ((by rw[hg];exact Nat.ne_of_gt (blk_lt (g:=Xq) (o:= .cells #[.int .i64 Zb, .bool Zc, .slice (some ad411) Za.length Zd] 32 (0,0)) (by(with_reducible repeat(first|refine Yl ?_ _|refine Ym ?_|refine Yj ?_ _));exact Zj.out)):Zw≠Xq));clear HO_10;clear HO_11;clear Zj;clear HB;have HO_10:=n0_;have HO_11:=n1_;have Zj:=n2_;have HB:=n3_;have Wh:=n4_;have GW412:=n5_;have GE412:=n6_;have Xv:=n7_;have NB412_410:=n8_;clear n0_ n1_ n2_ n3_ n4_ n5_ n6_ n7_ n8_;clear hb Zf hg;have hnb25:=NB412_410.out;have hnc25:=Xv.out;have hcz26_0:w24.cell? ⟨Zw,0,none⟩=some (.int .i64 0):=(Yc Wh.out 0).trans rfl;have hcz26_1:w24.cell? ⟨Zw,1,none⟩=some (.int .i64 0):=(Yc Wh.out 1).trans rfl;have hcz26_2:w24.cell? ⟨Zw,2,none⟩=some (.int .i64 0):=(Yc Wh.out 2).trans rfl;have hcz26_3:w24.cell? ⟨Zw,3,none⟩=some (.int .i64 0):=(Yc Wh.out 3).trans rfl;have hfz26_0:=Yf Wh.out 0;have hfz26_1:=Yf Wh.out 1;have hfz26_2:=Yf Wh.out 2;have hfz26_3:=Yf Wh.out 3)|((with_reducible refine gate_builtin (b:= .append) (xs:= #[.tmp 56, .tmp 75]) rfl ?_);at_builtin;refine Kd.R_append k73 (w0:=w) w.heap.size rfl (.tmp 56) (.tmp 75) 30 73 (.agg #[(.int .i64 0),(.int .i64 0),(.int .i64 0),(.int .i64 0)]) 32 rfl Try.underlying30 info73 rfl (by decide) (by omega) u10 Uy (⟨wrap64 ((wrap64 (Xx * Zb))+((rd_T73 Za Zl).f0)),wrap64 ((wrap64 ((wrap64 (Xx+((rd_T73 Za Zl).f3))) * Zb))+((rd_T73 Za Zl).f1)),(rd_T73 Za Zl).f2,0⟩:S73) [.int .i64 (wrap64 ((wrap64 (Xx * Zb))+((rd_T73 Za Zl).f0))), .int .i64 (wrap64 ((wrap64 ((wrap64 (Xx+((rd_T73 Za Zl).f3))) * Zb))+((rd_T73 Za Zl).f1))), .int .i64 ((rd_T73 Za Zl).f2), .int .i64 0] (fun k_=>k_≠Zw) (fun _=>False) rfl (by first|(go_simp;done)|(go_simp;rfl)) ?aP (fun _ hk=>hk.elim) ?aF ?aO ?aB ?aS ?aL ?_;(case aP=>exact k73_mkM _ _ _ (⟨wrap64 ((wrap64 (Xx * Zb))+((rd_T73 Za Zl).f0)),wrap64 ((wrap64 ((wrap64 (Xx+((rd_T73 Za Zl).f3))) * Zb))+((rd_T73 Za Zl).f1)),(rd_T73 Za Zl).f2,0⟩:S73));(case aB=>exact(by repeat(first|(with_reducible first|exact HB.out|apply Ye|apply Yd|apply Yg|refine Yh ?_ Wg.out|refine Yh ?_ GE412.out)|exact HB.out)));(case aF=>exact(fun k_ hk=>Kd.freshB (g:=Zw) (o:= .cells #[.int .i64 ((rd_T73 Za Zl).f0), .int .i64 ((rd_T73 Za Zl).f1), .int .i64 ((rd_T73 Za Zl).f2), .int .i64 ((rd_T73 Za Zl).f3)] 73 (0,0)) (by(with_reducible repeat(first|refine Yl ?_ _|refine Ym ?_|refine Yj ?_ _));refine YA (cs:= #[.int .i64 ((rd_T73 Za Zl).f0), .int .i64 ((rd_T73 Za Zl).f1), .int .i64 ((rd_T73 Za Zl).f2), .int .i64 0]) ?_ 3 _ rfl;(with_reducible repeat(first|refine Yl ?_ _|refine Ym ?_|refine Yj ?_ _));refine YA (cs:= #[.int .i64 ((rd_T73 Za Zl).f0), .int .i64 ((rd_T73 Za Zl).f1), .int .i64 0, .int .i64 0]) ?_ 2 _ rfl;(with_reducible repeat(first|refine Yl ?_ _|refine Ym ?_|refine Yj ?_ _));refine YA (cs:= #[.int .i64 ((rd_T73 Za Zl).f0), .int .i64 0, .int .i64 0, .int .i64 0]) ?_ 1 _ rfl;(with_reducible repeat(first|refine Yl ?_ _|refine Ym ?_|refine Yj ?_ _));refine YA (cs:= #[.int .i64 0, .int .i64 0, .int .i64 0, .int .i64 0]) ?_ 0 _ rfl;(with_reducible repeat(first|refine Yl ?_ _|refine Ym ?_|refine Yj ?_ _));exact Wh.out) k_ hk));(case aO=>exact(by(with_reducible repeat(first|apply Yr|apply Yq|apply Yp));exact Kd.R_mono (Kd.R_far (p:=⟨Zw,3,none⟩) (Kd.R_far (p:=⟨Zw,2,none⟩) (Kd.R_far (p:=⟨Zw,1,none⟩) (Kd.R_far (p:=⟨Zw,0,none⟩) (Kd.R_mono HO_10.out (fun k_ hk=>(⟨hk,hk.2⟩:_∧k_≠Zw))) (fun _ hk=>hk.2) (.int .i64 ((rd_T73 Za Zl).f0))) (fun _ hk=>hk.2) (.int .i64 ((rd_T73 Za Zl).f1))) (fun _ hk=>hk.2) (.int .i64 ((rd_T73 Za Zl).f2))) (fun _ hk=>hk.2) (.int .i64 ((rd_T73 Za Zl).f3))) (fun _ hk=>hk.1.2)));(case aS=>exact(Yi (by repeat(first|(with_reducible first|exact HB.out|apply Ye|apply Yd|apply Yg|refine Yh ?_ Wg.out|refine Yh ?_ GE412.out)|exact HB.out))));(case aL=>have:=LMc21.out;omega);intro v414 w27 ho hb hg hat;rw[← Ny413.out] at ho;have n0_:=Ya (Kd.R_over' (by(with_reducible repeat(first|apply Yr|apply Yq|apply Yp));exact(Kd.R_mono (Kd.R_far (p:=⟨Zw,3,none⟩) (Kd.R_far (p:=⟨Zw,2,none⟩) (Kd.R_far (p:=⟨Zw,1,none⟩) (Kd.R_far (p:=⟨Zw,0,none⟩) (Kd.R_types HO_11.out Wh.out (by decide)) (fun _ hk=>hk.2) (.int .i64 ((rd_T73 Za Zl).f0))) (fun _ hk=>hk.2) (.int .i64 ((rd_T73 Za Zl).f1))) (fun _ hk=>hk.2) (.int .i64 ((rd_T73 Za Zl).f2))) (fun _ hk=>hk.2) (.int .i64 ((rd_T73 Za Zl).f3))) (fun _ h_=>h_.1))) (Kd.R_typed (by(with_reducible repeat(first|apply Yr|apply Yq|apply Yp));exact(Kd.R_mono (Kd.R_far (p:=⟨Zw,3,none⟩) (Kd.R_far (p:=⟨Zw,2,none⟩) (Kd.R_far (p:=⟨Zw,1,none⟩) (Kd.R_far (p:=⟨Zw,0,none⟩) (Kd.R_mono HO_10.out (fun k_ hk=>(⟨hk,hk.2⟩:_∧k_≠Zw))) (fun _ hk=>hk.2) (.int .i64 ((rd_T73 Za Zl).f0))) (fun _ hk=>hk.2) (.int .i64 ((rd_T73 Za Zl).f1))) (fun _ hk=>hk.2) (.int .i64 ((rd_T73 Za Zl).f2))) (fun _ hk=>hk.2) (.int .i64 ((rd_T73 Za Zl).f3))) (fun _ h_=>h_.1)))) (by decide) hg);have n1_:=Ya (blk_grown (g:=Xq) (o:= .cells #[.int .i64 Zb, .bool Zc, .slice (some ad411) Za.length Zd] 32 (0,0)) (by(with_reducible repeat(first|refine Yl ?_ _|refine Ym ?_|refine Yj ?_ _));refine blk_far ?_ Xv.out _;(with_reducible repeat(first|refine Yl ?_ _|refine Ym ?_|refine Yj ?_ _));refine blk_far ?_ Xv.out _;(with_reducible repeat(first|refine Yl ?_ _|refine Ym ?_|refine Yj ?_ _));refine blk_far ?_ Xv.out _;(with_reducible repeat(first|refine Yl ?_ _|refine Ym ?_|refine Yj ?_ _));refine blk_far ?_ Xv.out _;(with_reducible repeat(first|refine Yl ?_ _|refine Ym ?_|refine Yj ?_ _));exact Zj.out) hg (Kd.R_ne HO_10.out Zj.out (by decide)));have n2_:=Ya (blk_grown (g:=Zw) (o:= .cells #[.int .i64 ((rd_T73 Za Zl).f0), .int .i64 ((rd_T73 Za Zl).f1), .int .i64 ((rd_T73 Za Zl).f2), .int .i64 ((rd_T73 Za Zl).f3)] 73 (0,0)) (by(with_reducible repeat(first|refine Yl ?_ _|refine Ym ?_|refine Yj ?_ _));refine YA (cs:= #[.int .i64 ((rd_T73 Za Zl).f0), .int .i64 ((rd_T73 Za Zl).f1), .int .i64 ((rd_T73 Za Zl).f2), .int .i64 0]) ?_ 3 _ rfl;(with_reducible repeat(first|refine Yl ?_ _|refine Ym ?_|refine Yj ?_ _));refine YA (cs:= #[.int .i64 ((rd_T73 Za Zl).f0), .int .i64 ((rd_T73 Za Zl).f1), .int .i64 0, .int .i64 0]) ?_ 2 _ rfl;(with_reducible repeat(first|refine Yl ?_ _|refine Ym ?_|refine Yj ?_ _));refine YA (cs:= #[.int .i64 ((rd_T73 Za Zl).f0), .int .i64 0, .int .i64 0, .int .i64 0]) ?_ 1 _ rfl;(with_reducible repeat(first|refine Yl ?_ _|refine Ym ?_|refine Yj ?_ _));refine YA (cs:= #[.int .i64 0, .int .i64 0, .int .i64 0, .int .i64 0]) ?_ 0 _ rfl;(with_reducible repeat(first|refine Yl ?_ _|refine Ym ?_|refine Yj ?_ _));exact Wh.out) hg (Kd.R_away HO_10.out (fun _ hk=>hk.2)));have n3_:=Ya (hb);have n4_:=Ya (ho);clear HO_11;clear Zj;clear Wh;clear HB;clear HO_10;have HO_11:=n0_;have Zj:=n1_;have Wh:=n2_;have HB:=n3_;have HO415:=n4_;clear n0_ n1_ n2_ n3_ n4_;clear ho hb hg hat)|((with_reducible refine gate_builtin (b:= .append) (xs:= #[.tmp 77, .tmp 81]) rfl ?_);at_builtin;refine Kd.R_append k107 (w0:=w) w.heap.size rfl (.tmp 77) (.tmp 81) 93 107 (.agg #[(.bool false),(.bool false),(.int .i64 0),(.int .i64 0),(.int .i64 0)]) 32 rfl Try.underlying93 info107 rfl (by decide) (by omega) u11 Xg (⟨true,false,Zl,0,Xx⟩:S107) [.bool true, .bool false, .int .i64 Zl, .int .i64 0, .int .i64 Xx] (fun _=>True) (fun _=>False) rfl rfl ?aP (fun _ hk=>hk.elim) ?aF ?aO ?aB ?aS ?aL ?_;(case aP=>exact k107_mkM _ _ _ (⟨true,false,Zl,0,Xx⟩:S107));(case aB=>exact(by repeat(first|(with_reducible first|exact HB.out|apply Ye|apply Yd|apply Yg|refine Yh ?_ Wg.out|refine Yh ?_ GE412.out)|exact HB.out)));(case aF=>exact(fun _ _=>trivial));(case aO=>exact(by(with_reducible repeat(first|apply Yr|apply Yq|apply Yp));exact HO_11.out));(case aS=>exact(Yi (by repeat(first|(with_reducible first|exact HB.out|apply Ye|apply Yd|apply Yg|refine Yh ?_ Wg.out|refine Yh ?_ GE412.out)|exact HB.out))));(case aL=>have:=LMc22.out;omega);intro v417 w28 ho hb hg hat;rw[← Ny416.out] at ho;have n0_:=Ya (blk_grown (g:=Xq) (o:= .cells #[.int .i64 Zb, .bool Zc, .slice (some ad411) Za.length Zd] 32 (0,0)) (by(with_reducible repeat(first|refine Yl ?_ _|refine Ym ?_|refine Yj ?_ _));exact Zj.out) hg (Kd.R_ne HO_11.out Zj.out (by decide)));have n1_:=Ya (blk_grown (g:=Zw) (o:= .cells #[.int .i64 ((rd_T73 Za Zl).f0), .int .i64 ((rd_T73 Za Zl).f1), .int .i64 ((rd_T73 Za Zl).f2), .int .i64 ((rd_T73 Za Zl).f3)] 73 (0,0)) (by(with_reducible repeat(first|refine Yl ?_ _|refine Ym ?_|refine Yj ?_ _));exact Wh.out) hg (Kd.R_ne HO_11.out Wh.out (by decide)));have n2_:=Ya (Kd.R_over' (by(with_reducible repeat(first|apply Yr|apply Yq|apply Yp));exact HO415.out) (Kd.R_typed (by(with_reducible repeat(first|apply Yr|apply Yq|apply Yp));exact HO_11.out)) (by decide) hg);have n3_:=Ya (hb);have n4_:=Ya (ho);clear Zj;clear Wh;clear HO415;clear HB;clear HO_11;have Zj:=n0_;have Wh:=n1_;have HO415:=n2_;have HB:=n3_;have HO418:=n4_;clear n0_ n1_ n2_ n3_ n4_;clear ho hb hg hat));go_roundg k2
      case measure=>have:=HK1.out;have:=HK2.out;omega
      case rel=>exact⟨(y413),(y416),(wrap64 (Zl+1)),(by first|rfl|(simp;done)|(simp[*];done)),H',⟨by have:=HK1.out;have:=HK2.out;omega⟩,⟨by(with_reducible repeat(first|apply Yr|apply Yq|apply Yp));exact Kd.R_mono HO415.out (fun _ hk=>trivial)⟩,⟨by(with_reducible repeat(first|apply Yr|apply Yq|apply Yp));exact HO418.out⟩,⟨by(with_reducible repeat(first|refine Yl ?_ _|refine Ym ?_|refine Yj ?_ _));exact Zj.out⟩,⟨by repeat(first|(with_reducible first|exact HB.out|apply Ye|apply Yd|apply Yg|refine Yh ?_ Wg.out|refine Yh ?_ GE412.out)|exact HB.out)⟩⟩
     rw[Yy c8] at H;have c8b0:decide (Zl<(Za.length:Int))=false:=Yw c8;clear c8;have H':=Ya H;clear H;have hcz33_0:wr.cell? ⟨Xq,0,none⟩=some (.int .i64 Zb):=(Yc Zj.out 0).trans rfl;have hcz33_1:wr.cell? ⟨Xq,1,none⟩=some (.bool Zc):=(Yc Zj.out 1).trans rfl;have hcz33_2:wr.cell? ⟨Xq,2,none⟩=some (.slice Ze Za.length Zd):=(Yc Zj.out 2).trans rfl;have hfz33_0:=Yf Zj.out 0;have hfz33_1:=Yf Zj.out 1;have hfz33_2:=Yf Zj.out 2;go_wp2;go_loopg [10,11,16] k2 (fun kq v10 v11 v16 w'=> ∃ (Jv:List (S73)) (Un:List (S107)) (Wl:Int),v16= .int .i64 Wl∧Aside0 (ebbtideref15_Arcs.l2 kq a1 a2 a3 Jv Un Zb Xx Wl Zb Zc Za=some (r1,r2))∧Aside0 (kq≤k2)∧Aside0 (Kd.R k73 73 w' w.heap.size (fun _=>True) v10 Jv)∧Aside0 (Kd.R k107 107 w' w.heap.size (fun _=>True) v11 Un)∧Aside0 (w'.heap[Xq]? =some (.cells #[.int .i64 Zb, .bool Zc,(.slice Ze Za.length Zd)] 32 (0,0)))∧Aside0 (Below w.heap.size w w'))
     case atStart=>exact⟨(Uy),(Xg),(0),(by first|rfl|(simp;done)|(simp[*];done)),H',⟨Nat.le_refl _⟩,⟨by(with_reducible repeat(first|apply Yr|apply Yq|apply Yp));exact HO_10.out⟩,⟨by(with_reducible repeat(first|apply Yr|apply Yq|apply Yp));exact HO_11.out⟩,⟨by(with_reducible repeat(first|refine Yl ?_ _|refine Ym ?_|refine Yj ?_ _));exact Zj.out⟩,⟨by repeat(first|(with_reducible first|exact HB.out|apply Ye|apply Yd|apply Yg|refine Yh ?_ Wg.out)|exact HB.out)⟩⟩
     case round=>
      clear H';try clear c1
      try clear c2
      try clear p2
      try clear c3
      try clear p4
      try clear q4
      try clear hx4
      try clear p6
      try clear c7
      try clear c7b0
      try clear c8
      try clear c8b0
      try clear c9
      try clear c9b0
      try clear c10
      try clear c10b0
      try clear c11
      try clear c11b0
      try clear c11b1
      try clear c14
      try clear c16
      try clear c16b0
      try clear c16b1
      try clear c19
      try clear c21
      try clear c22
      try clear c25
      try clear c31
      try clear hcz12_0
      try clear hcz12_1
      try clear hcz12_2
      try clear hcz15_0
      try clear hcz15_1
      try clear hcz15_2
      try clear hcz15_3
      try clear Vj
      try clear Vk
      try clear hcz17_2
      try clear hcz20_0
      try clear hcz20_1
      try clear hcz20_2
      try clear hcz20_3
      try clear hcz23_0
      try clear hcz23_1
      try clear hcz23_2
      try clear hcz26_0
      try clear hcz26_1
      try clear hcz26_2
      try clear hcz26_3
      try clear hcz29_0
      try clear hcz29_1
      try clear hcz29_2
      try clear hcz32_0
      try clear hcz32_1
      try clear hcz32_2
      try clear hcz32_3
      try clear hcz33_0
      try clear hcz33_1
      try clear hcz33_2
      try clear hcz6_0
      try clear hcz6_1
      try clear hcz6_2
      try clear hfz12_0
      try clear hfz12_1
      try clear hfz12_2
      try clear hfz15_0
      try clear hfz15_1
      try clear hfz15_2
      try clear hfz15_3
      try clear Vl
      try clear Vm
      try clear hfz17_2
      try clear hfz20_0
      try clear hfz20_1
      try clear hfz20_2
      try clear hfz20_3
      try clear hfz23_0
      try clear hfz23_1
      try clear hfz23_2
      try clear hfz26_0
      try clear hfz26_1
      try clear hfz26_2
      try clear hfz26_3
      try clear hfz29_0
      try clear hfz29_1
      try clear hfz29_2
      try clear hfz32_0
      try clear hfz32_1
      try clear hfz32_2
      try clear hfz32_3
      try clear hfz33_0
      try clear hfz33_1
      try clear hfz33_2
      try clear hfz6_0
      try clear hfz6_1
      try clear hfz6_2
      try clear Vu
      try clear Vv
      try clear Vw
      try clear Vx
      try clear p2
      try clear p411
      try clear q411
      obtain⟨Jv,Un,Wl,rfl,HA,HK3,HO_10,HO_11,Zj,HB⟩:=hrel;cases gk with
      |zero=>exact absurd HA.out (by simp[ebbtideref15_Arcs.l2])
      |succ k3=>
       have H:=HA.out;clear HA;simp only[ebbtideref15_Arcs.l2] at H;have HC34:=Ya H;clear H;go_upto_region 15 with (fail)
       go_cut [94] (fun v94 wc=> ∃ (kq:Nat) (x94_33:Bool),v94= .bool x94_33∧Aside0 (ebbtideref15_Arcs.j3 kq a1 a2 a3 Jv Un Zb Xx Wl x94_33 Zb Zc Za=some (r1,r2))∧Aside0 (kq≤k3)∧Aside0 (Kd.R k73 73 wc w.heap.size (fun _=>True) u10 Jv)∧Aside0 (Kd.R k107 107 wc w.heap.size (fun _=>True) u11 Un)∧Aside0 (wc.heap[Xq]? =some (.cells #[.int .i64 Zb, .bool Zc,(.slice Ze Za.length Zd)] 32 (0,0)))∧Aside0 (Below w.heap.size w wc))
       case first=>
        have H:=HC34.out;clear HC34;by_cases c35:Wl<Zb
        rotate_left
        ·rw[Yy c35] at H
         have c35b0:decide (Wl<Zb)=false:=Yw c35;clear c35
         (first|rw[c35b0]|(simp only[i64_w,i32_w];rw[c35b0])|skip)
         have H':=Ya H;clear H;go_wp2;go_meet
         case rel=>exact⟨_,(false),(by first|rfl|(simp;done)|(simp[*];done)),H',⟨by have:=HK1.out;have:=HK2.out;have:=HK3.out;first|omega|exact Nat.le_refl _⟩,⟨by(with_reducible repeat(first|apply Yr|apply Yq|apply Yp));exact HO_10.out⟩,⟨by(with_reducible repeat(first|apply Yr|apply Yq|apply Yp));exact HO_11.out⟩,⟨by(with_reducible repeat(first|refine Yl ?_ _|refine Ym ?_|refine Yj ?_ _));exact Zj.out⟩,⟨by repeat(first|(with_reducible first|exact HB.out|apply Ye|apply Yd|apply Yg|refine Yh ?_ Wg.out)|exact HB.out)⟩⟩
        rw[Yx c35] at H;have c35b0:decide (Wl<Zb)=true:=Yv c35;clear c35
        (first|rw[c35b0]|(simp only[i64_w,i32_w];rw[c35b0])|skip)
        by_cases c36:Zc=true
        ·subst c36
         have H1:(ebbtideref15_Arcs.j3 k3 a1 a2 a3 Jv Un Zb Xx Wl (decide (Xx<a3)) Zb true Za)=some (r1,r2):=by first|(rw[Yx rfl] at H;exact H)|(rw[Yx trivial] at H;exact H)
         clear H;have H:=H1;clear H1;have H':=Ya H;clear H;have hcz37_0:wr.cell? ⟨Xq,0,none⟩=some (.int .i64 Zb):=(Yc Zj.out 0).trans rfl;have hcz37_1:wr.cell? ⟨Xq,1,none⟩=some (.bool true):=(Yc Zj.out 1).trans rfl;have hcz37_2:wr.cell? ⟨Xq,2,none⟩=some (.slice Ze Za.length Zd):=(Yc Zj.out 2).trans rfl;have hfz37_0:=Yf Zj.out 0;have hfz37_1:=Yf Zj.out 1;have hfz37_2:=Yf Zj.out 2;go_wp2;go_meet
         case rel=>exact⟨_,(decide (Xx<a3)),(by first|rfl|(simp;done)|(simp[*];done)),H',⟨by have:=HK1.out;have:=HK2.out;have:=HK3.out;first|omega|exact Nat.le_refl _⟩,⟨by(with_reducible repeat(first|apply Yr|apply Yq|apply Yp));exact HO_10.out⟩,⟨by(with_reducible repeat(first|apply Yr|apply Yq|apply Yp));exact HO_11.out⟩,⟨by(with_reducible repeat(first|refine Yl ?_ _|refine Ym ?_|refine Yj ?_ _));exact Zj.out⟩,⟨by repeat(first|(with_reducible first|exact HB.out|apply Ye|apply Yd|apply Yg|refine Yh ?_ Wg.out)|exact HB.out)⟩⟩
        replace c36:=Bool.eq_false_iff.mpr c36;subst c36;have H1:(ebbtideref15_Arcs.j3 k3 a1 a2 a3 Jv Un Zb Xx Wl false Zb false Za)=some (r1,r2):=by rw[Yy (show ¬ (false=true) by decide)] at H;exact H
        clear H;have H:=H1;clear H1;have H':=Ya H;clear H;have hcz38_0:wr.cell? ⟨Xq,0,none⟩=some (.int .i64 Zb):=(Yc Zj.out 0).trans rfl;have hcz38_1:wr.cell? ⟨Xq,1,none⟩=some (.bool false):=(Yc Zj.out 1).trans rfl;have hcz38_2:wr.cell? ⟨Xq,2,none⟩=some (.slice Ze Za.length Zd):=(Yc Zj.out 2).trans rfl;have hfz38_0:=Yf Zj.out 0;have hfz38_1:=Yf Zj.out 1;have hfz38_2:=Yf Zj.out 2;go_wp2;go_meet
        case rel=>exact⟨_,(false),(by first|rfl|(simp;done)|(simp[*];done)),H',⟨by have:=HK1.out;have:=HK2.out;have:=HK3.out;first|omega|exact Nat.le_refl _⟩,⟨by(with_reducible repeat(first|apply Yr|apply Yq|apply Yp));exact HO_10.out⟩,⟨by(with_reducible repeat(first|apply Yr|apply Yq|apply Yp));exact HO_11.out⟩,⟨by(with_reducible repeat(first|refine Yl ?_ _|refine Ym ?_|refine Yj ?_ _));exact Zj.out⟩,⟨by repeat(first|(with_reducible first|exact HB.out|apply Ye|apply Yd|apply Yg|refine Yh ?_ Wg.out)|exact HB.out)⟩⟩
       case rest=>
        clear HC34;try clear c1
        try clear c2
        try clear p2
        try clear c3
        try clear p4
        try clear q4
        try clear hx4
        try clear p6
        try clear c7
        try clear c7b0
        try clear c8
        try clear c8b0
        try clear c9
        try clear c9b0
        try clear c10
        try clear c10b0
        try clear c11
        try clear c11b0
        try clear c11b1
        try clear c14
        try clear c16
        try clear c16b0
        try clear c16b1
        try clear c19
        try clear c21
        try clear c22
        try clear c25
        try clear c31
        try clear c35
        try clear c35b0
        try clear c36
        try clear hcz12_0
        try clear hcz12_1
        try clear hcz12_2
        try clear hcz15_0
        try clear hcz15_1
        try clear hcz15_2
        try clear hcz15_3
        try clear Vj
        try clear Vk
        try clear hcz17_2
        try clear hcz20_0
        try clear hcz20_1
        try clear hcz20_2
        try clear hcz20_3
        try clear hcz23_0
        try clear hcz23_1
        try clear hcz23_2
        try clear hcz26_0
        try clear hcz26_1
        try clear hcz26_2
        try clear hcz26_3
        try clear hcz29_0
        try clear hcz29_1
        try clear hcz29_2
        try clear hcz32_0
        try clear hcz32_1
        try clear hcz32_2
        try clear hcz32_3
        try clear hcz33_0
        try clear hcz33_1
        try clear hcz33_2
        try clear hcz37_0
        try clear hcz37_1
        try clear hcz37_2
        try clear hcz38_0
        try clear hcz38_1
        try clear hcz38_2
        try clear hcz6_0
        try clear hcz6_1
        try clear hcz6_2
        try clear hfz12_0
        try clear hfz12_1
        try clear hfz12_2
        try clear hfz15_0
        try clear hfz15_1
        try clear hfz15_2
        try clear hfz15_3
        try clear Vl
        try clear Vm
        try clear hfz17_2
        try clear hfz20_0
        try clear hfz20_1
        try clear hfz20_2
        try clear hfz20_3
        try clear hfz23_0
        try clear hfz23_1
        try clear hfz23_2
        try clear hfz26_0
        try clear hfz26_1
        try clear hfz26_2
        try clear hfz26_3
        try clear hfz29_0
        try clear hfz29_1
        try clear hfz29_2
        try clear hfz32_0
        try clear hfz32_1
        try clear hfz32_2
        try clear hfz32_3
        try clear hfz33_0
        try clear hfz33_1
        try clear hfz33_2
        try clear hfz37_0
        try clear hfz37_1
        try clear hfz37_2
        try clear hfz38_0
        try clear hfz38_1
        try clear hfz38_2
        try clear hfz6_0
        try clear hfz6_1
        try clear hfz6_2
        try clear Vu
        try clear Vv
        try clear Vw
        try clear Vx
        try clear p2
        try clear p4
        try clear p411
        try clear p6
        try clear q4
        try clear q411
        obtain⟨kq,x94_33,rfl,HA,HJ33,HO_10,HO_11,Zj,HB⟩:=hcut;cases kq with
        |zero=>exact absurd HA.out (by simp[ebbtideref15_Arcs.j3])
        |succ kj33=>
         have H:=HA.out;clear HA;simp only[ebbtideref15_Arcs.j3] at H;by_cases c39:x94_33=true
         rotate_left
         ·replace c39:=Bool.eq_false_iff.mpr c39
          subst c39;have H1:(ebbtideref15_Arcs.l0 kj33 a1 a2 a3 Jv Un Zb (wrap64 (Xx+1)) Zb Zc Za)=some (r1,r2):=by rw[Yy (show ¬ (false=true) by decide)] at H;exact H
          clear H;have H:=H1;clear H1;have H':=Ya H;clear H;go_wp2;go_roundg kj33
          case measure=>have:=HK1.out;have:=HK2.out;have:=HK3.out;have:=HJ33.out;omega
          case rel=>exact⟨(Jv),(Un),(wrap64 (Xx+1)),(by first|rfl|(simp;done)|(simp[*];done)),H',⟨by have:=HK1.out;have:=HK2.out;have:=HK3.out;have:=HJ33.out;omega⟩,⟨by(with_reducible repeat(first|apply Yr|apply Yq|apply Yp));exact HO_10.out⟩,⟨by(with_reducible repeat(first|apply Yr|apply Yq|apply Yp));exact HO_11.out⟩,⟨by(with_reducible repeat(first|refine Yl ?_ _|refine Ym ?_|refine Yj ?_ _));exact Zj.out⟩,⟨by repeat(first|(with_reducible first|exact HB.out|apply Ye|apply Yd|apply Yg|refine Yh ?_ Wg.out)|exact HB.out)⟩⟩
         subst c39;have H1:(if Wl=a1 then(ebbtideref15_Arcs.l2 kj33 a1 a2 a3 Jv Un Zb Xx (wrap64 (Wl+1)) Zb Zc Za) else(if Wl=a2 then(ebbtideref15_Arcs.l2 kj33 a1 a2 a3 Jv Un Zb Xx (wrap64 (Wl+1)) Zb Zc Za) else(if Jv.length<4398046511104 then(if Un.length<4398046511104 then(ebbtideref15_Arcs.l2 kj33 a1 a2 a3 (Jv ++ [(⟨wrap64 ((wrap64 (Xx * Zb))+Wl),wrap64 ((wrap64 ((wrap64 (Xx+1)) * Zb))+Wl),1099511627776,0⟩:S73)]) (Un ++ [(⟨false,true,0,Wl,Xx⟩:S107)]) Zb Xx (wrap64 (Wl+1)) Zb Zc Za) else(none)) else(none))))=some (r1,r2):=by first|(rw[Yx rfl] at H;exact H)|(rw[Yx trivial] at H;exact H)
         clear H;have H:=H1;clear H1;by_cases c40:Wl=a1
         ·rw[Yx c40] at H
          have c40b0:(Wl == a1)=true:=beq_iff_eq.mpr c40;have c40b1:(Wl != a1)=false:=bne_eq_false_iff_eq.mpr c40;clear c40;have H':=Ya H;clear H;go_wp2;go_roundg kj33
          case measure=>have:=HK1.out;have:=HK2.out;have:=HK3.out;have:=HJ33.out;omega
          case rel=>exact⟨(Jv),(Un),(wrap64 (Wl+1)),(by first|rfl|(simp;done)|(simp[*];done)),H',⟨by have:=HK1.out;have:=HK2.out;have:=HK3.out;have:=HJ33.out;omega⟩,⟨by(with_reducible repeat(first|apply Yr|apply Yq|apply Yp));exact HO_10.out⟩,⟨by(with_reducible repeat(first|apply Yr|apply Yq|apply Yp));exact HO_11.out⟩,⟨by(with_reducible repeat(first|refine Yl ?_ _|refine Ym ?_|refine Yj ?_ _));exact Zj.out⟩,⟨by repeat(first|(with_reducible first|exact HB.out|apply Ye|apply Yd|apply Yg|refine Yh ?_ Wg.out)|exact HB.out)⟩⟩
         rw[Yy c40] at H;have c40b0:(Wl == a1)=false:=beq_eq_false_iff_ne.mpr c40;have c40b1:(Wl != a1)=true:=bne_iff_ne.mpr c40;by_cases c41:Wl=a2
         ·rw[Yx c41] at H
          have c41b0:(Wl == a2)=true:=beq_iff_eq.mpr c41;have c41b1:(Wl != a2)=false:=bne_eq_false_iff_eq.mpr c41;clear c41;have H':=Ya H;clear H;go_wp2;go_roundg kj33
          case measure=>have:=HK1.out;have:=HK2.out;have:=HK3.out;have:=HJ33.out;omega
          case rel=>exact⟨(Jv),(Un),(wrap64 (Wl+1)),(by first|rfl|(simp;done)|(simp[*];done)),H',⟨by have:=HK1.out;have:=HK2.out;have:=HK3.out;have:=HJ33.out;omega⟩,⟨by(with_reducible repeat(first|apply Yr|apply Yq|apply Yp));exact HO_10.out⟩,⟨by(with_reducible repeat(first|apply Yr|apply Yq|apply Yp));exact HO_11.out⟩,⟨by(with_reducible repeat(first|refine Yl ?_ _|refine Ym ?_|refine Yj ?_ _));exact Zj.out⟩,⟨by repeat(first|(with_reducible first|exact HB.out|apply Ye|apply Yd|apply Yg|refine Yh ?_ Wg.out)|exact HB.out)⟩⟩
         rw[Yy c41] at H;have c41b0:(Wl == a2)=false:=beq_eq_false_iff_ne.mpr c41;have c41b1:(Wl != a2)=true:=bne_iff_ne.mpr c41;by_cases c42:Jv.length<4398046511104
         rotate_left
         ·rw[Yy c42] at H
          exact absurd H (by simp)
         rw[Yx c42] at H;have LMc42:=Ya c42;clear c42;obtain⟨y419,hy419⟩: ∃ y_:List (S73),y_=(Jv ++ [(⟨wrap64 ((wrap64 (Xx * Zb))+Wl),wrap64 ((wrap64 ((wrap64 (Xx+1)) * Zb))+Wl),1099511627776,0⟩:S73)]):=⟨_,rfl⟩;replace H:(if Un.length<4398046511104 then(ebbtideref15_Arcs.l2 kj33 a1 a2 a3 y419 (Un ++ [(⟨false,true,0,Wl,Xx⟩:S107)]) Zb Xx (wrap64 (Wl+1)) Zb Zc Za) else(none))=some (r1,r2):=by first|(rw[hy419];with_reducible exact H)|(have H2_:=(Option.bind_some _ _).symm.trans H;rw[hy419];with_reducible exact H2_)|(have H2_:=(Option.bind_some _ _).symm.trans H;with_reducible exact H2_)|with_reducible exact H|(rw[hy419];exact H)|exact H
         have Ny419:=Ya hy419;clear hy419;by_cases c43:Un.length<4398046511104
         rotate_left
         ·rw[Yy c43] at H
          exact absurd H (by simp)
         rw[Yx c43] at H;have LMc43:=Ya c43;clear c43;obtain⟨y422,hy422⟩: ∃ y_:List (S107),y_=(Un ++ [(⟨false,true,0,Wl,Xx⟩:S107)]):=⟨_,rfl⟩;replace H:(ebbtideref15_Arcs.l2 kj33 a1 a2 a3 y419 y422 Zb Xx (wrap64 (Wl+1)) Zb Zc Za)=some (r1,r2):=by first|(rw[hy422];with_reducible exact H)|(have H2_:=(Option.bind_some _ _).symm.trans H;rw[hy422];with_reducible exact H2_)|(have H2_:=(Option.bind_some _ _).symm.trans H;with_reducible exact H2_)|with_reducible exact H|(rw[hy422];exact H)|exact H
         have Ny422:=Ya hy422;clear hy422;have H':=Ya H;clear H;go_wp2_with (first|((with_reducible refine gate_builtin (b:= .append) (xs:= #[.tmp 105, .tmp 118]) rfl ?_);at_builtin;refine Kd.R_append k73 (w0:=w) w.heap.size rfl (.tmp 105) (.tmp 118) 30 73 (.agg #[(.int .i64 0),(.int .i64 0),(.int .i64 0),(.int .i64 0)]) 32 rfl Try.underlying30 info73 rfl (by decide) (by omega) u10 Jv (⟨wrap64 ((wrap64 (Xx * Zb))+Wl),wrap64 ((wrap64 ((wrap64 (Xx+1)) * Zb))+Wl),1099511627776,0⟩:S73) [.int .i64 (wrap64 ((wrap64 (Xx * Zb))+Wl)), .int .i64 (wrap64 ((wrap64 ((wrap64 (Xx+1)) * Zb))+Wl)), .int .i64 1099511627776, .int .i64 0] (fun _=>True) (fun _=>False) rfl rfl ?aP (fun _ hk=>hk.elim) ?aF ?aO ?aB ?aS ?aL ?_;(case aP=>exact k73_mkM _ _ _ (⟨wrap64 ((wrap64 (Xx * Zb))+Wl),wrap64 ((wrap64 ((wrap64 (Xx+1)) * Zb))+Wl),1099511627776,0⟩:S73));(case aB=>exact(by repeat(first|(with_reducible first|exact HB.out|apply Ye|apply Yd|apply Yg|refine Yh ?_ Wg.out)|exact HB.out)));(case aF=>exact(fun _ _=>trivial));(case aO=>exact(by(with_reducible repeat(first|apply Yr|apply Yq|apply Yp));exact HO_10.out));(case aS=>exact(Yi (by repeat(first|(with_reducible first|exact HB.out|apply Ye|apply Yd|apply Yg|refine Yh ?_ Wg.out)|exact HB.out))));(case aL=>have:=LMc42.out;omega);intro v420 w44 ho hb hg hat;rw[← Ny419.out] at ho;have n0_:=Ya (Kd.R_over' (by(with_reducible repeat(first|apply Yr|apply Yq|apply Yp));exact HO_11.out) (Kd.R_typed (by(with_reducible repeat(first|apply Yr|apply Yq|apply Yp));exact HO_10.out)) (by decide) hg);have n1_:=Ya (blk_grown (g:=Xq) (o:= .cells #[.int .i64 Zb, .bool Zc, .slice Ze Za.length Zd] 32 (0,0)) (by(with_reducible repeat(first|refine Yl ?_ _|refine Ym ?_|refine Yj ?_ _));exact Zj.out) hg (Kd.R_ne HO_10.out Zj.out (by decide)));have n2_:=Ya (hb);have n3_:=Ya (ho);clear HO_11;clear Zj;clear HB;clear HO_10;have HO_11:=n0_;have Zj:=n1_;have HB:=n2_;have HO421:=n3_;clear n0_ n1_ n2_ n3_;clear ho hb hg hat)|((with_reducible refine gate_builtin (b:= .append) (xs:= #[.tmp 120, .tmp 124]) rfl ?_);at_builtin;refine Kd.R_append k107 (w0:=w) w.heap.size rfl (.tmp 120) (.tmp 124) 93 107 (.agg #[(.bool false),(.bool false),(.int .i64 0),(.int .i64 0),(.int .i64 0)]) 32 rfl Try.underlying93 info107 rfl (by decide) (by omega) u11 Un (⟨false,true,0,Wl,Xx⟩:S107) [.bool false, .bool true, .int .i64 0, .int .i64 Wl, .int .i64 Xx] (fun _=>True) (fun _=>False) rfl rfl ?aP (fun _ hk=>hk.elim) ?aF ?aO ?aB ?aS ?aL ?_;(case aP=>exact k107_mkM _ _ _ (⟨false,true,0,Wl,Xx⟩:S107));(case aB=>exact(by repeat(first|(with_reducible first|exact HB.out|apply Ye|apply Yd|apply Yg|refine Yh ?_ Wg.out)|exact HB.out)));(case aF=>exact(fun _ _=>trivial));(case aO=>exact(by(with_reducible repeat(first|apply Yr|apply Yq|apply Yp));exact HO_11.out));(case aS=>exact(Yi (by repeat(first|(with_reducible first|exact HB.out|apply Ye|apply Yd|apply Yg|refine Yh ?_ Wg.out)|exact HB.out))));(case aL=>have:=LMc43.out;omega);intro v423 w45 ho hb hg hat;rw[← Ny422.out] at ho;have n0_:=Ya (blk_grown (g:=Xq) (o:= .cells #[.int .i64 Zb, .bool Zc, .slice Ze Za.length Zd] 32 (0,0)) (by(with_reducible repeat(first|refine Yl ?_ _|refine Ym ?_|refine Yj ?_ _));exact Zj.out) hg (Kd.R_ne HO_11.out Zj.out (by decide)));have n1_:=Ya (Kd.R_over' (by(with_reducible repeat(first|apply Yr|apply Yq|apply Yp));exact HO421.out) (Kd.R_typed (by(with_reducible repeat(first|apply Yr|apply Yq|apply Yp));exact HO_11.out)) (by decide) hg);have n2_:=Ya (hb);have n3_:=Ya (ho);clear Zj;clear HO421;clear HB;clear HO_11;have Zj:=n0_;have HO421:=n1_;have HB:=n2_;have HO424:=n3_;clear n0_ n1_ n2_ n3_;clear ho hb hg hat));go_roundg kj33
         case measure=>have:=HK1.out;have:=HK2.out;have:=HK3.out;have:=HJ33.out;omega
         case rel=>exact⟨(y419),(y422),(wrap64 (Wl+1)),(by first|rfl|(simp;done)|(simp[*];done)),H',⟨by have:=HK1.out;have:=HK2.out;have:=HK3.out;have:=HJ33.out;omega⟩,⟨by(with_reducible repeat(first|apply Yr|apply Yq|apply Yp));exact HO421.out⟩,⟨by(with_reducible repeat(first|apply Yr|apply Yq|apply Yp));exact HO424.out⟩,⟨by(with_reducible repeat(first|refine Yl ?_ _|refine Ym ?_|refine Yj ?_ _));exact Zj.out⟩,⟨by repeat(first|(with_reducible first|exact HB.out|apply Ye|apply Yd|apply Yg|refine Yh ?_ Wg.out)|exact HB.out)⟩⟩
end P
namespace P
attribute [local go_sem] max2_int min2_int max_two min_two max_three min_three max_four min_four
def ebbtideref15_Build.f (k:Nat) (Zb:Int) (Zc:Bool) (Za:List (S73)) (a1:Int) (a2:Int) (a3:Int):Option (Int × Bool × (List (S73)) × Int):=(ebbtideref15_Asked.f k Zb Zc Za a1 a2 a3).bind fun t439=>(if t439=0 then((ebbtideref15_Arcs.f k Zb Zc Za a1 a2 a3).bind fun bt440=>(some (wrap64 ((wrap64 ((wrap64 (a3+1)) * Zb))+2),false,bt440.1,0))) else(some (0,false,([]:List (S73)),t439)))
set_option maxHeartbeats 8000000 in
set_option maxRecDepth 100000 in
theorem ebbtideref15_Build.calls (k:Nat) (Zb:Int) (Zc:Bool) (Ze:Option Addr) (Zd:Nat) (Za:List (S73)) (a1:Int) (a2:Int) (a3:Int) (r1:Int) (r2:Bool) (r3:List (S73)) (r4:Int) (w:World) (Zx:Kd.C k73 w Ze Za.length Za) (Zy:Za.length≤Zd) (h:ebbtideref15_Build.f k Zb Zc Za a1 a2 a3=some (r1,r2,r3,r4)):
  Calls Try.prog 29 #[.agg #[.int .i64 Zb, .bool Zc, .slice Ze Za.length Zd], .int .i64 a1, .int .i64 a2, .int .i64 a3] w fun e w'=> ∃ v2_:Value,e= .returned (.tuple #[.agg #[.int .i64 r1, .bool r2,v2_], .int .i64 r4])∧Kd.R k73 73 w' w.heap.size (fun _=>True) v2_ r3∧Below w.heap.size w w':=by
 have hu32:=Try.underlying32;have Zo:=Ya Zx;have Zz:=Ya Zy;clear Zx Zy;have HB:=Ya (Yo w.heap.size w);have H:((ebbtideref15_Asked.f k Zb Zc Za a1 a2 a3).bind fun t439=>(if t439=0 then((ebbtideref15_Arcs.f k Zb Zc Za a1 a2 a3).bind fun bt440=>(some (wrap64 ((wrap64 ((wrap64 (a3+1)) * Zb))+2),false,bt440.1,0))) else(some (0,false,([]:List (S73)),t439))))=some (r1,r2,r3,r4):=h;clear h;replace H:=Option.bind_eq_some_iff.mp H;obtain⟨t439,A50,H⟩:=H;replace H:(if t439=0 then((ebbtideref15_Arcs.f k Zb Zc Za a1 a2 a3).bind fun bt440=>(some (wrap64 ((wrap64 ((wrap64 (a3+1)) * Zb))+2),false,bt440.1,0))) else(some (0,false,([]:List (S73)),t439)))=some (r1,r2,r3,r4):=H;have A5:=Ya A50;clear A50;by_cases c6:t439=0
 rotate_left
 ·rw[Yy c6] at H
  have c6b0:(t439 == 0)=false:=beq_eq_false_iff_ne.mpr c6;have c6b1:(t439 != 0)=true:=bne_iff_ne.mpr c6;simp only[Option.some.injEq,Prod.mk.injEq] at H;obtain⟨rfl,rfl,rfl,rfl⟩:=H;go_enter Try.func29,Try.ntmps29;go_wp2_with (first|((with_reducible refine gate_dst (N:=4) rfl ?_);refine Yz ?hg (N:=4) ?hd (cs:= #[.int .i64 Zb, .bool Zc, .slice Ze Za.length Zd]) (t:=32) ?hr ?_;(case hd=>rfl);(case hg=>rfl);(case hr=>first|(go_simp;done)|(go_simp;rfl));intro Ue hg w18 Zf hb;have n0_:=Ya (Yk (by repeat(first|(with_reducible first|exact HB.out|apply Ye|apply Yd|apply Yg)|exact HB.out)) hb);have n1_:=Ya (Zf);have n2_:=Ya ((by rw[hg];exact(Yi (by repeat(first|(with_reducible first|exact HB.out|apply Ye|apply Yd|apply Yg)|exact HB.out))):w.heap.size≤Ue));have n3_:=Ya ((by rw[hg];exact(Yi (by repeat(first|(with_reducible first|exact HB.out|apply Ye|apply Yd|apply Yg)|exact HB.out))):w.heap.size≤Ue));clear HB;have HB:=n0_;have Wm:=n1_;have GW437:=n2_;have GE437:=n3_;clear n0_ n1_ n2_ n3_;clear hb Zf hg)|((with_reducible refine gate_dst (N:=8) rfl ?_);refine Yz ?hg (N:=8) ?hd (cs:= #[.int .i64 0, .bool false, .slice none 0 0]) (t:=32) ?hr ?_;(case hd=>rfl);(case hg=>rfl);(case hr=>first|(go_simp;done)|(go_simp;rfl));intro gb438 hg w19 Zf hb;have n0_:=Ya (Yn (g:=Ue) (o:= .cells #[.int .i64 Zb, .bool Zc, .slice Ze Za.length Zd] 32 (0,0)) (by(with_reducible repeat(first|refine Yl ?_ _|refine Ym ?_|refine Yj ?_ _));exact Wm.out) hb);have n1_:=Ya (Yk (by repeat(first|(with_reducible first|exact HB.out|apply Ye|apply Yd|apply Yg|refine Yh ?_ GE437.out)|exact HB.out)) hb);have n2_:=Ya (Zf);have n3_:=Ya ((by rw[hg];exact(Yi (by repeat(first|(with_reducible first|exact HB.out|apply Ye|apply Yd|apply Yg|refine Yh ?_ GE437.out)|exact HB.out))):w.heap.size≤gb438));have n4_:=Ya ((by rw[hg];exact(Yi (by repeat(first|(with_reducible first|exact HB.out|apply Ye|apply Yd|apply Yg|refine Yh ?_ GE437.out)|exact HB.out))):w.heap.size≤gb438));have n5_:=Ya ((by rw[hg];exact Nat.ne_of_lt (blk_lt (g:=Ue) (o:= .cells #[.int .i64 Zb, .bool Zc, .slice Ze Za.length Zd] 32 (0,0)) (by(with_reducible repeat(first|refine Yl ?_ _|refine Ym ?_|refine Yj ?_ _));exact Wm.out)):Ue≠gb438));have n6_:=Ya ((by rw[hg];exact Nat.ne_of_gt (blk_lt (g:=Ue) (o:= .cells #[.int .i64 Zb, .bool Zc, .slice Ze Za.length Zd] 32 (0,0)) (by(with_reducible repeat(first|refine Yl ?_ _|refine Ym ?_|refine Yj ?_ _));exact Wm.out)):gb438≠Ue));clear Wm;clear HB;have Wm:=n0_;have HB:=n1_;have Jw:=n2_;have GW438:=n3_;have GE438:=n4_;have NB437_438:=n5_;have NB438_437:=n6_;clear n0_ n1_ n2_ n3_ n4_ n5_ n6_;clear hb Zf hg;have hnb20:=NB437_438.out;have hnc20:=NB438_437.out;have hcz21_0:w19.cell? ⟨Ue,0,none⟩=some (.int .i64 Zb):=(Yc Wm.out 0).trans rfl;have hcz21_1:w19.cell? ⟨Ue,1,none⟩=some (.bool Zc):=(Yc Wm.out 1).trans rfl;have hcz21_2:w19.cell? ⟨Ue,2,none⟩=some (.slice Ze Za.length Zd):=(Yc Wm.out 2).trans rfl;have hfz21_0:=Yf Wm.out 0;have hfz21_1:=Yf Wm.out 1;have hfz21_2:=Yf Wm.out 2)|((with_reducible refine gate_callee (f:=38) rfl ?_);refine goesL_ (some 17) rfl rfl Try.func38 (by kernel_rfl) rfl #[.agg #[.int .i64 Zb, .bool Zc, .slice Ze Za.length Zd], .int .i64 a1, .int .i64 a2, .int .i64 a3] rfl (by(try simp only[List.map_toArray,List.map_cons,List.map_nil]);first|done|rfl|(simp only[List.length_drop,List.length_take];rfl)) ?_;(with_reducible refine(ebbtideref15_Asked.calls k Zb Zc _ _ Za a1 a2 a3 t439 _ ?side1 ?side2 A5.out).mono ?_);(case side1=>repeat(first|exact(Yt Zo.out HB.out)|(with_reducible refine Kd.C_alloc ?_ _)|(with_reducible refine Kd.C_drewN ?_ _)|(with_reducible refine Kd.C_drew ?_)));(case side2=>exact Zz.out);rintro e w22 ⟨rfl,hb⟩;refine⟨_,rfl,?_⟩;have n0_:=Ya (Yn (g:=Ue) (o:= .cells #[.int .i64 Zb, .bool Zc, .slice Ze Za.length Zd] 32 (0,0)) (by(with_reducible repeat(first|refine Yl ?_ _|refine Ym ?_|refine Yj ?_ _));exact Wm.out) hb);have n1_:=Ya (Yn (g:=gb438) (o:= .cells #[.int .i64 0, .bool false, .slice none 0 0] 32 (0,0)) (by(with_reducible repeat(first|refine Yl ?_ _|refine Ym ?_|refine Yj ?_ _));exact Jw.out) hb);have n2_:=Ya (Yk (by repeat(first|(with_reducible first|exact HB.out|apply Ye|apply Yd|apply Yg|refine Yh ?_ GE437.out|refine Yh ?_ GE438.out)|exact HB.out)) hb);clear Wm;clear Jw;clear HB;have Wm:=n0_;have Jw:=n1_;have HB:=n2_;clear n0_ n1_ n2_;(try clear hb);(try clear hb2);(try clear hk);(try clear hi);have hcz23_0:w22.cell? ⟨gb438,0,none⟩=some (.int .i64 0):=(Yc Jw.out 0).trans rfl;have hcz23_1:w22.cell? ⟨gb438,1,none⟩=some (.bool false):=(Yc Jw.out 1).trans rfl;have hcz23_2:w22.cell? ⟨gb438,2,none⟩=some (.slice none 0 0):=(Yc Jw.out 2).trans rfl;have hfz23_0:=Yf Jw.out 0;have hfz23_1:=Yf Jw.out 1;have hfz23_2:=Yf Jw.out 2));refine bodyPost_ret (results_ct rfl _ _ gb438 32 #[.int .i64 0, .bool false, .slice none 0 0] (0,0) _ rfl (by(with_reducible repeat(first|refine Yl ?_ _|refine Ym ?_|refine Yj ?_ _));refine YA (cs:= #[.int .i64 0, .bool false, .slice none 0 0]) ?_ 2 _ rfl;(with_reducible repeat(first|refine Yl ?_ _|refine Ym ?_|refine Yj ?_ _));refine YA (cs:= #[.int .i64 0, .bool false, .slice none 0 0]) ?_ 1 _ rfl;(with_reducible repeat(first|refine Yl ?_ _|refine Ym ?_|refine Yj ?_ _));refine YA (cs:= #[.int .i64 0, .bool false, .slice none 0 0]) ?_ 0 _ rfl;(with_reducible repeat(first|refine Yl ?_ _|refine Ym ?_|refine Yj ?_ _));exact Jw.out) Try.underlying32 rfl (by kernel_rfl)) rfl ?_;exact⟨_,by first|rfl|(simp[errW_none,errW_some]<;>rfl)|(simp[*,errW_none,errW_some]<;>rfl),by first|exact Kd.R_nil _ _ _ _ _|exact Kd.N_nil _ _ _ _ _|exact Kd.V_nil _ _ _ _ _|exact Kd.Q_nil _ _ _ _ _|exact Kd.S_nil _ _ _ _ _,by repeat(first|(with_reducible first|exact HB.out|apply Ye|apply Yd|apply Yg|refine Yh ?_ GE437.out|refine Yh ?_ GE438.out)|exact HB.out)⟩
 rw[Yx c6] at H;have c6b0:(t439 == 0)=true:=beq_iff_eq.mpr c6;have c6b1:(t439 != 0)=false:=bne_eq_false_iff_eq.mpr c6;clear c6;replace H:=Option.bind_eq_some_iff.mp H;obtain⟨⟨t440,t443⟩,A70,H⟩:=H;replace H:(some (wrap64 ((wrap64 ((wrap64 (a3+1)) * Zb))+2),false,t440,0))=some (r1,r2,r3,r4):=H;have A7:=Ya A70;clear A70;simp only[Option.some.injEq,Prod.mk.injEq] at H;obtain⟨rfl,rfl,rfl,rfl⟩:=H;go_enter Try.func29,Try.ntmps29;go_wp2_with (first|((with_reducible refine gate_dst (N:=4) rfl ?_);refine Yz ?hg (N:=4) ?hd (cs:= #[.int .i64 Zb, .bool Zc, .slice Ze Za.length Zd]) (t:=32) ?hr ?_;(case hd=>rfl);(case hg=>rfl);(case hr=>first|(go_simp;done)|(go_simp;rfl));intro Ue hg w8 Zf hb;have n0_:=Ya (Yk (by repeat(first|(with_reducible first|exact HB.out|apply Ye|apply Yd|apply Yg)|exact HB.out)) hb);have n1_:=Ya (Zf);have n2_:=Ya ((by rw[hg];exact(Yi (by repeat(first|(with_reducible first|exact HB.out|apply Ye|apply Yd|apply Yg)|exact HB.out))):w.heap.size≤Ue));have n3_:=Ya ((by rw[hg];exact(Yi (by repeat(first|(with_reducible first|exact HB.out|apply Ye|apply Yd|apply Yg)|exact HB.out))):w.heap.size≤Ue));clear HB;have HB:=n0_;have Wm:=n1_;have GW437:=n2_;have GE437:=n3_;clear n0_ n1_ n2_ n3_;clear hb Zf hg)|((with_reducible refine gate_dst (N:=8) rfl ?_);refine Yz ?hg (N:=8) ?hd (cs:= #[.int .i64 0, .bool false, .slice none 0 0]) (t:=32) ?hr ?_;(case hd=>rfl);(case hg=>rfl);(case hr=>first|(go_simp;done)|(go_simp;rfl));intro gb438 hg w9 Zf hb;have n0_:=Ya (Yn (g:=Ue) (o:= .cells #[.int .i64 Zb, .bool Zc, .slice Ze Za.length Zd] 32 (0,0)) (by(with_reducible repeat(first|refine Yl ?_ _|refine Ym ?_|refine Yj ?_ _));exact Wm.out) hb);have n1_:=Ya (Yk (by repeat(first|(with_reducible first|exact HB.out|apply Ye|apply Yd|apply Yg|refine Yh ?_ GE437.out)|exact HB.out)) hb);have n2_:=Ya (Zf);have n3_:=Ya ((by rw[hg];exact(Yi (by repeat(first|(with_reducible first|exact HB.out|apply Ye|apply Yd|apply Yg|refine Yh ?_ GE437.out)|exact HB.out))):w.heap.size≤gb438));have n4_:=Ya ((by rw[hg];exact(Yi (by repeat(first|(with_reducible first|exact HB.out|apply Ye|apply Yd|apply Yg|refine Yh ?_ GE437.out)|exact HB.out))):w.heap.size≤gb438));have n5_:=Ya ((by rw[hg];exact Nat.ne_of_lt (blk_lt (g:=Ue) (o:= .cells #[.int .i64 Zb, .bool Zc, .slice Ze Za.length Zd] 32 (0,0)) (by(with_reducible repeat(first|refine Yl ?_ _|refine Ym ?_|refine Yj ?_ _));exact Wm.out)):Ue≠gb438));have n6_:=Ya ((by rw[hg];exact Nat.ne_of_gt (blk_lt (g:=Ue) (o:= .cells #[.int .i64 Zb, .bool Zc, .slice Ze Za.length Zd] 32 (0,0)) (by(with_reducible repeat(first|refine Yl ?_ _|refine Ym ?_|refine Yj ?_ _));exact Wm.out)):gb438≠Ue));clear Wm;clear HB;have Wm:=n0_;have HB:=n1_;have Jw:=n2_;have GW438:=n3_;have GE438:=n4_;have NB437_438:=n5_;have NB438_437:=n6_;clear n0_ n1_ n2_ n3_ n4_ n5_ n6_;clear hb Zf hg;have hnb10:=NB437_438.out;have hnc10:=NB438_437.out;have hcz11_0:w9.cell? ⟨Ue,0,none⟩=some (.int .i64 Zb):=(Yc Wm.out 0).trans rfl;have hcz11_1:w9.cell? ⟨Ue,1,none⟩=some (.bool Zc):=(Yc Wm.out 1).trans rfl;have hcz11_2:w9.cell? ⟨Ue,2,none⟩=some (.slice Ze Za.length Zd):=(Yc Wm.out 2).trans rfl;have hfz11_0:=Yf Wm.out 0;have hfz11_1:=Yf Wm.out 1;have hfz11_2:=Yf Wm.out 2)|((with_reducible refine gate_callee (f:=38) rfl ?_);refine goesL_ (some 17) rfl rfl Try.func38 (by kernel_rfl) rfl #[.agg #[.int .i64 Zb, .bool Zc, .slice Ze Za.length Zd], .int .i64 a1, .int .i64 a2, .int .i64 a3] rfl (by(try simp only[List.map_toArray,List.map_cons,List.map_nil]);first|done|rfl|(simp only[List.length_drop,List.length_take];rfl)) ?_;(with_reducible refine(ebbtideref15_Asked.calls k Zb Zc _ _ Za a1 a2 a3 t439 _ ?side1 ?side2 A5.out).mono ?_);(case side1=>repeat(first|exact(Yt Zo.out HB.out)|(with_reducible refine Kd.C_alloc ?_ _)|(with_reducible refine Kd.C_drewN ?_ _)|(with_reducible refine Kd.C_drew ?_)));(case side2=>exact Zz.out);rintro e w12 ⟨rfl,hb⟩;refine⟨_,rfl,?_⟩;have n0_:=Ya (Yn (g:=Ue) (o:= .cells #[.int .i64 Zb, .bool Zc, .slice Ze Za.length Zd] 32 (0,0)) (by(with_reducible repeat(first|refine Yl ?_ _|refine Ym ?_|refine Yj ?_ _));exact Wm.out) hb);have n1_:=Ya (Yn (g:=gb438) (o:= .cells #[.int .i64 0, .bool false, .slice none 0 0] 32 (0,0)) (by(with_reducible repeat(first|refine Yl ?_ _|refine Ym ?_|refine Yj ?_ _));exact Jw.out) hb);have n2_:=Ya (Yk (by repeat(first|(with_reducible first|exact HB.out|apply Ye|apply Yd|apply Yg|refine Yh ?_ GE437.out|refine Yh ?_ GE438.out)|exact HB.out)) hb);clear Wm;clear Jw;clear HB;have Wm:=n0_;have Jw:=n1_;have HB:=n2_;clear n0_ n1_ n2_;(try clear hb);(try clear hb2);(try clear hk);(try clear hi);have hcz13_0:w12.cell? ⟨Ue,0,none⟩=some (.int .i64 Zb):=(Yc Wm.out 0).trans rfl;have hcz13_1:w12.cell? ⟨Ue,1,none⟩=some (.bool Zc):=(Yc Wm.out 1).trans rfl;have hcz13_2:w12.cell? ⟨Ue,2,none⟩=some (.slice Ze Za.length Zd):=(Yc Wm.out 2).trans rfl;have hfz13_0:=Yf Wm.out 0;have hfz13_1:=Yf Wm.out 1;have hfz13_2:=Yf Wm.out 2)|((with_reducible refine gate_callee (f:=39) rfl ?_);refine goesL_ (some 27) rfl rfl Try.func39 (by kernel_rfl) rfl #[.agg #[.int .i64 Zb, .bool Zc, .slice Ze Za.length Zd], .int .i64 a1, .int .i64 a2, .int .i64 a3] rfl (by(try simp only[List.map_toArray,List.map_cons,List.map_nil]);first|done|rfl|(simp only[List.length_drop,List.length_take];rfl)) ?_;(with_reducible refine(ebbtideref15_Arcs.calls k Zb Zc _ _ Za a1 a2 a3 t440 t443 _ ?side1 ?side2 A7.out).mono ?_);(case side1=>repeat(first|exact(Yt Zo.out HB.out)|(with_reducible refine Kd.C_alloc ?_ _)|(with_reducible refine Kd.C_drewN ?_ _)|(with_reducible refine Kd.C_drew ?_)));(case side2=>exact Zz.out);rintro e w14 ⟨v441,v444,rfl,ho0,ho1,hb⟩;refine⟨_,rfl,?_⟩;have n0_:=Ya (Kd.R_lower ho0 (Yi (by repeat(first|(with_reducible first|exact HB.out|apply Ye|apply Yd|apply Yg|refine Yh ?_ GE437.out|refine Yh ?_ GE438.out)|exact HB.out))));have n1_:=Ya (Kd.R_lower ho1 (Yi (by repeat(first|(with_reducible first|exact HB.out|apply Ye|apply Yd|apply Yg|refine Yh ?_ GE437.out|refine Yh ?_ GE438.out)|exact HB.out))));have n2_:=Ya (Yn (g:=Ue) (o:= .cells #[.int .i64 Zb, .bool Zc, .slice Ze Za.length Zd] 32 (0,0)) (by(with_reducible repeat(first|refine Yl ?_ _|refine Ym ?_|refine Yj ?_ _));exact Wm.out) hb);have n3_:=Ya (Yn (g:=gb438) (o:= .cells #[.int .i64 0, .bool false, .slice none 0 0] 32 (0,0)) (by(with_reducible repeat(first|refine Yl ?_ _|refine Ym ?_|refine Yj ?_ _));exact Jw.out) hb);have n4_:=Ya (Yk (by repeat(first|(with_reducible first|exact HB.out|apply Ye|apply Yd|apply Yg|refine Yh ?_ GE437.out|refine Yh ?_ GE438.out)|exact HB.out)) hb);clear Wm;clear Jw;clear HB;have HO442:=n0_;have HO445:=n1_;have Wm:=n2_;have Jw:=n3_;have HB:=n4_;clear n0_ n1_ n2_ n3_ n4_;(try clear hb);(try clear hb2);(try clear hk);(try clear hi);(try clear ho0);(try clear ho1);have hcz15_0:w14.cell? ⟨Ue,0,none⟩=some (.int .i64 Zb):=(Yc Wm.out 0).trans rfl;have hcz15_1:w14.cell? ⟨Ue,1,none⟩=some (.bool Zc):=(Yc Wm.out 1).trans rfl;have hcz15_2:w14.cell? ⟨Ue,2,none⟩=some (.slice Ze Za.length Zd):=(Yc Wm.out 2).trans rfl;have hfz15_0:=Yf Wm.out 0;have hfz15_1:=Yf Wm.out 1;have hfz15_2:=Yf Wm.out 2;obtain⟨Ao16,co16,eo16⟩:=Kd.R_slice HO442.out;subst eo16;have Vj:w14.cell? ⟨gb438,0,none⟩=some (.int .i64 0):=(Yc Jw.out 0).trans rfl;have Vk:w14.cell? ⟨gb438,1,none⟩=some (.bool false):=(Yc Jw.out 1).trans rfl;have hcz17_2:w14.cell? ⟨gb438,2,none⟩=some (.slice none 0 0):=(Yc Jw.out 2).trans rfl;have Vl:=Yf Jw.out 0;have Vm:=Yf Jw.out 1;have hfz17_2:=Yf Jw.out 2));refine bodyPost_ret (results_ct rfl _ _ gb438 32 #[.int .i64 (wrap64 ((wrap64 ((wrap64 (a3+1)) * Zb))+2)), .bool false, .slice Ao16 t440.length co16] (0,0) _ rfl (by(with_reducible repeat(first|refine Yl ?_ _|refine Ym ?_|refine Yj ?_ _));refine YA (cs:= #[.int .i64 (wrap64 ((wrap64 ((wrap64 (a3+1)) * Zb))+2)), .bool false, .slice none 0 0]) ?_ 2 _ rfl;(with_reducible repeat(first|refine Yl ?_ _|refine Ym ?_|refine Yj ?_ _));refine YA (cs:= #[.int .i64 (wrap64 ((wrap64 ((wrap64 (a3+1)) * Zb))+2)), .bool false, .slice none 0 0]) ?_ 1 _ rfl;(with_reducible repeat(first|refine Yl ?_ _|refine Ym ?_|refine Yj ?_ _));refine YA (cs:= #[.int .i64 0, .bool false, .slice none 0 0]) ?_ 0 _ rfl;(with_reducible repeat(first|refine Yl ?_ _|refine Ym ?_|refine Yj ?_ _));exact Jw.out) Try.underlying32 rfl (by kernel_rfl)) rfl ?_;exact⟨_,by first|rfl|(simp[errW_none,errW_some]<;>rfl)|(simp[*,errW_none,errW_some]<;>rfl),by(with_reducible repeat(first|apply Yr|apply Yq|apply Yp));exact Kd.R_mono (Kd.R_far (p:=⟨gb438,2,none⟩) (Kd.R_far (p:=⟨gb438,1,none⟩) (Kd.R_far (p:=⟨gb438,0,none⟩) (Kd.R_types HO442.out Jw.out (by decide)) (fun _ hk=>hk.2) (.int .i64 (wrap64 ((wrap64 ((wrap64 (a3+1)) * Zb))+2)))) (fun _ hk=>hk.2) (.bool false)) (fun _ hk=>hk.2) (.slice Ao16 t440.length co16)) (fun _ hk=>trivial),by repeat(first|(with_reducible first|exact HB.out|apply Ye|apply Yd|apply Yg|refine Yh ?_ GE437.out|refine Yh ?_ GE438.out)|exact HB.out)⟩
end P
namespace P
attribute [local go_sem] max2_int min2_int max_two min_two max_three min_three max_four min_four
def ebbtideref08_found_has.l0:Nat→Int→Int→List Int→List (S113)→Option (Int)
 |0,_,_,_,_=>none
 |k+1,x1,x5,x447000,x447001=>if x5<(x447000.length:Int) then(if 0≤x5 then(if (rd x447000 x5)=x1 then(some x5) else(ebbtideref08_found_has.l0 k x1 (wrap64 (x5+1)) x447000 x447001)) else(none)) else(some (-1))
def ebbtideref08_found_has.f (k:Nat) (l0_0:List Int) (l0_1:List (S113)) (a1:Int):Option (Int):=ebbtideref08_found_has.l0 k a1 0 l0_0 l0_1
set_option maxHeartbeats 8000000 in
set_option maxRecDepth 100000 in
theorem ebbtideref08_found_has.calls (k:Nat) (A0_0:Option Addr) (c0_0:Nat) (l0_0:List Int) (A0_1:Option Addr) (c0_1:Nat) (l0_1:List (S113)) (a1:Int) (r:Int) (w:World) (hr0_0:Kd.C (Kd.int .i64) w A0_0 l0_0.length l0_0) (hc0_0:l0_0.length≤c0_0) (hr0_1:Kd.C k113 w A0_1 l0_1.length l0_1) (hc0_1:l0_1.length≤c0_1) (h:ebbtideref08_found_has.f k l0_0 l0_1 a1=some r):
  Calls Try.prog 51 #[.agg #[.slice A0_0 l0_0.length c0_0, .slice A0_1 l0_1.length c0_1], .int .i64 a1] w fun e w'=>e= .returned (.int .i64 r)∧Below w.heap.size w w':=by
 have hu109:=Try.underlying109;have HR0_0:=Ya hr0_0;have HC0_0:=Ya hc0_0;clear hr0_0 hc0_0;have HR0_1:=Ya hr0_1;have HC0_1:=Ya hc0_1;clear hr0_1 hc0_1;have HB:=Ya (Yo w.heap.size w);have H:(ebbtideref08_found_has.l0 k a1 0 l0_0 l0_1)=some r:=h;clear h;have H':=Ya H;clear H;go_enter Try.func51,Try.ntmps51;go_wp2_with (first|((with_reducible refine gate_dst (N:=2) rfl ?_);refine Yz ?hg (N:=2) ?hd (cs:= #[.slice A0_0 l0_0.length c0_0, .slice A0_1 l0_1.length c0_1]) (t:=109) ?hr ?_;(case hd=>rfl);(case hg=>rfl);(case hr=>first|(go_simp;done)|(go_simp;rfl));intro gb446 hg w3 Zf hb;have n0_:=Ya (Yk (by repeat(first|(with_reducible first|exact HB.out|apply Ye|apply Yd|apply Yg)|exact HB.out)) hb);have n1_:=Ya (Zf);have n2_:=Ya ((by rw[hg];exact(Yi (by repeat(first|(with_reducible first|exact HB.out|apply Ye|apply Yd|apply Yg)|exact HB.out))):w.heap.size≤gb446));have n3_:=Ya ((by rw[hg];exact(Yi (by repeat(first|(with_reducible first|exact HB.out|apply Ye|apply Yd|apply Yg)|exact HB.out))):w.heap.size≤gb446));clear HB;have HB:=n0_;have BK446:=n1_;have GW446:=n2_;have GE446:=n3_;clear n0_ n1_ n2_ n3_;clear hb Zf hg));go_loopg [5] k (fun kq v5 w'=> ∃ (Wd:Int),v5= .int .i64 Wd∧Aside0 (ebbtideref08_found_has.l0 kq a1 Wd l0_0 l0_1=some r)∧Aside0 (kq≤k)∧Aside0 (w'.heap[gb446]? =some (.cells #[(.slice A0_0 l0_0.length c0_0),(.slice A0_1 l0_1.length c0_1)] 109 (0,0)))∧Aside0 (Below w.heap.size w w'))
 case atStart=>exact⟨(0),(by first|rfl|(simp;done)|(simp[*];done)),H',⟨Nat.le_refl _⟩,⟨by(with_reducible repeat(first|refine Yl ?_ _|refine Ym ?_|refine Yj ?_ _));exact BK446.out⟩,⟨by repeat(first|(with_reducible first|exact HB.out|apply Ye|apply Yd|apply Yg|refine Yh ?_ GE446.out)|exact HB.out)⟩⟩
 case round=>
  clear H';try clear p2
  obtain⟨Wd,rfl,HA,HK1,BK446,HB⟩:=hrel;cases gk with
  |zero=>exact absurd HA.out (by simp[ebbtideref08_found_has.l0])
  |succ k1=>
   have H:=HA.out;clear HA;simp only[ebbtideref08_found_has.l0] at H;by_cases c4:Wd<(l0_0.length:Int)
   rotate_left
   ·rw[Yy c4] at H
    have c4b0:decide (Wd<(l0_0.length:Int))=false:=Yw c4;clear c4;obtain rfl:=Option.some.inj H;have hcz9_0:wr.cell? ⟨gb446,0,none⟩=some (.slice A0_0 l0_0.length c0_0):=(Yc BK446.out 0).trans rfl;have hcz9_1:wr.cell? ⟨gb446,1,none⟩=some (.slice A0_1 l0_1.length c0_1):=(Yc BK446.out 1).trans rfl;have hfz9_0:=Yf BK446.out 0;have hfz9_1:=Yf BK446.out 1;go_wp2;go_ret;exact⟨by first|rfl|(simp[errW_none,errW_some]<;>rfl)|(simp[*,errW_none,errW_some]<;>rfl),by repeat(first|(with_reducible first|exact HB.out|apply Ye|apply Yd|apply Yg|refine Yh ?_ GE446.out)|exact HB.out)⟩
   rw[Yx c4] at H;have c4b0:decide (Wd<(l0_0.length:Int))=true:=Yv c4;clear c4;by_cases c5:0≤Wd
   rotate_left
   ·rw[Yy c5] at H
    exact absurd H (by simp)
   rw[Yx c5] at H;have c5b0:decide (0≤Wd)=true:=Yv c5;clear c5;by_cases c6:(rd l0_0 Wd)=a1
   ·rw[Yx c6] at H
    have c6b0:((rd l0_0 Wd) == a1)=true:=beq_iff_eq.mpr c6;have c6b1:((rd l0_0 Wd) != a1)=false:=bne_eq_false_iff_eq.mpr c6;clear c6;obtain rfl:=Option.some.inj H;have hcz7_0:wr.cell? ⟨gb446,0,none⟩=some (.slice A0_0 l0_0.length c0_0):=(Yc BK446.out 0).trans rfl;have hcz7_1:wr.cell? ⟨gb446,1,none⟩=some (.slice A0_1 l0_1.length c0_1):=(Yc BK446.out 1).trans rfl;have hfz7_0:=Yf BK446.out 0;have hfz7_1:=Yf BK446.out 1;have p447:0≤(Wd:Int):=Yu (by first|(with_reducible assumption)|assumption);have q447:Wd<(l0_0.length:Int):=Yu (by first|(with_reducible assumption)|assumption);obtain⟨ad447,e447,hx447_0⟩:=Kd.at_int HR0_0.out Wd p447 q447;cases e447;replace hx447_0:=(HB.out.cell (Yb w _ hx447_0)).trans hx447_0;replace p447:=eq_true p447;replace q447:=eq_true q447;go_wp2;go_ret;exact⟨by first|rfl|(simp[errW_none,errW_some]<;>rfl)|(simp[*,errW_none,errW_some]<;>rfl),by repeat(first|(with_reducible first|exact HB.out|apply Ye|apply Yd|apply Yg|refine Yh ?_ GE446.out)|exact HB.out)⟩
   rw[Yy c6] at H;have c6b0:((rd l0_0 Wd) == a1)=false:=beq_eq_false_iff_ne.mpr c6;have c6b1:((rd l0_0 Wd) != a1)=true:=bne_iff_ne.mpr c6;have H':=Ya H;clear H;have hcz8_0:wr.cell? ⟨gb446,0,none⟩=some (.slice A0_0 l0_0.length c0_0):=(Yc BK446.out 0).trans rfl;have hcz8_1:wr.cell? ⟨gb446,1,none⟩=some (.slice A0_1 l0_1.length c0_1):=(Yc BK446.out 1).trans rfl;have hfz8_0:=Yf BK446.out 0;have hfz8_1:=Yf BK446.out 1;have p447:0≤(Wd:Int):=Yu (by first|(with_reducible assumption)|assumption);have q447:Wd<(l0_0.length:Int):=Yu (by first|(with_reducible assumption)|assumption);obtain⟨ad447,e447,hx447_0⟩:=Kd.at_int HR0_0.out Wd p447 q447;cases e447;replace hx447_0:=(HB.out.cell (Yb w _ hx447_0)).trans hx447_0;replace p447:=eq_true p447;replace q447:=eq_true q447;go_wp2;go_roundg k1
   case measure=>have:=HK1.out;omega
   case rel=>exact⟨(wrap64 (Wd+1)),(by first|rfl|(simp;done)|(simp[*];done)),H',⟨by have:=HK1.out;omega⟩,⟨by(with_reducible repeat(first|refine Yl ?_ _|refine Ym ?_|refine Yj ?_ _));exact BK446.out⟩,⟨by repeat(first|(with_reducible first|exact HB.out|apply Ye|apply Yd|apply Yg|refine Yh ?_ GE446.out)|exact HB.out)⟩⟩
end P
namespace P
attribute [local go_sem] max2_int min2_int max_two min_two max_three min_three max_four min_four
def ebbtideref07_From.f (Zb:Int) (Zc:Bool) (Za:List (S73)) (Zr:Int) (Xr:Bool):Option (Int):=if Xr=true then(if 0≤Zr then(if Zr<(Za.length:Int) then(some ((rd_T73 Za Zr).f1)) else(none)) else(none)) else(if 0≤Zr then(if Zr<(Za.length:Int) then(some ((rd_T73 Za Zr).f0)) else(none)) else(none))
set_option maxHeartbeats 8000000 in
set_option maxRecDepth 100000 in
theorem ebbtideref07_From.calls (Zb:Int) (Zc:Bool) (Ze:Option Addr) (Zd:Nat) (Za:List (S73)) (Zr:Int) (Xr:Bool) (r:Int) (w:World) (Zx:Kd.C k73 w Ze Za.length Za) (Zy:Za.length≤Zd) (h:ebbtideref07_From.f Zb Zc Za Zr Xr=some r):
  Calls Try.prog 52 #[.agg #[.int .i64 Zb, .bool Zc, .slice Ze Za.length Zd], .agg #[.int .i64 Zr, .bool Xr]] w fun e w'=>e= .returned (.int .i64 r)∧Below w.heap.size w w':=by
 have hu32:=Try.underlying32;have hu113:=Try.underlying113;have Zo:=Ya Zx;have Zz:=Ya Zy;clear Zx Zy;have HB:=Ya (Yo w.heap.size w);have H:(if Xr=true then(if 0≤Zr then(if Zr<(Za.length:Int) then(some ((rd_T73 Za Zr).f1)) else(none)) else(none)) else(if 0≤Zr then(if Zr<(Za.length:Int) then(some ((rd_T73 Za Zr).f0)) else(none)) else(none)))=some r:=h;clear h;by_cases c3:Xr=true
 ·subst c3
  have H1:(if 0≤Zr then(if Zr<(Za.length:Int) then(some ((rd_T73 Za Zr).f1)) else(none)) else(none))=some r:=by first|(rw[Yx rfl] at H;exact H)|(rw[Yx trivial] at H;exact H)
  clear H;have H:=H1;clear H1;by_cases c4:0≤Zr
  rotate_left
  ·rw[Yy c4] at H
   exact absurd H (by simp)
  rw[Yx c4] at H;have c4b0:decide (0≤Zr)=true:=Yv c4;clear c4;by_cases c5:Zr<(Za.length:Int)
  rotate_left
  ·rw[Yy c5] at H
   exact absurd H (by simp)
  rw[Yx c5] at H;have c5b0:decide (Zr<(Za.length:Int))=true:=Yv c5;clear c5;obtain rfl:=Option.some.inj H;go_enter Try.func52,Try.ntmps52;go_wp2_with (first|((with_reducible refine gate_dst (N:=2) rfl ?_);refine Yz ?hg (N:=2) ?hd (cs:= #[.int .i64 Zb, .bool Zc, .slice Ze Za.length Zd]) (t:=32) ?hr ?_;(case hd=>rfl);(case hg=>rfl);(case hr=>first|(go_simp;done)|(go_simp;rfl));intro gb448 hg w6 Zf hb;have n0_:=Ya (Yk (by repeat(first|(with_reducible first|exact HB.out|apply Ye|apply Yd|apply Yg)|exact HB.out)) hb);have n1_:=Ya (Zf);have n2_:=Ya ((by rw[hg];exact(Yi (by repeat(first|(with_reducible first|exact HB.out|apply Ye|apply Yd|apply Yg)|exact HB.out))):w.heap.size≤gb448));have n3_:=Ya ((by rw[hg];exact(Yi (by repeat(first|(with_reducible first|exact HB.out|apply Ye|apply Yd|apply Yg)|exact HB.out))):w.heap.size≤gb448));clear HB;have HB:=n0_;have BK448:=n1_;have GW448:=n2_;have GE448:=n3_;clear n0_ n1_ n2_ n3_;clear hb Zf hg)|((with_reducible refine gate_dst (N:=3) rfl ?_);refine Yz ?hg (N:=3) ?hd (cs:= #[.int .i64 Zr, .bool true]) (t:=113) ?hr ?_;(case hd=>rfl);(case hg=>rfl);(case hr=>first|(go_simp;done)|(go_simp;rfl));intro gb449 hg w7 Zf hb;have n0_:=Ya (Yn (g:=gb448) (o:= .cells #[.int .i64 Zb, .bool Zc, .slice Ze Za.length Zd] 32 (0,0)) (by(with_reducible repeat(first|refine Yl ?_ _|refine Ym ?_|refine Yj ?_ _));exact BK448.out) hb);have n1_:=Ya (Yk (by repeat(first|(with_reducible first|exact HB.out|apply Ye|apply Yd|apply Yg|refine Yh ?_ GE448.out)|exact HB.out)) hb);have n2_:=Ya (Zf);have n3_:=Ya ((by rw[hg];exact(Yi (by repeat(first|(with_reducible first|exact HB.out|apply Ye|apply Yd|apply Yg|refine Yh ?_ GE448.out)|exact HB.out))):w.heap.size≤gb449));have n4_:=Ya ((by rw[hg];exact(Yi (by repeat(first|(with_reducible first|exact HB.out|apply Ye|apply Yd|apply Yg|refine Yh ?_ GE448.out)|exact HB.out))):w.heap.size≤gb449));have n5_:=Ya ((by rw[hg];exact Nat.ne_of_lt (blk_lt (g:=gb448) (o:= .cells #[.int .i64 Zb, .bool Zc, .slice Ze Za.length Zd] 32 (0,0)) (by(with_reducible repeat(first|refine Yl ?_ _|refine Ym ?_|refine Yj ?_ _));exact BK448.out)):gb448≠gb449));have n6_:=Ya ((by rw[hg];exact Nat.ne_of_gt (blk_lt (g:=gb448) (o:= .cells #[.int .i64 Zb, .bool Zc, .slice Ze Za.length Zd] 32 (0,0)) (by(with_reducible repeat(first|refine Yl ?_ _|refine Ym ?_|refine Yj ?_ _));exact BK448.out)):gb449≠gb448));clear BK448;clear HB;have BK448:=n0_;have HB:=n1_;have BK449:=n2_;have GW449:=n3_;have GE449:=n4_;have NB448_449:=n5_;have NB449_448:=n6_;clear n0_ n1_ n2_ n3_ n4_ n5_ n6_;clear hb Zf hg;have hnb8:=NB449_448.out;have hnc8:=NB448_449.out;have hcz9_0:w7.cell? ⟨gb449,0,none⟩=some (.int .i64 Zr):=(Yc BK449.out 0).trans rfl;have hcz9_1:w7.cell? ⟨gb449,1,none⟩=some (.bool true):=(Yc BK449.out 1).trans rfl;have hfz9_0:=Yf BK449.out 0;have hfz9_1:=Yf BK449.out 1;have Ui:w7.cell? ⟨gb448,0,none⟩=some (.int .i64 Zb):=(Yc BK448.out 0).trans rfl;have Uj:w7.cell? ⟨gb448,1,none⟩=some (.bool Zc):=(Yc BK448.out 1).trans rfl;have hcz10_2:w7.cell? ⟨gb448,2,none⟩=some (.slice Ze Za.length Zd):=(Yc BK448.out 2).trans rfl;have Uk:=Yf BK448.out 0;have Ul:=Yf BK448.out 1;have hfz10_2:=Yf BK448.out 2;have p450:0≤(Zr:Int):=Yu (by first|(with_reducible assumption)|assumption);have q450:Zr<(Za.length:Int):=Yu (by first|(with_reducible assumption)|assumption);obtain⟨ad450,e450,hx450_0,hx450_1,hx450_2,hx450_3⟩:=at_T73 Zo.out Zr p450 q450;cases e450;replace hx450_0:=(HB.out.cell (Yb w _ hx450_0)).trans hx450_0;replace hx450_1:=(HB.out.cell (Yb w _ hx450_1)).trans hx450_1;replace hx450_2:=(HB.out.cell (Yb w _ hx450_2)).trans hx450_2;replace hx450_3:=(HB.out.cell (Yb w _ hx450_3)).trans hx450_3;replace p450:=eq_true p450;replace q450:=eq_true q450));go_ret;exact⟨by first|rfl|(simp[errW_none,errW_some]<;>rfl)|(simp[*,errW_none,errW_some]<;>rfl),by repeat(first|(with_reducible first|exact HB.out|apply Ye|apply Yd|apply Yg|refine Yh ?_ GE448.out|refine Yh ?_ GE449.out)|exact HB.out)⟩
 replace c3:=Bool.eq_false_iff.mpr c3;subst c3;have H1:(if 0≤Zr then(if Zr<(Za.length:Int) then(some ((rd_T73 Za Zr).f0)) else(none)) else(none))=some r:=by rw[Yy (show ¬ (false=true) by decide)] at H;exact H
 clear H;have H:=H1;clear H1;by_cases c11:0≤Zr
 rotate_left
 ·rw[Yy c11] at H
  exact absurd H (by simp)
 rw[Yx c11] at H;have c11b0:decide (0≤Zr)=true:=Yv c11;clear c11;by_cases c12:Zr<(Za.length:Int)
 rotate_left
 ·rw[Yy c12] at H
  exact absurd H (by simp)
 rw[Yx c12] at H;have c12b0:decide (Zr<(Za.length:Int))=true:=Yv c12;clear c12;obtain rfl:=Option.some.inj H;go_enter Try.func52,Try.ntmps52;go_wp2_with (first|((with_reducible refine gate_dst (N:=2) rfl ?_);refine Yz ?hg (N:=2) ?hd (cs:= #[.int .i64 Zb, .bool Zc, .slice Ze Za.length Zd]) (t:=32) ?hr ?_;(case hd=>rfl);(case hg=>rfl);(case hr=>first|(go_simp;done)|(go_simp;rfl));intro gb448 hg w13 Zf hb;have n0_:=Ya (Yk (by repeat(first|(with_reducible first|exact HB.out|apply Ye|apply Yd|apply Yg)|exact HB.out)) hb);have n1_:=Ya (Zf);have n2_:=Ya ((by rw[hg];exact(Yi (by repeat(first|(with_reducible first|exact HB.out|apply Ye|apply Yd|apply Yg)|exact HB.out))):w.heap.size≤gb448));have n3_:=Ya ((by rw[hg];exact(Yi (by repeat(first|(with_reducible first|exact HB.out|apply Ye|apply Yd|apply Yg)|exact HB.out))):w.heap.size≤gb448));clear HB;have HB:=n0_;have BK448:=n1_;have GW448:=n2_;have GE448:=n3_;clear n0_ n1_ n2_ n3_;clear hb Zf hg)|((with_reducible refine gate_dst (N:=3) rfl ?_);refine Yz ?hg (N:=3) ?hd (cs:= #[.int .i64 Zr, .bool false]) (t:=113) ?hr ?_;(case hd=>rfl);(case hg=>rfl);(case hr=>first|(go_simp;done)|(go_simp;rfl));intro gb449 hg w14 Zf hb;have n0_:=Ya (Yn (g:=gb448) (o:= .cells #[.int .i64 Zb, .bool Zc, .slice Ze Za.length Zd] 32 (0,0)) (by(with_reducible repeat(first|refine Yl ?_ _|refine Ym ?_|refine Yj ?_ _));exact BK448.out) hb);have n1_:=Ya (Yk (by repeat(first|(with_reducible first|exact HB.out|apply Ye|apply Yd|apply Yg|refine Yh ?_ GE448.out)|exact HB.out)) hb);have n2_:=Ya (Zf);have n3_:=Ya ((by rw[hg];exact(Yi (by repeat(first|(with_reducible first|exact HB.out|apply Ye|apply Yd|apply Yg|refine Yh ?_ GE448.out)|exact HB.out))):w.heap.size≤gb449));have n4_:=Ya ((by rw[hg];exact(Yi (by repeat(first|(with_reducible first|exact HB.out|apply Ye|apply Yd|apply Yg|refine Yh ?_ GE448.out)|exact HB.out))):w.heap.size≤gb449));have n5_:=Ya ((by rw[hg];exact Nat.ne_of_lt (blk_lt (g:=gb448) (o:= .cells #[.int .i64 Zb, .bool Zc, .slice Ze Za.length Zd] 32 (0,0)) (by(with_reducible repeat(first|refine Yl ?_ _|refine Ym ?_|refine Yj ?_ _));exact BK448.out)):gb448≠gb449));have n6_:=Ya ((by rw[hg];exact Nat.ne_of_gt (blk_lt (g:=gb448) (o:= .cells #[.int .i64 Zb, .bool Zc, .slice Ze Za.length Zd] 32 (0,0)) (by(with_reducible repeat(first|refine Yl ?_ _|refine Ym ?_|refine Yj ?_ _));exact BK448.out)):gb449≠gb448));clear BK448;clear HB;have BK448:=n0_;have HB:=n1_;have BK449:=n2_;have GW449:=n3_;have GE449:=n4_;have NB448_449:=n5_;have NB449_448:=n6_;clear n0_ n1_ n2_ n3_ n4_ n5_ n6_;clear hb Zf hg;have hnb15:=NB449_448.out;have hnc15:=NB448_449.out;have hcz16_0:w14.cell? ⟨gb449,0,none⟩=some (.int .i64 Zr):=(Yc BK449.out 0).trans rfl;have hcz16_1:w14.cell? ⟨gb449,1,none⟩=some (.bool false):=(Yc BK449.out 1).trans rfl;have hfz16_0:=Yf BK449.out 0;have hfz16_1:=Yf BK449.out 1;have Vj:w14.cell? ⟨gb448,0,none⟩=some (.int .i64 Zb):=(Yc BK448.out 0).trans rfl;have Vk:w14.cell? ⟨gb448,1,none⟩=some (.bool Zc):=(Yc BK448.out 1).trans rfl;have hcz17_2:w14.cell? ⟨gb448,2,none⟩=some (.slice Ze Za.length Zd):=(Yc BK448.out 2).trans rfl;have Vl:=Yf BK448.out 0;have Vm:=Yf BK448.out 1;have hfz17_2:=Yf BK448.out 2;have p451:0≤(Zr:Int):=Yu (by first|(with_reducible assumption)|assumption);have q451:Zr<(Za.length:Int):=Yu (by first|(with_reducible assumption)|assumption);obtain⟨ad451,e451,hx451_0,hx451_1,hx451_2,hx451_3⟩:=at_T73 Zo.out Zr p451 q451;cases e451;replace hx451_0:=(HB.out.cell (Yb w _ hx451_0)).trans hx451_0;replace hx451_1:=(HB.out.cell (Yb w _ hx451_1)).trans hx451_1;replace hx451_2:=(HB.out.cell (Yb w _ hx451_2)).trans hx451_2;replace hx451_3:=(HB.out.cell (Yb w _ hx451_3)).trans hx451_3;replace p451:=eq_true p451;replace q451:=eq_true q451));go_ret;exact⟨by first|rfl|(simp[errW_none,errW_some]<;>rfl)|(simp[*,errW_none,errW_some]<;>rfl),by repeat(first|(with_reducible first|exact HB.out|apply Ye|apply Yd|apply Yg|refine Yh ?_ GE448.out|refine Yh ?_ GE449.out)|exact HB.out)⟩
end P
namespace P
attribute [local go_sem] max2_int min2_int max_two min_two max_three min_three max_four min_four
def ebbtideref07_To.f (Zb:Int) (Zc:Bool) (Za:List (S73)) (Zr:Int) (Xr:Bool):Option (Int):=if Xr=true then(if 0≤Zr then(if Zr<(Za.length:Int) then(some ((rd_T73 Za Zr).f0)) else(none)) else(none)) else(if 0≤Zr then(if Zr<(Za.length:Int) then(some ((rd_T73 Za Zr).f1)) else(none)) else(none))
set_option maxHeartbeats 8000000 in
set_option maxRecDepth 100000 in
theorem ebbtideref07_To.calls (Zb:Int) (Zc:Bool) (Ze:Option Addr) (Zd:Nat) (Za:List (S73)) (Zr:Int) (Xr:Bool) (r:Int) (w:World) (Zx:Kd.C k73 w Ze Za.length Za) (Zy:Za.length≤Zd) (h:ebbtideref07_To.f Zb Zc Za Zr Xr=some r):
  Calls Try.prog 58 #[.agg #[.int .i64 Zb, .bool Zc, .slice Ze Za.length Zd], .agg #[.int .i64 Zr, .bool Xr]] w fun e w'=>e= .returned (.int .i64 r)∧Below w.heap.size w w':=by
 have hu32:=Try.underlying32;have hu113:=Try.underlying113;have Zo:=Ya Zx;have Zz:=Ya Zy;clear Zx Zy;have HB:=Ya (Yo w.heap.size w);have H:(if Xr=true then(if 0≤Zr then(if Zr<(Za.length:Int) then(some ((rd_T73 Za Zr).f0)) else(none)) else(none)) else(if 0≤Zr then(if Zr<(Za.length:Int) then(some ((rd_T73 Za Zr).f1)) else(none)) else(none)))=some r:=h;clear h;by_cases c3:Xr=true
 ·subst c3
  have H1:(if 0≤Zr then(if Zr<(Za.length:Int) then(some ((rd_T73 Za Zr).f0)) else(none)) else(none))=some r:=by first|(rw[Yx rfl] at H;exact H)|(rw[Yx trivial] at H;exact H)
  clear H;have H:=H1;clear H1;by_cases c4:0≤Zr
  rotate_left
  ·rw[Yy c4] at H
   exact absurd H (by simp)
  rw[Yx c4] at H;have c4b0:decide (0≤Zr)=true:=Yv c4;clear c4;by_cases c5:Zr<(Za.length:Int)
  rotate_left
  ·rw[Yy c5] at H
   exact absurd H (by simp)
  rw[Yx c5] at H;have c5b0:decide (Zr<(Za.length:Int))=true:=Yv c5;clear c5;obtain rfl:=Option.some.inj H;go_enter Try.func58,Try.ntmps58;go_wp2_with (first|((with_reducible refine gate_dst (N:=2) rfl ?_);refine Yz ?hg (N:=2) ?hd (cs:= #[.int .i64 Zb, .bool Zc, .slice Ze Za.length Zd]) (t:=32) ?hr ?_;(case hd=>rfl);(case hg=>rfl);(case hr=>first|(go_simp;done)|(go_simp;rfl));intro gb452 hg w6 Zf hb;have n0_:=Ya (Yk (by repeat(first|(with_reducible first|exact HB.out|apply Ye|apply Yd|apply Yg)|exact HB.out)) hb);have n1_:=Ya (Zf);have n2_:=Ya ((by rw[hg];exact(Yi (by repeat(first|(with_reducible first|exact HB.out|apply Ye|apply Yd|apply Yg)|exact HB.out))):w.heap.size≤gb452));have n3_:=Ya ((by rw[hg];exact(Yi (by repeat(first|(with_reducible first|exact HB.out|apply Ye|apply Yd|apply Yg)|exact HB.out))):w.heap.size≤gb452));clear HB;have HB:=n0_;have BK452:=n1_;have GW452:=n2_;have GE452:=n3_;clear n0_ n1_ n2_ n3_;clear hb Zf hg)|((with_reducible refine gate_dst (N:=3) rfl ?_);refine Yz ?hg (N:=3) ?hd (cs:= #[.int .i64 Zr, .bool true]) (t:=113) ?hr ?_;(case hd=>rfl);(case hg=>rfl);(case hr=>first|(go_simp;done)|(go_simp;rfl));intro gb453 hg w7 Zf hb;have n0_:=Ya (Yn (g:=gb452) (o:= .cells #[.int .i64 Zb, .bool Zc, .slice Ze Za.length Zd] 32 (0,0)) (by(with_reducible repeat(first|refine Yl ?_ _|refine Ym ?_|refine Yj ?_ _));exact BK452.out) hb);have n1_:=Ya (Yk (by repeat(first|(with_reducible first|exact HB.out|apply Ye|apply Yd|apply Yg|refine Yh ?_ GE452.out)|exact HB.out)) hb);have n2_:=Ya (Zf);have n3_:=Ya ((by rw[hg];exact(Yi (by repeat(first|(with_reducible first|exact HB.out|apply Ye|apply Yd|apply Yg|refine Yh ?_ GE452.out)|exact HB.out))):w.heap.size≤gb453));have n4_:=Ya ((by rw[hg];exact(Yi (by repeat(first|(with_reducible first|exact HB.out|apply Ye|apply Yd|apply Yg|refine Yh ?_ GE452.out)|exact HB.out))):w.heap.size≤gb453));have n5_:=Ya ((by rw[hg];exact Nat.ne_of_lt (blk_lt (g:=gb452) (o:= .cells #[.int .i64 Zb, .bool Zc, .slice Ze Za.length Zd] 32 (0,0)) (by(with_reducible repeat(first|refine Yl ?_ _|refine Ym ?_|refine Yj ?_ _));exact BK452.out)):gb452≠gb453));have n6_:=Ya ((by rw[hg];exact Nat.ne_of_gt (blk_lt (g:=gb452) (o:= .cells #[.int .i64 Zb, .bool Zc, .slice Ze Za.length Zd] 32 (0,0)) (by(with_reducible repeat(first|refine Yl ?_ _|refine Ym ?_|refine Yj ?_ _));exact BK452.out)):gb453≠gb452));clear BK452;clear HB;have BK452:=n0_;have HB:=n1_;have BK453:=n2_;have GW453:=n3_;have GE453:=n4_;have NB452_453:=n5_;have NB453_452:=n6_;clear n0_ n1_ n2_ n3_ n4_ n5_ n6_;clear hb Zf hg;have hnb8:=NB453_452.out;have hnc8:=NB452_453.out;have hcz9_0:w7.cell? ⟨gb453,0,none⟩=some (.int .i64 Zr):=(Yc BK453.out 0).trans rfl;have hcz9_1:w7.cell? ⟨gb453,1,none⟩=some (.bool true):=(Yc BK453.out 1).trans rfl;have hfz9_0:=Yf BK453.out 0;have hfz9_1:=Yf BK453.out 1;have Ui:w7.cell? ⟨gb452,0,none⟩=some (.int .i64 Zb):=(Yc BK452.out 0).trans rfl;have Uj:w7.cell? ⟨gb452,1,none⟩=some (.bool Zc):=(Yc BK452.out 1).trans rfl;have hcz10_2:w7.cell? ⟨gb452,2,none⟩=some (.slice Ze Za.length Zd):=(Yc BK452.out 2).trans rfl;have Uk:=Yf BK452.out 0;have Ul:=Yf BK452.out 1;have hfz10_2:=Yf BK452.out 2;have p454:0≤(Zr:Int):=Yu (by first|(with_reducible assumption)|assumption);have q454:Zr<(Za.length:Int):=Yu (by first|(with_reducible assumption)|assumption);obtain⟨ad454,e454,hx454_0,hx454_1,hx454_2,hx454_3⟩:=at_T73 Zo.out Zr p454 q454;cases e454;replace hx454_0:=(HB.out.cell (Yb w _ hx454_0)).trans hx454_0;replace hx454_1:=(HB.out.cell (Yb w _ hx454_1)).trans hx454_1;replace hx454_2:=(HB.out.cell (Yb w _ hx454_2)).trans hx454_2;replace hx454_3:=(HB.out.cell (Yb w _ hx454_3)).trans hx454_3;replace p454:=eq_true p454;replace q454:=eq_true q454));go_ret;exact⟨by first|rfl|(simp[errW_none,errW_some]<;>rfl)|(simp[*,errW_none,errW_some]<;>rfl),by repeat(first|(with_reducible first|exact HB.out|apply Ye|apply Yd|apply Yg|refine Yh ?_ GE452.out|refine Yh ?_ GE453.out)|exact HB.out)⟩
 replace c3:=Bool.eq_false_iff.mpr c3;subst c3;have H1:(if 0≤Zr then(if Zr<(Za.length:Int) then(some ((rd_T73 Za Zr).f1)) else(none)) else(none))=some r:=by rw[Yy (show ¬ (false=true) by decide)] at H;exact H
 clear H;have H:=H1;clear H1;by_cases c11:0≤Zr
 rotate_left
 ·rw[Yy c11] at H
  exact absurd H (by simp)
 rw[Yx c11] at H;have c11b0:decide (0≤Zr)=true:=Yv c11;clear c11;by_cases c12:Zr<(Za.length:Int)
 rotate_left
 ·rw[Yy c12] at H
  exact absurd H (by simp)
 rw[Yx c12] at H;have c12b0:decide (Zr<(Za.length:Int))=true:=Yv c12;clear c12;obtain rfl:=Option.some.inj H;go_enter Try.func58,Try.ntmps58;go_wp2_with (first|((with_reducible refine gate_dst (N:=2) rfl ?_);refine Yz ?hg (N:=2) ?hd (cs:= #[.int .i64 Zb, .bool Zc, .slice Ze Za.length Zd]) (t:=32) ?hr ?_;(case hd=>rfl);(case hg=>rfl);(case hr=>first|(go_simp;done)|(go_simp;rfl));intro gb452 hg w13 Zf hb;have n0_:=Ya (Yk (by repeat(first|(with_reducible first|exact HB.out|apply Ye|apply Yd|apply Yg)|exact HB.out)) hb);have n1_:=Ya (Zf);have n2_:=Ya ((by rw[hg];exact(Yi (by repeat(first|(with_reducible first|exact HB.out|apply Ye|apply Yd|apply Yg)|exact HB.out))):w.heap.size≤gb452));have n3_:=Ya ((by rw[hg];exact(Yi (by repeat(first|(with_reducible first|exact HB.out|apply Ye|apply Yd|apply Yg)|exact HB.out))):w.heap.size≤gb452));clear HB;have HB:=n0_;have BK452:=n1_;have GW452:=n2_;have GE452:=n3_;clear n0_ n1_ n2_ n3_;clear hb Zf hg)|((with_reducible refine gate_dst (N:=3) rfl ?_);refine Yz ?hg (N:=3) ?hd (cs:= #[.int .i64 Zr, .bool false]) (t:=113) ?hr ?_;(case hd=>rfl);(case hg=>rfl);(case hr=>first|(go_simp;done)|(go_simp;rfl));intro gb453 hg w14 Zf hb;have n0_:=Ya (Yn (g:=gb452) (o:= .cells #[.int .i64 Zb, .bool Zc, .slice Ze Za.length Zd] 32 (0,0)) (by(with_reducible repeat(first|refine Yl ?_ _|refine Ym ?_|refine Yj ?_ _));exact BK452.out) hb);have n1_:=Ya (Yk (by repeat(first|(with_reducible first|exact HB.out|apply Ye|apply Yd|apply Yg|refine Yh ?_ GE452.out)|exact HB.out)) hb);have n2_:=Ya (Zf);have n3_:=Ya ((by rw[hg];exact(Yi (by repeat(first|(with_reducible first|exact HB.out|apply Ye|apply Yd|apply Yg|refine Yh ?_ GE452.out)|exact HB.out))):w.heap.size≤gb453));have n4_:=Ya ((by rw[hg];exact(Yi (by repeat(first|(with_reducible first|exact HB.out|apply Ye|apply Yd|apply Yg|refine Yh ?_ GE452.out)|exact HB.out))):w.heap.size≤gb453));have n5_:=Ya ((by rw[hg];exact Nat.ne_of_lt (blk_lt (g:=gb452) (o:= .cells #[.int .i64 Zb, .bool Zc, .slice Ze Za.length Zd] 32 (0,0)) (by(with_reducible repeat(first|refine Yl ?_ _|refine Ym ?_|refine Yj ?_ _));exact BK452.out)):gb452≠gb453));have n6_:=Ya ((by rw[hg];exact Nat.ne_of_gt (blk_lt (g:=gb452) (o:= .cells #[.int .i64 Zb, .bool Zc, .slice Ze Za.length Zd] 32 (0,0)) (by(with_reducible repeat(first|refine Yl ?_ _|refine Ym ?_|refine Yj ?_ _));exact BK452.out)):gb453≠gb452));clear BK452;clear HB;have BK452:=n0_;have HB:=n1_;have BK453:=n2_;have GW453:=n3_;have GE453:=n4_;have NB452_453:=n5_;have NB453_452:=n6_;clear n0_ n1_ n2_ n3_ n4_ n5_ n6_;clear hb Zf hg;have hnb15:=NB453_452.out;have hnc15:=NB452_453.out;have hcz16_0:w14.cell? ⟨gb453,0,none⟩=some (.int .i64 Zr):=(Yc BK453.out 0).trans rfl;have hcz16_1:w14.cell? ⟨gb453,1,none⟩=some (.bool false):=(Yc BK453.out 1).trans rfl;have hfz16_0:=Yf BK453.out 0;have hfz16_1:=Yf BK453.out 1;have Vj:w14.cell? ⟨gb452,0,none⟩=some (.int .i64 Zb):=(Yc BK452.out 0).trans rfl;have Vk:w14.cell? ⟨gb452,1,none⟩=some (.bool Zc):=(Yc BK452.out 1).trans rfl;have hcz17_2:w14.cell? ⟨gb452,2,none⟩=some (.slice Ze Za.length Zd):=(Yc BK452.out 2).trans rfl;have Vl:=Yf BK452.out 0;have Vm:=Yf BK452.out 1;have hfz17_2:=Yf BK452.out 2;have p455:0≤(Zr:Int):=Yu (by first|(with_reducible assumption)|assumption);have q455:Zr<(Za.length:Int):=Yu (by first|(with_reducible assumption)|assumption);obtain⟨ad455,e455,hx455_0,hx455_1,hx455_2,hx455_3⟩:=at_T73 Zo.out Zr p455 q455;cases e455;replace hx455_0:=(HB.out.cell (Yb w _ hx455_0)).trans hx455_0;replace hx455_1:=(HB.out.cell (Yb w _ hx455_1)).trans hx455_1;replace hx455_2:=(HB.out.cell (Yb w _ hx455_2)).trans hx455_2;replace hx455_3:=(HB.out.cell (Yb w _ hx455_3)).trans hx455_3;replace p455:=eq_true p455;replace q455:=eq_true q455));go_ret;exact⟨by first|rfl|(simp[errW_none,errW_some]<;>rfl)|(simp[*,errW_none,errW_some]<;>rfl),by repeat(first|(with_reducible first|exact HB.out|apply Ye|apply Yd|apply Yg|refine Yh ?_ GE452.out|refine Yh ?_ GE453.out)|exact HB.out)⟩
end P
end Go.Proofs.Ytjaoknhhoicigaa
