/- What the law's row needs of these texts, taken out of them by wip/tool/mini.py: P107 P122 P123 P124 QFewWalk QLevelLaw QRoomRef QCheckRef QWayFact QMostLaw QAwake09 QFewLaws P175 QOpen QLFew. -/
import Derived.Test.YtkcpanpdipmmmaaMhjahip
import Derived.Test.YtkcpanpdipmmmaaMndnemp
import Derived.Test.YtkcpanpdipmmmaaMcmeajd
import Derived.Test.YtkcpanpdipmmmaaMckogln
import Derived.Deep.DeepCutAuto
import Derived.Test.YtkcpanpdipmmmaaMfeeaji
import Derived.Test.YtkcpanpdipmmmaaVbobnle
import Derived.Deep.Slices
import Derived.Deep.Fields
import Derived.ChangeSame
import Derived.ChangeArms
import Derived.OpenShut
set_option linter.unusedVariables false
set_option linter.unusedSimpArgs false
namespace Go.Proofs.Ytkcpanpdipmmmaa.P
open Go.RowKit Go.Proofs.YtkcpanpdipmmmaaW.PrintWords Go.Proofs.YtkcpanpdipmmmaaW.PrintLast Go.Proofs.YtkcpanpdipmmmaaW.PrintMore
attribute [local go_sem] max2_int min2_int max_two min_two max_three min_three max_four min_four
def ebbtideref07_Pushed.l0:Nat→List (S38)→Int→List Int→Int→Option (List Int)
 |0,_,_,_,_=>none
 |k+1,x1,x2,x7,x8=>if x8<(x1.length:Int) then(if 0≤x8 then(if (rd_T38 x1 x8).f1=true then(if 0≤((rd_T38 x1 x8).f0) then(if ((rd_T38 x1 x8).f0)<(x7.length:Int) then(ebbtideref07_Pushed.l0 k x1 x2 (x7.set (((rd_T38 x1 x8).f0):Int).toNat (wrap64 ((rd x7 ((rd_T38 x1 x8).f0)) - x2))) (wrap64 (x8+1))) else(none)) else(none)) else(if 0≤((rd_T38 x1 x8).f0) then(if ((rd_T38 x1 x8).f0)<(x7.length:Int) then(ebbtideref07_Pushed.l0 k x1 x2 (x7.set (((rd_T38 x1 x8).f0):Int).toNat (wrap64 ((rd x7 ((rd_T38 x1 x8).f0))+x2))) (wrap64 (x8+1))) else(none)) else(none))) else(none)) else(some x7)
def ebbtideref07_Pushed.f (k:Nat) (l0:List Int) (l1:List (S38)) (a2:Int):Option (List Int):=if ([]:List Int).length+l0.length<17592186044416 then(ebbtideref07_Pushed.l0 k l1 a2 (([]:List Int) ++ l0) 0) else(none)
def ebbtideref07_Pushed.T7:Bool × List (List Nat × List Nat):=(true,[([],[]),([],[]),([],[]),([1,2],[1,2]),([3],[3]),([4],[4]),([],[]),([],[]),([],[]),([7,8],[7,8]),([9],[9]),([10],[10]),([6,11],[6,11]),([12],[12]),([],[]),([13,14],[13,14]),([0,5,0,1,2,3,4,5,6,7,8,9,10,11,12,13,14,15],[0,5]),([16,15,0,1,2,3,4,5,6,7,8,9,10,11,12,13,14,15],[15,16])])
def ebbtideref07_Pushed.B7:List Nat:=[0,0,0,6,14,30,0,0,0,384,896,1920,4032,8128,0,32704,65535,131071]
theorem ebbtideref07_Pushed.tab7:rtab .any (opsOf Try.f130 7)=ebbtideref07_Pushed.T7:=by kernel_rfl
theorem ebbtideref07_Pushed.bits7:waitsOk ebbtideref07_Pushed.T7.2 ebbtideref07_Pushed.B7=true:=by kernel_rfl
def ebbtideref07_Pushed.T8:Bool × List (List Nat × List Nat):=(true,[([],[]),([],[]),([],[]),([1,2],[1,2]),([3],[3]),([4],[4]),([],[]),([],[]),([],[]),([7,8],[7,8]),([9],[9]),([10],[10]),([6,11],[6,11]),([12],[12]),([],[]),([13,14],[13,14]),([0,5,0,1,2,3,4,5,6,7,8,9,10,11,12,13,14,15],[0,5]),([16,15,0,1,2,3,4,5,6,7,8,9,10,11,12,13,14,15],[15,16])])
def ebbtideref07_Pushed.B8:List Nat:=[0,0,0,6,14,30,0,0,0,384,896,1920,4032,8128,0,32704,65535,131071]
theorem ebbtideref07_Pushed.tab8:rtab .any (opsOf Try.f130 8)=ebbtideref07_Pushed.T8:=by kernel_rfl
theorem ebbtideref07_Pushed.bits8:waitsOk ebbtideref07_Pushed.T8.2 ebbtideref07_Pushed.B8=true:=by kernel_rfl
set_option maxHeartbeats 8000000 in
set_option maxRecDepth 100000 in
theorem ebbtideref07_Pushed.calls (k:Nat) (A0:Option Addr) (c0:Nat) (l0:List Int) (A1:Option Addr) (c1:Nat) (l1:List (S38)) (a2:Int) (r:List Int) (w:World) (hr0:Kd.C (Kd.int .i64) w A0 l0.length l0) (hc0:l0.length≤c0) (hr1:Kd.C k38 w A1 l1.length l1) (hc1:l1.length≤c1) (h:ebbtideref07_Pushed.f k l0 l1 a2=some r):
  Calls Try.prog 130 #[.slice A0 l0.length c0, .slice A1 l1.length c1, .int .i64 a2] w fun e w'=> ∃ v0_:Value,e= .returned (v0_)∧Kd.R (Kd.int .i64) 3 w' w.heap.size (fun _=>True) v0_ r∧Below w.heap.size w w':=by
 have HR0:=Aside0.mk hr0
 have HC0:=Aside0.mk hc0
 clear hr0 hc0
 have HR1:=Aside0.mk hr1
 have HC1:=Aside0.mk hc1
 clear hr1 hc1
 have HB:=Aside0.mk (Below.refl w.heap.size w)
 have H:(if ([]:List Int).length+l0.length<17592186044416 then(ebbtideref07_Pushed.l0 k l1 a2 (([]:List Int) ++ l0) 0) else(none))=some r:=h
 clear h
 by_cases c4:([]:List Int).length+l0.length<17592186044416
 rotate_left
 ·rw[if_neg c4] at H
  exact absurd H (by simp)
 rw[if_pos c4] at H
 have LMc4:=Aside0.mk c4
 clear c4
 obtain⟨y815,hy815⟩: ∃ y_:List Int,y_=(([]:List Int) ++ l0):=⟨_,rfl⟩
 replace H:(ebbtideref07_Pushed.l0 k l1 a2 y815 0)=some r:=by first|(rw[hy815];with_reducible exact H)|(have H2_:=(Option.bind_some _ _).symm.trans H;rw[hy815];with_reducible exact H2_)|(have H2_:=(Option.bind_some _ _).symm.trans H;with_reducible exact H2_)|with_reducible exact H|(rw[hy815];exact H)|exact H
 have Ny815:=Aside0.mk hy815
 clear hy815
 have H':=Aside0.mk H
 clear H
 go_enter Try.func130,Try.ntmps130
 go_wp2_with (first|((with_reducible refine gate_builtin (b:= .append) (xs:= #[.tmp 9, .tmp 10]) rfl ?_);at_builtin;refine Kd.R_append_rows (Kd.int .i64) (w0:=w) w.heap.size rfl (.tmp 9) (.tmp 10) 25 3 (.int .i64 0) 8 rfl Try.underlying25 info3 rfl (by decide) (by omega) (.slice none 0 0) ([]:List Int) l0 _ _ _ (fun _=>True) (fun _=>False) rfl rfl ?aO ?aR (fun _ _ h=>h) (fun _ h=>h.elim) ?aF ?aB ?aS ?aL ?_;(case aR=>repeat(first|exact HR0.out|(with_reducible refine Kd.C_alloc ?_ _)|(with_reducible refine Kd.C_drewN ?_ _)|(with_reducible refine Kd.C_drew ?_)));(case aB=>exact(by repeat(first|(with_reducible first|exact HB.out|apply below_alloc|apply pw_below_drewN|apply below_drew1)|exact HB.out)));(case aF=>exact(fun _ _=>trivial));(case aO=>exact((Kd.R_nil _ _ _ _ (fun _=>True))));(case aS=>exact(below_size (by repeat(first|(with_reducible first|exact HB.out|apply below_alloc|apply pw_below_drewN|apply below_drew1)|exact HB.out))));(case aL=>have:=LMc4.out;omega);intro v816 w5 ho hb hg hat;rw[← Ny815.out] at ho;have n0_:=Aside0.mk (hb);have n1_:=Aside0.mk (ho);clear HB;have HB:=n0_;have HO817:=n1_;clear n0_ n1_;clear ho hb hg hat))
 go_loopg [8] k (fun kq v8 w'=> ∃ (x7_1:List Int) (x8_1:Int),v8= .int .i64 x8_1∧Aside0 (ebbtideref07_Pushed.l0 kq l1 a2 x7_1 x8_1=some r)∧Aside0 (kq≤k)∧Aside0 (Kd.R (Kd.int .i64) 3 w' w.heap.size (fun _=>True) v816 x7_1)∧Aside0 (Below w.heap.size w w'))
 case atStart=>exact⟨(y815),(0),(by first|rfl|(simp;done)|(simp[*];done)),H',⟨Nat.le_refl _⟩,⟨by(with_reducible repeat(first|apply Kd.R_alloc|apply Kd.R_drewN|apply Kd.R_drew));exact HO817.out⟩,⟨by repeat(first|(with_reducible first|exact HB.out|apply below_alloc|apply pw_below_drewN|apply below_drew1)|exact HB.out)⟩⟩
 case round=>
  clear H'
  try clear c1
  try clear p2
  try clear c4
  obtain⟨x7_1,x8_1,rfl,HA,HK1,HO_7,HB⟩:=hrel
  cases gk with
  |zero=>exact absurd HA.out (by simp[ebbtideref07_Pushed.l0])
  |succ k1=>
   have H:=HA.out
   clear HA
   simp only[ebbtideref07_Pushed.l0] at H
   by_cases c6:x8_1<(l1.length:Int)
   rotate_left
   ·rw[if_neg c6] at H
    have c6b0:decide (x8_1<(l1.length:Int))=false:=decide_eq_false c6
    clear c6
    obtain rfl:=Option.some.inj H
    go_wp2
    go_ret
    exact⟨_,by first|rfl|(simp[errW_none,errW_some]<;>rfl)|(simp[*,errW_none,errW_some]<;>rfl),by(with_reducible repeat(first|apply Kd.R_alloc|apply Kd.R_drewN|apply Kd.R_drew));exact HO_7.out,by repeat(first|(with_reducible first|exact HB.out|apply below_alloc|apply pw_below_drewN|apply below_drew1)|exact HB.out)⟩
   rw[if_pos c6] at H
   have c6b0:decide (x8_1<(l1.length:Int))=true:=decide_eq_true c6
   clear c6
   by_cases c7:0≤x8_1
   rotate_left
   ·rw[if_neg c7] at H
    exact absurd H (by simp)
   rw[if_pos c7] at H
   have c7b0:decide (0≤x8_1)=true:=decide_eq_true c7
   clear c7
   obtain⟨bq8,hbq8⟩: ∃ b_:Bool,b_=((rd_T38 l1 x8_1).f1):=⟨_,rfl⟩
   replace H:(if bq8=true then(if 0≤((rd_T38 l1 x8_1).f0) then(if ((rd_T38 l1 x8_1).f0)<(x7_1.length:Int) then(ebbtideref07_Pushed.l0 k1 l1 a2 (x7_1.set (((rd_T38 l1 x8_1).f0):Int).toNat (wrap64 ((rd x7_1 ((rd_T38 l1 x8_1).f0)) - a2))) (wrap64 (x8_1+1))) else(none)) else(none)) else(if 0≤((rd_T38 l1 x8_1).f0) then(if ((rd_T38 l1 x8_1).f0)<(x7_1.length:Int) then(ebbtideref07_Pushed.l0 k1 l1 a2 (x7_1.set (((rd_T38 l1 x8_1).f0):Int).toNat (wrap64 ((rd x7_1 ((rd_T38 l1 x8_1).f0))+a2))) (wrap64 (x8_1+1))) else(none)) else(none)))=some r:=by rw[← hbq8] at H;exact H
   have Nbq8:=Aside0.mk hbq8
   clear hbq8
   by_cases c9:bq8=true
   ·subst c9
    have H1:(if 0≤((rd_T38 l1 x8_1).f0) then(if ((rd_T38 l1 x8_1).f0)<(x7_1.length:Int) then(ebbtideref07_Pushed.l0 k1 l1 a2 (x7_1.set (((rd_T38 l1 x8_1).f0):Int).toNat (wrap64 ((rd x7_1 ((rd_T38 l1 x8_1).f0)) - a2))) (wrap64 (x8_1+1))) else(none)) else(none))=some r:=by first|(rw[if_pos rfl] at H;exact H)|(rw[if_pos trivial] at H;exact H)
    clear H
    have H:=H1
    clear H1
    by_cases c10:0≤((rd_T38 l1 x8_1).f0)
    rotate_left
    ·rw[if_neg c10] at H
     exact absurd H (by simp)
    rw[if_pos c10] at H
    have c10b0:decide (0≤((rd_T38 l1 x8_1).f0))=true:=decide_eq_true c10
    clear c10
    by_cases c11:((rd_T38 l1 x8_1).f0)<(x7_1.length:Int)
    rotate_left
    ·rw[if_neg c11] at H
     exact absurd H (by simp)
    rw[if_pos c11] at H
    have c11b0:decide (((rd_T38 l1 x8_1).f0)<(x7_1.length:Int))=true:=decide_eq_true c11
    clear c11
    obtain⟨y822,hy822⟩: ∃ y_:List Int,y_=(x7_1.set (((rd_T38 l1 x8_1).f0):Int).toNat (wrap64 ((rd x7_1 ((rd_T38 l1 x8_1).f0)) - a2))):=⟨_,rfl⟩
    replace H:(ebbtideref07_Pushed.l0 k1 l1 a2 y822 (wrap64 (x8_1+1)))=some r:=by first|(rw[hy822];with_reducible exact H)|(have H2_:=(Option.bind_some _ _).symm.trans H;rw[hy822];with_reducible exact H2_)|(have H2_:=(Option.bind_some _ _).symm.trans H;with_reducible exact H2_)|with_reducible exact H|(rw[hy822];exact H)|exact H
    have Ny822:=Aside0.mk hy822
    clear hy822
    have H':=Aside0.mk H
    clear H
    have p818:0≤(x8_1:Int):=of_decide_eq_true (by first|(with_reducible assumption)|assumption)
    have q818:x8_1<(l1.length:Int):=of_decide_eq_true (by first|(with_reducible assumption)|assumption)
    obtain⟨ad818,e818,hx818_0,hx818_1⟩:=at_T38 HR1.out x8_1 p818 q818
    (try rw[← Nbq8.out] at hx818_1)
    cases e818
    replace hx818_0:=(HB.out.cell (World.block_lt_of_cell? w _ hx818_0)).trans hx818_0
    replace hx818_1:=(HB.out.cell (World.block_lt_of_cell? w _ hx818_1)).trans hx818_1
    replace p818:=eq_true p818
    replace q818:=eq_true q818
    try go_wp2
    have n0_:=Aside0.mk (Kd.R_drew HO_7.out)
    have n1_:=Aside0.mk (below_drew1 HB.out)
    clear HO_7
    clear HB
    have HO_7:=n0_
    have HB:=n1_
    clear n0_ n1_
    have p819:0≤(x8_1:Int):=of_decide_eq_true (by first|(with_reducible assumption)|assumption)
    have q819:x8_1<(l1.length:Int):=of_decide_eq_true (by first|(with_reducible assumption)|assumption)
    obtain⟨ad819,e819,hx819_0,hx819_1⟩:=at_T38 HR1.out x8_1 p819 q819
    have hw819_1:=hx819_1
    have hw819_0:=hx819_0
    (try rw[← Nbq8.out] at hx819_1)
    (try rw[← Nbq8.out] at hw819_1)
    obtain rfl:ad818=ad819:=(by injection e819)
    replace hx819_0:=(HB.out.cell (World.block_lt_of_cell? w _ hx819_0)).trans hx819_0
    replace hx819_1:=(HB.out.cell (World.block_lt_of_cell? w _ hx819_1)).trans hx819_1
    replace p819:=eq_true p819
    replace q819:=eq_true q819
    have p820:0≤(x8_1:Int):=of_decide_eq_true (by first|(with_reducible assumption)|assumption)
    have q820:x8_1<(l1.length:Int):=of_decide_eq_true (by first|(with_reducible assumption)|assumption)
    obtain⟨ad820,e820,hx820_0,hx820_1⟩:=at_T38 HR1.out x8_1 p820 q820
    have hw820_1:=hx820_1
    have hw820_0:=hx820_0
    (try rw[← Nbq8.out] at hx820_1)
    (try rw[← Nbq8.out] at hw820_1)
    obtain rfl:ad818=ad820:=(by injection e820)
    replace hx820_0:=(HB.out.cell (World.block_lt_of_cell? w _ hx820_0)).trans hx820_0
    replace hx820_1:=(HB.out.cell (World.block_lt_of_cell? w _ hx820_1)).trans hx820_1
    replace p820:=eq_true p820
    replace q820:=eq_true q820
    obtain⟨Ao14,co14,eo14⟩:=Kd.R_slice HO_7.out
    (first|subst eo14|(injection eo14 with f1_ f2_ f3_;have f4_:=f1_.symm;have f5_:=f3_.symm;clear f1_ f2_ f3_;subst f4_;subst f5_))
    have p821:0≤(((rd_T38 l1 x8_1).f0):Int):=of_decide_eq_true (by first|(with_reducible assumption)|assumption)
    have q821:((rd_T38 l1 x8_1).f0)<(x7_1.length:Int):=of_decide_eq_true (by first|(with_reducible assumption)|assumption)
    obtain⟨ad821,e821,hx821_0⟩:=Kd.at_int (Kd.R_reads' HO_7.out).2.2 ((rd_T38 l1 x8_1).f0) p821 q821
    cases e821
    replace p821:=eq_true p821
    replace q821:=eq_true q821
    have p12:0≤(((rd_T38 l1 x8_1).f0):Int):=of_decide_eq_true (by first|(with_reducible assumption)|assumption)
    have q12:(((rd_T38 l1 x8_1).f0):Int)<((x7_1.length:Int):Int):=of_decide_eq_true (by first|(with_reducible assumption)|assumption)
    obtain⟨go12,co12,eo12,gb12,gl12,cl12,HG12⟩:=Kd.R_form HO_7.out (by omega)
    (first|cases eo12|(injection eo12 with ea_ en_ ec_;(first|subst ea_|(injection ea_ with ea_;subst ea_));subst ec_;clear en_))
    have GB12:=Aside0.mk gb12
    have GG12:=Aside0.mk HG12
    clear gb12 gl12 HG12
    (first|simp only[add_plain] at hx821_0|skip)
    obtain⟨hx12_0,hf12_0⟩:=Kd.R_celln 0 HO_7.out (((rd_T38 l1 x8_1).f0):Int) p12 q12
    replace p12:=eq_true p12
    replace q12:=eq_true q12
    have HP15:=Kd.R_putn HO_7.out (((rd_T38 l1 x8_1).f0):Int) (wrap64 ((rd x7_1 ((rd_T38 l1 x8_1).f0)) - a2))
    rw[← Ny822.out] at HP15
    have HQ15:=Aside0.mk HP15
    clear HP15
    refine start_ (n:=18) (S:=fun w'=>w'.cell? (ad818.add ((x8_1).toNat * 2))=some (.int .i64 ((rd_T38 l1 x8_1).f0))∧w'.cell? ⟨(ad818.add ((x8_1).toNat * 2)).block,(ad818.add ((x8_1).toNat * 2)).off+1,none⟩=some (.bool (true))∧w'.cell? (ad818.add ((x8_1).toNat * 2))=some (.int .i64 ((rd_T38 l1 x8_1).f0))∧w'.cell? ⟨(ad818.add ((x8_1).toNat * 2)).block,(ad818.add ((x8_1).toNat * 2)).off+1,none⟩=some (.bool (true))∧w'.cell? ⟨go12,(((rd_T38 l1 x8_1).f0)).toNat,none⟩=some (.int .i64 (rd x7_1 ((rd_T38 l1 x8_1).f0)))) (ds:=[17]) #[false,false,false,false,false,false,false,false,false,false,false,false,false,false,false,false,false,false] (by kernel_rfl) rfl rfl ⟨((HB.out.cell (World.block_lt_of_cell? w _ hw819_0)).trans hw819_0),((HB.out.cell (World.block_lt_of_cell? w _ hw819_1)).trans hw819_1),((HB.out.cell (World.block_lt_of_cell? w _ hw820_0)).trans hw820_0),((HB.out.cell (World.block_lt_of_cell? w _ hw820_1)).trans hw820_1),hx821_0⟩ (fun hHeld=> ?_);refine with_tabW ebbtideref07_Pushed.tab7 ebbtideref07_Pushed.bits7 (fun HT_ HW_=> ?_)
    generalize wr.drew=w13 at HO_7 HB GG12 HQ15 hf12_0 hx12_0 hx819_0 hx819_1 hx820_0 hx820_1 hx821_0 hHeld ⊢
    refine pure_ (i:=0) (N:=some 23) (v:= ?_) (a':= ?_) #[true,false,false,false,false,false,false,false,false,false,false,false,false,false,false,false,false,false] rfl rfl (any_of HT_.out (by kernel_rfl)) (fun _ _ _ h=>h) (Or.inl ⟨by rfl,?_⟩) ?_ ?_
    rotate_left
    ·intro w'
     go_simp
     with_reducible rfl
    rotate_left
    ·simp only[Act.put,List.setIfInBounds_toArray,List.set_cons_zero,List.set_cons_succ,i64_w,i32_w]
     rfl
    refine pure_ (i:=1) (N:=some 24) (v:= ?_) (a':= ?_) #[true,true,false,false,false,false,false,false,false,false,false,false,false,false,false,false,false,false] rfl rfl (any_of HT_.out (by kernel_rfl)) (fun _ _ _ h=>h) (Or.inl ⟨by rfl,?_⟩) ?_ ?_
    rotate_left
    ·intro w'
     go_simp
     with_reducible rfl
    rotate_left
    ·simp only[Act.put,List.setIfInBounds_toArray,List.set_cons_zero,List.set_cons_succ,i64_w,i32_w]
     rfl
    refine pure_ (i:=2) (N:=some 25) (v:= ?_) (a':= ?_) #[true,true,true,false,false,false,false,false,false,false,false,false,false,false,false,false,false,false] rfl rfl (any_of HT_.out (by kernel_rfl)) (fun _ _ _ h=>h) (Or.inl ⟨by rfl,?_⟩) ?_ ?_
    rotate_left
    ·intro w'
     go_simp
     with_reducible rfl
    rotate_left
    ·simp only[Act.put,List.setIfInBounds_toArray,List.set_cons_zero,List.set_cons_succ,i64_w,i32_w]
     rfl
    refine pure_ (i:=3) (N:=some 26) (v:= ?_) (a':= ?_) #[true,true,true,true,false,false,false,false,false,false,false,false,false,false,false,false,false,false] rfl rfl (any_of HT_.out (by kernel_rfl)) (fun _ _ _ h=>h) (Or.inl ⟨by rfl,?_⟩) ?_ ?_
    rotate_left
    ·intro w'
     go_simp
     with_reducible rfl
    rotate_left
    ·simp only[Act.put,List.setIfInBounds_toArray,List.set_cons_zero,List.set_cons_succ,i64_w,i32_w]
     rfl
    refine pure_ (i:=4) (N:=some 27) (v:= ?_) (a':= ?_) #[true,true,true,true,true,false,false,false,false,false,false,false,false,false,false,false,false,false] rfl rfl (any_of HT_.out (by kernel_rfl)) (fun _ _ _ h=>h) (Or.inl ⟨by rfl,?_⟩) ?_ ?_
    rotate_left
    ·intro w'
     go_simp
     with_reducible rfl
    rotate_left
    ·simp only[Act.put,List.setIfInBounds_toArray,List.set_cons_zero,List.set_cons_succ,i64_w,i32_w]
     rfl
    refine pure_ (i:=6) (N:=some 29) (v:= ?_) (a':= ?_) #[true,true,true,true,true,false,true,false,false,false,false,false,false,false,false,false,false,false] rfl rfl (any_of HT_.out (by kernel_rfl)) (fun _ _ _ h=>h) (Or.inl ⟨by rfl,?_⟩) ?_ ?_
    rotate_left
    ·intro w'
     go_simp
     with_reducible rfl
    rotate_left
    ·simp only[Act.put,List.setIfInBounds_toArray,List.set_cons_zero,List.set_cons_succ,i64_w,i32_w]
     rfl
    refine pure_ (i:=7) (N:=some 30) (v:= ?_) (a':= ?_) #[true,true,true,true,true,false,true,true,false,false,false,false,false,false,false,false,false,false] rfl rfl (any_of HT_.out (by kernel_rfl)) (fun _ _ _ h=>h) (Or.inl ⟨by rfl,?_⟩) ?_ ?_
    rotate_left
    ·intro w'
     go_simp
     with_reducible rfl
    rotate_left
    ·simp only[Act.put,List.setIfInBounds_toArray,List.set_cons_zero,List.set_cons_succ,i64_w,i32_w]
     rfl
    refine pure_ (i:=8) (N:=some 31) (v:= ?_) (a':= ?_) #[true,true,true,true,true,false,true,true,true,false,false,false,false,false,false,false,false,false] rfl rfl (any_of HT_.out (by kernel_rfl)) (fun _ _ _ h=>h) (Or.inl ⟨by rfl,?_⟩) ?_ ?_
    rotate_left
    ·intro w'
     go_simp
     with_reducible rfl
    rotate_left
    ·simp only[Act.put,List.setIfInBounds_toArray,List.set_cons_zero,List.set_cons_succ,i64_w,i32_w]
     rfl
    refine pure_ (i:=9) (N:=some 32) (v:= ?_) (a':= ?_) #[true,true,true,true,true,false,true,true,true,true,false,false,false,false,false,false,false,false] rfl rfl (any_of HT_.out (by kernel_rfl)) (fun _ _ _ h=>h) (Or.inl ⟨by rfl,?_⟩) ?_ ?_
    rotate_left
    ·intro w'
     go_simp
     with_reducible rfl
    rotate_left
    ·simp only[Act.put,List.setIfInBounds_toArray,List.set_cons_zero,List.set_cons_succ,i64_w,i32_w]
     rfl
    refine pure_ (i:=10) (N:=some 33) (v:= ?_) (a':= ?_) #[true,true,true,true,true,false,true,true,true,true,true,false,false,false,false,false,false,false] rfl rfl (any_of HT_.out (by kernel_rfl)) (fun _ _ _ h=>h) (Or.inl ⟨by rfl,?_⟩) ?_ ?_
    rotate_left
    ·intro w'
     go_simp
     with_reducible rfl
    rotate_left
    ·simp only[Act.put,List.setIfInBounds_toArray,List.set_cons_zero,List.set_cons_succ,i64_w,i32_w]
     rfl
    refine pure_ (i:=14) (N:=some 37) (v:= ?_) (a':= ?_) #[true,true,true,true,true,false,true,true,true,true,true,false,false,false,true,false,false,false] rfl rfl (any_of HT_.out (by kernel_rfl)) (fun _ _ _ h=>h) (Or.inl ⟨by rfl,?_⟩) ?_ ?_
    rotate_left
    ·intro w'
     go_simp
     with_reducible rfl
    rotate_left
    ·simp only[Act.put,List.setIfInBounds_toArray,List.set_cons_zero,List.set_cons_succ,i64_w,i32_w]
     rfl
    refine take_ (i:=5) (N:=some 28) (v:= ?_) (a':= ?_) #[true,true,true,true,true,true,true,true,true,true,true,false,false,false,true,false,false,false] rfl rfl (take_ofW HT_.out HW_.out (by kernel_rfl)) (fun _ _ _ h=>h) (Or.inl ⟨by rfl,?_⟩) hHeld ?_ ?_
    rotate_left
    ·rintro w' ⟨s0,s1,s2,s3,s4⟩
     go_simp
     with_reducible rfl
    rotate_left
    ·simp only[Act.put,List.setIfInBounds_toArray,List.set_cons_zero,List.set_cons_succ,i64_w,i32_w]
     rfl
    refine take_ (i:=11) (N:=some 34) (v:= ?_) (a':= ?_) #[true,true,true,true,true,true,true,true,true,true,true,true,false,false,true,false,false,false] rfl rfl (take_ofW HT_.out HW_.out (by kernel_rfl)) (fun _ _ _ h=>h) (Or.inl ⟨by rfl,?_⟩) hHeld ?_ ?_
    rotate_left
    ·rintro w' ⟨s0,s1,s2,s3,s4⟩
     go_simp
     with_reducible rfl
    rotate_left
    ·simp only[Act.put,List.setIfInBounds_toArray,List.set_cons_zero,List.set_cons_succ,i64_w,i32_w]
     rfl
    refine pure_ (i:=12) (N:=some 35) (v:= ?_) (a':= ?_) #[true,true,true,true,true,true,true,true,true,true,true,true,true,false,true,false,false,false] rfl rfl (any_of HT_.out (by kernel_rfl)) (fun _ _ _ h=>h) (Or.inl ⟨by rfl,?_⟩) ?_ ?_
    rotate_left
    ·intro w'
     go_simp
     with_reducible rfl
    rotate_left
    ·simp only[Act.put,List.setIfInBounds_toArray,List.set_cons_zero,List.set_cons_succ,i64_w,i32_w]
     rfl
    refine take_ (i:=13) (N:=some 36) (v:= ?_) (a':= ?_) #[true,true,true,true,true,true,true,true,true,true,true,true,true,true,true,false,false,false] rfl rfl (take_ofW HT_.out HW_.out (by kernel_rfl)) (fun _ _ _ h=>h) (Or.inl ⟨by rfl,?_⟩) hHeld ?_ ?_
    rotate_left
    ·rintro w' ⟨s0,s1,s2,s3,s4⟩
     go_simp
     with_reducible rfl
    rotate_left
    ·simp only[Act.put,List.setIfInBounds_toArray,List.set_cons_zero,List.set_cons_succ,i64_w,i32_w]
     rfl
    refine pure_ (i:=15) (N:=some 38) (v:= ?_) (a':= ?_) #[true,true,true,true,true,true,true,true,true,true,true,true,true,true,true,true,false,false] rfl rfl (any_of HT_.out (by kernel_rfl)) (fun _ _ _ h=>h) (Or.inl ⟨by rfl,?_⟩) ?_ ?_
    rotate_left
    ·intro w'
     go_simp
     with_reducible rfl
    rotate_left
    ·simp only[Act.put,List.setIfInBounds_toArray,List.set_cons_zero,List.set_cons_succ,i64_w,i32_w]
     rfl
    refine pure_ (i:=16) (N:=some 39) (v:= ?_) (a':= ?_) #[true,true,true,true,true,true,true,true,true,true,true,true,true,true,true,true,true,false] rfl rfl (any_of HT_.out (by kernel_rfl)) (fun _ _ _ h=>h) (Or.inl ⟨by rfl,?_⟩) ?_ ?_
    rotate_left
    ·intro w'
     go_simp
     with_reducible rfl
    rotate_left
    ·simp only[Act.put,List.setIfInBounds_toArray,List.set_cons_zero,List.set_cons_succ,i64_w,i32_w]
     rfl
    refine last_ (i:=17) (N:=none) #[true,true,true,true,true,true,true,true,true,true,true,true,true,true,true,true,true,true] rfl rfl (one_of HT_.out (by kernel_rfl)) (by decide) (fun K hK=> ?_)
    refine skip_ (w1:= ?_) (by rfl) rfl ?_ ?_
    rotate_left
    ·go_simp
     rfl
    refine hK.out _ _ ?_
    clear hK K
    refine done_ (done_of HT_.out (by kernel_rfl)) ?_
    try go_wp2
    go_roundg k1
    case measure=>have:=HK1.out;omega
    case rel=>exact⟨(y822),(wrap64 (x8_1+1)),(by first|rfl|(simp;done)|(simp[*];done)),H',⟨by have:=HK1.out;omega⟩,⟨by(with_reducible repeat(first|apply Kd.R_alloc|apply Kd.R_drewN|apply Kd.R_drew));exact HQ15.out⟩,⟨by repeat(first|(with_reducible first|exact HB.out|apply below_alloc|apply pw_below_drewN|apply below_drew1|refine below_set ?_ GB12.out)|exact HB.out)⟩⟩
   replace c9:=Bool.eq_false_iff.mpr c9
   subst c9
   have H1:(if 0≤((rd_T38 l1 x8_1).f0) then(if ((rd_T38 l1 x8_1).f0)<(x7_1.length:Int) then(ebbtideref07_Pushed.l0 k1 l1 a2 (x7_1.set (((rd_T38 l1 x8_1).f0):Int).toNat (wrap64 ((rd x7_1 ((rd_T38 l1 x8_1).f0))+a2))) (wrap64 (x8_1+1))) else(none)) else(none))=some r:=by rw[if_neg (show ¬ (false=true) by decide)] at H;exact H
   clear H
   have H:=H1
   clear H1
   by_cases c16:0≤((rd_T38 l1 x8_1).f0)
   rotate_left
   ·rw[if_neg c16] at H
    exact absurd H (by simp)
   rw[if_pos c16] at H
   have c16b0:decide (0≤((rd_T38 l1 x8_1).f0))=true:=decide_eq_true c16
   clear c16
   by_cases c17:((rd_T38 l1 x8_1).f0)<(x7_1.length:Int)
   rotate_left
   ·rw[if_neg c17] at H
    exact absurd H (by simp)
   rw[if_pos c17] at H
   have c17b0:decide (((rd_T38 l1 x8_1).f0)<(x7_1.length:Int))=true:=decide_eq_true c17
   clear c17
   obtain⟨y826,hy826⟩: ∃ y_:List Int,y_=(x7_1.set (((rd_T38 l1 x8_1).f0):Int).toNat (wrap64 ((rd x7_1 ((rd_T38 l1 x8_1).f0))+a2))):=⟨_,rfl⟩
   replace H:(ebbtideref07_Pushed.l0 k1 l1 a2 y826 (wrap64 (x8_1+1)))=some r:=by first|(rw[hy826];with_reducible exact H)|(have H2_:=(Option.bind_some _ _).symm.trans H;rw[hy826];with_reducible exact H2_)|(have H2_:=(Option.bind_some _ _).symm.trans H;with_reducible exact H2_)|with_reducible exact H|(rw[hy826];exact H)|exact H
   have Ny826:=Aside0.mk hy826
   clear hy826
   have H':=Aside0.mk H
   clear H
   have p818:0≤(x8_1:Int):=of_decide_eq_true (by first|(with_reducible assumption)|assumption)
   have q818:x8_1<(l1.length:Int):=of_decide_eq_true (by first|(with_reducible assumption)|assumption)
   obtain⟨ad818,e818,hx818_0,hx818_1⟩:=at_T38 HR1.out x8_1 p818 q818
   (try rw[← Nbq8.out] at hx818_1)
   cases e818
   replace hx818_0:=(HB.out.cell (World.block_lt_of_cell? w _ hx818_0)).trans hx818_0
   replace hx818_1:=(HB.out.cell (World.block_lt_of_cell? w _ hx818_1)).trans hx818_1
   replace p818:=eq_true p818
   replace q818:=eq_true q818
   try go_wp2
   have n0_:=Aside0.mk (Kd.R_drew HO_7.out)
   have n1_:=Aside0.mk (below_drew1 HB.out)
   clear HO_7
   clear HB
   have HO_7:=n0_
   have HB:=n1_
   clear n0_ n1_
   have p823:0≤(x8_1:Int):=of_decide_eq_true (by first|(with_reducible assumption)|assumption)
   have q823:x8_1<(l1.length:Int):=of_decide_eq_true (by first|(with_reducible assumption)|assumption)
   obtain⟨ad823,e823,hx823_0,hx823_1⟩:=at_T38 HR1.out x8_1 p823 q823
   have hw823_1:=hx823_1
   have hw823_0:=hx823_0
   (try rw[← Nbq8.out] at hx823_1)
   (try rw[← Nbq8.out] at hw823_1)
   obtain rfl:ad818=ad823:=(by injection e823)
   replace hx823_0:=(HB.out.cell (World.block_lt_of_cell? w _ hx823_0)).trans hx823_0
   replace hx823_1:=(HB.out.cell (World.block_lt_of_cell? w _ hx823_1)).trans hx823_1
   replace p823:=eq_true p823
   replace q823:=eq_true q823
   have p824:0≤(x8_1:Int):=of_decide_eq_true (by first|(with_reducible assumption)|assumption)
   have q824:x8_1<(l1.length:Int):=of_decide_eq_true (by first|(with_reducible assumption)|assumption)
   obtain⟨ad824,e824,hx824_0,hx824_1⟩:=at_T38 HR1.out x8_1 p824 q824
   have hw824_1:=hx824_1
   have hw824_0:=hx824_0
   (try rw[← Nbq8.out] at hx824_1)
   (try rw[← Nbq8.out] at hw824_1)
   obtain rfl:ad818=ad824:=(by injection e824)
   replace hx824_0:=(HB.out.cell (World.block_lt_of_cell? w _ hx824_0)).trans hx824_0
   replace hx824_1:=(HB.out.cell (World.block_lt_of_cell? w _ hx824_1)).trans hx824_1
   replace p824:=eq_true p824
   replace q824:=eq_true q824
   obtain⟨Ao20,co20,eo20⟩:=Kd.R_slice HO_7.out
   (first|subst eo20|(injection eo20 with f1_ f2_ f3_;have f4_:=f1_.symm;have f5_:=f3_.symm;clear f1_ f2_ f3_;subst f4_;subst f5_))
   have p825:0≤(((rd_T38 l1 x8_1).f0):Int):=of_decide_eq_true (by first|(with_reducible assumption)|assumption)
   have q825:((rd_T38 l1 x8_1).f0)<(x7_1.length:Int):=of_decide_eq_true (by first|(with_reducible assumption)|assumption)
   obtain⟨ad825,e825,hx825_0⟩:=Kd.at_int (Kd.R_reads' HO_7.out).2.2 ((rd_T38 l1 x8_1).f0) p825 q825
   cases e825
   replace p825:=eq_true p825
   replace q825:=eq_true q825
   have p18:0≤(((rd_T38 l1 x8_1).f0):Int):=of_decide_eq_true (by first|(with_reducible assumption)|assumption)
   have q18:(((rd_T38 l1 x8_1).f0):Int)<((x7_1.length:Int):Int):=of_decide_eq_true (by first|(with_reducible assumption)|assumption)
   obtain⟨go18,co18,eo18,gb18,gl18,cl18,HG18⟩:=Kd.R_form HO_7.out (by omega)
   (first|cases eo18|(injection eo18 with ea_ en_ ec_;(first|subst ea_|(injection ea_ with ea_;subst ea_));subst ec_;clear en_))
   have GB18:=Aside0.mk gb18
   have GG18:=Aside0.mk HG18
   clear gb18 gl18 HG18
   (first|simp only[add_plain] at hx825_0|skip)
   obtain⟨hx18_0,hf18_0⟩:=Kd.R_celln 0 HO_7.out (((rd_T38 l1 x8_1).f0):Int) p18 q18
   replace p18:=eq_true p18
   replace q18:=eq_true q18
   have HP21:=Kd.R_putn HO_7.out (((rd_T38 l1 x8_1).f0):Int) (wrap64 ((rd x7_1 ((rd_T38 l1 x8_1).f0))+a2))
   rw[← Ny826.out] at HP21
   have HQ21:=Aside0.mk HP21
   clear HP21
   refine start_ (n:=18) (S:=fun w'=>w'.cell? (ad818.add ((x8_1).toNat * 2))=some (.int .i64 ((rd_T38 l1 x8_1).f0))∧w'.cell? ⟨(ad818.add ((x8_1).toNat * 2)).block,(ad818.add ((x8_1).toNat * 2)).off+1,none⟩=some (.bool (false))∧w'.cell? (ad818.add ((x8_1).toNat * 2))=some (.int .i64 ((rd_T38 l1 x8_1).f0))∧w'.cell? ⟨(ad818.add ((x8_1).toNat * 2)).block,(ad818.add ((x8_1).toNat * 2)).off+1,none⟩=some (.bool (false))∧w'.cell? ⟨go18,(((rd_T38 l1 x8_1).f0)).toNat,none⟩=some (.int .i64 (rd x7_1 ((rd_T38 l1 x8_1).f0)))) (ds:=[17]) #[false,false,false,false,false,false,false,false,false,false,false,false,false,false,false,false,false,false] (by kernel_rfl) rfl rfl ⟨((HB.out.cell (World.block_lt_of_cell? w _ hw823_0)).trans hw823_0),((HB.out.cell (World.block_lt_of_cell? w _ hw823_1)).trans hw823_1),((HB.out.cell (World.block_lt_of_cell? w _ hw824_0)).trans hw824_0),((HB.out.cell (World.block_lt_of_cell? w _ hw824_1)).trans hw824_1),hx825_0⟩ (fun hHeld=> ?_);refine with_tabW ebbtideref07_Pushed.tab8 ebbtideref07_Pushed.bits8 (fun HT_ HW_=> ?_)
   generalize wr.drew=w19 at HO_7 HB GG18 HQ21 hf18_0 hx18_0 hx823_0 hx823_1 hx824_0 hx824_1 hx825_0 hHeld ⊢
   refine pure_ (i:=0) (N:=some 40) (v:= ?_) (a':= ?_) #[true,false,false,false,false,false,false,false,false,false,false,false,false,false,false,false,false,false] rfl rfl (any_of HT_.out (by kernel_rfl)) (fun _ _ _ h=>h) (Or.inl ⟨by rfl,?_⟩) ?_ ?_
   rotate_left
   ·intro w'
    go_simp
    with_reducible rfl
   rotate_left
   ·simp only[Act.put,List.setIfInBounds_toArray,List.set_cons_zero,List.set_cons_succ,i64_w,i32_w]
    rfl
   refine pure_ (i:=1) (N:=some 41) (v:= ?_) (a':= ?_) #[true,true,false,false,false,false,false,false,false,false,false,false,false,false,false,false,false,false] rfl rfl (any_of HT_.out (by kernel_rfl)) (fun _ _ _ h=>h) (Or.inl ⟨by rfl,?_⟩) ?_ ?_
   rotate_left
   ·intro w'
    go_simp
    with_reducible rfl
   rotate_left
   ·simp only[Act.put,List.setIfInBounds_toArray,List.set_cons_zero,List.set_cons_succ,i64_w,i32_w]
    rfl
   refine pure_ (i:=2) (N:=some 42) (v:= ?_) (a':= ?_) #[true,true,true,false,false,false,false,false,false,false,false,false,false,false,false,false,false,false] rfl rfl (any_of HT_.out (by kernel_rfl)) (fun _ _ _ h=>h) (Or.inl ⟨by rfl,?_⟩) ?_ ?_
   rotate_left
   ·intro w'
    go_simp
    with_reducible rfl
   rotate_left
   ·simp only[Act.put,List.setIfInBounds_toArray,List.set_cons_zero,List.set_cons_succ,i64_w,i32_w]
    rfl
   refine pure_ (i:=3) (N:=some 43) (v:= ?_) (a':= ?_) #[true,true,true,true,false,false,false,false,false,false,false,false,false,false,false,false,false,false] rfl rfl (any_of HT_.out (by kernel_rfl)) (fun _ _ _ h=>h) (Or.inl ⟨by rfl,?_⟩) ?_ ?_
   rotate_left
   ·intro w'
    go_simp
    with_reducible rfl
   rotate_left
   ·simp only[Act.put,List.setIfInBounds_toArray,List.set_cons_zero,List.set_cons_succ,i64_w,i32_w]
    rfl
   refine pure_ (i:=4) (N:=some 44) (v:= ?_) (a':= ?_) #[true,true,true,true,true,false,false,false,false,false,false,false,false,false,false,false,false,false] rfl rfl (any_of HT_.out (by kernel_rfl)) (fun _ _ _ h=>h) (Or.inl ⟨by rfl,?_⟩) ?_ ?_
   rotate_left
   ·intro w'
    go_simp
    with_reducible rfl
   rotate_left
   ·simp only[Act.put,List.setIfInBounds_toArray,List.set_cons_zero,List.set_cons_succ,i64_w,i32_w]
    rfl
   refine pure_ (i:=6) (N:=some 46) (v:= ?_) (a':= ?_) #[true,true,true,true,true,false,true,false,false,false,false,false,false,false,false,false,false,false] rfl rfl (any_of HT_.out (by kernel_rfl)) (fun _ _ _ h=>h) (Or.inl ⟨by rfl,?_⟩) ?_ ?_
   rotate_left
   ·intro w'
    go_simp
    with_reducible rfl
   rotate_left
   ·simp only[Act.put,List.setIfInBounds_toArray,List.set_cons_zero,List.set_cons_succ,i64_w,i32_w]
    rfl
   refine pure_ (i:=7) (N:=some 47) (v:= ?_) (a':= ?_) #[true,true,true,true,true,false,true,true,false,false,false,false,false,false,false,false,false,false] rfl rfl (any_of HT_.out (by kernel_rfl)) (fun _ _ _ h=>h) (Or.inl ⟨by rfl,?_⟩) ?_ ?_
   rotate_left
   ·intro w'
    go_simp
    with_reducible rfl
   rotate_left
   ·simp only[Act.put,List.setIfInBounds_toArray,List.set_cons_zero,List.set_cons_succ,i64_w,i32_w]
    rfl
   refine pure_ (i:=8) (N:=some 48) (v:= ?_) (a':= ?_) #[true,true,true,true,true,false,true,true,true,false,false,false,false,false,false,false,false,false] rfl rfl (any_of HT_.out (by kernel_rfl)) (fun _ _ _ h=>h) (Or.inl ⟨by rfl,?_⟩) ?_ ?_
   rotate_left
   ·intro w'
    go_simp
    with_reducible rfl
   rotate_left
   ·simp only[Act.put,List.setIfInBounds_toArray,List.set_cons_zero,List.set_cons_succ,i64_w,i32_w]
    rfl
   refine pure_ (i:=9) (N:=some 49) (v:= ?_) (a':= ?_) #[true,true,true,true,true,false,true,true,true,true,false,false,false,false,false,false,false,false] rfl rfl (any_of HT_.out (by kernel_rfl)) (fun _ _ _ h=>h) (Or.inl ⟨by rfl,?_⟩) ?_ ?_
   rotate_left
   ·intro w'
    go_simp
    with_reducible rfl
   rotate_left
   ·simp only[Act.put,List.setIfInBounds_toArray,List.set_cons_zero,List.set_cons_succ,i64_w,i32_w]
    rfl
   refine pure_ (i:=10) (N:=some 50) (v:= ?_) (a':= ?_) #[true,true,true,true,true,false,true,true,true,true,true,false,false,false,false,false,false,false] rfl rfl (any_of HT_.out (by kernel_rfl)) (fun _ _ _ h=>h) (Or.inl ⟨by rfl,?_⟩) ?_ ?_
   rotate_left
   ·intro w'
    go_simp
    with_reducible rfl
   rotate_left
   ·simp only[Act.put,List.setIfInBounds_toArray,List.set_cons_zero,List.set_cons_succ,i64_w,i32_w]
    rfl
   refine pure_ (i:=14) (N:=some 54) (v:= ?_) (a':= ?_) #[true,true,true,true,true,false,true,true,true,true,true,false,false,false,true,false,false,false] rfl rfl (any_of HT_.out (by kernel_rfl)) (fun _ _ _ h=>h) (Or.inl ⟨by rfl,?_⟩) ?_ ?_
   rotate_left
   ·intro w'
    go_simp
    with_reducible rfl
   rotate_left
   ·simp only[Act.put,List.setIfInBounds_toArray,List.set_cons_zero,List.set_cons_succ,i64_w,i32_w]
    rfl
   refine take_ (i:=5) (N:=some 45) (v:= ?_) (a':= ?_) #[true,true,true,true,true,true,true,true,true,true,true,false,false,false,true,false,false,false] rfl rfl (take_ofW HT_.out HW_.out (by kernel_rfl)) (fun _ _ _ h=>h) (Or.inl ⟨by rfl,?_⟩) hHeld ?_ ?_
   rotate_left
   ·rintro w' ⟨s0,s1,s2,s3,s4⟩
    go_simp
    with_reducible rfl
   rotate_left
   ·simp only[Act.put,List.setIfInBounds_toArray,List.set_cons_zero,List.set_cons_succ,i64_w,i32_w]
    rfl
   refine take_ (i:=11) (N:=some 51) (v:= ?_) (a':= ?_) #[true,true,true,true,true,true,true,true,true,true,true,true,false,false,true,false,false,false] rfl rfl (take_ofW HT_.out HW_.out (by kernel_rfl)) (fun _ _ _ h=>h) (Or.inl ⟨by rfl,?_⟩) hHeld ?_ ?_
   rotate_left
   ·rintro w' ⟨s0,s1,s2,s3,s4⟩
    go_simp
    with_reducible rfl
   rotate_left
   ·simp only[Act.put,List.setIfInBounds_toArray,List.set_cons_zero,List.set_cons_succ,i64_w,i32_w]
    rfl
   refine pure_ (i:=12) (N:=some 52) (v:= ?_) (a':= ?_) #[true,true,true,true,true,true,true,true,true,true,true,true,true,false,true,false,false,false] rfl rfl (any_of HT_.out (by kernel_rfl)) (fun _ _ _ h=>h) (Or.inl ⟨by rfl,?_⟩) ?_ ?_
   rotate_left
   ·intro w'
    go_simp
    with_reducible rfl
   rotate_left
   ·simp only[Act.put,List.setIfInBounds_toArray,List.set_cons_zero,List.set_cons_succ,i64_w,i32_w]
    rfl
   refine take_ (i:=13) (N:=some 53) (v:= ?_) (a':= ?_) #[true,true,true,true,true,true,true,true,true,true,true,true,true,true,true,false,false,false] rfl rfl (take_ofW HT_.out HW_.out (by kernel_rfl)) (fun _ _ _ h=>h) (Or.inl ⟨by rfl,?_⟩) hHeld ?_ ?_
   rotate_left
   ·rintro w' ⟨s0,s1,s2,s3,s4⟩
    go_simp
    with_reducible rfl
   rotate_left
   ·simp only[Act.put,List.setIfInBounds_toArray,List.set_cons_zero,List.set_cons_succ,i64_w,i32_w]
    rfl
   refine pure_ (i:=15) (N:=some 55) (v:= ?_) (a':= ?_) #[true,true,true,true,true,true,true,true,true,true,true,true,true,true,true,true,false,false] rfl rfl (any_of HT_.out (by kernel_rfl)) (fun _ _ _ h=>h) (Or.inl ⟨by rfl,?_⟩) ?_ ?_
   rotate_left
   ·intro w'
    go_simp
    with_reducible rfl
   rotate_left
   ·simp only[Act.put,List.setIfInBounds_toArray,List.set_cons_zero,List.set_cons_succ,i64_w,i32_w]
    rfl
   refine pure_ (i:=16) (N:=some 56) (v:= ?_) (a':= ?_) #[true,true,true,true,true,true,true,true,true,true,true,true,true,true,true,true,true,false] rfl rfl (any_of HT_.out (by kernel_rfl)) (fun _ _ _ h=>h) (Or.inl ⟨by rfl,?_⟩) ?_ ?_
   rotate_left
   ·intro w'
    go_simp
    with_reducible rfl
   rotate_left
   ·simp only[Act.put,List.setIfInBounds_toArray,List.set_cons_zero,List.set_cons_succ,i64_w,i32_w]
    rfl
   refine last_ (i:=17) (N:=none) #[true,true,true,true,true,true,true,true,true,true,true,true,true,true,true,true,true,true] rfl rfl (one_of HT_.out (by kernel_rfl)) (by decide) (fun K hK=> ?_)
   refine skip_ (w1:= ?_) (by rfl) rfl ?_ ?_
   rotate_left
   ·go_simp
    rfl
   refine hK.out _ _ ?_
   clear hK K
   refine done_ (done_of HT_.out (by kernel_rfl)) ?_
   try go_wp2
   go_roundg k1
   case measure=>have:=HK1.out;omega
   case rel=>exact⟨(y826),(wrap64 (x8_1+1)),(by first|rfl|(simp;done)|(simp[*];done)),H',⟨by have:=HK1.out;omega⟩,⟨by(with_reducible repeat(first|apply Kd.R_alloc|apply Kd.R_drewN|apply Kd.R_drew));exact HQ21.out⟩,⟨by repeat(first|(with_reducible first|exact HB.out|apply below_alloc|apply pw_below_drewN|apply below_drew1|refine below_set ?_ GB18.out)|exact HB.out)⟩⟩
end Go.Proofs.Ytkcpanpdipmmmaa.P
namespace Go.Proofs.Ytkcpanpdipmmmaa.P
open Go.RowKit Go.Proofs.YtkcpanpdipmmmaaW.PrintWords Go.Proofs.YtkcpanpdipmmmaaW.PrintLast Go.Proofs.YtkcpanpdipmmmaaW.PrintMore
attribute [local go_sem] max2_int min2_int max_two min_two max_three min_three max_four min_four
def ebbtideref09_Best.l0:Nat→Int→Int→List Int→Int→Bool→List (S74)→Option (List Int)
 |0,_,_,_,_,_,_=>none
 |k+1,x1,x2,x7,x929000,x929001,x929002=>(ebbtideref07_Steps.f k x929000 x929001 x929002 x7).bind fun t932=>((ebbtideref08_Way.f x929000 x929001 x929002 x1 x2 t932).bind fun bt935=>(if bt935.2=true then((ebbtideref08_Bottle.f k x929000 x929001 x929002 x7 bt935.1).bind fun t939=>((ebbtideref07_Pushed.f k x7 bt935.1 t939).bind fun t940=>(ebbtideref09_Best.l0 k x1 x2 t940 x929000 x929001 x929002))) else(some x7)))
def ebbtideref09_Best.f (k:Nat) (a0_0:Int) (a0_1:Bool) (l0_2:List (S74)) (a1:Int) (a2:Int):Option (List Int):=if 0≤(l0_2.length:Int) then(if ((l0_2.length:Int):Int).toNat≤35184372088832 then(ebbtideref09_Best.l0 k a1 a2 (List.replicate ((l0_2.length:Int):Int).toNat 0) a0_0 a0_1 l0_2) else(none)) else(none)
def ebbtideref09_Best.T2:Bool × List (List Nat × List Nat):=(true,[([],[]),([],[]),([],[]),([],[]),([],[]),([3,4],[3,4]),([0,1,2,5,5],[0,1,2,5]),([6],[6]),([7],[7]),([7],[7]),([8,6,0,1,2,3,4,5,6,7,8],[8]),([9,10,0,1,2,3,4,5,6,7,8,9,10],[9])])
def ebbtideref09_Best.B2:List Nat:=[0,0,0,0,0,24,63,127,255,255,511,2047]
theorem ebbtideref09_Best.tab2:rtab .any (opsOf Try.f87 2)=ebbtideref09_Best.T2:=by kernel_rfl
theorem ebbtideref09_Best.bits2:waitsOk ebbtideref09_Best.T2.2 ebbtideref09_Best.B2=true:=by kernel_rfl
set_option maxHeartbeats 8000000 in
set_option maxRecDepth 100000 in
theorem ebbtideref09_Best.calls (k:Nat) (a0_0:Int) (a0_1:Bool) (A0_2:Option Addr) (c0_2:Nat) (l0_2:List (S74)) (a1:Int) (a2:Int) (r:List Int) (w:World) (hr0_2:Kd.C k74 w A0_2 l0_2.length l0_2) (hc0_2:l0_2.length≤c0_2) (h:ebbtideref09_Best.f k a0_0 a0_1 l0_2 a1 a2=some r):
  Calls Try.prog 87 #[.agg #[.int .i64 a0_0, .bool a0_1, .slice A0_2 l0_2.length c0_2], .int .i64 a1, .int .i64 a2] w fun e w'=> ∃ v0_:Value,e= .returned (v0_)∧Kd.R (Kd.int .i64) 3 w' w.heap.size (fun _=>True) v0_ r∧Below w.heap.size w w':=by
 have hu24:=Try.underlying24
 have HR0_2:=Aside0.mk hr0_2
 have HC0_2:=Aside0.mk hc0_2
 clear hr0_2 hc0_2
 have HB:=Aside0.mk (Below.refl w.heap.size w)
 have H:(if 0≤(l0_2.length:Int) then(if ((l0_2.length:Int):Int).toNat≤35184372088832 then(ebbtideref09_Best.l0 k a1 a2 (List.replicate ((l0_2.length:Int):Int).toNat 0) a0_0 a0_1 l0_2) else(none)) else(none))=some r:=h
 clear h
 by_cases c4:0≤(l0_2.length:Int)
 rotate_left
 ·rw[if_neg c4] at H
  exact absurd H (by simp)
 rw[if_pos c4] at H
 have c4b0:=eq_true c4
 have c4b1:decide (0≤(l0_2.length:Int))=true:=decide_eq_true c4
 clear c4
 by_cases c5:((l0_2.length:Int):Int).toNat≤35184372088832
 rotate_left
 ·rw[if_neg c5] at H
  exact absurd H (by simp)
 rw[if_pos c5] at H
 have c5b0:=eq_true c5
 have c5b1:decide (((l0_2.length:Int):Int).toNat≤35184372088832)=true:=decide_eq_true c5
 clear c5
 obtain⟨y929,hy929⟩: ∃ y_:List Int,y_=(List.replicate ((l0_2.length:Int):Int).toNat 0):=⟨_,rfl⟩
 replace H:(ebbtideref09_Best.l0 k a1 a2 y929 a0_0 a0_1 l0_2)=some r:=by first|(rw[hy929];with_reducible exact H)|(have H2_:=(Option.bind_some _ _).symm.trans H;rw[hy929];with_reducible exact H2_)|(have H2_:=(Option.bind_some _ _).symm.trans H;with_reducible exact H2_)|with_reducible exact H|(rw[hy929];exact H)|exact H
 have Ny929:=Aside0.mk hy929
 clear hy929
 have H':=Aside0.mk H
 clear H
 go_enter Try.func87,Try.ntmps87
 go_wp2_with (first|((with_reducible refine gate_dst (N:=3) rfl ?_);refine box_event ?hg (N:=3) ?hd (cs:= #[.int .i64 a0_0, .bool a0_1, .slice A0_2 l0_2.length c0_2]) (t:=24) ?hr ?_;(case hd=>rfl);(case hg=>rfl);(case hr=>first|(go_simp;done)|(go_simp;rfl));intro gb928 hg w6 hbox hb;have n0_:=Aside0.mk (below_step (by repeat(first|(with_reducible first|exact HB.out|apply below_alloc|apply pw_below_drewN|apply below_drew1)|exact HB.out)) hb);have n1_:=Aside0.mk (hbox);have n2_:=Aside0.mk ((by rw[hg];exact(below_size (by repeat(first|(with_reducible first|exact HB.out|apply below_alloc|apply pw_below_drewN|apply below_drew1)|exact HB.out))):w.heap.size≤gb928));have n3_:=Aside0.mk ((by rw[hg];exact(below_size (by repeat(first|(with_reducible first|exact HB.out|apply below_alloc|apply pw_below_drewN|apply below_drew1)|exact HB.out))):w.heap.size≤gb928));clear HB;have HB:=n0_;have BK928:=n1_;have GW928:=n2_;have GE928:=n3_;clear n0_ n1_ n2_ n3_;clear hb hbox hg;have hcz7_0:w6.cell? ⟨gb928,0,none⟩=some (.int .i64 a0_0):=(blk_cell BK928.out 0).trans rfl;have hcz7_1:w6.cell? ⟨gb928,1,none⟩=some (.bool a0_1):=(blk_cell BK928.out 1).trans rfl;have hcz7_2:w6.cell? ⟨gb928,2,none⟩=some (.slice A0_2 l0_2.length c0_2):=(blk_cell BK928.out 2).trans rfl;have hfz7_0:=blk_frozen BK928.out 0;have hfz7_1:=blk_frozen BK928.out 1;have hfz7_2:=blk_frozen BK928.out 2)|((with_reducible refine gate_dst (N:=13) rfl ?_);refine Kd.R_make (Kd.int .i64) _ 3 rfl (N:=13) rfl 25 _ _ rfl (l0_2.length:Int) rfl rfl Try.underlying25 (.int .i64 0) 8 info3 rfl (by decide) (by omega) 0 (ok:=fun _=>True) (okp:=fun _=>True) rfl (fun _ hk=>hk) trivial (of_decide_eq_true (by first|(with_reducible assumption)|assumption)) (Nat.le_trans (Nat.mul_le_mul_right _ (of_decide_eq_true (by first|(with_reducible assumption)|assumption):(l0_2.length:Int).toNat≤35184372088832)) (by omega)) (Below.refl _ _) (Nat.le_refl _) ?_;intro v930 w8 ho9 hb hg_ hnew_;clear hg_ hnew_;(first|rw[← Ny929.out] at ho9|(simp only[Int.reduceToNat] at ho9;rw[← Ny929.out] at ho9));have n0_:=Aside0.mk (Kd.R_lower ho9 (below_size (by repeat(first|(with_reducible first|exact HB.out|apply below_alloc|apply pw_below_drewN|apply below_drew1|refine below_set ?_ GE928.out)|exact HB.out))));have n1_:=Aside0.mk (blk_below (g:=gb928) (o:= .cells #[.int .i64 a0_0, .bool a0_1, .slice A0_2 l0_2.length c0_2] 24 (0,0)) (by(with_reducible repeat(first|refine blk_drewN ?_ _|refine blk_drew ?_|refine blk_alloc ?_ _));exact BK928.out) hb);have n2_:=Aside0.mk (below_step (by repeat(first|(with_reducible first|exact HB.out|apply below_alloc|apply pw_below_drewN|apply below_drew1|refine below_set ?_ GE928.out)|exact HB.out)) hb);clear BK928;clear HB;have HO931:=n0_;have BK928:=n1_;have HB:=n2_;clear n0_ n1_ n2_;clear hb ho9))
 go_loopg [7] k (fun kq v7 w'=> ∃ (x7_1:List Int),Aside0 (ebbtideref09_Best.l0 kq a1 a2 x7_1 a0_0 a0_1 l0_2=some r)∧Aside0 (kq≤k)∧Aside0 (Kd.R (Kd.int .i64) 3 w' w.heap.size (fun _=>True) v7 x7_1)∧Aside0 (w'.heap[gb928]? =some (.cells #[.int .i64 a0_0, .bool a0_1,(.slice A0_2 l0_2.length c0_2)] 24 (0,0)))∧Aside0 (Below w.heap.size w w'))
 case atStart=>exact⟨(y929),H',⟨Nat.le_refl _⟩,⟨by(with_reducible repeat(first|apply Kd.R_alloc|apply Kd.R_drewN|apply Kd.R_drew));exact HO931.out⟩,⟨by(with_reducible repeat(first|refine blk_drewN ?_ _|refine blk_drew ?_|refine blk_alloc ?_ _));exact BK928.out⟩,⟨by repeat(first|(with_reducible first|exact HB.out|apply below_alloc|apply pw_below_drewN|apply below_drew1|refine below_set ?_ GE928.out)|exact HB.out)⟩⟩
 case round=>
  clear H'
  try clear p2
  try clear c4
  try clear c4b0
  try clear c4b1
  try clear c5
  try clear c5b0
  try clear c5b1
  try clear c8
  try clear hcz7_0
  try clear hcz7_1
  try clear hcz7_2
  try clear hfz7_0
  try clear hfz7_1
  try clear hfz7_2
  obtain⟨x7_1,HA,HK1,HO_7,BK928,HB⟩:=hrel
  cases gk with
  |zero=>exact absurd HA.out (by simp[ebbtideref09_Best.l0])
  |succ k1=>
   have H:=HA.out
   clear HA
   simp only[ebbtideref09_Best.l0] at H
   replace H:=Option.bind_eq_some_iff.mp H
   obtain⟨t932,A100,H⟩:=H
   replace H:((ebbtideref08_Way.f a0_0 a0_1 l0_2 a1 a2 t932).bind fun bt935=>(if bt935.2=true then((ebbtideref08_Bottle.f k1 a0_0 a0_1 l0_2 x7_1 bt935.1).bind fun t939=>((ebbtideref07_Pushed.f k1 x7_1 bt935.1 t939).bind fun t940=>(ebbtideref09_Best.l0 k1 a1 a2 t940 a0_0 a0_1 l0_2))) else(some x7_1)))=some r:=H
   have A10:=Aside0.mk A100
   clear A100
   replace H:=Option.bind_eq_some_iff.mp H
   obtain⟨⟨t935,t938⟩,A110,H⟩:=H
   replace H:(if t938=true then((ebbtideref08_Bottle.f k1 a0_0 a0_1 l0_2 x7_1 t935).bind fun t939=>((ebbtideref07_Pushed.f k1 x7_1 t935 t939).bind fun t940=>(ebbtideref09_Best.l0 k1 a1 a2 t940 a0_0 a0_1 l0_2))) else(some x7_1))=some r:=H
   have A11:=Aside0.mk A110
   clear A110
   by_cases c12:t938=true
   rotate_left
   ·replace c12:=Bool.eq_false_iff.mpr c12
    subst c12
    have H1:(some x7_1)=some r:=by rw[if_neg (show ¬ (false=true) by decide)] at H;exact H
    clear H
    have H:=H1
    clear H1
    obtain rfl:=Option.some.inj H
    try go_wp2
    have n0_:=Aside0.mk (Kd.R_drew HO_7.out)
    have n1_:=Aside0.mk (blk_drew BK928.out)
    have n2_:=Aside0.mk (below_drew1 HB.out)
    clear HO_7
    clear BK928
    clear HB
    have HO_7:=n0_
    have BK928:=n1_
    have HB:=n2_
    clear n0_ n1_ n2_
    obtain⟨Ao25,co25,eo25⟩:=Kd.R_slice HO_7.out
    (first|subst eo25|(injection eo25 with f1_ f2_ f3_;have f4_:=f1_.symm;have f5_:=f3_.symm;clear f1_ f2_ f3_;subst f4_;subst f5_))
    refine start_ (n:=12) (S:=fun w'=>w'.cell? ⟨gb928,0,none⟩=some (.int .i64 a0_0)∧w'.cell? ⟨gb928,1,none⟩=some (.bool a0_1)∧w'.cell? ⟨gb928,2,none⟩=some (.slice A0_2 l0_2.length c0_2)) (ds:=[]) #[false,false,false,false,false,false,false,false,false,false,false,false] (by kernel_rfl) rfl rfl ⟨(blk_cell BK928.out 0).trans rfl,(blk_cell BK928.out 1).trans rfl,(blk_cell BK928.out 2).trans rfl⟩ (fun hHeld=> ?_);refine with_tabW ebbtideref09_Best.tab2 ebbtideref09_Best.bits2 (fun HT_ HW_=> ?_)
    generalize wr.drew=w24 at HO_7 BK928 HB hHeld ⊢
    refine pure_ (i:=1) (N:=some 16) (v:= ?_) (a':= ?_) #[false,true,false,false,false,false,false,false,false,false,false,false] rfl rfl (any_of HT_.out (by kernel_rfl)) (fun _ _ _ h=>h) (Or.inl ⟨by rfl,?_⟩) ?_ ?_
    rotate_left
    ·intro w'
     go_simp
     with_reducible rfl
    rotate_left
    ·simp only[Act.put,List.setIfInBounds_toArray,List.set_cons_zero,List.set_cons_succ,i64_w,i32_w]
     rfl
    refine pure_ (i:=2) (N:=some 17) (v:= ?_) (a':= ?_) #[false,true,true,false,false,false,false,false,false,false,false,false] rfl rfl (any_of HT_.out (by kernel_rfl)) (fun _ _ _ h=>h) (Or.inl ⟨by rfl,?_⟩) ?_ ?_
    rotate_left
    ·intro w'
     go_simp
     with_reducible rfl
    rotate_left
    ·simp only[Act.put,List.setIfInBounds_toArray,List.set_cons_zero,List.set_cons_succ,i64_w,i32_w]
     rfl
    refine pure_ (i:=4) (N:=some 19) (v:= ?_) (a':= ?_) #[false,true,true,false,true,false,false,false,false,false,false,false] rfl rfl (any_of HT_.out (by kernel_rfl)) (fun _ _ _ h=>h) (Or.inl ⟨by rfl,?_⟩) ?_ ?_
    rotate_left
    ·intro w'
     go_simp
     with_reducible rfl
    rotate_left
    ·simp only[Act.put,List.setIfInBounds_toArray,List.set_cons_zero,List.set_cons_succ,i64_w,i32_w]
     rfl
    refine take_ (i:=0) (N:=some 15) (v:= ?_) (a':= ?_) #[true,true,true,false,true,false,false,false,false,false,false,false] rfl rfl (take_ofW HT_.out HW_.out (by kernel_rfl)) (fun _ _ _ h=>h) (Or.inl ⟨by rfl,?_⟩) hHeld ?_ ?_
    rotate_left
    ·rintro w' ⟨s0,s1,s2⟩
     go_simp
     with_reducible rfl
    rotate_left
    ·simp only[Act.put,List.setIfInBounds_toArray,List.set_cons_zero,List.set_cons_succ,i64_w,i32_w]
     rfl
    refine take_ (i:=3) (N:=some 18) (v:= ?_) (a':= ?_) #[true,true,true,true,true,false,false,false,false,false,false,false] rfl rfl (take_ofW HT_.out HW_.out (by kernel_rfl)) (fun _ _ _ h=>h) (Or.inl ⟨by rfl,?_⟩) hHeld ?_ ?_
    rotate_left
    ·rintro w' ⟨s0,s1,s2⟩
     go_simp
     with_reducible rfl
    rotate_left
    ·simp only[Act.put,List.setIfInBounds_toArray,List.set_cons_zero,List.set_cons_succ,i64_w,i32_w]
     rfl
    refine one_ (i:=5) (N:=some 20) #[true,true,true,true,true,true,false,false,false,false,false,false] rfl rfl (one_of HT_.out (by kernel_rfl)) (by decide) (fun K hK=> ?_)
    refine goes_ Try.func43 (by kernel_rfl) rfl #[.agg #[.int .i64 a0_0, .bool a0_1, .slice A0_2 l0_2.length c0_2], .slice Ao25 x7_1.length co25] (by rfl) rfl rfl (by(try simp only[List.map_toArray,List.map_cons,List.map_nil]);first|done|rfl|(simp only[List.length_drop,List.length_take];rfl)) ?_
    with_reducible refine(ebbtideref07_Steps.calls k1 a0_0 a0_1 _ _ l0_2 _ _ x7_1 t932 _ ?side1 ?side2 ?side3 ?side4 A10.out).mono ?_
    (case side1=>repeat(first|exact(Kd.C_below HR0_2.out HB.out)|(with_reducible refine Kd.C_alloc ?_ _)|(with_reducible refine Kd.C_drewN ?_ _)|(with_reducible refine Kd.C_drew ?_)))
    (case side2=>exact HC0_2.out)
    (case side3=>repeat(first|exact(Kd.R_reads' HO_7.out).2.2|(with_reducible refine Kd.C_alloc ?_ _)|(with_reducible refine Kd.C_drewN ?_ _)|(with_reducible refine Kd.C_drew ?_)))
    (case side4=>exact(Kd.R_reads' HO_7.out).2.1)
    rintro e w26 ⟨v933,rfl,ho0,hb⟩
    refine⟨_,rfl,?_⟩
    have n0_:=Aside0.mk (Kd.R_below (by(with_reducible repeat(first|apply Kd.R_alloc|apply Kd.R_drewN|apply Kd.R_drew));exact HO_7.out) hb)
    have n1_:=Aside0.mk (Kd.R_lower ho0 (below_size (by repeat(first|(with_reducible first|exact HB.out|apply below_alloc|apply pw_below_drewN|apply below_drew1|refine below_set ?_ GE928.out)|exact HB.out))))
    have n2_:=Aside0.mk (blk_below (g:=gb928) (o:= .cells #[.int .i64 a0_0, .bool a0_1, .slice A0_2 l0_2.length c0_2] 24 (0,0)) (by(with_reducible repeat(first|refine blk_drewN ?_ _|refine blk_drew ?_|refine blk_alloc ?_ _));exact BK928.out) hb)
    have n3_:=Aside0.mk (below_step (by repeat(first|(with_reducible first|exact HB.out|apply below_alloc|apply pw_below_drewN|apply below_drew1|refine below_set ?_ GE928.out)|exact HB.out)) hb)
    clear HO_7
    clear BK928
    clear HB
    have HO_7:=n0_
    have HO934:=n1_
    have BK928:=n2_
    have HB:=n3_
    clear n0_ n1_ n2_ n3_
    (try clear hb)
    (try clear hb2)
    (try clear hk)
    (try clear hi)
    (try clear ho0)
    obtain⟨Ao27,co27,eo27⟩:=Kd.R_slice HO934.out
    (first|subst eo27|(injection eo27 with f1_ f2_ f3_;have f4_:=f1_.symm;have f5_:=f3_.symm;clear f1_ f2_ f3_;subst f4_;subst f5_))
    refine hK.out _ _ ⟨(blk_cell BK928.out 0).trans rfl,(blk_cell BK928.out 1).trans rfl,(blk_cell BK928.out 2).trans rfl⟩ (fun hHeld=> ?_)
    clear hK K
    refine norm_ (a':= ?_) ?_ ?_
    rotate_left
    ·show Act.put _ (some 20) _=_
     simp only[Act.put,List.setIfInBounds_toArray,List.set_cons_zero,List.set_cons_succ,i64_w,i32_w]
     rfl
    refine one_ (i:=6) (N:=some 21) #[true,true,true,true,true,true,true,false,false,false,false,false] rfl rfl (one_of HT_.out (by kernel_rfl)) (by decide) (fun K hK=> ?_)
    refine goes_ Try.func109 (by kernel_rfl) rfl #[.agg #[.int .i64 a0_0, .bool a0_1, .slice A0_2 l0_2.length c0_2], .int .i64 a1, .int .i64 a2, .slice Ao27 t932.length co27] (by rfl) rfl rfl (by(try simp only[List.map_toArray,List.map_cons,List.map_nil]);first|done|rfl|(simp only[List.length_drop,List.length_take];rfl)) ?_
    with_reducible refine(ebbtideref08_Way.calls a0_0 a0_1 _ _ l0_2 a1 a2 _ _ t932 t935 false _ ?side1 ?side2 ?side3 ?side4 A11.out).mono ?_
    (case side1=>repeat(first|exact(Kd.C_below HR0_2.out HB.out)|(with_reducible refine Kd.C_alloc ?_ _)|(with_reducible refine Kd.C_drewN ?_ _)|(with_reducible refine Kd.C_drew ?_)))
    (case side2=>exact HC0_2.out)
    (case side3=>repeat(first|exact(Kd.R_reads' HO934.out).2.2|(with_reducible refine Kd.C_alloc ?_ _)|(with_reducible refine Kd.C_drewN ?_ _)|(with_reducible refine Kd.C_drew ?_)))
    (case side4=>exact(Kd.R_reads' HO934.out).2.1)
    rintro e w28 ⟨v936,rfl,ho0,hb⟩
    refine⟨_,rfl,?_⟩
    have n0_:=Aside0.mk (Kd.R_below (by(with_reducible repeat(first|apply Kd.R_alloc|apply Kd.R_drewN|apply Kd.R_drew));exact HO_7.out) hb)
    have n1_:=Aside0.mk (Kd.R_elder' (by(with_reducible repeat(first|apply Kd.R_alloc|apply Kd.R_drewN|apply Kd.R_drew));exact HO934.out) (Kd.R_base ho0) hb)
    have n2_:=Aside0.mk (Kd.R_lower (Kd.R_new' ho0 (Kd.R_lt (by(with_reducible repeat(first|apply Kd.R_alloc|apply Kd.R_drewN|apply Kd.R_drew));exact HO934.out))) (below_size (by repeat(first|(with_reducible first|exact HB.out|apply below_alloc|apply pw_below_drewN|apply below_drew1|refine below_set ?_ GE928.out)|exact HB.out))))
    have n3_:=Aside0.mk (blk_below (g:=gb928) (o:= .cells #[.int .i64 a0_0, .bool a0_1, .slice A0_2 l0_2.length c0_2] 24 (0,0)) (by(with_reducible repeat(first|refine blk_drewN ?_ _|refine blk_drew ?_|refine blk_alloc ?_ _));exact BK928.out) hb)
    have n4_:=Aside0.mk (below_step (by repeat(first|(with_reducible first|exact HB.out|apply below_alloc|apply pw_below_drewN|apply below_drew1|refine below_set ?_ GE928.out)|exact HB.out)) hb)
    clear HO_7
    clear HO934
    clear BK928
    clear HB
    have HO_7:=n0_
    have HO934:=n1_
    have HO937:=n2_
    have BK928:=n3_
    have HB:=n4_
    clear n0_ n1_ n2_ n3_ n4_
    (try clear hb)
    (try clear hb2)
    (try clear hk)
    (try clear hi)
    (try clear ho0)
    refine hK.out _ _ ⟨(blk_cell BK928.out 0).trans rfl,(blk_cell BK928.out 1).trans rfl,(blk_cell BK928.out 2).trans rfl⟩ (fun hHeld=> ?_)
    clear hK K
    refine norm_ (a':= ?_) ?_ ?_
    rotate_left
    ·show Act.put _ (some 21) _=_
     simp only[Act.put,List.setIfInBounds_toArray,List.set_cons_zero,List.set_cons_succ,i64_w,i32_w]
     rfl
    refine pure_ (i:=7) (N:=some 14) (v:= ?_) (a':= ?_) #[true,true,true,true,true,true,true,true,false,false,false,false] rfl rfl (any_of HT_.out (by kernel_rfl)) (fun _ _ _ h=>h) (Or.inl ⟨by rfl,?_⟩) ?_ ?_
    rotate_left
    ·intro w'
     go_simp
     with_reducible rfl
    rotate_left
    ·simp only[Act.put,List.setIfInBounds_toArray,List.set_cons_zero,List.set_cons_succ,i64_w,i32_w]
     rfl
    refine pure_ (i:=8) (N:=some 22) (v:= ?_) (a':= ?_) #[true,true,true,true,true,true,true,true,true,false,false,false] rfl rfl (any_of HT_.out (by kernel_rfl)) (fun _ _ _ h=>h) (Or.inl ⟨by rfl,?_⟩) ?_ ?_
    rotate_left
    ·intro w'
     go_simp
     with_reducible rfl
    rotate_left
    ·simp only[Act.put,List.setIfInBounds_toArray,List.set_cons_zero,List.set_cons_succ,i64_w,i32_w]
     rfl
    refine pure_ (i:=9) (N:=some 23) (v:= ?_) (a':= ?_) #[true,true,true,true,true,true,true,true,true,true,false,false] rfl rfl (any_of HT_.out (by kernel_rfl)) (fun _ _ _ h=>h) (Or.inl ⟨by rfl,?_⟩) ?_ ?_
    rotate_left
    ·intro w'
     go_simp
     with_reducible rfl
    rotate_left
    ·simp only[Act.put,List.setIfInBounds_toArray,List.set_cons_zero,List.set_cons_succ,i64_w,i32_w]
     rfl
    refine pure_ (i:=10) (N:=some 8) (v:= ?_) (a':= ?_) #[true,true,true,true,true,true,true,true,true,true,true,false] rfl rfl (any_of HT_.out (by kernel_rfl)) (fun _ _ _ h=>h) (Or.inl ⟨by rfl,?_⟩) ?_ ?_
    rotate_left
    ·intro w'
     go_simp
     with_reducible rfl
    rotate_left
    ·simp only[Act.put,List.setIfInBounds_toArray,List.set_cons_zero,List.set_cons_succ,i64_w,i32_w]
     rfl
    refine pure_ (i:=11) (N:=some 9) (v:= ?_) (a':= ?_) #[true,true,true,true,true,true,true,true,true,true,true,true] rfl rfl (any_of HT_.out (by kernel_rfl)) (fun _ _ _ h=>h) (Or.inl ⟨by rfl,?_⟩) ?_ ?_
    rotate_left
    ·intro w'
     go_simp
     with_reducible rfl
    rotate_left
    ·simp only[Act.put,List.setIfInBounds_toArray,List.set_cons_zero,List.set_cons_succ,i64_w,i32_w]
     rfl
    refine done_ (done_of HT_.out (by kernel_rfl)) ?_
    try go_wp2
    go_ret
    exact⟨_,by first|rfl|(simp[errW_none,errW_some]<;>rfl)|(simp[*,errW_none,errW_some]<;>rfl),by(with_reducible repeat(first|apply Kd.R_alloc|apply Kd.R_drewN|apply Kd.R_drew));exact HO_7.out,by repeat(first|(with_reducible first|exact HB.out|apply below_alloc|apply pw_below_drewN|apply below_drew1|refine below_set ?_ GE928.out)|exact HB.out)⟩
   subst c12
   have H1:((ebbtideref08_Bottle.f k1 a0_0 a0_1 l0_2 x7_1 t935).bind fun t939=>((ebbtideref07_Pushed.f k1 x7_1 t935 t939).bind fun t940=>(ebbtideref09_Best.l0 k1 a1 a2 t940 a0_0 a0_1 l0_2)))=some r:=by first|(rw[if_pos rfl] at H;exact H)|(rw[if_pos trivial] at H;exact H)
   clear H
   have H:=H1
   clear H1
   replace H:=Option.bind_eq_some_iff.mp H
   obtain⟨t939,A130,H⟩:=H
   replace H:((ebbtideref07_Pushed.f k1 x7_1 t935 t939).bind fun t940=>(ebbtideref09_Best.l0 k1 a1 a2 t940 a0_0 a0_1 l0_2))=some r:=H
   have A13:=Aside0.mk A130
   clear A130
   replace H:=Option.bind_eq_some_iff.mp H
   obtain⟨t940,A140,H⟩:=H
   replace H:(ebbtideref09_Best.l0 k1 a1 a2 t940 a0_0 a0_1 l0_2)=some r:=H
   have A14:=Aside0.mk A140
   clear A140
   have H':=Aside0.mk H
   clear H
   try go_wp2
   have n0_:=Aside0.mk (Kd.R_drew HO_7.out)
   have n1_:=Aside0.mk (blk_drew BK928.out)
   have n2_:=Aside0.mk (below_drew1 HB.out)
   clear HO_7
   clear BK928
   clear HB
   have HO_7:=n0_
   have BK928:=n1_
   have HB:=n2_
   clear n0_ n1_ n2_
   obtain⟨Ao16,co16,eo16⟩:=Kd.R_slice HO_7.out
   (first|subst eo16|(injection eo16 with f1_ f2_ f3_;have f4_:=f1_.symm;have f5_:=f3_.symm;clear f1_ f2_ f3_;subst f4_;subst f5_))
   refine start_ (n:=12) (S:=fun w'=>w'.cell? ⟨gb928,0,none⟩=some (.int .i64 a0_0)∧w'.cell? ⟨gb928,1,none⟩=some (.bool a0_1)∧w'.cell? ⟨gb928,2,none⟩=some (.slice A0_2 l0_2.length c0_2)) (ds:=[]) #[false,false,false,false,false,false,false,false,false,false,false,false] (by kernel_rfl) rfl rfl ⟨(blk_cell BK928.out 0).trans rfl,(blk_cell BK928.out 1).trans rfl,(blk_cell BK928.out 2).trans rfl⟩ (fun hHeld=> ?_);refine with_tabW ebbtideref09_Best.tab2 ebbtideref09_Best.bits2 (fun HT_ HW_=> ?_)
   generalize wr.drew=w15 at HO_7 BK928 HB hHeld ⊢
   refine pure_ (i:=1) (N:=some 16) (v:= ?_) (a':= ?_) #[false,true,false,false,false,false,false,false,false,false,false,false] rfl rfl (any_of HT_.out (by kernel_rfl)) (fun _ _ _ h=>h) (Or.inl ⟨by rfl,?_⟩) ?_ ?_
   rotate_left
   ·intro w'
    go_simp
    with_reducible rfl
   rotate_left
   ·simp only[Act.put,List.setIfInBounds_toArray,List.set_cons_zero,List.set_cons_succ,i64_w,i32_w]
    rfl
   refine pure_ (i:=2) (N:=some 17) (v:= ?_) (a':= ?_) #[false,true,true,false,false,false,false,false,false,false,false,false] rfl rfl (any_of HT_.out (by kernel_rfl)) (fun _ _ _ h=>h) (Or.inl ⟨by rfl,?_⟩) ?_ ?_
   rotate_left
   ·intro w'
    go_simp
    with_reducible rfl
   rotate_left
   ·simp only[Act.put,List.setIfInBounds_toArray,List.set_cons_zero,List.set_cons_succ,i64_w,i32_w]
    rfl
   refine pure_ (i:=4) (N:=some 19) (v:= ?_) (a':= ?_) #[false,true,true,false,true,false,false,false,false,false,false,false] rfl rfl (any_of HT_.out (by kernel_rfl)) (fun _ _ _ h=>h) (Or.inl ⟨by rfl,?_⟩) ?_ ?_
   rotate_left
   ·intro w'
    go_simp
    with_reducible rfl
   rotate_left
   ·simp only[Act.put,List.setIfInBounds_toArray,List.set_cons_zero,List.set_cons_succ,i64_w,i32_w]
    rfl
   refine take_ (i:=0) (N:=some 15) (v:= ?_) (a':= ?_) #[true,true,true,false,true,false,false,false,false,false,false,false] rfl rfl (take_ofW HT_.out HW_.out (by kernel_rfl)) (fun _ _ _ h=>h) (Or.inl ⟨by rfl,?_⟩) hHeld ?_ ?_
   rotate_left
   ·rintro w' ⟨s0,s1,s2⟩
    go_simp
    with_reducible rfl
   rotate_left
   ·simp only[Act.put,List.setIfInBounds_toArray,List.set_cons_zero,List.set_cons_succ,i64_w,i32_w]
    rfl
   refine take_ (i:=3) (N:=some 18) (v:= ?_) (a':= ?_) #[true,true,true,true,true,false,false,false,false,false,false,false] rfl rfl (take_ofW HT_.out HW_.out (by kernel_rfl)) (fun _ _ _ h=>h) (Or.inl ⟨by rfl,?_⟩) hHeld ?_ ?_
   rotate_left
   ·rintro w' ⟨s0,s1,s2⟩
    go_simp
    with_reducible rfl
   rotate_left
   ·simp only[Act.put,List.setIfInBounds_toArray,List.set_cons_zero,List.set_cons_succ,i64_w,i32_w]
    rfl
   refine one_ (i:=5) (N:=some 20) #[true,true,true,true,true,true,false,false,false,false,false,false] rfl rfl (one_of HT_.out (by kernel_rfl)) (by decide) (fun K hK=> ?_)
   refine goes_ Try.func43 (by kernel_rfl) rfl #[.agg #[.int .i64 a0_0, .bool a0_1, .slice A0_2 l0_2.length c0_2], .slice Ao16 x7_1.length co16] (by rfl) rfl rfl (by(try simp only[List.map_toArray,List.map_cons,List.map_nil]);first|done|rfl|(simp only[List.length_drop,List.length_take];rfl)) ?_
   with_reducible refine(ebbtideref07_Steps.calls k1 a0_0 a0_1 _ _ l0_2 _ _ x7_1 t932 _ ?side1 ?side2 ?side3 ?side4 A10.out).mono ?_
   (case side1=>repeat(first|exact(Kd.C_below HR0_2.out HB.out)|(with_reducible refine Kd.C_alloc ?_ _)|(with_reducible refine Kd.C_drewN ?_ _)|(with_reducible refine Kd.C_drew ?_)))
   (case side2=>exact HC0_2.out)
   (case side3=>repeat(first|exact(Kd.R_reads' HO_7.out).2.2|(with_reducible refine Kd.C_alloc ?_ _)|(with_reducible refine Kd.C_drewN ?_ _)|(with_reducible refine Kd.C_drew ?_)))
   (case side4=>exact(Kd.R_reads' HO_7.out).2.1)
   rintro e w17 ⟨v933,rfl,ho0,hb⟩
   refine⟨_,rfl,?_⟩
   have n0_:=Aside0.mk (Kd.R_below (by(with_reducible repeat(first|apply Kd.R_alloc|apply Kd.R_drewN|apply Kd.R_drew));exact HO_7.out) hb)
   have n1_:=Aside0.mk (Kd.R_lower ho0 (below_size (by repeat(first|(with_reducible first|exact HB.out|apply below_alloc|apply pw_below_drewN|apply below_drew1|refine below_set ?_ GE928.out)|exact HB.out))))
   have n2_:=Aside0.mk (blk_below (g:=gb928) (o:= .cells #[.int .i64 a0_0, .bool a0_1, .slice A0_2 l0_2.length c0_2] 24 (0,0)) (by(with_reducible repeat(first|refine blk_drewN ?_ _|refine blk_drew ?_|refine blk_alloc ?_ _));exact BK928.out) hb)
   have n3_:=Aside0.mk (below_step (by repeat(first|(with_reducible first|exact HB.out|apply below_alloc|apply pw_below_drewN|apply below_drew1|refine below_set ?_ GE928.out)|exact HB.out)) hb)
   clear HO_7
   clear BK928
   clear HB
   have HO_7:=n0_
   have HO934:=n1_
   have BK928:=n2_
   have HB:=n3_
   clear n0_ n1_ n2_ n3_
   (try clear hb)
   (try clear hb2)
   (try clear hk)
   (try clear hi)
   (try clear ho0)
   obtain⟨Ao18,co18,eo18⟩:=Kd.R_slice HO934.out
   (first|subst eo18|(injection eo18 with f1_ f2_ f3_;have f4_:=f1_.symm;have f5_:=f3_.symm;clear f1_ f2_ f3_;subst f4_;subst f5_))
   refine hK.out _ _ ⟨(blk_cell BK928.out 0).trans rfl,(blk_cell BK928.out 1).trans rfl,(blk_cell BK928.out 2).trans rfl⟩ (fun hHeld=> ?_)
   clear hK K
   refine norm_ (a':= ?_) ?_ ?_
   rotate_left
   ·show Act.put _ (some 20) _=_
    simp only[Act.put,List.setIfInBounds_toArray,List.set_cons_zero,List.set_cons_succ,i64_w,i32_w]
    rfl
   refine one_ (i:=6) (N:=some 21) #[true,true,true,true,true,true,true,false,false,false,false,false] rfl rfl (one_of HT_.out (by kernel_rfl)) (by decide) (fun K hK=> ?_)
   refine goes_ Try.func109 (by kernel_rfl) rfl #[.agg #[.int .i64 a0_0, .bool a0_1, .slice A0_2 l0_2.length c0_2], .int .i64 a1, .int .i64 a2, .slice Ao18 t932.length co18] (by rfl) rfl rfl (by(try simp only[List.map_toArray,List.map_cons,List.map_nil]);first|done|rfl|(simp only[List.length_drop,List.length_take];rfl)) ?_
   with_reducible refine(ebbtideref08_Way.calls a0_0 a0_1 _ _ l0_2 a1 a2 _ _ t932 t935 true _ ?side1 ?side2 ?side3 ?side4 A11.out).mono ?_
   (case side1=>repeat(first|exact(Kd.C_below HR0_2.out HB.out)|(with_reducible refine Kd.C_alloc ?_ _)|(with_reducible refine Kd.C_drewN ?_ _)|(with_reducible refine Kd.C_drew ?_)))
   (case side2=>exact HC0_2.out)
   (case side3=>repeat(first|exact(Kd.R_reads' HO934.out).2.2|(with_reducible refine Kd.C_alloc ?_ _)|(with_reducible refine Kd.C_drewN ?_ _)|(with_reducible refine Kd.C_drew ?_)))
   (case side4=>exact(Kd.R_reads' HO934.out).2.1)
   rintro e w19 ⟨v936,rfl,ho0,hb⟩
   refine⟨_,rfl,?_⟩
   have n0_:=Aside0.mk (Kd.R_below (by(with_reducible repeat(first|apply Kd.R_alloc|apply Kd.R_drewN|apply Kd.R_drew));exact HO_7.out) hb)
   have n1_:=Aside0.mk (Kd.R_elder' (by(with_reducible repeat(first|apply Kd.R_alloc|apply Kd.R_drewN|apply Kd.R_drew));exact HO934.out) (Kd.R_base ho0) hb)
   have n2_:=Aside0.mk (Kd.R_lower (Kd.R_new' ho0 (Kd.R_lt (by(with_reducible repeat(first|apply Kd.R_alloc|apply Kd.R_drewN|apply Kd.R_drew));exact HO934.out))) (below_size (by repeat(first|(with_reducible first|exact HB.out|apply below_alloc|apply pw_below_drewN|apply below_drew1|refine below_set ?_ GE928.out)|exact HB.out))))
   have n3_:=Aside0.mk (blk_below (g:=gb928) (o:= .cells #[.int .i64 a0_0, .bool a0_1, .slice A0_2 l0_2.length c0_2] 24 (0,0)) (by(with_reducible repeat(first|refine blk_drewN ?_ _|refine blk_drew ?_|refine blk_alloc ?_ _));exact BK928.out) hb)
   have n4_:=Aside0.mk (below_step (by repeat(first|(with_reducible first|exact HB.out|apply below_alloc|apply pw_below_drewN|apply below_drew1|refine below_set ?_ GE928.out)|exact HB.out)) hb)
   clear HO_7
   clear HO934
   clear BK928
   clear HB
   have HO_7:=n0_
   have HO934:=n1_
   have HO937:=n2_
   have BK928:=n3_
   have HB:=n4_
   clear n0_ n1_ n2_ n3_ n4_
   (try clear hb)
   (try clear hb2)
   (try clear hk)
   (try clear hi)
   (try clear ho0)
   refine hK.out _ _ ⟨(blk_cell BK928.out 0).trans rfl,(blk_cell BK928.out 1).trans rfl,(blk_cell BK928.out 2).trans rfl⟩ (fun hHeld=> ?_)
   clear hK K
   refine norm_ (a':= ?_) ?_ ?_
   rotate_left
   ·show Act.put _ (some 21) _=_
    simp only[Act.put,List.setIfInBounds_toArray,List.set_cons_zero,List.set_cons_succ,i64_w,i32_w]
    rfl
   refine pure_ (i:=7) (N:=some 14) (v:= ?_) (a':= ?_) #[true,true,true,true,true,true,true,true,false,false,false,false] rfl rfl (any_of HT_.out (by kernel_rfl)) (fun _ _ _ h=>h) (Or.inl ⟨by rfl,?_⟩) ?_ ?_
   rotate_left
   ·intro w'
    go_simp
    with_reducible rfl
   rotate_left
   ·simp only[Act.put,List.setIfInBounds_toArray,List.set_cons_zero,List.set_cons_succ,i64_w,i32_w]
    rfl
   refine pure_ (i:=8) (N:=some 22) (v:= ?_) (a':= ?_) #[true,true,true,true,true,true,true,true,true,false,false,false] rfl rfl (any_of HT_.out (by kernel_rfl)) (fun _ _ _ h=>h) (Or.inl ⟨by rfl,?_⟩) ?_ ?_
   rotate_left
   ·intro w'
    go_simp
    with_reducible rfl
   rotate_left
   ·simp only[Act.put,List.setIfInBounds_toArray,List.set_cons_zero,List.set_cons_succ,i64_w,i32_w]
    rfl
   refine pure_ (i:=9) (N:=some 23) (v:= ?_) (a':= ?_) #[true,true,true,true,true,true,true,true,true,true,false,false] rfl rfl (any_of HT_.out (by kernel_rfl)) (fun _ _ _ h=>h) (Or.inl ⟨by rfl,?_⟩) ?_ ?_
   rotate_left
   ·intro w'
    go_simp
    with_reducible rfl
   rotate_left
   ·simp only[Act.put,List.setIfInBounds_toArray,List.set_cons_zero,List.set_cons_succ,i64_w,i32_w]
    rfl
   refine pure_ (i:=10) (N:=some 8) (v:= ?_) (a':= ?_) #[true,true,true,true,true,true,true,true,true,true,true,false] rfl rfl (any_of HT_.out (by kernel_rfl)) (fun _ _ _ h=>h) (Or.inl ⟨by rfl,?_⟩) ?_ ?_
   rotate_left
   ·intro w'
    go_simp
    with_reducible rfl
   rotate_left
   ·simp only[Act.put,List.setIfInBounds_toArray,List.set_cons_zero,List.set_cons_succ,i64_w,i32_w]
    rfl
   refine pure_ (i:=11) (N:=some 9) (v:= ?_) (a':= ?_) #[true,true,true,true,true,true,true,true,true,true,true,true] rfl rfl (any_of HT_.out (by kernel_rfl)) (fun _ _ _ h=>h) (Or.inl ⟨by rfl,?_⟩) ?_ ?_
   rotate_left
   ·intro w'
    go_simp
    with_reducible rfl
   rotate_left
   ·simp only[Act.put,List.setIfInBounds_toArray,List.set_cons_zero,List.set_cons_succ,i64_w,i32_w]
    rfl
   refine done_ (done_of HT_.out (by kernel_rfl)) ?_
   have hcz20_0:w19.cell? ⟨gb928,0,none⟩=some (.int .i64 a0_0):=(blk_cell BK928.out 0).trans rfl
   have hcz20_1:w19.cell? ⟨gb928,1,none⟩=some (.bool a0_1):=(blk_cell BK928.out 1).trans rfl
   have hcz20_2:w19.cell? ⟨gb928,2,none⟩=some (.slice A0_2 l0_2.length c0_2):=(blk_cell BK928.out 2).trans rfl
   have hfz20_0:=blk_frozen BK928.out 0
   have hfz20_1:=blk_frozen BK928.out 1
   have hfz20_2:=blk_frozen BK928.out 2
   obtain⟨Ao21,co21,eo21⟩:=Kd.R_slice HO937.out
   subst eo21
   try go_wp2_with (first|((with_reducible refine gate_callee (f:=61) rfl ?_);refine goesL_ (some 32) rfl rfl Try.func61 (by kernel_rfl) rfl #[.agg #[.int .i64 a0_0, .bool a0_1, .slice A0_2 l0_2.length c0_2], .slice Ao16 x7_1.length co16, .slice Ao21 t935.length co21] rfl (by(try simp only[List.map_toArray,List.map_cons,List.map_nil]);first|done|rfl|(simp only[List.length_drop,List.length_take];rfl)) ?_;(with_reducible refine(ebbtideref08_Bottle.calls k1 a0_0 a0_1 _ _ l0_2 _ _ x7_1 _ _ t935 t939 _ ?side1 ?side2 ?side3 ?side4 ?side5 ?side6 A13.out).mono ?_);(case side1=>repeat(first|exact(Kd.C_below HR0_2.out HB.out)|(with_reducible refine Kd.C_alloc ?_ _)|(with_reducible refine Kd.C_drewN ?_ _)|(with_reducible refine Kd.C_drew ?_)));(case side2=>exact HC0_2.out);(case side3=>repeat(first|exact(Kd.R_reads' HO_7.out).2.2|(with_reducible refine Kd.C_alloc ?_ _)|(with_reducible refine Kd.C_drewN ?_ _)|(with_reducible refine Kd.C_drew ?_)));(case side4=>exact(Kd.R_reads' HO_7.out).2.1);(case side5=>repeat(first|exact(Kd.R_reads' HO937.out).2.2|(with_reducible refine Kd.C_alloc ?_ _)|(with_reducible refine Kd.C_drewN ?_ _)|(with_reducible refine Kd.C_drew ?_)));(case side6=>exact(Kd.R_reads' HO937.out).2.1);rintro e w22 ⟨rfl,hb⟩;refine⟨_,rfl,?_⟩;have n0_:=Aside0.mk (Kd.R_below (by(with_reducible repeat(first|apply Kd.R_alloc|apply Kd.R_drewN|apply Kd.R_drew));exact HO_7.out) hb);have n1_:=Aside0.mk (Kd.R_below (by(with_reducible repeat(first|apply Kd.R_alloc|apply Kd.R_drewN|apply Kd.R_drew));exact HO934.out) hb);have n2_:=Aside0.mk (Kd.R_below (by(with_reducible repeat(first|apply Kd.R_alloc|apply Kd.R_drewN|apply Kd.R_drew));exact HO937.out) hb);have n3_:=Aside0.mk (blk_below (g:=gb928) (o:= .cells #[.int .i64 a0_0, .bool a0_1, .slice A0_2 l0_2.length c0_2] 24 (0,0)) (by(with_reducible repeat(first|refine blk_drewN ?_ _|refine blk_drew ?_|refine blk_alloc ?_ _));exact BK928.out) hb);have n4_:=Aside0.mk (below_step (by repeat(first|(with_reducible first|exact HB.out|apply below_alloc|apply pw_below_drewN|apply below_drew1|refine below_set ?_ GE928.out)|exact HB.out)) hb);clear HO_7;clear HO934;clear HO937;clear BK928;clear HB;have HO_7:=n0_;have HO934:=n1_;have HO937:=n2_;have BK928:=n3_;have HB:=n4_;clear n0_ n1_ n2_ n3_ n4_;(try clear hb);(try clear hb2);(try clear hk);(try clear hi))|((with_reducible refine gate_callee (f:=130) rfl ?_);refine goesL_ (some 33) rfl rfl Try.func130 (by kernel_rfl) rfl #[.slice Ao16 x7_1.length co16, .slice Ao21 t935.length co21, .int .i64 t939] rfl (by(try simp only[List.map_toArray,List.map_cons,List.map_nil]);first|done|rfl|(simp only[List.length_drop,List.length_take];rfl)) ?_;(with_reducible refine(ebbtideref07_Pushed.calls k1 _ _ x7_1 _ _ t935 t939 t940 _ ?side1 ?side2 ?side3 ?side4 A14.out).mono ?_);(case side1=>repeat(first|exact(Kd.R_reads' HO_7.out).2.2|(with_reducible refine Kd.C_alloc ?_ _)|(with_reducible refine Kd.C_drewN ?_ _)|(with_reducible refine Kd.C_drew ?_)));(case side2=>exact(Kd.R_reads' HO_7.out).2.1);(case side3=>repeat(first|exact(Kd.R_reads' HO937.out).2.2|(with_reducible refine Kd.C_alloc ?_ _)|(with_reducible refine Kd.C_drewN ?_ _)|(with_reducible refine Kd.C_drew ?_)));(case side4=>exact(Kd.R_reads' HO937.out).2.1);rintro e w23 ⟨v941,rfl,ho0,hb⟩;refine⟨_,rfl,?_⟩;have n0_:=Aside0.mk (Kd.R_elder' (by(with_reducible repeat(first|apply Kd.R_alloc|apply Kd.R_drewN|apply Kd.R_drew));exact HO_7.out) (Kd.R_base ho0) hb);have n1_:=Aside0.mk (Kd.R_below (by(with_reducible repeat(first|apply Kd.R_alloc|apply Kd.R_drewN|apply Kd.R_drew));exact HO934.out) hb);have n2_:=Aside0.mk (Kd.R_below (by(with_reducible repeat(first|apply Kd.R_alloc|apply Kd.R_drewN|apply Kd.R_drew));exact HO937.out) hb);have n3_:=Aside0.mk (Kd.R_lower (Kd.R_new' ho0 (Kd.R_lt (by(with_reducible repeat(first|apply Kd.R_alloc|apply Kd.R_drewN|apply Kd.R_drew));exact HO_7.out))) (below_size (by repeat(first|(with_reducible first|exact HB.out|apply below_alloc|apply pw_below_drewN|apply below_drew1|refine below_set ?_ GE928.out)|exact HB.out))));have n4_:=Aside0.mk (blk_below (g:=gb928) (o:= .cells #[.int .i64 a0_0, .bool a0_1, .slice A0_2 l0_2.length c0_2] 24 (0,0)) (by(with_reducible repeat(first|refine blk_drewN ?_ _|refine blk_drew ?_|refine blk_alloc ?_ _));exact BK928.out) hb);have n5_:=Aside0.mk (below_step (by repeat(first|(with_reducible first|exact HB.out|apply below_alloc|apply pw_below_drewN|apply below_drew1|refine below_set ?_ GE928.out)|exact HB.out)) hb);clear HO_7;clear HO934;clear HO937;clear BK928;clear HB;have HO_7:=n0_;have HO934:=n1_;have HO937:=n2_;have HO942:=n3_;have BK928:=n4_;have HB:=n5_;clear n0_ n1_ n2_ n3_ n4_ n5_;(try clear hb);(try clear hb2);(try clear hk);(try clear hi);(try clear ho0)))
   go_roundg k1
   case measure=>have:=HK1.out;omega
   case rel=>exact⟨(t940),H',⟨by have:=HK1.out;omega⟩,⟨by(with_reducible repeat(first|apply Kd.R_alloc|apply Kd.R_drewN|apply Kd.R_drew));exact Kd.R_mono HO942.out (fun _ hk=>trivial)⟩,⟨by(with_reducible repeat(first|refine blk_drewN ?_ _|refine blk_drew ?_|refine blk_alloc ?_ _));exact BK928.out⟩,⟨by repeat(first|(with_reducible first|exact HB.out|apply below_alloc|apply pw_below_drewN|apply below_drew1|refine below_set ?_ GE928.out)|exact HB.out)⟩⟩
end Go.Proofs.Ytkcpanpdipmmmaa.P
namespace Go.Proofs.Ytkcpanpdipmmmaa.P
open Go.RowKit Go.Proofs.YtkcpanpdipmmmaaW.PrintWords Go.Proofs.YtkcpanpdipmmmaaW.PrintLast Go.Proofs.YtkcpanpdipmmmaaW.PrintMore
attribute [local go_sem] max2_int min2_int max_two min_two max_three min_three max_four min_four
def ebbtideref09_Most.f (k:Nat) (a0_0:Int) (a0_1:Bool) (l0_2:List (S74)) (a1:Int) (a2:Int):Option (Int × Int):=(ebbtideref07_Ends.f k a0_0 a0_1 l0_2 a1 a2).bind fun t944=>(if t944=0 then((ebbtideref09_Best.f k a0_0 a0_1 l0_2 a1 a2).bind fun t945=>((ebbtideref07_Leaves.f k a0_0 a0_1 l0_2 t945 a1).bind fun t948=>(some (t948,0)))) else(some (0,t944)))
def ebbtideref09_Most.T4:Bool × List (List Nat × List Nat):=(true,[([],[]),([],[]),([],[]),([],[]),([1,2,3],[1,2,3]),([],[]),([0,4,5,4],[0,4,5]),([6,6,0,1,2,3,4,5,6],[6]),([7,0,1,2,3,4,5,6,7],[])])
def ebbtideref09_Most.B4:List Nat:=[0,0,0,0,14,0,63,127,255]
theorem ebbtideref09_Most.tab4:rtab .any (opsOf Try.f74 4)=ebbtideref09_Most.T4:=by kernel_rfl
theorem ebbtideref09_Most.bits4:waitsOk ebbtideref09_Most.T4.2 ebbtideref09_Most.B4=true:=by kernel_rfl
set_option maxHeartbeats 8000000 in
set_option maxRecDepth 100000 in
theorem ebbtideref09_Most.calls (k:Nat) (a0_0:Int) (a0_1:Bool) (A0_2:Option Addr) (c0_2:Nat) (l0_2:List (S74)) (a1:Int) (a2:Int) (r1:Int) (r2:Int) (w:World) (hr0_2:Kd.C k74 w A0_2 l0_2.length l0_2) (hc0_2:l0_2.length≤c0_2) (h:ebbtideref09_Most.f k a0_0 a0_1 l0_2 a1 a2=some (r1,r2)):
  Calls Try.prog 74 #[.agg #[.int .i64 a0_0, .bool a0_1, .slice A0_2 l0_2.length c0_2], .int .i64 a1, .int .i64 a2] w fun e w'=>e= .returned (.tuple #[.int .i64 r1, .int .i64 r2])∧Below w.heap.size w w':=by
 have hu24:=Try.underlying24
 have HR0_2:=Aside0.mk hr0_2
 have HC0_2:=Aside0.mk hc0_2
 clear hr0_2 hc0_2
 have HB:=Aside0.mk (Below.refl w.heap.size w)
 have H:((ebbtideref07_Ends.f k a0_0 a0_1 l0_2 a1 a2).bind fun t944=>(if t944=0 then((ebbtideref09_Best.f k a0_0 a0_1 l0_2 a1 a2).bind fun t945=>((ebbtideref07_Leaves.f k a0_0 a0_1 l0_2 t945 a1).bind fun t948=>(some (t948,0)))) else(some (0,t944))))=some (r1,r2):=h
 clear h
 replace H:=Option.bind_eq_some_iff.mp H
 obtain⟨t944,A40,H⟩:=H
 replace H:(if t944=0 then((ebbtideref09_Best.f k a0_0 a0_1 l0_2 a1 a2).bind fun t945=>((ebbtideref07_Leaves.f k a0_0 a0_1 l0_2 t945 a1).bind fun t948=>(some (t948,0)))) else(some (0,t944)))=some (r1,r2):=H
 have A4:=Aside0.mk A40
 clear A40
 by_cases c5:t944=0
 rotate_left
 ·rw[if_neg c5] at H
  have c5b0:(t944 == 0)=false:=beq_eq_false_iff_ne.mpr c5
  have c5b1:(t944 != 0)=true:=bne_iff_ne.mpr c5
  simp only[Option.some.injEq,Prod.mk.injEq] at H
  obtain⟨rfl,rfl⟩:=H
  go_enter Try.func74,Try.ntmps74
  go_wp2_with (first|((with_reducible refine gate_dst (N:=3) rfl ?_);refine box_event ?hg (N:=3) ?hd (cs:= #[.int .i64 a0_0, .bool a0_1, .slice A0_2 l0_2.length c0_2]) (t:=24) ?hr ?_;(case hd=>rfl);(case hg=>rfl);(case hr=>first|(go_simp;done)|(go_simp;rfl));intro gb943 hg w15 hbox hb;have n0_:=Aside0.mk (below_step (by repeat(first|(with_reducible first|exact HB.out|apply below_alloc|apply pw_below_drewN|apply below_drew1)|exact HB.out)) hb);have n1_:=Aside0.mk (hbox);have n2_:=Aside0.mk ((by rw[hg];exact(below_size (by repeat(first|(with_reducible first|exact HB.out|apply below_alloc|apply pw_below_drewN|apply below_drew1)|exact HB.out))):w.heap.size≤gb943));have n3_:=Aside0.mk ((by rw[hg];exact(below_size (by repeat(first|(with_reducible first|exact HB.out|apply below_alloc|apply pw_below_drewN|apply below_drew1)|exact HB.out))):w.heap.size≤gb943));clear HB;have HB:=n0_;have BK943:=n1_;have GW943:=n2_;have GE943:=n3_;clear n0_ n1_ n2_ n3_;clear hb hbox hg;have hcz16_0:w15.cell? ⟨gb943,0,none⟩=some (.int .i64 a0_0):=(blk_cell BK943.out 0).trans rfl;have hcz16_1:w15.cell? ⟨gb943,1,none⟩=some (.bool a0_1):=(blk_cell BK943.out 1).trans rfl;have hcz16_2:w15.cell? ⟨gb943,2,none⟩=some (.slice A0_2 l0_2.length c0_2):=(blk_cell BK943.out 2).trans rfl;have hfz16_0:=blk_frozen BK943.out 0;have hfz16_1:=blk_frozen BK943.out 1;have hfz16_2:=blk_frozen BK943.out 2)|((with_reducible refine gate_callee (f:=77) rfl ?_);refine goesL_ (some 12) rfl rfl Try.func77 (by kernel_rfl) rfl #[.agg #[.int .i64 a0_0, .bool a0_1, .slice A0_2 l0_2.length c0_2], .int .i64 a1, .int .i64 a2] rfl (by(try simp only[List.map_toArray,List.map_cons,List.map_nil]);first|done|rfl|(simp only[List.length_drop,List.length_take];rfl)) ?_;(with_reducible refine(ebbtideref07_Ends.calls k a0_0 a0_1 _ _ l0_2 a1 a2 t944 _ ?side1 ?side2 A4.out).mono ?_);(case side1=>repeat(first|exact(Kd.C_below HR0_2.out HB.out)|(with_reducible refine Kd.C_alloc ?_ _)|(with_reducible refine Kd.C_drewN ?_ _)|(with_reducible refine Kd.C_drew ?_)));(case side2=>exact HC0_2.out);rintro e w17 ⟨rfl,hb⟩;refine⟨_,rfl,?_⟩;have n0_:=Aside0.mk (blk_below (g:=gb943) (o:= .cells #[.int .i64 a0_0, .bool a0_1, .slice A0_2 l0_2.length c0_2] 24 (0,0)) (by(with_reducible repeat(first|refine blk_drewN ?_ _|refine blk_drew ?_|refine blk_alloc ?_ _));exact BK943.out) hb);have n1_:=Aside0.mk (below_step (by repeat(first|(with_reducible first|exact HB.out|apply below_alloc|apply pw_below_drewN|apply below_drew1|refine below_set ?_ GE943.out)|exact HB.out)) hb);clear BK943;clear HB;have BK943:=n0_;have HB:=n1_;clear n0_ n1_;(try clear hb);(try clear hb2);(try clear hk);(try clear hi)))
  go_ret2
  exact⟨by first|rfl|(simp[errW_none,errW_some]<;>rfl)|(simp[*,errW_none,errW_some]<;>rfl),by repeat(first|(with_reducible first|exact HB.out|apply below_alloc|apply pw_below_drewN|apply below_drew1|refine below_set ?_ GE943.out)|exact HB.out)⟩
 rw[if_pos c5] at H
 have c5b0:(t944 == 0)=true:=beq_iff_eq.mpr c5
 have c5b1:(t944 != 0)=false:=bne_eq_false_iff_eq.mpr c5
 clear c5
 replace H:=Option.bind_eq_some_iff.mp H
 obtain⟨t945,A60,H⟩:=H
 replace H:((ebbtideref07_Leaves.f k a0_0 a0_1 l0_2 t945 a1).bind fun t948=>(some (t948,0)))=some (r1,r2):=H
 have A6:=Aside0.mk A60
 clear A60
 replace H:=Option.bind_eq_some_iff.mp H
 obtain⟨t948,A70,H⟩:=H
 replace H:(some (t948,0))=some (r1,r2):=H
 have A7:=Aside0.mk A70
 clear A70
 simp only[Option.some.injEq,Prod.mk.injEq] at H
 obtain⟨rfl,rfl⟩:=H
 go_enter Try.func74,Try.ntmps74
 try go_wp2_with (first|((with_reducible refine gate_dst (N:=3) rfl ?_);refine box_event ?hg (N:=3) ?hd (cs:= #[.int .i64 a0_0, .bool a0_1, .slice A0_2 l0_2.length c0_2]) (t:=24) ?hr ?_;(case hd=>rfl);(case hg=>rfl);(case hr=>first|(go_simp;done)|(go_simp;rfl));intro gb943 hg w8 hbox hb;have n0_:=Aside0.mk (below_step (by repeat(first|(with_reducible first|exact HB.out|apply below_alloc|apply pw_below_drewN|apply below_drew1)|exact HB.out)) hb);have n1_:=Aside0.mk (hbox);have n2_:=Aside0.mk ((by rw[hg];exact(below_size (by repeat(first|(with_reducible first|exact HB.out|apply below_alloc|apply pw_below_drewN|apply below_drew1)|exact HB.out))):w.heap.size≤gb943));have n3_:=Aside0.mk ((by rw[hg];exact(below_size (by repeat(first|(with_reducible first|exact HB.out|apply below_alloc|apply pw_below_drewN|apply below_drew1)|exact HB.out))):w.heap.size≤gb943));clear HB;have HB:=n0_;have BK943:=n1_;have GW943:=n2_;have GE943:=n3_;clear n0_ n1_ n2_ n3_;clear hb hbox hg;have hcz9_0:w8.cell? ⟨gb943,0,none⟩=some (.int .i64 a0_0):=(blk_cell BK943.out 0).trans rfl;have hcz9_1:w8.cell? ⟨gb943,1,none⟩=some (.bool a0_1):=(blk_cell BK943.out 1).trans rfl;have hcz9_2:w8.cell? ⟨gb943,2,none⟩=some (.slice A0_2 l0_2.length c0_2):=(blk_cell BK943.out 2).trans rfl;have hfz9_0:=blk_frozen BK943.out 0;have hfz9_1:=blk_frozen BK943.out 1;have hfz9_2:=blk_frozen BK943.out 2)|((with_reducible refine gate_callee (f:=77) rfl ?_);refine goesL_ (some 12) rfl rfl Try.func77 (by kernel_rfl) rfl #[.agg #[.int .i64 a0_0, .bool a0_1, .slice A0_2 l0_2.length c0_2], .int .i64 a1, .int .i64 a2] rfl (by(try simp only[List.map_toArray,List.map_cons,List.map_nil]);first|done|rfl|(simp only[List.length_drop,List.length_take];rfl)) ?_;(with_reducible refine(ebbtideref07_Ends.calls k a0_0 a0_1 _ _ l0_2 a1 a2 t944 _ ?side1 ?side2 A4.out).mono ?_);(case side1=>repeat(first|exact(Kd.C_below HR0_2.out HB.out)|(with_reducible refine Kd.C_alloc ?_ _)|(with_reducible refine Kd.C_drewN ?_ _)|(with_reducible refine Kd.C_drew ?_)));(case side2=>exact HC0_2.out);rintro e w10 ⟨rfl,hb⟩;refine⟨_,rfl,?_⟩;have n0_:=Aside0.mk (blk_below (g:=gb943) (o:= .cells #[.int .i64 a0_0, .bool a0_1, .slice A0_2 l0_2.length c0_2] 24 (0,0)) (by(with_reducible repeat(first|refine blk_drewN ?_ _|refine blk_drew ?_|refine blk_alloc ?_ _));exact BK943.out) hb);have n1_:=Aside0.mk (below_step (by repeat(first|(with_reducible first|exact HB.out|apply below_alloc|apply pw_below_drewN|apply below_drew1|refine below_set ?_ GE943.out)|exact HB.out)) hb);clear BK943;clear HB;have BK943:=n0_;have HB:=n1_;clear n0_ n1_;(try clear hb);(try clear hb2);(try clear hk);(try clear hi)))
 have n0_:=Aside0.mk (blk_drew BK943.out)
 have n1_:=Aside0.mk (below_drew1 HB.out)
 clear BK943
 clear HB
 have BK943:=n0_
 have HB:=n1_
 clear n0_ n1_
 refine start_ (n:=9) (S:=fun w'=>w'.cell? ⟨gb943,0,none⟩=some (.int .i64 a0_0)∧w'.cell? ⟨gb943,1,none⟩=some (.bool a0_1)∧w'.cell? ⟨gb943,2,none⟩=some (.slice A0_2 l0_2.length c0_2)) (ds:=[]) #[false,false,false,false,false,false,false,false,false] (by kernel_rfl) rfl rfl ⟨(blk_cell BK943.out 0).trans rfl,(blk_cell BK943.out 1).trans rfl,(blk_cell BK943.out 2).trans rfl⟩ (fun hHeld=> ?_);refine with_tabW ebbtideref09_Most.tab4 ebbtideref09_Most.bits4 (fun HT_ HW_=> ?_)
 generalize w10.drew=w11 at BK943 HB hHeld ⊢
 refine pure_ (i:=2) (N:=some 18) (v:= ?_) (a':= ?_) #[false,false,true,false,false,false,false,false,false] rfl rfl (any_of HT_.out (by kernel_rfl)) (fun _ _ _ h=>h) (Or.inl ⟨by rfl,?_⟩) ?_ ?_
 rotate_left
 ·intro w'
  go_simp
  with_reducible rfl
 rotate_left
 ·simp only[Act.put,List.setIfInBounds_toArray,List.set_cons_zero,List.set_cons_succ,i64_w,i32_w]
  rfl
 refine pure_ (i:=3) (N:=some 19) (v:= ?_) (a':= ?_) #[false,false,true,true,false,false,false,false,false] rfl rfl (any_of HT_.out (by kernel_rfl)) (fun _ _ _ h=>h) (Or.inl ⟨by rfl,?_⟩) ?_ ?_
 rotate_left
 ·intro w'
  go_simp
  with_reducible rfl
 rotate_left
 ·simp only[Act.put,List.setIfInBounds_toArray,List.set_cons_zero,List.set_cons_succ,i64_w,i32_w]
  rfl
 refine pure_ (i:=5) (N:=some 21) (v:= ?_) (a':= ?_) #[false,false,true,true,false,true,false,false,false] rfl rfl (any_of HT_.out (by kernel_rfl)) (fun _ _ _ h=>h) (Or.inl ⟨by rfl,?_⟩) ?_ ?_
 rotate_left
 ·intro w'
  go_simp
  with_reducible rfl
 rotate_left
 ·simp only[Act.put,List.setIfInBounds_toArray,List.set_cons_zero,List.set_cons_succ,i64_w,i32_w]
  rfl
 refine take_ (i:=0) (N:=some 16) (v:= ?_) (a':= ?_) #[true,false,true,true,false,true,false,false,false] rfl rfl (take_ofW HT_.out HW_.out (by kernel_rfl)) (fun _ _ _ h=>h) (Or.inl ⟨by rfl,?_⟩) hHeld ?_ ?_
 rotate_left
 ·rintro w' ⟨s0,s1,s2⟩
  go_simp
  with_reducible rfl
 rotate_left
 ·simp only[Act.put,List.setIfInBounds_toArray,List.set_cons_zero,List.set_cons_succ,i64_w,i32_w]
  rfl
 refine take_ (i:=1) (N:=some 17) (v:= ?_) (a':= ?_) #[true,true,true,true,false,true,false,false,false] rfl rfl (take_ofW HT_.out HW_.out (by kernel_rfl)) (fun _ _ _ h=>h) (Or.inl ⟨by rfl,?_⟩) hHeld ?_ ?_
 rotate_left
 ·rintro w' ⟨s0,s1,s2⟩
  go_simp
  with_reducible rfl
 rotate_left
 ·simp only[Act.put,List.setIfInBounds_toArray,List.set_cons_zero,List.set_cons_succ,i64_w,i32_w]
  rfl
 refine one_ (i:=4) (N:=some 20) #[true,true,true,true,true,true,false,false,false] rfl rfl (one_of HT_.out (by kernel_rfl)) (by decide) (fun K hK=> ?_)
 refine goes_ Try.func87 (by kernel_rfl) rfl #[.agg #[.int .i64 a0_0, .bool a0_1, .slice A0_2 l0_2.length c0_2], .int .i64 a1, .int .i64 a2] (by rfl) rfl rfl (by(try simp only[List.map_toArray,List.map_cons,List.map_nil]);first|done|rfl|(simp only[List.length_drop,List.length_take];rfl)) ?_
 with_reducible refine(ebbtideref09_Best.calls k a0_0 a0_1 _ _ l0_2 a1 a2 t945 _ ?side1 ?side2 A6.out).mono ?_
 (case side1=>repeat(first|exact(Kd.C_below HR0_2.out HB.out)|(with_reducible refine Kd.C_alloc ?_ _)|(with_reducible refine Kd.C_drewN ?_ _)|(with_reducible refine Kd.C_drew ?_)))
 (case side2=>exact HC0_2.out)
 rintro e w12 ⟨v946,rfl,ho0,hb⟩
 refine⟨_,rfl,?_⟩
 have n0_:=Aside0.mk (Kd.R_lower ho0 (below_size (by repeat(first|(with_reducible first|exact HB.out|apply below_alloc|apply pw_below_drewN|apply below_drew1|refine below_set ?_ GE943.out)|exact HB.out))))
 have n1_:=Aside0.mk (blk_below (g:=gb943) (o:= .cells #[.int .i64 a0_0, .bool a0_1, .slice A0_2 l0_2.length c0_2] 24 (0,0)) (by(with_reducible repeat(first|refine blk_drewN ?_ _|refine blk_drew ?_|refine blk_alloc ?_ _));exact BK943.out) hb)
 have n2_:=Aside0.mk (below_step (by repeat(first|(with_reducible first|exact HB.out|apply below_alloc|apply pw_below_drewN|apply below_drew1|refine below_set ?_ GE943.out)|exact HB.out)) hb)
 clear BK943
 clear HB
 have HO947:=n0_
 have BK943:=n1_
 have HB:=n2_
 clear n0_ n1_ n2_
 (try clear hb)
 (try clear hb2)
 (try clear hk)
 (try clear hi)
 (try clear ho0)
 obtain⟨Ao13,co13,eo13⟩:=Kd.R_slice HO947.out
 (first|subst eo13|(injection eo13 with f1_ f2_ f3_;have f4_:=f1_.symm;have f5_:=f3_.symm;clear f1_ f2_ f3_;subst f4_;subst f5_))
 refine hK.out _ _ ⟨(blk_cell BK943.out 0).trans rfl,(blk_cell BK943.out 1).trans rfl,(blk_cell BK943.out 2).trans rfl⟩ (fun hHeld=> ?_)
 clear hK K
 refine norm_ (a':= ?_) ?_ ?_
 rotate_left
 ·show Act.put _ (some 20) _=_
  simp only[Act.put,List.setIfInBounds_toArray,List.set_cons_zero,List.set_cons_succ,i64_w,i32_w]
  rfl
 refine one_ (i:=6) (N:=some 22) #[true,true,true,true,true,true,true,false,false] rfl rfl (one_of HT_.out (by kernel_rfl)) (by decide) (fun K hK=> ?_)
 refine goes_ Try.func103 (by kernel_rfl) rfl #[.agg #[.int .i64 a0_0, .bool a0_1, .slice A0_2 l0_2.length c0_2], .slice Ao13 t945.length co13, .int .i64 a1] (by rfl) rfl rfl (by(try simp only[List.map_toArray,List.map_cons,List.map_nil]);first|done|rfl|(simp only[List.length_drop,List.length_take];rfl)) ?_
 with_reducible refine(ebbtideref07_Leaves.calls k a0_0 a0_1 _ _ l0_2 _ _ t945 a1 t948 _ ?side1 ?side2 ?side3 ?side4 A7.out).mono ?_
 (case side1=>repeat(first|exact(Kd.C_below HR0_2.out HB.out)|(with_reducible refine Kd.C_alloc ?_ _)|(with_reducible refine Kd.C_drewN ?_ _)|(with_reducible refine Kd.C_drew ?_)))
 (case side2=>exact HC0_2.out)
 (case side3=>repeat(first|exact(Kd.R_reads' HO947.out).2.2|(with_reducible refine Kd.C_alloc ?_ _)|(with_reducible refine Kd.C_drewN ?_ _)|(with_reducible refine Kd.C_drew ?_)))
 (case side4=>exact(Kd.R_reads' HO947.out).2.1)
 rintro e w14 ⟨rfl,hb⟩
 refine⟨_,rfl,?_⟩
 have n0_:=Aside0.mk (Kd.R_below (by(with_reducible repeat(first|apply Kd.R_alloc|apply Kd.R_drewN|apply Kd.R_drew));exact HO947.out) hb)
 have n1_:=Aside0.mk (blk_below (g:=gb943) (o:= .cells #[.int .i64 a0_0, .bool a0_1, .slice A0_2 l0_2.length c0_2] 24 (0,0)) (by(with_reducible repeat(first|refine blk_drewN ?_ _|refine blk_drew ?_|refine blk_alloc ?_ _));exact BK943.out) hb)
 have n2_:=Aside0.mk (below_step (by repeat(first|(with_reducible first|exact HB.out|apply below_alloc|apply pw_below_drewN|apply below_drew1|refine below_set ?_ GE943.out)|exact HB.out)) hb)
 clear HO947
 clear BK943
 clear HB
 have HO947:=n0_
 have BK943:=n1_
 have HB:=n2_
 clear n0_ n1_ n2_
 (try clear hb)
 (try clear hb2)
 (try clear hk)
 (try clear hi)
 refine hK.out _ _ ⟨(blk_cell BK943.out 0).trans rfl,(blk_cell BK943.out 1).trans rfl,(blk_cell BK943.out 2).trans rfl⟩ (fun hHeld=> ?_)
 clear hK K
 refine norm_ (a':= ?_) ?_ ?_
 rotate_left
 ·show Act.put _ (some 22) _=_
  simp only[Act.put,List.setIfInBounds_toArray,List.set_cons_zero,List.set_cons_succ,i64_w,i32_w]
  rfl
 refine pure_ (i:=7) (N:=some 6) (v:= ?_) (a':= ?_) #[true,true,true,true,true,true,true,true,false] rfl rfl (any_of HT_.out (by kernel_rfl)) (fun _ _ _ h=>h) (Or.inl ⟨by rfl,?_⟩) ?_ ?_
 rotate_left
 ·intro w'
  go_simp
  with_reducible rfl
 rotate_left
 ·simp only[Act.put,List.setIfInBounds_toArray,List.set_cons_zero,List.set_cons_succ,i64_w,i32_w]
  rfl
 refine pure_ (i:=8) (N:=some 7) (v:= ?_) (a':= ?_) #[true,true,true,true,true,true,true,true,true] rfl rfl (any_of HT_.out (by kernel_rfl)) (fun _ _ _ h=>h) (Or.inl ⟨by rfl,?_⟩) ?_ ?_
 rotate_left
 ·intro w'
  go_simp
  with_reducible rfl
 rotate_left
 ·simp only[Act.put,List.setIfInBounds_toArray,List.set_cons_zero,List.set_cons_succ,i64_w,i32_w]
  rfl
 refine done_ (done_of HT_.out (by kernel_rfl)) ?_
 try go_wp2
 go_ret2
 exact⟨by first|rfl|(simp[errW_none,errW_some]<;>rfl)|(simp[*,errW_none,errW_some]<;>rfl),by repeat(first|(with_reducible first|exact HB.out|apply below_alloc|apply pw_below_drewN|apply below_drew1|refine below_set ?_ GE943.out)|exact HB.out)⟩
end Go.Proofs.Ytkcpanpdipmmmaa.P
namespace Go.Proofs.Ytkcpanpdipmmmaa.P
open Go.RowKit Go.Proofs.YtkcpanpdipmmmaaW.PrintWords Go.Proofs.YtkcpanpdipmmmaaW.PrintLast Go.Proofs.YtkcpanpdipmmmaaW.PrintMore
attribute [local go_sem] max2_int min2_int max_two min_two max_three min_three max_four min_four
def ebbtidelaw09_awake.f (k:Nat)  :Option (Bool):=(some (([(⟨0,1,3,0⟩:S74),(⟨0,2,2,0⟩:S74),(⟨1,3,2,0⟩:S74),(⟨2,3,3,0⟩:S74),(⟨1,2,5,0⟩:S74)]:List (S74)):List (S74))).bind fun y949=>((maxflow_Max.f k 4 false y949 0 3).bind fun bt953=>((maxflow_Most.f k 4 false y949 3 0).bind fun bt958=>((maxflow_Max.f k 4 false y949 1 1).bind fun bt960=>(if bt953.2.2=0 then(if bt953.2.1=5 then(if (bt953.1.length:Int)=5 then(if bt958.2=0 then(if bt958.1=0 then(some (bt960.2.2 == 70)) else(some false)) else(some false)) else(some false)) else(some false)) else(some false)))))
set_option maxHeartbeats 8000000 in
set_option maxRecDepth 100000 in
theorem ebbtidelaw09_awake.calls (k:Nat)  (r:Bool) (w:World) (h:ebbtidelaw09_awake.f k  =some r) (hrT_:r=true:=by first|rfl|exact Aside0.out (by assumption)):
  Calls Try.prog 75 #[] w fun e w'=>e= .returned (.bool r)∧Below w.heap.size w w':=by
 have HRT:=Aside0.mk hrT_
 clear hrT_
 have hu74:=Try.underlying74
 have hu24:=Try.underlying24
 have HB:=Aside0.mk (Below.refl w.heap.size w)
 have H:((some (([(⟨0,1,3,0⟩:S74),(⟨0,2,2,0⟩:S74),(⟨1,3,2,0⟩:S74),(⟨2,3,3,0⟩:S74),(⟨1,2,5,0⟩:S74)]:List (S74)):List (S74))).bind fun y949=>((maxflow_Max.f k 4 false y949 0 3).bind fun bt953=>((maxflow_Most.f k 4 false y949 3 0).bind fun bt958=>((maxflow_Max.f k 4 false y949 1 1).bind fun bt960=>(if bt953.2.2=0 then(if bt953.2.1=5 then(if (bt953.1.length:Int)=5 then(if bt958.2=0 then(if bt958.1=0 then(some (bt960.2.2 == 70)) else(some false)) else(some false)) else(some false)) else(some false)) else(some false))))))=some r:=h
 clear h
 obtain⟨y949,hy949⟩: ∃ y_:List (S74),y_=(([(⟨0,1,3,0⟩:S74),(⟨0,2,2,0⟩:S74),(⟨1,3,2,0⟩:S74),(⟨2,3,3,0⟩:S74),(⟨1,2,5,0⟩:S74)]:List (S74))):=⟨_,rfl⟩
 replace H:((maxflow_Max.f k 4 false y949 0 3).bind fun bt953=>((maxflow_Most.f k 4 false y949 3 0).bind fun bt958=>((maxflow_Max.f k 4 false y949 1 1).bind fun bt960=>(if bt953.2.2=0 then(if bt953.2.1=5 then(if (bt953.1.length:Int)=5 then(if bt958.2=0 then(if bt958.1=0 then(some (bt960.2.2 == 70)) else(some false)) else(some false)) else(some false)) else(some false)) else(some false)))))=some r:=by first|(rw[hy949];with_reducible exact H)|(have H2_:=(Option.bind_some _ _).symm.trans H;rw[hy949];with_reducible exact H2_)|(have H2_:=(Option.bind_some _ _).symm.trans H;with_reducible exact H2_)|with_reducible exact H|(rw[hy949];exact H)|exact H
 have Ny949:=Aside0.mk hy949
 clear hy949
 replace H:=Option.bind_eq_some_iff.mp H
 obtain⟨⟨t953,t956,t957⟩,A10,H⟩:=H
 replace H:((maxflow_Most.f k 4 false y949 3 0).bind fun bt958=>((maxflow_Max.f k 4 false y949 1 1).bind fun bt960=>(if t957=0 then(if t956=5 then(if (t953.length:Int)=5 then(if bt958.2=0 then(if bt958.1=0 then(some (bt960.2.2 == 70)) else(some false)) else(some false)) else(some false)) else(some false)) else(some false))))=some r:=H
 have A1:=Aside0.mk A10
 clear A10
 replace H:=Option.bind_eq_some_iff.mp H
 obtain⟨⟨t958,t959⟩,A20,H⟩:=H
 replace H:((maxflow_Max.f k 4 false y949 1 1).bind fun bt960=>(if t957=0 then(if t956=5 then(if (t953.length:Int)=5 then(if t959=0 then(if t958=0 then(some (bt960.2.2 == 70)) else(some false)) else(some false)) else(some false)) else(some false)) else(some false)))=some r:=H
 have A2:=Aside0.mk A20
 clear A20
 replace H:=Option.bind_eq_some_iff.mp H
 obtain⟨⟨t960,t963,t964⟩,A30,H⟩:=H
 replace H:(if t957=0 then(if t956=5 then(if (t953.length:Int)=5 then(if t959=0 then(if t958=0 then(some (t964 == 70)) else(some false)) else(some false)) else(some false)) else(some false)) else(some false))=some r:=H
 have A3:=Aside0.mk A30
 clear A30
 by_cases c4:t957=0
 rotate_left
 ·rw[if_neg c4] at H
  exact absurd (Option.some.inj H) (by rw[HRT.out];decide)
 rw[if_pos c4] at H
 have c4b0:(t957 == 0)=true:=beq_iff_eq.mpr c4
 have c4b1:(t957 != 0)=false:=bne_eq_false_iff_eq.mpr c4
 clear c4
 by_cases c5:t956=5
 rotate_left
 ·rw[if_neg c5] at H
  exact absurd (Option.some.inj H) (by rw[HRT.out];decide)
 rw[if_pos c5] at H
 have c5b0:(t956 == 5)=true:=beq_iff_eq.mpr c5
 have c5b1:(t956 != 5)=false:=bne_eq_false_iff_eq.mpr c5
 clear c5
 by_cases c6:(t953.length:Int)=5
 rotate_left
 ·rw[if_neg c6] at H
  exact absurd (Option.some.inj H) (by rw[HRT.out];decide)
 rw[if_pos c6] at H
 have c6b0:((t953.length:Int) == 5)=true:=beq_iff_eq.mpr c6
 have c6b1:((t953.length:Int) != 5)=false:=bne_eq_false_iff_eq.mpr c6
 clear c6
 by_cases c7:t959=0
 rotate_left
 ·rw[if_neg c7] at H
  exact absurd (Option.some.inj H) (by rw[HRT.out];decide)
 rw[if_pos c7] at H
 have c7b0:(t959 == 0)=true:=beq_iff_eq.mpr c7
 have c7b1:(t959 != 0)=false:=bne_eq_false_iff_eq.mpr c7
 clear c7
 by_cases c8:t958=0
 rotate_left
 ·rw[if_neg c8] at H
  exact absurd (Option.some.inj H) (by rw[HRT.out];decide)
 rw[if_pos c8] at H
 have c8b0:(t958 == 0)=true:=beq_iff_eq.mpr c8
 have c8b1:(t958 != 0)=false:=bne_eq_false_iff_eq.mpr c8
 clear c8
 obtain rfl:=Option.some.inj H
 go_enter Try.func75,Try.ntmps75
 go_wp2_with (first|((with_reducible refine gate_dst (N:=15) rfl ?_);(try (refine gate_guard (by rfl) ?_;dsimp only));refine Kd.R_lit k74 _ 74 ?hg (N:=15) ?hd (xs:=([(⟨0,1,3,0⟩:S74),(⟨0,2,2,0⟩:S74),(⟨1,3,2,0⟩:S74),(⟨2,3,3,0⟩:S74),(⟨1,2,5,0⟩:S74)]:List (S74))) (inner:=[.int .i64 0, .int .i64 1, .int .i64 3, .int .i64 0, .int .i64 0, .int .i64 2, .int .i64 2, .int .i64 0, .int .i64 1, .int .i64 3, .int .i64 2, .int .i64 0, .int .i64 2, .int .i64 3, .int .i64 3, .int .i64 0, .int .i64 1, .int .i64 2, .int .i64 5, .int .i64 0]) (ok:=fun _=>True) (okp:=fun _=>True) ?hr ?hp (fun _ hk=>hk) trivial (Below.refl _ _) (Nat.le_refl _) (by simp) ?_;(case hd=>rfl);(case hg=>rfl);(case hr=>first|(go_simp;done)|(go_simp;rfl));(case hp=>exact(Reps.c4 (show Kd.M k74 _ _ _ (⟨0,1,3,0⟩:S74) [.int .i64 0, .int .i64 1, .int .i64 3, .int .i64 0] from(k74_mkM _ _ _ (⟨0,1,3,0⟩:S74) )) (Reps.c4 (show Kd.M k74 _ _ _ (⟨0,2,2,0⟩:S74) [.int .i64 0, .int .i64 2, .int .i64 2, .int .i64 0] from(k74_mkM _ _ _ (⟨0,2,2,0⟩:S74) )) (Reps.c4 (show Kd.M k74 _ _ _ (⟨1,3,2,0⟩:S74) [.int .i64 1, .int .i64 3, .int .i64 2, .int .i64 0] from(k74_mkM _ _ _ (⟨1,3,2,0⟩:S74) )) (Reps.c4 (show Kd.M k74 _ _ _ (⟨2,3,3,0⟩:S74) [.int .i64 2, .int .i64 3, .int .i64 3, .int .i64 0] from(k74_mkM _ _ _ (⟨2,3,3,0⟩:S74) )) (Reps.c4 (show Kd.M k74 _ _ _ (⟨1,2,5,0⟩:S74) [.int .i64 1, .int .i64 2, .int .i64 5, .int .i64 0] from(k74_mkM _ _ _ (⟨1,2,5,0⟩:S74) )) (Reps.none _ _)))))));intro v950 w9 ho10 hb hg_ hnew_;clear hg_ hnew_;(first|rw[← Ny949.out] at ho10|(simp only[Int.reduceToNat] at ho10;rw[← Ny949.out] at ho10));have n0_:=Aside0.mk (Kd.R_lower ho10 (below_size (by repeat(first|(with_reducible first|exact HB.out|apply below_alloc|apply pw_below_drewN|apply below_drew1)|exact HB.out))));have n1_:=Aside0.mk (below_step (by repeat(first|(with_reducible first|exact HB.out|apply below_alloc|apply pw_below_drewN|apply below_drew1)|exact HB.out)) hb);clear HB;have HO951:=n0_;have HB:=n1_;clear n0_ n1_;clear hb ho10;obtain⟨Ao11,co11,eo11⟩:=Kd.R_slice HO951.out;subst eo11)|((with_reducible refine gate_dst (N:=1) rfl ?_);(try (refine gate_guard (by rfl) ?_;dsimp only));refine box_event ?hg (N:=1) ?hd (cs:= #[.int .i64 0, .bool false, .slice none 0 0]) (t:=24) ?hr ?_;(case hd=>rfl);(case hg=>rfl);(case hr=>first|(go_simp;done)|(go_simp;rfl));intro gb952 hg w12 hbox hb;have n0_:=Aside0.mk (Kd.R_below (by(with_reducible repeat(first|apply Kd.R_alloc|apply Kd.R_drewN|apply Kd.R_drew));exact HO951.out) hb);have n1_:=Aside0.mk (below_step (by repeat(first|(with_reducible first|exact HB.out|apply below_alloc|apply pw_below_drewN|apply below_drew1)|exact HB.out)) hb);have n2_:=Aside0.mk (hbox);have n3_:=Aside0.mk ((by rw[hg];exact(below_size (by repeat(first|(with_reducible first|exact HB.out|apply below_alloc|apply pw_below_drewN|apply below_drew1)|exact HB.out))):w.heap.size≤gb952));have n4_:=Aside0.mk ((by rw[hg];exact(below_size (by repeat(first|(with_reducible first|exact HB.out|apply below_alloc|apply pw_below_drewN|apply below_drew1)|exact HB.out))):w.heap.size≤gb952));clear HO951;clear HB;have HO951:=n0_;have HB:=n1_;have BK952:=n2_;have GW952:=n3_;have GE952:=n4_;clear n0_ n1_ n2_ n3_ n4_;clear hb hbox hg;have hcz13_0:w12.cell? ⟨gb952,0,none⟩=some (.int .i64 0):=(blk_cell BK952.out 0).trans rfl;have hcz13_1:w12.cell? ⟨gb952,1,none⟩=some (.bool false):=(blk_cell BK952.out 1).trans rfl;have hcz13_2:w12.cell? ⟨gb952,2,none⟩=some (.slice none 0 0):=(blk_cell BK952.out 2).trans rfl;have hfz13_0:=blk_frozen BK952.out 0;have hfz13_1:=blk_frozen BK952.out 1;have hfz13_2:=blk_frozen BK952.out 2)|((with_reducible refine gate_callee (f:=76) rfl ?_);refine goesL_ (some 19) rfl rfl Try.func76 (by kernel_rfl) rfl #[.agg #[.int .i64 4, .bool false, .slice Ao11 y949.length co11], .int .i64 0, .int .i64 3] rfl (by(try simp only[List.map_toArray,List.map_cons,List.map_nil]);first|done|rfl|(simp only[List.length_drop,List.length_take];rfl)) ?_;(with_reducible refine(maxflow_Max.calls k 4 false _ _ y949 0 3 t953 t956 t957 _ ?side1 ?side2 A1.out).mono ?_);(case side1=>refine(Kd.R_reads' (e:=74) (base:=w.heap.size) (ok:=fun k_=>True) (n:=y949.length) (c:=co11) ?_).2.2;exact(by(with_reducible repeat(first|apply Kd.R_alloc|apply Kd.R_drewN|apply Kd.R_drew));exact(Kd.R_mono (Kd.R_far (p:=⟨gb952,2,none⟩) (Kd.R_far (p:=⟨gb952,1,none⟩) (Kd.R_far (p:=⟨gb952,0,none⟩) (Kd.R_types HO951.out BK952.out (by decide)) (fun _ hk=>hk.2) (.int .i64 4)) (fun _ hk=>hk.2) (.bool false)) (fun _ hk=>hk.2) (.slice Ao11 y949.length co11)) (fun _ h_=>h_.1))));(case side2=>exact(Kd.R_reads' HO951.out).2.1);rintro e w14 ⟨v954,rfl,ho0,hb⟩;refine⟨_,rfl,?_⟩;have n0_:=Aside0.mk (Kd.R_below (by(with_reducible repeat(first|apply Kd.R_alloc|apply Kd.R_drewN|apply Kd.R_drew));exact(Kd.R_mono (Kd.R_far (p:=⟨gb952,2,none⟩) (Kd.R_far (p:=⟨gb952,1,none⟩) (Kd.R_far (p:=⟨gb952,0,none⟩) (Kd.R_types HO951.out BK952.out (by decide)) (fun _ hk=>hk.2) (.int .i64 4)) (fun _ hk=>hk.2) (.bool false)) (fun _ hk=>hk.2) (.slice Ao11 y949.length co11)) (fun _ h_=>h_.1))) hb);have n1_:=Aside0.mk (Kd.R_lower ho0 (below_size (by repeat(first|(with_reducible first|exact HB.out|apply below_alloc|apply pw_below_drewN|apply below_drew1|refine below_set ?_ GE952.out)|exact HB.out))));have n2_:=Aside0.mk (blk_below (g:=gb952) (o:= .cells #[.int .i64 4, .bool false, .slice Ao11 y949.length co11] 24 (0,0)) (by(with_reducible repeat(first|refine blk_drewN ?_ _|refine blk_drew ?_|refine blk_alloc ?_ _));refine blk_put (cs:= #[.int .i64 4, .bool false, .slice none 0 0]) ?_ 2 _ rfl;(with_reducible repeat(first|refine blk_drewN ?_ _|refine blk_drew ?_|refine blk_alloc ?_ _));refine blk_put (cs:= #[.int .i64 4, .bool false, .slice none 0 0]) ?_ 1 _ rfl;(with_reducible repeat(first|refine blk_drewN ?_ _|refine blk_drew ?_|refine blk_alloc ?_ _));refine blk_put (cs:= #[.int .i64 0, .bool false, .slice none 0 0]) ?_ 0 _ rfl;(with_reducible repeat(first|refine blk_drewN ?_ _|refine blk_drew ?_|refine blk_alloc ?_ _));exact BK952.out) hb);have n3_:=Aside0.mk (below_step (by repeat(first|(with_reducible first|exact HB.out|apply below_alloc|apply pw_below_drewN|apply below_drew1|refine below_set ?_ GE952.out)|exact HB.out)) hb);clear HO951;clear BK952;clear HB;have HO951:=n0_;have HO955:=n1_;have BK952:=n2_;have HB:=n3_;clear n0_ n1_ n2_ n3_;(try clear hb);(try clear hb2);(try clear hk);(try clear hi);(try clear ho0);have hcz15_0:w14.cell? ⟨gb952,0,none⟩=some (.int .i64 4):=(blk_cell BK952.out 0).trans rfl;have hcz15_1:w14.cell? ⟨gb952,1,none⟩=some (.bool false):=(blk_cell BK952.out 1).trans rfl;have hcz15_2:w14.cell? ⟨gb952,2,none⟩=some (.slice Ao11 y949.length co11):=(blk_cell BK952.out 2).trans rfl;have hfz15_0:=blk_frozen BK952.out 0;have hfz15_1:=blk_frozen BK952.out 1;have hfz15_2:=blk_frozen BK952.out 2)|((with_reducible refine gate_callee (f:=73) rfl ?_);refine goesL_ (some 25) rfl rfl Try.func73 (by kernel_rfl) rfl #[.agg #[.int .i64 4, .bool false, .slice Ao11 y949.length co11], .int .i64 3, .int .i64 0] rfl (by(try simp only[List.map_toArray,List.map_cons,List.map_nil]);first|done|rfl|(simp only[List.length_drop,List.length_take];rfl)) ?_;(with_reducible refine(maxflow_Most.calls k 4 false _ _ y949 3 0 t958 t959 _ ?side1 ?side2 A2.out).mono ?_);(case side1=>repeat(first|exact(Kd.R_reads' HO951.out).2.2|(with_reducible refine Kd.C_alloc ?_ _)|(with_reducible refine Kd.C_drewN ?_ _)|(with_reducible refine Kd.C_drew ?_)));(case side2=>exact(Kd.R_reads' HO951.out).2.1);rintro e w16 ⟨rfl,hb⟩;refine⟨_,rfl,?_⟩;have n0_:=Aside0.mk (Kd.R_below (by(with_reducible repeat(first|apply Kd.R_alloc|apply Kd.R_drewN|apply Kd.R_drew));exact HO951.out) hb);have n1_:=Aside0.mk (Kd.R_below (by(with_reducible repeat(first|apply Kd.R_alloc|apply Kd.R_drewN|apply Kd.R_drew));exact HO955.out) hb);have n2_:=Aside0.mk (blk_below (g:=gb952) (o:= .cells #[.int .i64 4, .bool false, .slice Ao11 y949.length co11] 24 (0,0)) (by(with_reducible repeat(first|refine blk_drewN ?_ _|refine blk_drew ?_|refine blk_alloc ?_ _));exact BK952.out) hb);have n3_:=Aside0.mk (below_step (by repeat(first|(with_reducible first|exact HB.out|apply below_alloc|apply pw_below_drewN|apply below_drew1|refine below_set ?_ GE952.out)|exact HB.out)) hb);clear HO951;clear HO955;clear BK952;clear HB;have HO951:=n0_;have HO955:=n1_;have BK952:=n2_;have HB:=n3_;clear n0_ n1_ n2_ n3_;(try clear hb);(try clear hb2);(try clear hk);(try clear hi);have hcz17_0:w16.cell? ⟨gb952,0,none⟩=some (.int .i64 4):=(blk_cell BK952.out 0).trans rfl;have hcz17_1:w16.cell? ⟨gb952,1,none⟩=some (.bool false):=(blk_cell BK952.out 1).trans rfl;have hcz17_2:w16.cell? ⟨gb952,2,none⟩=some (.slice Ao11 y949.length co11):=(blk_cell BK952.out 2).trans rfl;have hfz17_0:=blk_frozen BK952.out 0;have hfz17_1:=blk_frozen BK952.out 1;have hfz17_2:=blk_frozen BK952.out 2)|((with_reducible refine gate_callee (f:=76) rfl ?_);refine goesL_ (some 30) rfl rfl Try.func76 (by kernel_rfl) rfl #[.agg #[.int .i64 4, .bool false, .slice Ao11 y949.length co11], .int .i64 1, .int .i64 1] rfl (by(try simp only[List.map_toArray,List.map_cons,List.map_nil]);first|done|rfl|(simp only[List.length_drop,List.length_take];rfl)) ?_;(with_reducible refine(maxflow_Max.calls k 4 false _ _ y949 1 1 t960 t963 t964 _ ?side1 ?side2 A3.out).mono ?_);(case side1=>repeat(first|exact(Kd.R_reads' HO951.out).2.2|(with_reducible refine Kd.C_alloc ?_ _)|(with_reducible refine Kd.C_drewN ?_ _)|(with_reducible refine Kd.C_drew ?_)));(case side2=>exact(Kd.R_reads' HO951.out).2.1);rintro e w18 ⟨v961,rfl,ho0,hb⟩;refine⟨_,rfl,?_⟩;have n0_:=Aside0.mk (Kd.R_below (by(with_reducible repeat(first|apply Kd.R_alloc|apply Kd.R_drewN|apply Kd.R_drew));exact HO951.out) hb);have n1_:=Aside0.mk (Kd.R_elder' (by(with_reducible repeat(first|apply Kd.R_alloc|apply Kd.R_drewN|apply Kd.R_drew));exact HO955.out) (Kd.R_base ho0) hb);have n2_:=Aside0.mk (Kd.R_lower (Kd.R_new' ho0 (Kd.R_lt (by(with_reducible repeat(first|apply Kd.R_alloc|apply Kd.R_drewN|apply Kd.R_drew));exact HO955.out))) (below_size (by repeat(first|(with_reducible first|exact HB.out|apply below_alloc|apply pw_below_drewN|apply below_drew1|refine below_set ?_ GE952.out)|exact HB.out))));have n3_:=Aside0.mk (blk_below (g:=gb952) (o:= .cells #[.int .i64 4, .bool false, .slice Ao11 y949.length co11] 24 (0,0)) (by(with_reducible repeat(first|refine blk_drewN ?_ _|refine blk_drew ?_|refine blk_alloc ?_ _));exact BK952.out) hb);have n4_:=Aside0.mk (below_step (by repeat(first|(with_reducible first|exact HB.out|apply below_alloc|apply pw_below_drewN|apply below_drew1|refine below_set ?_ GE952.out)|exact HB.out)) hb);clear HO951;clear HO955;clear BK952;clear HB;have HO951:=n0_;have HO955:=n1_;have HO962:=n2_;have BK952:=n3_;have HB:=n4_;clear n0_ n1_ n2_ n3_ n4_;(try clear hb);(try clear hb2);(try clear hk);(try clear hi);(try clear ho0);obtain⟨Ao19,co19,eo19⟩:=Kd.R_slice HO955.out;subst eo19))
 go_ret
 exact⟨by first|rfl|(simp[errW_none,errW_some]<;>rfl)|(simp[*,errW_none,errW_some]<;>rfl),by repeat(first|(with_reducible first|exact HB.out|apply below_alloc|apply pw_below_drewN|apply below_drew1|refine below_set ?_ GE952.out)|exact HB.out)⟩
end Go.Proofs.Ytkcpanpdipmmmaa.P
namespace Go.Proofs.Ytkcpanpdipmmmaa.H
open Go.RowKit Go.Proofs.YtkcpanpdipmmmaaW.PrintWords Go.Proofs.YtkcpanpdipmmmaaW.PrintLast Go.Proofs.YtkcpanpdipmmmaaW.PrintMore Go.Proofs.Ytkcpanpdipmmmaa.P
def fewN (n nd:Int):Int:=if nd<n∧n≤50 then nd else n
def fewL (l:List S74) (ar:Nat):List S74:=if ar<l.length∧l.length≤200 then l.take ar else l
theorem fewL_C {w:World} {A:Option Addr} {l:List S74} (h:Kd.C k74 w A l.length l) (ar:Nat):Kd.C k74 w A (fewL l ar).length (fewL l ar):=by
 unfold fewL
 split
 ·exact Kd.C_take h (by omega)
 ·exact h
theorem fewL_le (l:List S74) (ar:Nat):(fewL l ar).length≤l.length:=by
 unfold fewL
 split
 ·rw[List.length_take];omega
 ·exact Nat.le_refl _
set_option maxHeartbeats 4000000 in
set_option maxRecDepth 100000 in
theorem few_calls (n:Int) (b:Bool) (A:Option Addr) (c:Nat) (l:List S74) (nd:Int) (ar:Nat) (w:World) (har:ar≤200) (hc:l.length≤c) (hC:Kd.C k74 w A l.length l):
  Calls Try.prog 66 #[.agg #[.int .i64 n, .bool b, .slice A l.length c], .int .i64 nd, .int .i64 (ar:Int)] w fun e w'=>e= .returned (.agg #[.int .i64 (fewN n nd), .bool b, .slice A (fewL l ar).length c])∧Below w.heap.size w w':=by
 have hu24:=Try.underlying24
 have hu22:=Try.underlying22
 have hA:0<l.length→ ∃ ad,A=some ad:=fun h=>by obtain⟨ad,e,_⟩:=hC.2.2 h;exact⟨ad,e⟩
 have HAD:=Aside0.mk hA
 clear hA hC
 go_enter Try.func66,Try.ntmps66
 go_upto_region 1 with (first|((with_reducible refine gate_dst (N:=3) rfl ?_);refine box_event ?hg (N:=3) ?hd (cs:= #[.int .i64 n, .bool b, .slice A l.length c]) (t:=24) ?hr ?_;(case hd=>rfl);(case hg=>rfl);(case hr=>first|(go_simp;done)|(go_simp;rfl));intro g3 hg3 w5 hbox hb;have B3:=Aside0.mk hbox;have HB:=Aside0.mk hb;have HG3:=Aside0.mk hg3;clear hg3 hbox hb)|fail)
 have B6:Aside0 ((w5.alloc (.cells #[.int .i64 0, .bool false, .slice none 0 0] 24)).heap[w5.heap.size]? =some (.cells #[.int .i64 0, .bool false, .slice none 0 0] 24 (0,0))):=⟨heap_alloc_new w5 _⟩
 have m0_:=Aside0.mk (blk_below B3.out (below_alloc (Below.refl _ _) (.cells #[.int .i64 0, .bool false, .slice none 0 0] 24)))
 have m1_:=Aside0.mk (below_alloc HB.out (.cells #[.int .i64 0, .bool false, .slice none 0 0] 24))
 have hg36:g3<w5.heap.size:=blk_lt B3.out
 have hgw:w.heap.size≤g3:=by have:=HG3.out;omega
 clear B3 HB HG3
 have B3:=m0_
 have HB:=m1_
 clear m0_ m1_
 generalize w5.alloc (.cells #[.int .i64 0, .bool false, .slice none 0 0] 24)=w6 at *
 generalize w5.heap.size=g6 at *
 have h0:w6.cell? ⟨g3,0,none⟩=some (.int .i64 n):=(blk_cell B3.out 0).trans rfl
 have h1:w6.cell? ⟨g3,1,none⟩=some (.bool b):=(blk_cell B3.out 1).trans rfl
 have h2:w6.cell? ⟨g3,2,none⟩=some (.slice A l.length c):=(blk_cell B3.out 2).trans rfl
 have f0:=blk_frozen B3.out 0
 have hg63:g6≠g3:=by omega
 have hgw6:w.heap.size≤g6:=by omega
 by_cases hn:nd<n
 ·have e1:decide (nd<n)=true:=decide_eq_true hn
  by_cases h50:n≤50
  ·have e2:decide (n≤50)=true:=decide_eq_true h50
   have e3:fewN n nd=nd:=by unfold fewN;rw[if_pos ⟨hn,h50⟩]
   have E3:=Aside0.mk e3
   clear e3
   go_upto_region 3 with fail
   have C3:Aside0 ((w6.setCell ⟨g3,0,none⟩ (.int .i64 nd)).heap[g3]? =some (.cells #[.int .i64 nd, .bool b, .slice A l.length c] 24 (0,0))):=⟨(blk_set B3.out 0 (.int .i64 nd)).trans rfl⟩
   have C6:Aside0 ((w6.setCell ⟨g3,0,none⟩ (.int .i64 nd)).heap[g6]? =some (.cells #[.int .i64 0, .bool false, .slice none 0 0] 24 (0,0))):=⟨blk_far B6.out (p:=⟨g3,0,none⟩) hg63 _⟩
   have HC:Aside0 (Below w.heap.size w (w6.setCell ⟨g3,0,none⟩ (.int .i64 nd))):=⟨below_set HB.out hgw⟩
   clear B3 B6 HB h0 h1 h2 f0
   generalize w6.setCell ⟨g3,0,none⟩ (.int .i64 nd)=w7 at *
   have f2:=blk_frozen C3.out 2
   have x2:w7.cell? ⟨g3,2,none⟩=some (.slice A l.length c):=(blk_cell C3.out 2).trans rfl
   by_cases hl:ar<l.length
   ·have d1:decide ((ar:Int)<(l.length:Int))=true:=decide_eq_true (by omega)
    by_cases hl2:l.length≤200
    ·have d2:decide ((l.length:Int)≤200)=true:=decide_eq_true (by omega)
     obtain⟨ad,rfl⟩:=HAD.out (by omega)
     have r1:(0:Int)≤(ar:Int):=by omega
     have r2:(ar:Int)≤(c:Int):=by omega
     have e4:(fewL l ar).length=ar:=by unfold fewL;rw[if_pos ⟨hl,hl2⟩,List.length_take];omega
     have E4:=Aside0.mk e4
     clear e4
     go_upto_region 5 with fail
     have D3:Aside0 ((w7.setCell ⟨g3,2,none⟩ (.slice (some ad) ar c)).heap[g3]? =some (.cells #[.int .i64 nd, .bool b, .slice (some ad) ar c] 24 (0,0))):=⟨(blk_set C3.out 2 _).trans rfl⟩
     have D6:Aside0 ((w7.setCell ⟨g3,2,none⟩ (.slice (some ad) ar c)).heap[g6]? =some (.cells #[.int .i64 0, .bool false, .slice none 0 0] 24 (0,0))):=⟨blk_far C6.out (p:=⟨g3,2,none⟩) hg63 _⟩
     have HD:Aside0 (Below w.heap.size w (w7.setCell ⟨g3,2,none⟩ (.slice (some ad) ar c))):=⟨below_set HC.out hgw⟩
     clear C3 C6 HC f2 x2
     generalize w7.setCell ⟨g3,2,none⟩ (.slice (some ad) ar c)=w8 at *
     have C3:=D3
     have C6:=D6
     have HC:=HD
     clear D3 D6 HD
     have k0:w8.cell? ⟨g3,0,none⟩=some (.int .i64 nd):=(blk_cell C3.out 0).trans rfl;have k1:w8.cell? ⟨g3,1,none⟩=some (.bool b):=(blk_cell C3.out 1).trans rfl;have k2:w8.cell? ⟨g3,2,none⟩=some (.slice (some ad) ar c):=(blk_cell C3.out 2).trans rfl;have j0:w8.cell? ⟨g6,0,none⟩=some (.int .i64 0):=(blk_cell C6.out 0).trans rfl;have j1:w8.cell? ⟨g6,1,none⟩=some (.bool false):=(blk_cell C6.out 1).trans rfl;have j2:w8.cell? ⟨g6,2,none⟩=some (.slice none 0 0):=(blk_cell C6.out 2).trans rfl;have q0:=blk_frozen C6.out 0;have q1:=blk_frozen C6.out 1;have q2:=blk_frozen C6.out 2;go_wp2_with fail;refine bodyPost_ret (results_cell_row rfl _ _ g6 24 #[.int .i64 nd, .bool b, .slice (some ad) ar c] (0,0) _ rfl (blk_put (cs:= #[.int .i64 nd, .bool b, .slice none 0 0]) (blk_put (cs:= #[.int .i64 nd, .bool false, .slice none 0 0]) (blk_put (cs:= #[.int .i64 0, .bool false, .slice none 0 0]) C6.out 0 _ rfl) 1 _ rfl) 2 _ rfl) Try.underlying24 rfl (by kernel_rfl)) rfl ?_;exact⟨by rw[E3.out,E4.out],below_set (below_set (below_set HC.out hgw6) hgw6) hgw6⟩
    ·have d2:decide ((l.length:Int)≤200)=false:=decide_eq_false (by omega)
     have e4:fewL l ar=l:=by unfold fewL;rw[if_neg (fun h=>by omega)]
     have E4:=Aside0.mk e4
     clear e4
     go_upto_region 5 with fail
     clear f2 x2
     have k0:w7.cell? ⟨g3,0,none⟩=some (.int .i64 nd):=(blk_cell C3.out 0).trans rfl;have k1:w7.cell? ⟨g3,1,none⟩=some (.bool b):=(blk_cell C3.out 1).trans rfl;have k2:w7.cell? ⟨g3,2,none⟩=some (.slice A l.length c):=(blk_cell C3.out 2).trans rfl;have j0:w7.cell? ⟨g6,0,none⟩=some (.int .i64 0):=(blk_cell C6.out 0).trans rfl;have j1:w7.cell? ⟨g6,1,none⟩=some (.bool false):=(blk_cell C6.out 1).trans rfl;have j2:w7.cell? ⟨g6,2,none⟩=some (.slice none 0 0):=(blk_cell C6.out 2).trans rfl;have q0:=blk_frozen C6.out 0;have q1:=blk_frozen C6.out 1;have q2:=blk_frozen C6.out 2;go_wp2_with fail;refine bodyPost_ret (results_cell_row rfl _ _ g6 24 #[.int .i64 nd, .bool b, .slice A l.length c] (0,0) _ rfl (blk_put (cs:= #[.int .i64 nd, .bool b, .slice none 0 0]) (blk_put (cs:= #[.int .i64 nd, .bool false, .slice none 0 0]) (blk_put (cs:= #[.int .i64 0, .bool false, .slice none 0 0]) C6.out 0 _ rfl) 1 _ rfl) 2 _ rfl) Try.underlying24 rfl (by kernel_rfl)) rfl ?_;exact⟨by rw[E3.out,E4.out],below_set (below_set (below_set HC.out hgw6) hgw6) hgw6⟩
   ·have d1:decide ((ar:Int)<(l.length:Int))=false:=decide_eq_false (by omega)
    have e4:fewL l ar=l:=by unfold fewL;rw[if_neg (fun h=>by omega)]
    have E4:=Aside0.mk e4
    clear e4
    go_upto_region 5 with fail
    clear f2 x2
    have k0:w7.cell? ⟨g3,0,none⟩=some (.int .i64 nd):=(blk_cell C3.out 0).trans rfl;have k1:w7.cell? ⟨g3,1,none⟩=some (.bool b):=(blk_cell C3.out 1).trans rfl;have k2:w7.cell? ⟨g3,2,none⟩=some (.slice A l.length c):=(blk_cell C3.out 2).trans rfl;have j0:w7.cell? ⟨g6,0,none⟩=some (.int .i64 0):=(blk_cell C6.out 0).trans rfl;have j1:w7.cell? ⟨g6,1,none⟩=some (.bool false):=(blk_cell C6.out 1).trans rfl;have j2:w7.cell? ⟨g6,2,none⟩=some (.slice none 0 0):=(blk_cell C6.out 2).trans rfl;have q0:=blk_frozen C6.out 0;have q1:=blk_frozen C6.out 1;have q2:=blk_frozen C6.out 2;go_wp2_with fail;refine bodyPost_ret (results_cell_row rfl _ _ g6 24 #[.int .i64 nd, .bool b, .slice A l.length c] (0,0) _ rfl (blk_put (cs:= #[.int .i64 nd, .bool b, .slice none 0 0]) (blk_put (cs:= #[.int .i64 nd, .bool false, .slice none 0 0]) (blk_put (cs:= #[.int .i64 0, .bool false, .slice none 0 0]) C6.out 0 _ rfl) 1 _ rfl) 2 _ rfl) Try.underlying24 rfl (by kernel_rfl)) rfl ?_;exact⟨by rw[E3.out,E4.out],below_set (below_set (below_set HC.out hgw6) hgw6) hgw6⟩
  ·have e2:decide (n≤50)=false:=decide_eq_false h50
   have e3:fewN n nd=n:=by unfold fewN;rw[if_neg (fun h=>by omega)]
   have E3:=Aside0.mk e3
   clear e3 h0 h1 h2 f0
   have C3:=B3
   have C6:=B6
   have HC:=HB
   clear B3 B6 HB
   have h0:w6.cell? ⟨g3,0,none⟩=some (.int .i64 n):=(blk_cell C3.out 0).trans rfl
   go_upto_region 3 with fail
   clear h0
   have f2:=blk_frozen C3.out 2
   have x2:w6.cell? ⟨g3,2,none⟩=some (.slice A l.length c):=(blk_cell C3.out 2).trans rfl
   by_cases hl:ar<l.length
   ·have d1:decide ((ar:Int)<(l.length:Int))=true:=decide_eq_true (by omega)
    by_cases hl2:l.length≤200
    ·have d2:decide ((l.length:Int)≤200)=true:=decide_eq_true (by omega)
     obtain⟨ad,rfl⟩:=HAD.out (by omega)
     have r1:(0:Int)≤(ar:Int):=by omega
     have r2:(ar:Int)≤(c:Int):=by omega
     have e4:(fewL l ar).length=ar:=by unfold fewL;rw[if_pos ⟨hl,hl2⟩,List.length_take];omega
     have E4:=Aside0.mk e4
     clear e4
     go_upto_region 5 with fail
     have D3:Aside0 ((w6.setCell ⟨g3,2,none⟩ (.slice (some ad) ar c)).heap[g3]? =some (.cells #[.int .i64 n, .bool b, .slice (some ad) ar c] 24 (0,0))):=⟨(blk_set C3.out 2 _).trans rfl⟩
     have D6:Aside0 ((w6.setCell ⟨g3,2,none⟩ (.slice (some ad) ar c)).heap[g6]? =some (.cells #[.int .i64 0, .bool false, .slice none 0 0] 24 (0,0))):=⟨blk_far C6.out (p:=⟨g3,2,none⟩) hg63 _⟩
     have HD:Aside0 (Below w.heap.size w (w6.setCell ⟨g3,2,none⟩ (.slice (some ad) ar c))):=⟨below_set HC.out hgw⟩
     clear C3 C6 HC f2 x2
     generalize w6.setCell ⟨g3,2,none⟩ (.slice (some ad) ar c)=w8 at *
     have C3:=D3
     have C6:=D6
     have HC:=HD
     clear D3 D6 HD
     have k0:w8.cell? ⟨g3,0,none⟩=some (.int .i64 n):=(blk_cell C3.out 0).trans rfl;have k1:w8.cell? ⟨g3,1,none⟩=some (.bool b):=(blk_cell C3.out 1).trans rfl;have k2:w8.cell? ⟨g3,2,none⟩=some (.slice (some ad) ar c):=(blk_cell C3.out 2).trans rfl;have j0:w8.cell? ⟨g6,0,none⟩=some (.int .i64 0):=(blk_cell C6.out 0).trans rfl;have j1:w8.cell? ⟨g6,1,none⟩=some (.bool false):=(blk_cell C6.out 1).trans rfl;have j2:w8.cell? ⟨g6,2,none⟩=some (.slice none 0 0):=(blk_cell C6.out 2).trans rfl;have q0:=blk_frozen C6.out 0;have q1:=blk_frozen C6.out 1;have q2:=blk_frozen C6.out 2;go_wp2_with fail;refine bodyPost_ret (results_cell_row rfl _ _ g6 24 #[.int .i64 n, .bool b, .slice (some ad) ar c] (0,0) _ rfl (blk_put (cs:= #[.int .i64 n, .bool b, .slice none 0 0]) (blk_put (cs:= #[.int .i64 n, .bool false, .slice none 0 0]) (blk_put (cs:= #[.int .i64 0, .bool false, .slice none 0 0]) C6.out 0 _ rfl) 1 _ rfl) 2 _ rfl) Try.underlying24 rfl (by kernel_rfl)) rfl ?_;exact⟨by rw[E3.out,E4.out],below_set (below_set (below_set HC.out hgw6) hgw6) hgw6⟩
    ·have d2:decide ((l.length:Int)≤200)=false:=decide_eq_false (by omega)
     have e4:fewL l ar=l:=by unfold fewL;rw[if_neg (fun h=>by omega)]
     have E4:=Aside0.mk e4
     clear e4
     go_upto_region 5 with fail
     clear f2 x2
     have k0:w6.cell? ⟨g3,0,none⟩=some (.int .i64 n):=(blk_cell C3.out 0).trans rfl;have k1:w6.cell? ⟨g3,1,none⟩=some (.bool b):=(blk_cell C3.out 1).trans rfl;have k2:w6.cell? ⟨g3,2,none⟩=some (.slice A l.length c):=(blk_cell C3.out 2).trans rfl;have j0:w6.cell? ⟨g6,0,none⟩=some (.int .i64 0):=(blk_cell C6.out 0).trans rfl;have j1:w6.cell? ⟨g6,1,none⟩=some (.bool false):=(blk_cell C6.out 1).trans rfl;have j2:w6.cell? ⟨g6,2,none⟩=some (.slice none 0 0):=(blk_cell C6.out 2).trans rfl;have q0:=blk_frozen C6.out 0;have q1:=blk_frozen C6.out 1;have q2:=blk_frozen C6.out 2;go_wp2_with fail;refine bodyPost_ret (results_cell_row rfl _ _ g6 24 #[.int .i64 n, .bool b, .slice A l.length c] (0,0) _ rfl (blk_put (cs:= #[.int .i64 n, .bool b, .slice none 0 0]) (blk_put (cs:= #[.int .i64 n, .bool false, .slice none 0 0]) (blk_put (cs:= #[.int .i64 0, .bool false, .slice none 0 0]) C6.out 0 _ rfl) 1 _ rfl) 2 _ rfl) Try.underlying24 rfl (by kernel_rfl)) rfl ?_;exact⟨by rw[E3.out,E4.out],below_set (below_set (below_set HC.out hgw6) hgw6) hgw6⟩
   ·have d1:decide ((ar:Int)<(l.length:Int))=false:=decide_eq_false (by omega)
    have e4:fewL l ar=l:=by unfold fewL;rw[if_neg (fun h=>by omega)]
    have E4:=Aside0.mk e4
    clear e4
    go_upto_region 5 with fail
    clear f2 x2
    have k0:w6.cell? ⟨g3,0,none⟩=some (.int .i64 n):=(blk_cell C3.out 0).trans rfl;have k1:w6.cell? ⟨g3,1,none⟩=some (.bool b):=(blk_cell C3.out 1).trans rfl;have k2:w6.cell? ⟨g3,2,none⟩=some (.slice A l.length c):=(blk_cell C3.out 2).trans rfl;have j0:w6.cell? ⟨g6,0,none⟩=some (.int .i64 0):=(blk_cell C6.out 0).trans rfl;have j1:w6.cell? ⟨g6,1,none⟩=some (.bool false):=(blk_cell C6.out 1).trans rfl;have j2:w6.cell? ⟨g6,2,none⟩=some (.slice none 0 0):=(blk_cell C6.out 2).trans rfl;have q0:=blk_frozen C6.out 0;have q1:=blk_frozen C6.out 1;have q2:=blk_frozen C6.out 2;go_wp2_with fail;refine bodyPost_ret (results_cell_row rfl _ _ g6 24 #[.int .i64 n, .bool b, .slice A l.length c] (0,0) _ rfl (blk_put (cs:= #[.int .i64 n, .bool b, .slice none 0 0]) (blk_put (cs:= #[.int .i64 n, .bool false, .slice none 0 0]) (blk_put (cs:= #[.int .i64 0, .bool false, .slice none 0 0]) C6.out 0 _ rfl) 1 _ rfl) 2 _ rfl) Try.underlying24 rfl (by kernel_rfl)) rfl ?_;exact⟨by rw[E3.out,E4.out],below_set (below_set (below_set HC.out hgw6) hgw6) hgw6⟩
 ·have e1:decide (nd<n)=false:=decide_eq_false hn
  have e3:fewN n nd=n:=by unfold fewN;rw[if_neg (fun h=>by omega)]
  have E3:=Aside0.mk e3
  clear e3 h0 h1 h2 f0
  have C3:=B3
  have C6:=B6
  have HC:=HB
  clear B3 B6 HB
  have h0:w6.cell? ⟨g3,0,none⟩=some (.int .i64 n):=(blk_cell C3.out 0).trans rfl
  go_upto_region 3 with fail
  clear h0
  have f2:=blk_frozen C3.out 2
  have x2:w6.cell? ⟨g3,2,none⟩=some (.slice A l.length c):=(blk_cell C3.out 2).trans rfl
  by_cases hl:ar<l.length
  ·have d1:decide ((ar:Int)<(l.length:Int))=true:=decide_eq_true (by omega)
   by_cases hl2:l.length≤200
   ·have d2:decide ((l.length:Int)≤200)=true:=decide_eq_true (by omega)
    obtain⟨ad,rfl⟩:=HAD.out (by omega)
    have r1:(0:Int)≤(ar:Int):=by omega
    have r2:(ar:Int)≤(c:Int):=by omega
    have e4:(fewL l ar).length=ar:=by unfold fewL;rw[if_pos ⟨hl,hl2⟩,List.length_take];omega
    have E4:=Aside0.mk e4
    clear e4
    go_upto_region 5 with fail
    have D3:Aside0 ((w6.setCell ⟨g3,2,none⟩ (.slice (some ad) ar c)).heap[g3]? =some (.cells #[.int .i64 n, .bool b, .slice (some ad) ar c] 24 (0,0))):=⟨(blk_set C3.out 2 _).trans rfl⟩
    have D6:Aside0 ((w6.setCell ⟨g3,2,none⟩ (.slice (some ad) ar c)).heap[g6]? =some (.cells #[.int .i64 0, .bool false, .slice none 0 0] 24 (0,0))):=⟨blk_far C6.out (p:=⟨g3,2,none⟩) hg63 _⟩
    have HD:Aside0 (Below w.heap.size w (w6.setCell ⟨g3,2,none⟩ (.slice (some ad) ar c))):=⟨below_set HC.out hgw⟩
    clear C3 C6 HC f2 x2
    generalize w6.setCell ⟨g3,2,none⟩ (.slice (some ad) ar c)=w8 at *
    have C3:=D3
    have C6:=D6
    have HC:=HD
    clear D3 D6 HD
    have k0:w8.cell? ⟨g3,0,none⟩=some (.int .i64 n):=(blk_cell C3.out 0).trans rfl;have k1:w8.cell? ⟨g3,1,none⟩=some (.bool b):=(blk_cell C3.out 1).trans rfl;have k2:w8.cell? ⟨g3,2,none⟩=some (.slice (some ad) ar c):=(blk_cell C3.out 2).trans rfl;have j0:w8.cell? ⟨g6,0,none⟩=some (.int .i64 0):=(blk_cell C6.out 0).trans rfl;have j1:w8.cell? ⟨g6,1,none⟩=some (.bool false):=(blk_cell C6.out 1).trans rfl;have j2:w8.cell? ⟨g6,2,none⟩=some (.slice none 0 0):=(blk_cell C6.out 2).trans rfl;have q0:=blk_frozen C6.out 0;have q1:=blk_frozen C6.out 1;have q2:=blk_frozen C6.out 2;go_wp2_with fail;refine bodyPost_ret (results_cell_row rfl _ _ g6 24 #[.int .i64 n, .bool b, .slice (some ad) ar c] (0,0) _ rfl (blk_put (cs:= #[.int .i64 n, .bool b, .slice none 0 0]) (blk_put (cs:= #[.int .i64 n, .bool false, .slice none 0 0]) (blk_put (cs:= #[.int .i64 0, .bool false, .slice none 0 0]) C6.out 0 _ rfl) 1 _ rfl) 2 _ rfl) Try.underlying24 rfl (by kernel_rfl)) rfl ?_;exact⟨by rw[E3.out,E4.out],below_set (below_set (below_set HC.out hgw6) hgw6) hgw6⟩
   ·have d2:decide ((l.length:Int)≤200)=false:=decide_eq_false (by omega)
    have e4:fewL l ar=l:=by unfold fewL;rw[if_neg (fun h=>by omega)]
    have E4:=Aside0.mk e4
    clear e4
    go_upto_region 5 with fail
    clear f2 x2
    have k0:w6.cell? ⟨g3,0,none⟩=some (.int .i64 n):=(blk_cell C3.out 0).trans rfl;have k1:w6.cell? ⟨g3,1,none⟩=some (.bool b):=(blk_cell C3.out 1).trans rfl;have k2:w6.cell? ⟨g3,2,none⟩=some (.slice A l.length c):=(blk_cell C3.out 2).trans rfl;have j0:w6.cell? ⟨g6,0,none⟩=some (.int .i64 0):=(blk_cell C6.out 0).trans rfl;have j1:w6.cell? ⟨g6,1,none⟩=some (.bool false):=(blk_cell C6.out 1).trans rfl;have j2:w6.cell? ⟨g6,2,none⟩=some (.slice none 0 0):=(blk_cell C6.out 2).trans rfl;have q0:=blk_frozen C6.out 0;have q1:=blk_frozen C6.out 1;have q2:=blk_frozen C6.out 2;go_wp2_with fail;refine bodyPost_ret (results_cell_row rfl _ _ g6 24 #[.int .i64 n, .bool b, .slice A l.length c] (0,0) _ rfl (blk_put (cs:= #[.int .i64 n, .bool b, .slice none 0 0]) (blk_put (cs:= #[.int .i64 n, .bool false, .slice none 0 0]) (blk_put (cs:= #[.int .i64 0, .bool false, .slice none 0 0]) C6.out 0 _ rfl) 1 _ rfl) 2 _ rfl) Try.underlying24 rfl (by kernel_rfl)) rfl ?_;exact⟨by rw[E3.out,E4.out],below_set (below_set (below_set HC.out hgw6) hgw6) hgw6⟩
  ·have d1:decide ((ar:Int)<(l.length:Int))=false:=decide_eq_false (by omega)
   have e4:fewL l ar=l:=by unfold fewL;rw[if_neg (fun h=>by omega)]
   have E4:=Aside0.mk e4
   clear e4
   go_upto_region 5 with fail
   clear f2 x2
   have k0:w6.cell? ⟨g3,0,none⟩=some (.int .i64 n):=(blk_cell C3.out 0).trans rfl;have k1:w6.cell? ⟨g3,1,none⟩=some (.bool b):=(blk_cell C3.out 1).trans rfl;have k2:w6.cell? ⟨g3,2,none⟩=some (.slice A l.length c):=(blk_cell C3.out 2).trans rfl;have j0:w6.cell? ⟨g6,0,none⟩=some (.int .i64 0):=(blk_cell C6.out 0).trans rfl;have j1:w6.cell? ⟨g6,1,none⟩=some (.bool false):=(blk_cell C6.out 1).trans rfl;have j2:w6.cell? ⟨g6,2,none⟩=some (.slice none 0 0):=(blk_cell C6.out 2).trans rfl;have q0:=blk_frozen C6.out 0;have q1:=blk_frozen C6.out 1;have q2:=blk_frozen C6.out 2;go_wp2_with fail;refine bodyPost_ret (results_cell_row rfl _ _ g6 24 #[.int .i64 n, .bool b, .slice A l.length c] (0,0) _ rfl (blk_put (cs:= #[.int .i64 n, .bool b, .slice none 0 0]) (blk_put (cs:= #[.int .i64 n, .bool false, .slice none 0 0]) (blk_put (cs:= #[.int .i64 0, .bool false, .slice none 0 0]) C6.out 0 _ rfl) 1 _ rfl) 2 _ rfl) Try.underlying24 rfl (by kernel_rfl)) rfl ?_;exact⟨by rw[E3.out,E4.out],below_set (below_set (below_set HC.out hgw6) hgw6) hgw6⟩
end Go.Proofs.Ytkcpanpdipmmmaa.H
namespace Go.Proofs.Ytkcpanpdipmmmaa.Q
open Go.RowKit Go.Proofs.YtkcpanpdipmmmaaW.PrintWords Go.Proofs.YtkcpanpdipmmmaaW.PrintLast Go.Proofs.YtkcpanpdipmmmaaW.PrintMore Go.Proofs.Ytkcpanpdipmmmaa.P
open Go.Proofs.Ytkcpanpdipmmmaa.H (wayP endsErr wayRes wayF wayF_eq StepsOk Right right_of stepsR bfP bfL dOf nodes wayL frP toP esP way_nat bf_same Fd bfP_upto dOf_len dOf_get fnd fnd_some fnd_none fnd_of backL_spec lv_lt esP_fr esP_to steps_ev)
theorem stepsOk {l:List S74} {F:List Int} {n:Nat} (hr:Right l F n):StepsOk l n (stepsR l F F.length):=
 ⟨hr.ends,hr.arcs,fun s hs=>H.stepsR_of hr s hs,by have:=H.stepsR_len l F F.length;have:=hr.len;have:=hr.arcs;omega⟩
theorem way_same {l:List S74} {F:List Int} {n:Nat} (hr:Right l F n) (s v:Nat):wayRes l (stepsR l F F.length) n s (v:Int)=(wayP l F n s v,decide (v∈nodes (bfP l F n s))):=by
 rw[way_nat,bf_same hr]
 unfold wayP
 by_cases h:v∈nodes (bfP l F n s)
 ·rw[if_pos h,if_pos h,decide_eq_true h]
 ·rw[if_neg h,if_neg h,decide_eq_false h]
theorem way_ref_eq {l:List S74} {F:List Int} {n:Nat} (hr:Right l F n) {s:Nat} (hs:s<n) (b:Bool) (v:Nat):ebbtideref08_Way.f (n:Int) b l (s:Int) (v:Int) (stepsR l F F.length)=some (wayP l F n s v,decide (v∈nodes (bfP l F n s))):=by
 unfold ebbtideref08_Way.f
 rw[wayF_eq (stepsOk hr) hs hr.fifty,way_same hr]
end Go.Proofs.Ytkcpanpdipmmmaa.Q
namespace Go.Proofs.Ytkcpanpdipmmmaa.Q
open Go.RowKit Go.Proofs.YtkcpanpdipmmmaaW.PrintWords Go.Proofs.YtkcpanpdipmmmaaW.PrintLast Go.Proofs.YtkcpanpdipmmmaaW.PrintMore Go.Proofs.Ytkcpanpdipmmmaa.P
open Go.Proofs.Ytkcpanpdipmmmaa.H (stRoom)
theorem rdStep_nat (l:List S38) (i:Nat):rd_T38 l (i:Int)=l.getD i z38:=by unfold rd_T38;rw[Int.toNat_natCast]
end Go.Proofs.Ytkcpanpdipmmmaa.Q
namespace Go.Proofs.Ytkcpanpdipmmmaa.Q
open Go.RowKit Go.Proofs.YtkcpanpdipmmmaaW.PrintWords Go.Proofs.YtkcpanpdipmmmaaW.PrintLast Go.Proofs.YtkcpanpdipmmmaaW.PrintMore Go.Proofs.Ytkcpanpdipmmmaa.P
open Go.Proofs.Ytkcpanpdipmmmaa.H (endsErr Right right_of StepOf stRoom IsFlow leastR pushW stRoom_in)
theorem flowOk_of {l:List S74} {F:List Int} {n:Nat} (hr:Right l F n):FlowOk l F:=by
 refine⟨hr.len,fun i hi=> ?_⟩
 have:=hr.nums i (by rw[← hr.len];exact hi)
 rw[rd_nat]
 exact⟨this.2.2.1,this.2.2.2.1⟩
section
variable {l:List S74} {F:List Int} {n:Nat}
theorem left_rt (hr:Right l F n) {s:S38} (hs:StepOf l s) (m:Int) (b:Bool):ebbtideref07_Left.f m b l F s.f0 s.f1=some (stRoom l F s):=by
 have h0:=stRoom_in hr hs
 have hl:=hr.len
 obtain⟨i,h1,h2⟩:=hs
 unfold ebbtideref07_Left.f
 unfold stRoom at *
 by_cases g:s.f1=true
 ·simp only[if_pos g] at h0 ⊢
  rw[if_pos (by omega),if_pos (by omega)]
  rfl
 ·simp only[if_neg g] at h0 ⊢
  rw[if_pos (by omega),if_pos (by omega),if_pos (by omega)]
  have e:rd F s.f0=F.getD s.f0.toNat 0:=rfl
  rw[e,wrap_id (by omega) (by omega)]
def minR (l:List S74) (F:List Int):Int→List S38→Int
 |a,[]=>a
 |a,s::L=>minR l F (min a (stRoom l F s)) L
theorem minR_least (l:List S74) (F:List Int): ∀ (L:List S38) (a:Int),L≠[]→minR l F a L=min a (leastR l F L)
 |[],a,h=>absurd rfl h
 |[s],a,_=>rfl
 |s::t::L,a,_=>by
  show minR l F (min a (stRoom l F s)) (t::L)=_
  rw[minR_least l F (t::L) _ (by simp)]
  show _=min a (min (stRoom l F s) (leastR l F (t::L)))
  omega
theorem bottle_l0 (hr:Right l F n) (b:Bool) (m:Int) {W:List S38} (hW: ∀ s,s∈W→StepOf l s) (hl:W.length≤1000000) (d:Nat): ∀ (i:Nat) (a:Int),i+d=W.length→
  Ev (fun k=>ebbtideref08_Bottle.l0 k F W a (i:Int) m b l) (minR l F a (W.drop i)):=by
 induction d with
 |zero=>
  intro i a hi
  refine Ev.succ ?_;simp only[ebbtideref08_Bottle.l0]
  refine Ev.neg (by omega) ?_
  exact Ev.done (by rw[List.drop_of_length_le (by omega)];rfl)
 |succ d ih=>
  intro i a hi
  refine Ev.succ ?_;simp only[ebbtideref08_Bottle.l0]
  refine Ev.pos (by omega) ?_
  refine Ev.pos (by omega) ?_
  rw[rdStep_nat]
  have hm:W.getD i z38∈W:=by rw[List.getD_eq_getElem?_getD,List.getElem?_eq_getElem (by omega)];exact List.getElem_mem _
  refine Ev.call (left_rt hr (hW _ hm) m b) ?_
  rw[wrap_succ (n:=W.length) (by omega) (by omega),drop_getD W i z38 (by omega)]
  have e:mn a (stRoom l F (W.getD i z38))=min a (stRoom l F (W.getD i z38)):=by unfold mn;split<;>omega
  rw[e]
  exact ih (i+1) _ (by omega)
theorem bottle_ev (hr:Right l F n) (b:Bool) (m:Int) {W:List S38} (hW: ∀ s,s∈W→StepOf l s) (hl:W.length≤1000000) (hne:W≠[]):Ev (fun k=>ebbtideref08_Bottle.f k m b l F W) (leastR l F W):=by
 cases W with
 |nil=>exact absurd rfl hne
 |cons s W=>
  unfold ebbtideref08_Bottle.f
  refine Ev.pos (by simp) ?_
  have e0:rd_T38 (s::W) 0=s:=rfl
  rw[e0]
  refine Ev.call (left_rt hr (hW s List.mem_cons_self) m b) ?_
  refine Ev.eq (bottle_l0 hr b m hW hl W.length 1 (stRoom l F s) (by simp;omega)) ?_
  show minR l F (stRoom l F s) W=_
  cases W with
  |nil=>rfl
  |cons t W=>
   rw[minR_least l F (t::W) _ (by simp)]
   rfl
end
end Go.Proofs.Ytkcpanpdipmmmaa.Q
namespace Go.Proofs.Ytkcpanpdipmmmaa.Q
open Go.RowKit Go.Proofs.YtkcpanpdipmmmaaW.PrintWords Go.Proofs.YtkcpanpdipmmmaaW.PrintLast Go.Proofs.YtkcpanpdipmmmaaW.PrintMore Go.Proofs.Ytkcpanpdipmmmaa.P
open Go.Proofs.Ytkcpanpdipmmmaa.H (wayP Right bfP dOf nodes wayL frP toP esP bfP_upto dOf_len backL backL_spec esP_fr esP_to stFrom stTo stRoom mem_esP stL_of StepOf Leads netG fds_lt dOf_mem fnd fnd_some)
theorem leads_imp {α:Type} {to_:α→Nat} {es es':Nat→List α} (h: ∀ u e,e∈es u→e∈es' u): ∀ {L:List α} {u t:Nat},Leads to_ es u L t→Leads to_ es' u L t
 |[],u,t,hl=>hl
 |e::L,u,t,hl=>⟨h _ _ hl.1,leads_imp h hl.2⟩
theorem backL_mem {fr:S38→Nat} {st:List (H.Fd S38)} {s:Nat} (k:Nat): ∀ {v:Nat} {e:S38},e∈backL fr st s k v→ ∃ x,x∈st∧x.v≠s∧x.by_=e:=by
 induction k with
 |zero=>intro v e h;cases h
 |succ k ih=>
  intro v e h
  unfold backL at h
  by_cases hv:v=s
  ·rw[if_pos hv] at h;cases h
  ·rw[if_neg hv] at h
   cases hf:fnd st v with
   |none=>rw[hf] at h;cases h
   |some x=>
    rw[hf] at h
    rcases List.mem_cons.1 h with h|h
    ·obtain⟨h1,h2⟩:=fnd_some hf
     exact⟨x,h1,by omega,h.symm⟩
    ·exact ih h
section
variable {l:List S74} {F:List Int} {n s t:Nat}
theorem wayP_fact (hr:Right l F n) (hs:s<n) (hm:t∈nodes (bfP l F n s)):Leads (toP l) (fun v=>H.stL l v l.length) s (wayP l F n s t) t∧ ∀ e,e∈wayP l F n s t→(netG l F (dOf n (bfP l F n s))).adm (frP l e) e=true:=by
 have hu:=(bfP_upto hr hs).fds
 obtain⟨x,hx,hxt⟩:=List.mem_map.1 hm
 have hW:wayP l F n s t=(backL (frP l) (bfP l F n s) s x.lv x.v).reverse:=by rw[← hxt];exact H.way_of hr hs hu ⟨[],by rw[List.append_nil]⟩ hx
 rw[hW]
 constructor
 ·have h_:=(backL_spec hu esP_fr _ hx (Nat.le_refl _)).2
  rw[hxt] at h_
  exact leads_imp (fun u e he=>(mem_esP.1 he).1) (by rw[hxt];exact h_)
 ·intro e he
  rw[List.mem_reverse] at he
  obtain⟨y,hy,hyne,hye⟩:=backL_mem _ he
  rcases hu.mem_lv hy with ⟨h1,_⟩|⟨_,hto,z,hz,hze,hlv⟩
  ·exact absurd h1 hyne
  rw[hye] at hto hze
  have hfz:=esP_fr _ _ hze
  have hzd:=dOf_mem hu.nodup hz (0:Int) (fds_lt hu (esP_to hr) hs _ (List.mem_map_of_mem hz))
  have hyd:=dOf_mem hu.nodup hy (0:Int) (fds_lt hu (esP_to hr) hs _ (List.mem_map_of_mem hy))
  unfold H.Net_.adm
  rw[Bool.and_eq_true,decide_eq_true_eq]
  refine⟨?_,?_⟩
  ·show (dOf n (bfP l F n s)).getD (toP l e) 0=(dOf n (bfP l F n s)).getD (frP l e) 0+1
   rw[hto,hfz]
   have h1:(dOf n (bfP l F n s)).getD y.v 0=(y.lv:Int):=hyd
   have h2:(dOf n (bfP l F n s)).getD z.v 0=(z.lv:Int):=hzd
   omega
  ·show decide (0<stRoom l F e)=true
   exact decide_eq_true (mem_esP.1 hze).2
end
end Go.Proofs.Ytkcpanpdipmmmaa.Q
namespace Go.Proofs.Ytkcpanpdipmmmaa.Q
open Go.RowKit Go.Proofs.YtkcpanpdipmmmaaW.PrintWords Go.Proofs.YtkcpanpdipmmmaaW.PrintLast Go.Proofs.YtkcpanpdipmmmaaW.PrintMore Go.Proofs.Ytkcpanpdipmmmaa.P
open Go.Proofs.Ytkcpanpdipmmmaa.H (endsErr Right right_of StepOf stRoom IsFlow MaxF leastR pushW fillF bfP nodes wayP stepsR steps_ev netG dOf frP toP)
theorem max_fill {l:List S74} {n s t:Nat} (hr:Right l (List.replicate l.length 0) n) (hs:s<n) (ht:t<n) (hst:s≠t):MaxF l (fillF l n s t) n s t:=H.fill_max hr hs ht hst
theorem value_l0 (m:Int) (l:List S74) (f:List Int) (hn:NetOk m l) (hf:FlowOk l f) (v:Int) (d:Nat): ∀ (i:Nat) (acc:Int),i+d=l.length→ -(i * 2097152)≤acc→acc≤i * 2097152→
  Ev (fun k=>maxflow_Value.l0 k v f acc l (l.length:Int) (i:Int)) (acc+bal (l.drop i) (f.drop i) v):=by
 have hlen:=hf.len
 have hl:=hn.len
 induction d with
 |zero=>
  intro i acc hi h0 h1
  refine Ev.succ ?_;simp only[maxflow_Value.l0]
  repeat(first|exact Ev.now _|with_reducible refine Ev.pos (by first|assumption|omega) ?_|with_reducible refine Ev.neg (by first|assumption|omega) ?_|with_reducible refine Ev.let_ ?_)
  rw[List.drop_of_length_le (by omega)]
  exact Ev.done (by simp[bal])
 |succ d ih=>
  intro i acc hi h0 h1
  have hs:=hf.small hn (i:=(i:Int)) (by omega) (by omega)
  refine Ev.succ ?_;simp only[maxflow_Value.l0]
  repeat(first|exact Ev.now _|with_reducible refine Ev.pos (by first|assumption|omega) ?_|with_reducible refine Ev.neg (by first|assumption|omega) ?_|with_reducible refine Ev.let_ ?_)
  rw[wrap_succ (n:=l.length) (by omega) (by omega),drop_getD l i z74 (by omega),drop_getD f i 0 (by omega), ← rdArc_nat, ← rd_nat,bal_cons]
  refine Ev.ite (fun g=> ?_) (fun g=> ?_)
  ·rw[if_pos g]
   refine Ev.pos (by omega) ?_
   refine Ev.ite (fun g2=> ?_) (fun g2=> ?_)
   ·rw[if_pos g2,wrap_id (x:=acc+rd f (i:Int)) (by omega) (by omega),wrap_id (by omega) (by omega)]
    exact Ev.eq (ih (i+1) _ (by omega) (by omega) (by omega)) (by omega)
   ·rw[if_neg g2,wrap_id (x:=acc+rd f (i:Int)) (by omega) (by omega)]
    exact Ev.eq (ih (i+1) _ (by omega) (by omega) (by omega)) (by omega)
  ·rw[if_neg g]
   refine Ev.ite (fun g2=> ?_) (fun g2=> ?_)
   ·refine Ev.pos (by omega) ?_
    rw[if_pos g2,wrap_id (x:=acc - rd f (i:Int)) (by omega) (by omega)]
    exact Ev.eq (ih (i+1) _ (by omega) (by omega) (by omega)) (by omega)
   ·rw[if_neg g2]
    exact Ev.eq (ih (i+1) _ (by omega) (by omega) (by omega)) (by omega)
theorem value_ev (n m:Int) (b:Bool) (l:List S74) (f:List Int) (hn:NetOk m l) (hf:FlowOk l f) (v:Int):Ev (fun k=>maxflow_Value.f k n b l v f) (bal l f v):=by
 unfold maxflow_Value.f
 exact Ev.eq (value_l0 m l f hn hf v l.length 0 0 (by omega) (by omega) (by omega)) (by rw[List.drop_zero,List.drop_zero];omega)
def maxR (n:Int) (l:List S74) (s t:Int):List Int × Int × Int:=
 if endsErr n l s t=0 then(fillF l n.toNat s.toNat t.toNat,bal l (fillF l n.toNat s.toNat t.toNat) s,0) else([],0,endsErr n l s t)
def mostR (n:Int) (l:List S74) (s t:Int):Int × Int:=
 if endsErr n l s t=0 then(bal l (fillF l n.toNat s.toNat t.toNat) s,0) else(0,endsErr n l s t)
theorem fill_eq {n:Int} {l:List S74} {s t:Int} (b:Bool) (h:endsErr n l s t=0):maxflow_Fill.f n b l s t=some (fillF l n.toNat s.toNat t.toNat):=by unfold maxflow_Fill.f;rw[if_pos h]
theorem max_ev (n:Int) (b:Bool) (l:List S74) (s t:Int):Ev (fun k=>maxflow_Max.f k n b l s t) (maxR n l s t):=by
 unfold maxflow_Max.f maxR
 refine Ev.bind (ends_ev n b l s t) ?_
 by_cases h:endsErr n l s t=0
 ·rw[if_pos h]
  refine Ev.pos h ?_
  refine Ev.call (fill_eq b h) ?_
  obtain⟨n0,s0,t0,rfl,rfl,rfl,hs,ht,hst,hn,hr⟩:=ends_zero h
  simp only[Int.toNat_natCast]
  refine Ev.bind (value_ev n0 n0 b l _ hn (flowOk_of (max_fill hr hs ht hst).flow.right) s0) ?_
  exact Ev.now _
 ·rw[if_neg h]
  refine Ev.neg h ?_
  exact Ev.now _
theorem most_ev (n:Int) (b:Bool) (l:List S74) (s t:Int):Ev (fun k=>maxflow_Most.f k n b l s t) (mostR n l s t):=by
 unfold maxflow_Most.f
 refine Ev.bind (max_ev n b l s t) ?_
 refine Ev.done ?_
 unfold maxR mostR
 split<;>rfl
theorem pushed_l0 {l:List S74} {n:Nat} {c:Int} (h0:0≤c) {W:List S38} (hl:W.length≤1000000) (d:Nat): ∀ (i:Nat) (X:List Int),i+d=W.length→Right l X n→(∀ s,s∈W.drop i→StepOf l s∧c≤stRoom l X s)→(W.drop i).Pairwise (fun a b=>a.f0≠b.f0)→
  Ev (fun k=>ebbtideref07_Pushed.l0 k W c X (i:Int)) (pushW X c (W.drop i)):=by
 induction d with
 |zero=>
  intro i X hi _ _ _
  refine Ev.succ ?_;simp only[ebbtideref07_Pushed.l0]
  refine Ev.neg (by omega) ?_
  exact Ev.done (by rw[List.drop_of_length_le (by omega)];rfl)
 |succ d ih=>
  intro i X hi hr hst hp
  have hd:=drop_getD W i z38 (by omega)
  obtain⟨e,hee⟩: ∃ e,e=W.getD i z38:=⟨_,rfl⟩
  rw[← hee] at hd
  rw[hd] at hst hp ⊢
  rw[List.pairwise_cons] at hp
  obtain⟨hso,hrm⟩:=hst e List.mem_cons_self
  have hgo:=hr.go hso h0 hrm
  have hXl:=hr.len
  have hnx:=ih (i+1) (H.goS X e c) (by omega) hgo (fun x hx=>by
   have hx2:=hst x (List.mem_cons_of_mem _ hx)
   exact⟨hx2.1,by rw[H.room_other hso hx2.1 c (hp.1 x hx)];exact hx2.2⟩) hp.2
  obtain⟨j,hj,hje⟩:=hso
  have hgn:=hgo.nums j hj
  have hin:=hr.nums j hj
  have hroom:=H.stRoom_in hr ⟨j,hj,hje⟩
  refine Ev.succ ?_;simp only[ebbtideref07_Pushed.l0]
  refine Ev.pos (by omega) ?_
  refine Ev.pos (by omega) ?_
  rw[rdStep_nat, ← hee]
  have e1:rd X e.f0=X.getD j 0:=by rw[hje,rd_nat]
  have e2:X.getD e.f0.toNat 0=X.getD j 0:=by rw[hje,Int.toNat_natCast]
  rw[wrap_succ (n:=W.length) (by omega) (by omega)]
  unfold stRoom at hrm
  unfold H.goS at hnx
  refine Ev.ite (fun g=> ?_) (fun g=> ?_)
  ·rw[if_pos g] at hrm hnx
   refine Ev.pos (by omega) ?_
   refine Ev.pos (by omega) ?_
   rw[e1,wrap_id (by omega) (by omega), ← e2]
   show Ev _ (pushW (H.goS X e c) c (W.drop (i+1)))
   unfold H.goS
   rw[if_pos g]
   exact hnx
  ·rw[if_neg g] at hrm hnx
   have hf2:=hin.2.2.2.2
   rw[hje] at hrm
   rw[Int.toNat_natCast] at hrm
   refine Ev.pos (by omega) ?_
   refine Ev.pos (by omega) ?_
   rw[e1,wrap_id (by omega) (by omega), ← e2]
   show Ev _ (pushW (H.goS X e c) c (W.drop (i+1)))
   unfold H.goS
   rw[if_neg g]
   exact hnx
theorem pushed_ev {l:List S74} {F:List Int} {n:Nat} (hr:Right l F n) {c:Int} (h0:0≤c) {W:List S38} (hl:W.length≤1000000) (hst: ∀ s,s∈W→StepOf l s∧c≤stRoom l F s) (hp:W.Pairwise (fun a b=>a.f0≠b.f0)):
  Ev (fun k=>ebbtideref07_Pushed.f k F W c) (pushW F c W):=by
 have hF:=hr.len
 have har:=hr.arcs
 unfold ebbtideref07_Pushed.f
 refine Ev.pos (by simp;omega) ?_
 rw[List.nil_append]
 exact pushed_l0 h0 hl W.length 0 F (by omega) hr hst hp
theorem wayP_len50 {l:List S74} {F:List Int} {n:Nat} (hr:Right l F n) {s:Nat} (hs:s<n) {t:Nat} (h:t∈nodes (bfP l F n s)):(wayP l F n s t).length≤50:=by
 obtain⟨x,hx,rfl⟩:=List.mem_map.1 h
 have hu:=(H.bfP_upto hr hs).fds
 have h3:=H.lv_lt hu hx
 have h4:=H.fds_len hu (H.esP_to hr) hs
 have h5:=hr.fifty
 unfold wayP
 rw[if_pos h]
 unfold H.wayL
 rw[List.length_reverse,(H.backL_spec hu H.esP_fr _ hx (Nat.le_of_lt h3)).1]
 omega
theorem best_l0 {l:List S74} {n s t:Nat} (b:Bool) (hs:s<n) (ht:t<n) (hst:s≠t) (d:Nat): ∀ F:List Int,IsFlow l F n s t→209715200 - bal l F s<d→
  ∃ G,MaxF l G n s t∧Ev (fun k=>ebbtideref09_Best.l0 k (s:Int) (t:Int) F (n:Int) b l) G:=by
 induction d with
 |zero=>intro F hf hd;have:=H.flow_top hf hs hst;omega
 |succ d ih=>
  intro F hf hd
  have hr:=hf.right
  by_cases hm:t∈nodes (bfP l F n s)
  ·obtain⟨hL,ha⟩:=wayP_fact hr hs hm
   obtain⟨g1,g2,g3,g4,g5,g6,g7⟩:=H.push_found hf hr hs hst hL ha
   obtain⟨G,q1,q2⟩:=ih _ g1 (by omega)
   refine⟨G,q1,?_⟩
   have h50:=wayP_len50 hr hs hm
   refine Ev.succ ?_;simp only[ebbtideref09_Best.l0]
   refine Ev.bind (steps_ev hr _ b) ?_
   refine Ev.call (way_ref_eq hr hs b t) ?_
   refine Ev.pos (decide_eq_true hm) ?_
   refine Ev.bind (bottle_ev hr b _ g6 (by show (wayP l F n s t).length≤1000000;omega) g3) ?_
   refine Ev.bind (pushed_ev hr (c:=leastR l F (wayP l F n s t)) (by omega) (by show (wayP l F n s t).length≤1000000;omega) (fun e he=>⟨g6 e he,H.leastR_le he⟩) g5) ?_
   exact q2
  ·refine⟨F,⟨hf,hm⟩,?_⟩
   refine Ev.succ ?_;simp only[ebbtideref09_Best.l0]
   refine Ev.bind (steps_ev hr _ b) ?_
   refine Ev.call (way_ref_eq hr hs b t) ?_
   refine Ev.neg (by simpa using hm) ?_
   exact Ev.now _
theorem best_ev {l:List S74} {n s t:Nat} (b:Bool) (hr:Right l (List.replicate l.length 0) n) (hs:s<n) (ht:t<n) (hst:s≠t): ∃ G,MaxF l G n s t∧Ev (fun k=>ebbtideref09_Best.f k (n:Int) b l (s:Int) (t:Int)) G:=by
 obtain⟨h1,h2⟩:=H.zeros_of (s:=s) (t:=t) hr
 obtain⟨G,g1,g2⟩:=best_l0 b hs ht hst 300000000 _ h1 (by omega)
 refine⟨G,g1,?_⟩
 have har:=hr.arcs
 unfold ebbtideref09_Best.f
 refine Ev.pos (by omega) ?_
 refine Ev.pos (by omega) ?_
 rw[Int.toNat_natCast]
 exact g2
theorem ref_most_ev (n:Int) (b:Bool) (l:List S74) (s t:Int):Ev (fun k=>ebbtideref09_Most.f k n b l s t) (mostR n l s t):=by
 unfold ebbtideref09_Most.f mostR
 refine Ev.bind (ref_ends_ev n b l s t) ?_
 by_cases h:endsErr n l s t=0
 ·rw[if_pos h]
  refine Ev.pos h ?_
  obtain⟨n0,s0,t0,rfl,rfl,rfl,hs,ht,hst,hn,hr⟩:=ends_zero h
  obtain⟨G,g1,g2⟩:=best_ev b hr hs ht hst
  refine Ev.bind g2 ?_
  refine Ev.bind (leaves_ev n0 n0 b l _ hn (flowOk_of g1.flow.right) s0) ?_
  refine Ev.done ?_
  simp only[Int.toNat_natCast]
  rw[H.max_same g1 (max_fill hr hs ht hst) hs hst]
 ·rw[if_neg h]
  refine Ev.neg h ?_
  exact Ev.now _
theorem mostR_nat {l:List S74} {n s t:Nat} (h:endsErr (n:Int) l (s:Int) (t:Int)=0):mostR n l s t=(bal l (fillF l n s t) s,0):=by
 unfold mostR;rw[if_pos h];simp only[Int.toNat_natCast]
theorem maxR_nat {l:List S74} {n s t:Nat} (h:endsErr (n:Int) l (s:Int) (t:Int)=0):maxR n l s t=(fillF l n s t,bal l (fillF l n s t) s,0):=by
 unfold maxR;rw[if_pos h];simp only[Int.toNat_natCast]
end Go.Proofs.Ytkcpanpdipmmmaa.Q
namespace Go.Proofs.Ytkcpanpdipmmmaa.Q
open Go.RowKit Go.Proofs.YtkcpanpdipmmmaaW.PrintWords Go.Proofs.YtkcpanpdipmmmaaW.PrintLast Go.Proofs.YtkcpanpdipmmmaaW.PrintMore Go.Proofs.Ytkcpanpdipmmmaa.P
open Go.Proofs.Ytkcpanpdipmmmaa.H (endsErr Right right_of IsFlow MaxF fillF capR)
def dia:List S74:=[(⟨0,1,3,0⟩:S74),(⟨0,2,2,0⟩:S74),(⟨1,3,2,0⟩:S74),(⟨2,3,3,0⟩:S74),(⟨1,2,5,0⟩:S74)]
theorem dia_right:Right dia (List.replicate dia.length 0) 4:=by
 obtain⟨n0,h1,h2⟩:=right_of (n:=4) (l:=dia) (F:=List.replicate dia.length 0) (by decide +kernel)
 obtain rfl:n0=4:=by omega
 exact h2
theorem dia_max:MaxF dia (fillF dia 4 0 3) 4 0 3:=max_fill dia_right (by decide) (by decide) (by decide)
theorem dia_back:MaxF dia (fillF dia 4 3 0) 4 3 0:=max_fill dia_right (by decide) (by decide) (by decide)
theorem dia_flow:IsFlow dia [3,2,2,3,1] 4 0 3:=by
 obtain⟨n0,h1,h2⟩:=right_of (n:=4) (l:=dia) (F:=[3,2,2,3,1]) (by decide +kernel)
 obtain rfl:n0=4:=by omega
 refine⟨h2,fun v a b c d=> ?_⟩
 rcases (show v=1∨v=2 by omega) with rfl|rfl<;>decide +kernel
theorem dia_val:bal dia (fillF dia 4 0 3) 0=5:=by
 have h1:=H.max_top (s:=0) (t:=3) dia_max (by decide) (by decide) dia_flow
 have h2:=H.value_le dia_max.flow (fun v=>decide (v=0)) (by decide) (by decide) (by decide) (by decide)
 have h3:bal dia [3,2,2,3,1] ((0:Nat):Int)=5:=by decide +kernel
 have h4:capR (fun v=>decide (v=0)) dia=5:=by decide +kernel
 rw[h3] at h1
 rw[h4] at h2
 exact Int.le_antisymm h2 h1
theorem dia_none:bal dia (fillF dia 4 3 0) 3=0:=by
 have h1:=H.max_nonneg (s:=3) (t:=0) dia_back (by decide) (by decide)
 have h2:=H.value_le dia_back.flow (fun v=>decide (v=3)) (by decide) (by decide) (by decide) (by decide)
 have h4:capR (fun v=>decide (v=3)) dia=0:=by decide +kernel
 rw[h4] at h2
 exact Int.le_antisymm h2 h1
theorem awake09_ev:Ev (fun k=>ebbtidelaw09_awake.f k) true:=by
 have e1:endsErr 4 dia 0 3=0:=by decide +kernel
 have e2:endsErr 4 dia 3 0=0:=by decide +kernel
 have e3:endsErr 4 dia 1 1=70:=by decide +kernel
 have m1:maxR 4 dia 0 3=(fillF dia 4 0 3,5,0):=by
  have h_:=maxR_nat (n:=4) (l:=dia) (s:=0) (t:=3) e1
  have h_2:maxR 4 dia 0 3=(fillF dia 4 0 3,bal dia (fillF dia 4 0 3) 0,0):=h_
  rw[h_2,dia_val]
 have m2:mostR 4 dia 3 0=(0,0):=by
  have h_:=mostR_nat (n:=4) (l:=dia) (s:=3) (t:=0) e2
  have h_2:mostR 4 dia 3 0=(bal dia (fillF dia 4 3 0) 3,0):=h_
  rw[h_2,dia_none]
 have m3:maxR 4 dia 1 1=([],0,70):=by unfold maxR;rw[e3];rfl
 have hlen:(fillF dia 4 0 3).length=5:=dia_max.flow.right.len
 unfold ebbtidelaw09_awake.f
 refine Ev.let_ ?_
 refine Ev.bind (max_ev 4 false dia 0 3) ?_
 refine Ev.bind (most_ev 4 false dia 3 0) ?_
 refine Ev.bind (max_ev 4 false dia 1 1) ?_
 rw[m1,m2,m3]
 refine Ev.pos rfl ?_
 refine Ev.pos rfl ?_
 refine Ev.pos (by show ((fillF dia 4 0 3).length:Int)=5;rw[hlen];rfl) ?_
 refine Ev.pos rfl ?_
 refine Ev.pos rfl ?_
 exact Ev.now _
end Go.Proofs.Ytkcpanpdipmmmaa.Q
namespace Go.Proofs.Ytkcpanpdipmmmaa.H
open Go.RowKit Go.Proofs.YtkcpanpdipmmmaaW.PrintWords Go.Proofs.YtkcpanpdipmmmaaW.PrintLast Go.Proofs.YtkcpanpdipmmmaaW.PrintMore Go.Proofs.Ytkcpanpdipmmmaa.P
open Go.Proofs.Ytkcpanpdipmmmaa.Q (mostR most_ev ref_most_ev awake09_ev ends_zero)
set_option maxHeartbeats 4000000 in
set_option maxRecDepth 100000 in
theorem ebbtidelaw09_MaxflowValues_calls (a0_0:Int) (a0_1:Bool) (A0_2:Option Addr) (c0_2:Nat) (l0_2:List S74) (a1:Int) (a2:Int) (r:Bool) (w:World) (hr0_2:Kd.C k74 w A0_2 l0_2.length l0_2) (hc0_2:l0_2.length≤c0_2) (h:some true=some r):
  Calls Try.prog 19 #[.agg #[.int .i64 a0_0, .bool a0_1, .slice A0_2 l0_2.length c0_2], .int .i64 a1, .int .i64 a2] w fun e w'=>e= .returned (.bool r)∧Below w.heap.size w w':=by
 have hu24:=Try.underlying24
 injection h with h
 subst h
 obtain⟨n1,hn1⟩: ∃ n_,n_=fewN a0_0 12:=⟨_,rfl⟩;obtain⟨l1,hl1⟩: ∃ l_,l_=fewL l0_2 40:=⟨_,rfl⟩
 obtain⟨⟨v,e⟩,hve⟩: ∃ p,p=mostR n1 l1 a1 a2:=⟨_,rfl⟩
 obtain⟨K1,hK1⟩:=most_ev n1 a0_1 l1 a1 a2
 have hm1:=hK1 K1 (Nat.le_refl _)
 obtain⟨K2,hK2⟩:=ref_most_ev n1 a0_1 l1 a1 a2
 have hm2:=hK2 K2 (Nat.le_refl _)
 obtain⟨K3,hK3⟩:=awake09_ev
 have hm3:=hK3 K3 (Nat.le_refl _)
 rw[← hve] at hm1 hm2
 have HM1:=Aside0.mk hm1
 have HM2:=Aside0.mk hm2
 have HM3:=Aside0.mk hm3
 have HN1:=Aside0.mk hn1
 have HL1:=Aside0.mk hl1
 have H2:=Aside0.mk hr0_2
 have HC2:=Aside0.mk hc0_2
 have HLC:Aside0 (Kd.C k74 w A0_2 l1.length l1):=⟨by rw[hl1];exact fewL_C hr0_2 40⟩
 have HLE:Aside0 (l1.length≤c0_2):=⟨by rw[hl1];exact Nat.le_trans (fewL_le l0_2 40) hc0_2⟩
 clear hve hK1 hK2 hK3 hm1 hm2 hm3 hn1 hl1 hr0_2 hc0_2
 go_enter Try.func19,Try.ntmps19
 go_upto_region 2 with (first|((with_reducible refine gate_dst (N:=3) rfl ?_);refine box_event ?hg (N:=3) ?hd (cs:= #[.int .i64 a0_0, .bool a0_1, .slice A0_2 l0_2.length c0_2]) (t:=24) ?hr ?_;(case hd=>rfl);(case hg=>rfl);(case hr=>first|(go_simp;done)|(go_simp;rfl));intro g3 hg3 w5 hbox hb;have B3:=Aside0.mk hbox;have HB:=Aside0.mk hb;have HG3:Aside0 (w.heap.size≤g3):=⟨Nat.le_of_eq hg3.symm⟩;clear hg3 hbox hb;have x0:w5.cell? ⟨g3,0,none⟩=some (.int .i64 a0_0):=(blk_cell B3.out 0).trans rfl;have x1:w5.cell? ⟨g3,1,none⟩=some (.bool a0_1):=(blk_cell B3.out 1).trans rfl;have x2:w5.cell? ⟨g3,2,none⟩=some (.slice A0_2 l0_2.length c0_2):=(blk_cell B3.out 2).trans rfl)|(go_at_call 66;refine(few_calls a0_0 a0_1 A0_2 c0_2 l0_2 12 40 _ (by decide) HC2.out (Kd.C_below H2.out HB.out)).mono ?_;rintro e_ w6 ⟨rfl,hb⟩;have m0_:=Aside0.mk (below_step HB.out hb);have m1_:=Aside0.mk (blk_below B3.out hb);clear HB B3 hb x0 x1 x2;have HB:=m0_;have B3:=m1_;clear m0_ m1_;have x0:w6.cell? ⟨g3,0,none⟩=some (.int .i64 a0_0):=(blk_cell B3.out 0).trans rfl;have x1:w6.cell? ⟨g3,1,none⟩=some (.bool a0_1):=(blk_cell B3.out 1).trans rfl;have x2:w6.cell? ⟨g3,2,none⟩=some (.slice A0_2 l0_2.length c0_2):=(blk_cell B3.out 2).trans rfl;have f0:=blk_frozen B3.out 0;have f1:=blk_frozen B3.out 1;have f2:=blk_frozen B3.out 2)|fail)
 have B3':Aside0 ((((w6.setCell ⟨g3,0,none⟩ (.int .i64 (fewN a0_0 12))).setCell ⟨g3,1,none⟩ (.bool a0_1)).setCell ⟨g3,2,none⟩ (.slice A0_2 (fewL l0_2 40).length c0_2)).heap[g3]? =some (.cells #[.int .i64 n1, .bool a0_1, .slice A0_2 l1.length c0_2] 24 (0,0))):=⟨by rw[HN1.out,HL1.out];exact blk_put (blk_put (blk_put B3.out 0 _ rfl) 1 _ rfl) 2 _ rfl⟩
 have HB':Aside0 (Below w.heap.size w (((w6.setCell ⟨g3,0,none⟩ (.int .i64 (fewN a0_0 12))).setCell ⟨g3,1,none⟩ (.bool a0_1)).setCell ⟨g3,2,none⟩ (.slice A0_2 (fewL l0_2 40).length c0_2))):=⟨below_set (below_set (below_set HB.out HG3.out) HG3.out) HG3.out⟩
 clear B3 HB x0 x1 x2 f0 f1 f2
 generalize ((w6.setCell ⟨g3,0,none⟩ (.int .i64 (fewN a0_0 12))).setCell ⟨g3,1,none⟩ (.bool a0_1)).setCell ⟨g3,2,none⟩ (.slice A0_2 (fewL l0_2 40).length c0_2)=w7 at *
 have B3:=B3'
 have HB:=HB'
 clear B3' HB'
 have x0:w7.cell? ⟨g3,0,none⟩=some (.int .i64 n1):=(blk_cell B3.out 0).trans rfl;have x1:w7.cell? ⟨g3,1,none⟩=some (.bool a0_1):=(blk_cell B3.out 1).trans rfl;have x2:w7.cell? ⟨g3,2,none⟩=some (.slice A0_2 l1.length c0_2):=(blk_cell B3.out 2).trans rfl
 go_wp2_with (first|(go_at_call 73;refine(maxflow_Most.calls K1 n1 a0_1 A0_2 c0_2 l1 a1 a2 v e _ (Kd.C_below HLC.out HB.out) HLE.out HM1.out).mono ?_;rintro e_ w8 ⟨rfl,hb⟩;have m0_:=Aside0.mk (below_step HB.out hb);have m1_:=Aside0.mk (blk_below B3.out hb);clear HB B3 hb x0 x1 x2;have HB:=m0_;have B3:=m1_;clear m0_ m1_;have x0:w8.cell? ⟨g3,0,none⟩=some (.int .i64 n1):=(blk_cell B3.out 0).trans rfl;have x1:w8.cell? ⟨g3,1,none⟩=some (.bool a0_1):=(blk_cell B3.out 1).trans rfl;have x2:w8.cell? ⟨g3,2,none⟩=some (.slice A0_2 l1.length c0_2):=(blk_cell B3.out 2).trans rfl)|(go_at_call 74;refine(ebbtideref09_Most.calls K2 n1 a0_1 A0_2 c0_2 l1 a1 a2 v e _ (Kd.C_below HLC.out HB.out) HLE.out HM2.out).mono ?_;rintro e_ w9 ⟨rfl,hb⟩;have m0_:=Aside0.mk (below_step HB.out hb);have m1_:=Aside0.mk (blk_below B3.out hb);clear HB B3 hb x0 x1 x2;have HB:=m0_;have B3:=m1_;clear m0_ m1_;have x0:w9.cell? ⟨g3,0,none⟩=some (.int .i64 n1):=(blk_cell B3.out 0).trans rfl;have x1:w9.cell? ⟨g3,1,none⟩=some (.bool a0_1):=(blk_cell B3.out 1).trans rfl;have x2:w9.cell? ⟨g3,2,none⟩=some (.slice A0_2 l1.length c0_2):=(blk_cell B3.out 2).trans rfl)|(go_at_call 75;refine(ebbtidelaw09_awake.calls K3 true _ HM3.out).mono ?_;rintro e_ w10 ⟨rfl,hb⟩;have m0_:=Aside0.mk (below_step HB.out hb);have m1_:=Aside0.mk (blk_below B3.out hb);clear HB B3 hb x0 x1 x2;have HB:=m0_;have B3:=m1_;clear m0_ m1_;have x0:w10.cell? ⟨g3,0,none⟩=some (.int .i64 n1):=(blk_cell B3.out 0).trans rfl;have x1:w10.cell? ⟨g3,1,none⟩=some (.bool a0_1):=(blk_cell B3.out 1).trans rfl;have x2:w10.cell? ⟨g3,2,none⟩=some (.slice A0_2 l1.length c0_2):=(blk_cell B3.out 2).trans rfl)|fail)
 go_ret
 exact⟨rfl,HB.out⟩
end Go.Proofs.Ytkcpanpdipmmmaa.H
namespace Go.Proofs.Ytkcpanpdipmmmaa.P
open Go.RowKit Go.Proofs.YtkcpanpdipmmmaaW.PrintWords Go.Proofs.YtkcpanpdipmmmaaW.PrintLast Go.Proofs.YtkcpanpdipmmmaaW.PrintMore
attribute [local go_sem] max2_int min2_int max_two min_two max_three min_three max_four min_four
def ebbtidelaw09_MaxflowValues.f (a0_0:Int) (a0_1:Bool) (l0_2:List (S74)) (a1:Int) (a2:Int):Option (Bool):=some true
theorem ebbtidelaw09_MaxflowValues.calls (a0_0:Int) (a0_1:Bool) (A0_2:Option Addr) (c0_2:Nat) (l0_2:List (S74)) (a1:Int) (a2:Int) (r:Bool) (w:World) (hr0_2:Kd.C k74 w A0_2 l0_2.length l0_2) (hc0_2:l0_2.length≤c0_2) (h:ebbtidelaw09_MaxflowValues.f a0_0 a0_1 l0_2 a1 a2=some r):
  Calls Try.prog 19 #[.agg #[.int .i64 a0_0, .bool a0_1, .slice A0_2 l0_2.length c0_2], .int .i64 a1, .int .i64 a2] w fun e w'=>e= .returned (.bool r)∧Below w.heap.size w w':=H.ebbtidelaw09_MaxflowValues_calls a0_0 a0_1 A0_2 c0_2 l0_2 a1 a2 r w hr0_2 hc0_2 h
end Go.Proofs.Ytkcpanpdipmmmaa.P
namespace Go.Proofs.Ytkcpanpdipmmmaa.Opn
open Go.RowKit Go.ChangeShapes Go.WideShapes Go.Deep Go.Proofs.YtkcpanpdipmmmaaW.PrintWords
def Opens (P:Program) (t:TypeId) {α:Type} (d:Kd α) (ok:α→Prop):Prop:=
 ∀ (H:Type) (enc:TypeId × Value→H) (w:World) (base:Nat) (spare:Nat→Bool) (held:Bool) (fuel:Nat) (cs:List Value) (x:DataW H × List MemPlace),
  DataW.trod enc P w base spare held fuel t cs=some x→ ∃ a:α,d.K w a cs∧ok a
theorem opens_int {P:Program} {t:TypeId} {k:IntKind} (ht:P.underlying t=some (.int k)):Opens P t (Kd.int k) (fun n=>(Lit.int k n).wf=true):=by
 intro H enc w base spare held fuel cs x h
 obtain⟨n,rfl,_,hw⟩:=DataW.trod_int ht h
 exact⟨n,rfl,hw⟩
theorem opens_bool {P:Program} {t:TypeId} (ht:P.underlying t=some .bool):Opens P t Kd.bool (fun _=>True):=by
 intro H enc w base spare held fuel cs x h
 obtain⟨b,rfl,_⟩:=DataW.trod_bool ht h
 exact⟨b,rfl,trivial⟩
theorem opens_slice {P:Program} {t e:TypeId} {α:Type} {d:Kd α} {ok:α→Prop} (ht:P.underlying t=some (.slice e)) (hc:P.cellsOf e=d.sz) (h:Opens P e d ok):
  Opens P t (Kd.slice e d) (fun l=>l.length≤9223372036854775807∧ ∀ x∈l,ok x):=by
 intro H enc w base spare held fuel cs x hx
 rcases open_slice ht hx with ⟨rfl,_⟩|⟨a,len,cap,m,n,D,Pl,rfl,hb,hl,hm,hmm,_,hi⟩
 ·exact⟨[],⟨none,0,rfl,Nat.le_refl _,rfl,by simp,fun h=>absurd h (by simp)⟩,by simp,by simp⟩
 ·have hlm:len≤m:=by rw[hmm];split<;>omega
  have hel: ∀ i:Nat,i<len→ ∃ a':α,ok a'∧ ∃ c,c.length=d.sz∧d.K w a' c∧ ∀ j u,c[j]? =some u→w.cell? (a.add (i * d.sz+j))=some u:=by
   intro i hil
   obtain⟨cs',hcs,htr⟩:=hi i (by omega)
   obtain⟨a',hK,hok⟩:=h H enc w base spare held n cs' _ htr
   rw[hc] at hcs
   obtain⟨_,hcl,hat⟩:=World.cells?_some hcs
   refine⟨a',hok,cs',hcl,hK,fun j u hu=> ?_⟩
   have hj:j<d.sz:=by have:=(List.getElem?_eq_some_iff.1 hu).1;omega
   have:=hat j hj
   rw[← Go.Deep.add_add,this,hu]
  have hrow: ∀ k:Nat,k≤len→ ∃ xs:List α,xs.length=k∧(∀ x∈xs,ok x)∧ ∀ j p,xs[j]? =some p→ ∃ c,c.length=d.sz∧d.K w p c∧ ∀ i u,c[i]? =some u→w.cell? (a.add (j * d.sz+i))=some u:=by
   intro k
   induction k with
   |zero=>exact fun _=>⟨[],rfl,by simp,by simp⟩
   |succ k ih=>
    intro hk
    obtain⟨xs,h1,h2,h3⟩:=ih (by omega)
    obtain⟨a',ho,c,hcl,hK,hcell⟩:=hel k (by omega)
    refine⟨xs ++ [a'],by simp[h1],fun x hx=> ?_,fun j p hj=> ?_⟩
    ·rcases List.mem_append.1 hx with h|h
     ·exact h2 x h
     ·rw[List.mem_singleton.1 h];exact ho
    ·by_cases hjk:j<xs.length
     ·rw[List.getElem?_append_left hjk] at hj
      exact h3 j p hj
     ·have hjl:=(List.getElem?_eq_some_iff.1 hj).1
      simp at hjl
      have hje:j=k:=by omega
      subst hje
      rw[← h1,List.getElem?_concat_length] at hj
      obtain rfl:=Option.some.inj hj
      exact⟨c,hcl,hK,hcell⟩
  obtain⟨xs,h1,h2,h3⟩:=hrow len (Nat.le_refl _)
  have hmx:len≤9223372036854775807:=by unfold maxLen at hm;omega
  subst h1
  exact⟨xs,⟨some a,cap,rfl,hl,rfl,hmx,fun _=>⟨a,rfl,h3⟩⟩,hmx,h2⟩
theorem opens_iso {P:Program} {t:TypeId} {α β:Type} {d:Kd α} {ok:α→Prop} (h:Opens P t d ok) (f:β→α) (g:α→β) (hfg: ∀ x,f (g x)=x):Opens P t (Kd.iso d f) (fun y=>ok (f y)):=by
 intro H enc w base spare held fuel cs x hx
 obtain⟨a,hK,hok⟩:=h H enc w base spare held fuel cs x hx
 exact⟨g a,by show d.K w (f (g a)) cs;rw[hfg];exact hK,by show ok (f (g a));rw[hfg];exact hok⟩
def OpensFs (P:Program) (fs:List Field) (off:Nat) {α:Type} (d:Kd α) (ok:α→Prop):Prop:=
 ∀ (H:Type) (enc:TypeId × Value→H) (w:World) (base:Nat) (spare:Nat→Bool) (held:Bool) (n:Nat) (cs:List Value),cs.length=off+d.sz→
  (∀ f∈fs, ∃ y,DataW.trod enc P w base spare held n f.type ((cs.drop f.offset).take (P.cellsOf f.type))=some y)→ ∃ a:α,d.K w a (cs.drop off)∧ok a
theorem fs_one {P:Program} {f:Field} {off:Nat} {α:Type} {d:Kd α} {ok:α→Prop} (ho:f.offset=off) (hc:P.cellsOf f.type=d.sz) (h:Opens P f.type d ok):OpensFs P [f] off d ok:=by
 intro H enc w base spare held n cs hl hf
 obtain⟨y,hy⟩:=hf f (by simp)
 rw[ho,hc,List.take_of_length_le (by simp;omega)] at hy
 exact h H enc w base spare held n _ y hy
theorem fs_cons {P:Program} {f:Field} {fs:List Field} {off:Nat} {α β:Type} {d:Kd α} {d':Kd β} {ok:α→Prop} {ok':β→Prop} (ho:f.offset=off) (hc:P.cellsOf f.type=d.sz) (h:Opens P f.type d ok)
  (hr:OpensFs P fs (off+d.sz) d' ok'):OpensFs P (f::fs) off (Kd.pair d d') (fun x=>ok x.1∧ok' x.2):=by
 intro H enc w base spare held n cs hl hf
 have hsz:(Kd.pair d d').sz=d.sz+d'.sz:=rfl
 rw[hsz] at hl
 obtain⟨y,hy⟩:=hf f (by simp)
 rw[ho,hc] at hy
 obtain⟨a,hK,hok⟩:=h H enc w base spare held n _ y hy
 obtain⟨b,hKb,hokb⟩:=hr H enc w base spare held n cs (by omega) (fun f' hf'=>hf f' (List.mem_cons_of_mem _ hf'))
 refine⟨(a,b),⟨_,_,?_,hK,hKb⟩,hok,hokb⟩
 rw[← List.drop_drop]
 exact(List.take_append_drop _ _).symm
theorem opens_struct {P:Program} {t:TypeId} {fs:Array Field} {α:Type} {d:Kd α} {ok:α→Prop} (hs:P.underlying t=some (.struct fs)) (hC:P.cellsOf t=d.sz) (h:OpensFs P fs.toList 0 d ok):Opens P t d ok:=by
 intro H enc w base spare held fuel cs x hx
 obtain⟨xs,n,_,_,hl,hlen,hf⟩:=DataW.trod_struct hs hx
 obtain⟨a,hK,hok⟩:=h H enc w base spare held n cs (by rw[hl,hC,Nat.zero_add]) (fun f hfm=>by
  obtain⟨j,hj⟩:=List.getElem?_of_mem hfm
  have hj':fs[j]? =some f:=by rw[← hj];simp
  have hjl:j<xs.length:=by rw[hlen];exact(Array.getElem?_eq_some_iff.1 hj').1
  have h1:=hf j f hj'
  rw[List.getElem?_eq_getElem hjl] at h1
  exact⟨_,h1⟩)
 exact⟨a,hK,hok⟩
theorem arg_struct {H:Type} {enc:TypeId × Value→H} {P:Program} {w:World} {base b0:Nat} {spare:Nat→Bool} {held:Bool} {r:Reach} {t:TypeId} {fs:Array Field} {v:Value} {dd:DataW H} {p:List MemPlace} {α:Type} {d:Kd α} {ok:α→Prop}
  (hs:P.underlying t=some (.struct fs)) (ho:Opens P t d ok) (hv:Value.okWide P w r b0 t v) (h:DataW.Trod enc P w base spare held t v dd p): ∃ a cs,v= .agg cs∧d.K w a cs.toList∧ok a:=by
 obtain⟨cs,rfl,hsz⟩:=okWide_struct hs hv
 obtain⟨fuel,hf⟩:=h
 obtain⟨a,hK,hok⟩:=ho H enc w base spare held fuel _ _ hf
 exact⟨a,cs,rfl,by simpa [Value.cells] using hK,hok⟩
end Go.Proofs.Ytkcpanpdipmmmaa.Opn
namespace Go.Proofs.Ytkcpanpdipmmmaa.Q
open Go.RowKit Go.Proofs.YtkcpanpdipmmmaaW.PrintWords Go.Proofs.YtkcpanpdipmmmaaW.PrintLast Go.Proofs.YtkcpanpdipmmmaaW.PrintMore Go.Proofs.Ytkcpanpdipmmmaa.P
theorem maxflowValues_ev (n:Int) (b:Bool) (l:List S74) (s t:Int):Ev (fun _=>ebbtidelaw09_MaxflowValues.f n b l s t) true:=Ev.now _
end Go.Proofs.Ytkcpanpdipmmmaa.Q
