/- What the law's row needs of these texts, taken out of them by wip/tool/mini.py: P9 P10 P11 P44 P42 P43 P12 P79 P86 P96 P97 P98 P47 QBfsLaw QWayLaw QMakers P48. -/
import Derived.Test.YtkcpanpdipmmmaaMahlchd
import Derived.Test.YtkcpanpdipmmmaaProg
import Derived.Test.YtkcpanpdipmmmaaVjmefen
set_option linter.unusedVariables false
set_option linter.unusedSimpArgs false
namespace Go.Proofs.Ytkcpanpdipmmmaa.P
open Go.RowKit Go.Proofs.YtkcpanpdipmmmaaW.PrintWords Go.Proofs.YtkcpanpdipmmmaaW.PrintLast Go.Proofs.YtkcpanpdipmmmaaW.PrintMore
attribute [local go_sem] max2_int min2_int max_two min_two max_three min_three max_four min_four
def ebbtideref05_Check.l0:Nat→Int→Int→Bool→List (S74)→Option (Int)
 |0,_,_,_,_=>none
 |k+1,x4,x156000,x156001,x156002=>if x4<(x156002.length:Int) then(if 0≤x4 then((ebbtideref05_Arc.f k x156000 ((rd_T74 x156002 x4).f0) ((rd_T74 x156002 x4).f1) ((rd_T74 x156002 x4).f2) ((rd_T74 x156002 x4).f3)).bind fun t158=>(if t158=0 then(ebbtideref05_Check.l0 k (wrap64 (x4+1)) x156000 x156001 x156002) else(some t158))) else(none)) else(some 0)
def ebbtideref05_Check.f (k:Nat) (a0_0:Int) (a0_1:Bool) (l0_2:List (S74)):Option (Int):=(ebbtideref05_nodes.f a0_0).bind fun t156=>(if t156=0 then(if (l0_2.length:Int)>200 then(some 2) else(ebbtideref05_Check.l0 k 0 a0_0 a0_1 l0_2)) else(some t156))
def ebbtideref05_Check.T9:Bool × List (List Nat × List Nat):=(true,[([],[]),([0],[0]),([],[]),([2],[2]),([],[]),([3,4],[3,4]),([5],[5]),([1,6],[1,6]),([7,7,0,1,2,3,4,5,6,7],[7])])
def ebbtideref05_Check.B9:List Nat:=[0,1,0,4,0,28,60,127,255]
theorem ebbtideref05_Check.tab9:rtab .any (opsOf Try.f78 9)=ebbtideref05_Check.T9:=by kernel_rfl
theorem ebbtideref05_Check.bits9:waitsOk ebbtideref05_Check.T9.2 ebbtideref05_Check.B9=true:=by kernel_rfl
set_option maxHeartbeats 8000000 in
set_option maxRecDepth 100000 in
theorem ebbtideref05_Check.calls (k:Nat) (a0_0:Int) (a0_1:Bool) (A0_2:Option Addr) (c0_2:Nat) (l0_2:List (S74)) (r:Int) (w:World) (hr0_2:Kd.C k74 w A0_2 l0_2.length l0_2) (hc0_2:l0_2.length≤c0_2) (h:ebbtideref05_Check.f k a0_0 a0_1 l0_2=some r):
  Calls Try.prog 78 #[.agg #[.int .i64 a0_0, .bool a0_1, .slice A0_2 l0_2.length c0_2]] w fun e w'=>e= .returned (.int .i64 r)∧Below w.heap.size w w':=by
 have hu24:=Try.underlying24
 have hu74:=Try.underlying74
 have HR0_2:=Aside0.mk hr0_2
 have HC0_2:=Aside0.mk hc0_2
 clear hr0_2 hc0_2
 have HB:=Aside0.mk (Below.refl w.heap.size w)
 have H:((ebbtideref05_nodes.f a0_0).bind fun t156=>(if t156=0 then(if (l0_2.length:Int)>200 then(some 2) else(ebbtideref05_Check.l0 k 0 a0_0 a0_1 l0_2)) else(some t156)))=some r:=h
 clear h
 replace H:=Option.bind_eq_some_iff.mp H
 obtain⟨t156,A20,H⟩:=H
 replace H:(if t156=0 then(if (l0_2.length:Int)>200 then(some 2) else(ebbtideref05_Check.l0 k 0 a0_0 a0_1 l0_2)) else(some t156))=some r:=H
 have A2:=Aside0.mk A20
 clear A20
 by_cases c3:t156=0
 rotate_left
 ·rw[if_neg c3] at H
  have c3b0:(t156 == 0)=false:=beq_eq_false_iff_ne.mpr c3
  have c3b1:(t156 != 0)=true:=bne_iff_ne.mpr c3
  obtain rfl:=Option.some.inj H
  go_enter Try.func78,Try.ntmps78
  go_wp2_with (first|((with_reducible refine gate_dst (N:=1) rfl ?_);refine box_event ?hg (N:=1) ?hd (cs:= #[.int .i64 a0_0, .bool a0_1, .slice A0_2 l0_2.length c0_2]) (t:=24) ?hr ?_;(case hd=>rfl);(case hg=>rfl);(case hr=>first|(go_simp;done)|(go_simp;rfl));intro gb155 hg w20 hbox hb;have n0_:=Aside0.mk (below_step HB.out hb);have n1_:=Aside0.mk (hbox);have n2_:=Aside0.mk ((by rw[hg];exact(below_size HB.out):w.heap.size≤gb155));have n3_:=Aside0.mk ((by rw[hg];exact(below_size HB.out):w.heap.size≤gb155));clear HB;have HB:=n0_;have BK155:=n1_;have GW155:=n2_;have GE155:=n3_;clear n0_ n1_ n2_ n3_;clear hb hbox hg;have hcz21_0:w20.cell? ⟨gb155,0,none⟩=some (.int .i64 a0_0):=(blk_cell BK155.out 0).trans rfl;have hcz21_1:w20.cell? ⟨gb155,1,none⟩=some (.bool a0_1):=(blk_cell BK155.out 1).trans rfl;have hcz21_2:w20.cell? ⟨gb155,2,none⟩=some (.slice A0_2 l0_2.length c0_2):=(blk_cell BK155.out 2).trans rfl;have hfz21_0:=blk_frozen BK155.out 0;have hfz21_1:=blk_frozen BK155.out 1;have hfz21_2:=blk_frozen BK155.out 2)|((with_reducible refine gate_callee (f:=122) rfl ?_);refine goesL_ (some 8) rfl rfl Try.func122 (by kernel_rfl) rfl #[.int .i64 a0_0] rfl (by(try simp only[List.map_toArray,List.map_cons,List.map_nil]);first|done|rfl|(simp only[List.length_drop,List.length_take];rfl)) ?_;(with_reducible refine(ebbtideref05_nodes.calls a0_0 t156 _ A2.out).mono ?_);rintro e w' ⟨rfl,⟨nd,rfl⟩⟩;refine⟨_,rfl,?_⟩))
  go_ret
  exact⟨by first|rfl|(simp[errW_none,errW_some]<;>rfl)|(simp[*,errW_none,errW_some]<;>rfl),by repeat(first|(with_reducible first|exact HB.out|apply below_alloc|apply pw_below_drewN|apply below_drew1|refine below_set ?_ GE155.out)|exact HB.out)⟩
 rw[if_pos c3] at H
 have c3b0:(t156 == 0)=true:=beq_iff_eq.mpr c3
 have c3b1:(t156 != 0)=false:=bne_eq_false_iff_eq.mpr c3
 clear c3
 by_cases c4:(l0_2.length:Int)>200
 ·rw[if_pos c4] at H
  have c4b0:decide (200<(l0_2.length:Int))=true:=decide_eq_true c4
  have c4b1:decide (200<l0_2.length)=true:=decide_eq_true (by omega)
  clear c4
  obtain rfl:=Option.some.inj H
  go_enter Try.func78,Try.ntmps78
  go_wp2_with (first|((with_reducible refine gate_dst (N:=1) rfl ?_);refine box_event ?hg (N:=1) ?hd (cs:= #[.int .i64 a0_0, .bool a0_1, .slice A0_2 l0_2.length c0_2]) (t:=24) ?hr ?_;(case hd=>rfl);(case hg=>rfl);(case hr=>first|(go_simp;done)|(go_simp;rfl));intro gb155 hg w5 hbox hb;have n0_:=Aside0.mk (below_step HB.out hb);have n1_:=Aside0.mk (hbox);have n2_:=Aside0.mk ((by rw[hg];exact(below_size HB.out):w.heap.size≤gb155));have n3_:=Aside0.mk ((by rw[hg];exact(below_size HB.out):w.heap.size≤gb155));clear HB;have HB:=n0_;have BK155:=n1_;have GW155:=n2_;have GE155:=n3_;clear n0_ n1_ n2_ n3_;clear hb hbox hg;have hcz6_0:w5.cell? ⟨gb155,0,none⟩=some (.int .i64 a0_0):=(blk_cell BK155.out 0).trans rfl;have hcz6_1:w5.cell? ⟨gb155,1,none⟩=some (.bool a0_1):=(blk_cell BK155.out 1).trans rfl;have hcz6_2:w5.cell? ⟨gb155,2,none⟩=some (.slice A0_2 l0_2.length c0_2):=(blk_cell BK155.out 2).trans rfl;have hfz6_0:=blk_frozen BK155.out 0;have hfz6_1:=blk_frozen BK155.out 1;have hfz6_2:=blk_frozen BK155.out 2)|((with_reducible refine gate_callee (f:=122) rfl ?_);refine goesL_ (some 8) rfl rfl Try.func122 (by kernel_rfl) rfl #[.int .i64 a0_0] rfl (by(try simp only[List.map_toArray,List.map_cons,List.map_nil]);first|done|rfl|(simp only[List.length_drop,List.length_take];rfl)) ?_;(with_reducible refine(ebbtideref05_nodes.calls a0_0 t156 _ A2.out).mono ?_);rintro e w' ⟨rfl,⟨nd,rfl⟩⟩;refine⟨_,rfl,?_⟩))
  go_ret
  exact⟨by first|rfl|(simp[errW_none,errW_some]<;>rfl)|(simp[*,errW_none,errW_some]<;>rfl),by repeat(first|(with_reducible first|exact HB.out|apply below_alloc|apply pw_below_drewN|apply below_drew1|refine below_set ?_ GE155.out)|exact HB.out)⟩
 rw[if_neg c4] at H
 have c4b0:decide (200<(l0_2.length:Int))=false:=decide_eq_false c4
 have c4b1:decide (200<l0_2.length)=false:=decide_eq_false (by omega)
 clear c4
 have H':=Aside0.mk H
 clear H
 go_enter Try.func78,Try.ntmps78
 go_wp2_with (first|((with_reducible refine gate_dst (N:=1) rfl ?_);refine box_event ?hg (N:=1) ?hd (cs:= #[.int .i64 a0_0, .bool a0_1, .slice A0_2 l0_2.length c0_2]) (t:=24) ?hr ?_;(case hd=>rfl);(case hg=>rfl);(case hr=>first|(go_simp;done)|(go_simp;rfl));intro gb155 hg w7 hbox hb;have n0_:=Aside0.mk (below_step HB.out hb);have n1_:=Aside0.mk (hbox);have n2_:=Aside0.mk ((by rw[hg];exact(below_size HB.out):w.heap.size≤gb155));have n3_:=Aside0.mk ((by rw[hg];exact(below_size HB.out):w.heap.size≤gb155));clear HB;have HB:=n0_;have BK155:=n1_;have GW155:=n2_;have GE155:=n3_;clear n0_ n1_ n2_ n3_;clear hb hbox hg;have hcz8_0:w7.cell? ⟨gb155,0,none⟩=some (.int .i64 a0_0):=(blk_cell BK155.out 0).trans rfl;have hcz8_1:w7.cell? ⟨gb155,1,none⟩=some (.bool a0_1):=(blk_cell BK155.out 1).trans rfl;have hcz8_2:w7.cell? ⟨gb155,2,none⟩=some (.slice A0_2 l0_2.length c0_2):=(blk_cell BK155.out 2).trans rfl;have hfz8_0:=blk_frozen BK155.out 0;have hfz8_1:=blk_frozen BK155.out 1;have hfz8_2:=blk_frozen BK155.out 2)|((with_reducible refine gate_callee (f:=122) rfl ?_);refine goesL_ (some 8) rfl rfl Try.func122 (by kernel_rfl) rfl #[.int .i64 a0_0] rfl (by(try simp only[List.map_toArray,List.map_cons,List.map_nil]);first|done|rfl|(simp only[List.length_drop,List.length_take];rfl)) ?_;(with_reducible refine(ebbtideref05_nodes.calls a0_0 t156 _ A2.out).mono ?_);rintro e w' ⟨rfl,⟨nd,rfl⟩⟩;refine⟨_,rfl,?_⟩))
 go_loopg [4] k (fun kq v4 w'=> ∃ (x4_1:Int),v4= .int .i64 x4_1∧Aside0 (ebbtideref05_Check.l0 kq x4_1 a0_0 a0_1 l0_2=some r)∧Aside0 (kq≤k)∧Aside0 (w'.heap[gb155]? =some (.cells #[.int .i64 a0_0, .bool a0_1,(.slice A0_2 l0_2.length c0_2)] 24 (0,0)))∧Aside0 (Below w.heap.size w w'))
 case atStart=>exact⟨(0),(by first|rfl|(simp;done)|(simp[*];done)),H',⟨Nat.le_refl _⟩,⟨by(with_reducible repeat(first|refine blk_drewN ?_ _|refine blk_drew ?_|refine blk_alloc ?_ _));exact BK155.out⟩,⟨by repeat(first|(with_reducible first|exact HB.out|apply below_alloc|apply pw_below_drewN|apply below_drew1|refine below_set ?_ GE155.out)|exact HB.out)⟩⟩
 case round=>
  clear H'
  try clear c1
  try clear p2
  try clear c3
  try clear c3b0
  try clear c3b1
  try clear c4
  try clear c4b0
  try clear c4b1
  try clear c7
  try clear hcz6_0
  try clear hcz6_1
  try clear hcz6_2
  try clear hcz8_0
  try clear hcz8_1
  try clear hcz8_2
  try clear hfz6_0
  try clear hfz6_1
  try clear hfz6_2
  try clear hfz8_0
  try clear hfz8_1
  try clear hfz8_2
  obtain⟨x4_1,rfl,HA,HK1,BK155,HB⟩:=hrel
  cases gk with
  |zero=>exact absurd HA.out (by simp[ebbtideref05_Check.l0])
  |succ k1=>
   have H:=HA.out
   clear HA
   simp only[ebbtideref05_Check.l0] at H
   by_cases c9:x4_1<(l0_2.length:Int)
   rotate_left
   ·rw[if_neg c9] at H
    have c9b0:decide (x4_1<(l0_2.length:Int))=false:=decide_eq_false c9
    clear c9
    obtain rfl:=Option.some.inj H
    have hcz19_0:wr.cell? ⟨gb155,0,none⟩=some (.int .i64 a0_0):=(blk_cell BK155.out 0).trans rfl
    have hcz19_1:wr.cell? ⟨gb155,1,none⟩=some (.bool a0_1):=(blk_cell BK155.out 1).trans rfl
    have hcz19_2:wr.cell? ⟨gb155,2,none⟩=some (.slice A0_2 l0_2.length c0_2):=(blk_cell BK155.out 2).trans rfl
    have hfz19_0:=blk_frozen BK155.out 0
    have hfz19_1:=blk_frozen BK155.out 1
    have hfz19_2:=blk_frozen BK155.out 2
    go_wp2
    go_ret
    exact⟨by first|rfl|(simp[errW_none,errW_some]<;>rfl)|(simp[*,errW_none,errW_some]<;>rfl),HB.out⟩
   rw[if_pos c9] at H
   have c9b0:decide (x4_1<(l0_2.length:Int))=true:=decide_eq_true c9
   clear c9
   by_cases c10:0≤x4_1
   rotate_left
   ·rw[if_neg c10] at H
    exact absurd H (by simp)
   rw[if_pos c10] at H
   have c10b0:decide (0≤x4_1)=true:=decide_eq_true c10
   clear c10
   replace H:=Option.bind_eq_some_iff.mp H
   obtain⟨t158,A110,H⟩:=H
   replace H:(if t158=0 then(ebbtideref05_Check.l0 k1 (wrap64 (x4_1+1)) a0_0 a0_1 l0_2) else(some t158))=some r:=H
   have A11:=Aside0.mk A110
   clear A110
   by_cases c12:t158=0
   rotate_left
   ·rw[if_neg c12] at H
    have c12b0:(t158 == 0)=false:=beq_eq_false_iff_ne.mpr c12
    have c12b1:(t158 != 0)=true:=bne_iff_ne.mpr c12
    obtain rfl:=Option.some.inj H
    have hcz16_0:wr.cell? ⟨gb155,0,none⟩=some (.int .i64 a0_0):=(blk_cell BK155.out 0).trans rfl
    have hcz16_1:wr.cell? ⟨gb155,1,none⟩=some (.bool a0_1):=(blk_cell BK155.out 1).trans rfl
    have hcz16_2:wr.cell? ⟨gb155,2,none⟩=some (.slice A0_2 l0_2.length c0_2):=(blk_cell BK155.out 2).trans rfl
    have hfz16_0:=blk_frozen BK155.out 0
    have hfz16_1:=blk_frozen BK155.out 1
    have hfz16_2:=blk_frozen BK155.out 2
    try go_wp2
    have n0_:=Aside0.mk (blk_drew BK155.out)
    have n1_:=Aside0.mk (below_drew1 HB.out)
    clear BK155
    clear HB
    have BK155:=n0_
    have HB:=n1_
    clear n0_ n1_
    have p157:0≤(x4_1:Int):=of_decide_eq_true (by first|(with_reducible assumption)|assumption)
    have q157:x4_1<(l0_2.length:Int):=of_decide_eq_true (by first|(with_reducible assumption)|assumption)
    obtain⟨ad157,e157,hx157_0,hx157_1,hx157_2,hx157_3⟩:=at_T74 HR0_2.out x4_1 p157 q157
    have hw157_3:=hx157_3
    have hw157_2:=hx157_2
    have hw157_1:=hx157_1
    have hw157_0:=hx157_0
    cases e157
    replace hx157_0:=(HB.out.cell (World.block_lt_of_cell? w _ hx157_0)).trans hx157_0
    replace hx157_1:=(HB.out.cell (World.block_lt_of_cell? w _ hx157_1)).trans hx157_1
    replace hx157_2:=(HB.out.cell (World.block_lt_of_cell? w _ hx157_2)).trans hx157_2
    replace hx157_3:=(HB.out.cell (World.block_lt_of_cell? w _ hx157_3)).trans hx157_3
    replace p157:=eq_true p157
    replace q157:=eq_true q157
    refine start_ (n:=9) (S:=fun w'=>w'.cell? ⟨gb155,0,none⟩=some (.int .i64 a0_0)∧w'.cell? ⟨gb155,1,none⟩=some (.bool a0_1)∧w'.cell? ⟨gb155,2,none⟩=some (.slice (some ad157) l0_2.length c0_2)∧w'.cell? (ad157.add ((x4_1).toNat * 4))=some (.int .i64 ((rd_T74 l0_2 x4_1).f0))∧w'.cell? ⟨(ad157.add ((x4_1).toNat * 4)).block,(ad157.add ((x4_1).toNat * 4)).off+1,none⟩=some (.int .i64 ((rd_T74 l0_2 x4_1).f1))∧w'.cell? ⟨(ad157.add ((x4_1).toNat * 4)).block,(ad157.add ((x4_1).toNat * 4)).off+2,none⟩=some (.int .i64 ((rd_T74 l0_2 x4_1).f2))∧w'.cell? ⟨(ad157.add ((x4_1).toNat * 4)).block,(ad157.add ((x4_1).toNat * 4)).off+3,none⟩=some (.int .i64 ((rd_T74 l0_2 x4_1).f3))) (ds:=[]) #[false,false,false,false,false,false,false,false,false] (by kernel_rfl) rfl rfl ⟨(blk_cell BK155.out 0).trans rfl,(blk_cell BK155.out 1).trans rfl,(blk_cell BK155.out 2).trans rfl,((HB.out.cell (World.block_lt_of_cell? w _ hw157_0)).trans hw157_0),((HB.out.cell (World.block_lt_of_cell? w _ hw157_1)).trans hw157_1),((HB.out.cell (World.block_lt_of_cell? w _ hw157_2)).trans hw157_2),((HB.out.cell (World.block_lt_of_cell? w _ hw157_3)).trans hw157_3)⟩ (fun hHeld=> ?_);refine with_tabW ebbtideref05_Check.tab9 ebbtideref05_Check.bits9 (fun HT_ HW_=> ?_)
    generalize wr.drew=w17 at BK155 HB hx157_0 hx157_1 hx157_2 hx157_3 hHeld ⊢
    refine pure_ (i:=0) (N:=some 23) (v:= ?_) (a':= ?_) #[true,false,false,false,false,false,false,false,false] rfl rfl (any_of HT_.out (by kernel_rfl)) (fun _ _ _ h=>h) (Or.inl ⟨by rfl,?_⟩) ?_ ?_
    rotate_left
    ·intro w'
     go_simp
     with_reducible rfl
    rotate_left
    ·simp only[Act.put,List.setIfInBounds_toArray,List.set_cons_zero,List.set_cons_succ,i64_w,i32_w]
     rfl
    refine pure_ (i:=2) (N:=some 25) (v:= ?_) (a':= ?_) #[true,false,true,false,false,false,false,false,false] rfl rfl (any_of HT_.out (by kernel_rfl)) (fun _ _ _ h=>h) (Or.inl ⟨by rfl,?_⟩) ?_ ?_
    rotate_left
    ·intro w'
     go_simp
     with_reducible rfl
    rotate_left
    ·simp only[Act.put,List.setIfInBounds_toArray,List.set_cons_zero,List.set_cons_succ,i64_w,i32_w]
     rfl
    refine pure_ (i:=4) (N:=some 27) (v:= ?_) (a':= ?_) #[true,false,true,false,true,false,false,false,false] rfl rfl (any_of HT_.out (by kernel_rfl)) (fun _ _ _ h=>h) (Or.inl ⟨by rfl,?_⟩) ?_ ?_
    rotate_left
    ·intro w'
     go_simp
     with_reducible rfl
    rotate_left
    ·simp only[Act.put,List.setIfInBounds_toArray,List.set_cons_zero,List.set_cons_succ,i64_w,i32_w]
     rfl
    refine take_ (i:=1) (N:=some 24) (v:= ?_) (a':= ?_) #[true,true,true,false,true,false,false,false,false] rfl rfl (take_ofW HT_.out HW_.out (by kernel_rfl)) (fun _ _ _ h=>h) (Or.inl ⟨by rfl,?_⟩) hHeld ?_ ?_
    rotate_left
    ·rintro w' ⟨s0,s1,s2,s3,s4,s5,s6⟩
     go_simp
     with_reducible rfl
    rotate_left
    ·simp only[Act.put,List.setIfInBounds_toArray,List.set_cons_zero,List.set_cons_succ,i64_w,i32_w]
     rfl
    refine take_ (i:=3) (N:=some 26) (v:= ?_) (a':= ?_) #[true,true,true,true,true,false,false,false,false] rfl rfl (take_ofW HT_.out HW_.out (by kernel_rfl)) (fun _ _ _ h=>h) (Or.inl ⟨by rfl,?_⟩) hHeld ?_ ?_
    rotate_left
    ·rintro w' ⟨s0,s1,s2,s3,s4,s5,s6⟩
     go_simp
     with_reducible rfl
    rotate_left
    ·simp only[Act.put,List.setIfInBounds_toArray,List.set_cons_zero,List.set_cons_succ,i64_w,i32_w]
     rfl
    refine pure_ (i:=5) (N:=some 28) (v:= ?_) (a':= ?_) #[true,true,true,true,true,true,false,false,false] rfl rfl (any_of HT_.out (by kernel_rfl)) (fun _ _ _ h=>h) (Or.inl ⟨by rfl,?_⟩) ?_ ?_
    rotate_left
    ·intro w'
     go_simp
     with_reducible rfl
    rotate_left
    ·simp only[Act.put,List.setIfInBounds_toArray,List.set_cons_zero,List.set_cons_succ,i64_w,i32_w]
     rfl
    refine take_ (i:=6) (N:=some 29) (v:= ?_) (a':= ?_) #[true,true,true,true,true,true,true,false,false] rfl rfl (take_ofW HT_.out HW_.out (by kernel_rfl)) (fun _ _ _ h=>h) (Or.inl ⟨by rfl,?_⟩) hHeld ?_ ?_
    rotate_left
    ·rintro w' ⟨s0,s1,s2,s3,s4,s5,s6⟩
     go_simp
     with_reducible rfl
    rotate_left
    ·simp only[Act.put,List.setIfInBounds_toArray,List.set_cons_zero,List.set_cons_succ,i64_w,i32_w]
     rfl
    refine one_ (i:=7) (N:=some 30) #[true,true,true,true,true,true,true,true,false] rfl rfl (one_of HT_.out (by kernel_rfl)) (by decide) (fun K hK=> ?_)
    refine goes_ Try.func123 (by kernel_rfl) rfl #[.int .i64 a0_0, .agg #[.int .i64 ((rd_T74 l0_2 x4_1).f0), .int .i64 ((rd_T74 l0_2 x4_1).f1), .int .i64 ((rd_T74 l0_2 x4_1).f2), .int .i64 ((rd_T74 l0_2 x4_1).f3)]] (by rfl) rfl rfl (by(try simp only[List.map_toArray,List.map_cons,List.map_nil]);first|done|rfl|(simp only[List.length_drop,List.length_take];rfl)) ?_
    with_reducible refine(ebbtideref05_Arc.calls k1 a0_0 ((rd_T74 l0_2 x4_1).f0) ((rd_T74 l0_2 x4_1).f1) ((rd_T74 l0_2 x4_1).f2) ((rd_T74 l0_2 x4_1).f3) t158 _ A11.out).mono ?_
    rintro e w18 ⟨rfl,hb⟩
    refine⟨_,rfl,?_⟩
    have n0_:=Aside0.mk (blk_below BK155.out hb)
    have n1_:=Aside0.mk (below_step HB.out hb)
    clear BK155
    clear HB
    have BK155:=n0_
    have HB:=n1_
    clear n0_ n1_
    (try clear hb)
    (try clear hb2)
    (try clear hk)
    (try clear hi)
    refine hK.out _ _ ⟨(blk_cell BK155.out 0).trans rfl,(blk_cell BK155.out 1).trans rfl,(blk_cell BK155.out 2).trans rfl,((HB.out.cell (World.block_lt_of_cell? w _ hw157_0)).trans hw157_0),((HB.out.cell (World.block_lt_of_cell? w _ hw157_1)).trans hw157_1),((HB.out.cell (World.block_lt_of_cell? w _ hw157_2)).trans hw157_2),((HB.out.cell (World.block_lt_of_cell? w _ hw157_3)).trans hw157_3)⟩ (fun hHeld=> ?_)
    clear hK K
    refine norm_ (a':= ?_) ?_ ?_
    rotate_left
    ·show Act.put _ (some 30) _=_
     simp only[Act.put,List.setIfInBounds_toArray,List.set_cons_zero,List.set_cons_succ,i64_w,i32_w]
     rfl
    refine pure_ (i:=8) (N:=some 5) (v:= ?_) (a':= ?_) #[true,true,true,true,true,true,true,true,true] rfl rfl (any_of HT_.out (by kernel_rfl)) (fun _ _ _ h=>h) (Or.inl ⟨by rfl,?_⟩) ?_ ?_
    rotate_left
    ·intro w'
     go_simp
     with_reducible rfl
    rotate_left
    ·simp only[Act.put,List.setIfInBounds_toArray,List.set_cons_zero,List.set_cons_succ,i64_w,i32_w]
     rfl
    refine done_ (done_of HT_.out (by kernel_rfl)) ?_
    try go_wp2
    go_ret
    exact⟨by first|rfl|(simp[errW_none,errW_some]<;>rfl)|(simp[*,errW_none,errW_some]<;>rfl),HB.out⟩
   rw[if_pos c12] at H
   have c12b0:(t158 == 0)=true:=beq_iff_eq.mpr c12
   have c12b1:(t158 != 0)=false:=bne_eq_false_iff_eq.mpr c12
   clear c12
   have H':=Aside0.mk H
   clear H
   have hcz13_0:wr.cell? ⟨gb155,0,none⟩=some (.int .i64 a0_0):=(blk_cell BK155.out 0).trans rfl
   have hcz13_1:wr.cell? ⟨gb155,1,none⟩=some (.bool a0_1):=(blk_cell BK155.out 1).trans rfl
   have hcz13_2:wr.cell? ⟨gb155,2,none⟩=some (.slice A0_2 l0_2.length c0_2):=(blk_cell BK155.out 2).trans rfl
   have hfz13_0:=blk_frozen BK155.out 0
   have hfz13_1:=blk_frozen BK155.out 1
   have hfz13_2:=blk_frozen BK155.out 2
   try go_wp2
   have n0_:=Aside0.mk (blk_drew BK155.out)
   have n1_:=Aside0.mk (below_drew1 HB.out)
   clear BK155
   clear HB
   have BK155:=n0_
   have HB:=n1_
   clear n0_ n1_
   have p157:0≤(x4_1:Int):=of_decide_eq_true (by first|(with_reducible assumption)|assumption)
   have q157:x4_1<(l0_2.length:Int):=of_decide_eq_true (by first|(with_reducible assumption)|assumption)
   obtain⟨ad157,e157,hx157_0,hx157_1,hx157_2,hx157_3⟩:=at_T74 HR0_2.out x4_1 p157 q157
   have hw157_3:=hx157_3
   have hw157_2:=hx157_2
   have hw157_1:=hx157_1
   have hw157_0:=hx157_0
   cases e157
   replace hx157_0:=(HB.out.cell (World.block_lt_of_cell? w _ hx157_0)).trans hx157_0
   replace hx157_1:=(HB.out.cell (World.block_lt_of_cell? w _ hx157_1)).trans hx157_1
   replace hx157_2:=(HB.out.cell (World.block_lt_of_cell? w _ hx157_2)).trans hx157_2
   replace hx157_3:=(HB.out.cell (World.block_lt_of_cell? w _ hx157_3)).trans hx157_3
   replace p157:=eq_true p157
   replace q157:=eq_true q157
   refine start_ (n:=9) (S:=fun w'=>w'.cell? ⟨gb155,0,none⟩=some (.int .i64 a0_0)∧w'.cell? ⟨gb155,1,none⟩=some (.bool a0_1)∧w'.cell? ⟨gb155,2,none⟩=some (.slice (some ad157) l0_2.length c0_2)∧w'.cell? (ad157.add ((x4_1).toNat * 4))=some (.int .i64 ((rd_T74 l0_2 x4_1).f0))∧w'.cell? ⟨(ad157.add ((x4_1).toNat * 4)).block,(ad157.add ((x4_1).toNat * 4)).off+1,none⟩=some (.int .i64 ((rd_T74 l0_2 x4_1).f1))∧w'.cell? ⟨(ad157.add ((x4_1).toNat * 4)).block,(ad157.add ((x4_1).toNat * 4)).off+2,none⟩=some (.int .i64 ((rd_T74 l0_2 x4_1).f2))∧w'.cell? ⟨(ad157.add ((x4_1).toNat * 4)).block,(ad157.add ((x4_1).toNat * 4)).off+3,none⟩=some (.int .i64 ((rd_T74 l0_2 x4_1).f3))) (ds:=[]) #[false,false,false,false,false,false,false,false,false] (by kernel_rfl) rfl rfl ⟨(blk_cell BK155.out 0).trans rfl,(blk_cell BK155.out 1).trans rfl,(blk_cell BK155.out 2).trans rfl,((HB.out.cell (World.block_lt_of_cell? w _ hw157_0)).trans hw157_0),((HB.out.cell (World.block_lt_of_cell? w _ hw157_1)).trans hw157_1),((HB.out.cell (World.block_lt_of_cell? w _ hw157_2)).trans hw157_2),((HB.out.cell (World.block_lt_of_cell? w _ hw157_3)).trans hw157_3)⟩ (fun hHeld=> ?_);refine with_tabW ebbtideref05_Check.tab9 ebbtideref05_Check.bits9 (fun HT_ HW_=> ?_)
   generalize wr.drew=w14 at BK155 HB hx157_0 hx157_1 hx157_2 hx157_3 hHeld ⊢
   refine pure_ (i:=0) (N:=some 23) (v:= ?_) (a':= ?_) #[true,false,false,false,false,false,false,false,false] rfl rfl (any_of HT_.out (by kernel_rfl)) (fun _ _ _ h=>h) (Or.inl ⟨by rfl,?_⟩) ?_ ?_
   rotate_left
   ·intro w'
    go_simp
    with_reducible rfl
   rotate_left
   ·simp only[Act.put,List.setIfInBounds_toArray,List.set_cons_zero,List.set_cons_succ,i64_w,i32_w]
    rfl
   refine pure_ (i:=2) (N:=some 25) (v:= ?_) (a':= ?_) #[true,false,true,false,false,false,false,false,false] rfl rfl (any_of HT_.out (by kernel_rfl)) (fun _ _ _ h=>h) (Or.inl ⟨by rfl,?_⟩) ?_ ?_
   rotate_left
   ·intro w'
    go_simp
    with_reducible rfl
   rotate_left
   ·simp only[Act.put,List.setIfInBounds_toArray,List.set_cons_zero,List.set_cons_succ,i64_w,i32_w]
    rfl
   refine pure_ (i:=4) (N:=some 27) (v:= ?_) (a':= ?_) #[true,false,true,false,true,false,false,false,false] rfl rfl (any_of HT_.out (by kernel_rfl)) (fun _ _ _ h=>h) (Or.inl ⟨by rfl,?_⟩) ?_ ?_
   rotate_left
   ·intro w'
    go_simp
    with_reducible rfl
   rotate_left
   ·simp only[Act.put,List.setIfInBounds_toArray,List.set_cons_zero,List.set_cons_succ,i64_w,i32_w]
    rfl
   refine take_ (i:=1) (N:=some 24) (v:= ?_) (a':= ?_) #[true,true,true,false,true,false,false,false,false] rfl rfl (take_ofW HT_.out HW_.out (by kernel_rfl)) (fun _ _ _ h=>h) (Or.inl ⟨by rfl,?_⟩) hHeld ?_ ?_
   rotate_left
   ·rintro w' ⟨s0,s1,s2,s3,s4,s5,s6⟩
    go_simp
    with_reducible rfl
   rotate_left
   ·simp only[Act.put,List.setIfInBounds_toArray,List.set_cons_zero,List.set_cons_succ,i64_w,i32_w]
    rfl
   refine take_ (i:=3) (N:=some 26) (v:= ?_) (a':= ?_) #[true,true,true,true,true,false,false,false,false] rfl rfl (take_ofW HT_.out HW_.out (by kernel_rfl)) (fun _ _ _ h=>h) (Or.inl ⟨by rfl,?_⟩) hHeld ?_ ?_
   rotate_left
   ·rintro w' ⟨s0,s1,s2,s3,s4,s5,s6⟩
    go_simp
    with_reducible rfl
   rotate_left
   ·simp only[Act.put,List.setIfInBounds_toArray,List.set_cons_zero,List.set_cons_succ,i64_w,i32_w]
    rfl
   refine pure_ (i:=5) (N:=some 28) (v:= ?_) (a':= ?_) #[true,true,true,true,true,true,false,false,false] rfl rfl (any_of HT_.out (by kernel_rfl)) (fun _ _ _ h=>h) (Or.inl ⟨by rfl,?_⟩) ?_ ?_
   rotate_left
   ·intro w'
    go_simp
    with_reducible rfl
   rotate_left
   ·simp only[Act.put,List.setIfInBounds_toArray,List.set_cons_zero,List.set_cons_succ,i64_w,i32_w]
    rfl
   refine take_ (i:=6) (N:=some 29) (v:= ?_) (a':= ?_) #[true,true,true,true,true,true,true,false,false] rfl rfl (take_ofW HT_.out HW_.out (by kernel_rfl)) (fun _ _ _ h=>h) (Or.inl ⟨by rfl,?_⟩) hHeld ?_ ?_
   rotate_left
   ·rintro w' ⟨s0,s1,s2,s3,s4,s5,s6⟩
    go_simp
    with_reducible rfl
   rotate_left
   ·simp only[Act.put,List.setIfInBounds_toArray,List.set_cons_zero,List.set_cons_succ,i64_w,i32_w]
    rfl
   refine one_ (i:=7) (N:=some 30) #[true,true,true,true,true,true,true,true,false] rfl rfl (one_of HT_.out (by kernel_rfl)) (by decide) (fun K hK=> ?_)
   refine goes_ Try.func123 (by kernel_rfl) rfl #[.int .i64 a0_0, .agg #[.int .i64 ((rd_T74 l0_2 x4_1).f0), .int .i64 ((rd_T74 l0_2 x4_1).f1), .int .i64 ((rd_T74 l0_2 x4_1).f2), .int .i64 ((rd_T74 l0_2 x4_1).f3)]] (by rfl) rfl rfl (by(try simp only[List.map_toArray,List.map_cons,List.map_nil]);first|done|rfl|(simp only[List.length_drop,List.length_take];rfl)) ?_
   with_reducible refine(ebbtideref05_Arc.calls k1 a0_0 ((rd_T74 l0_2 x4_1).f0) ((rd_T74 l0_2 x4_1).f1) ((rd_T74 l0_2 x4_1).f2) ((rd_T74 l0_2 x4_1).f3) t158 _ A11.out).mono ?_
   rintro e w15 ⟨rfl,hb⟩
   refine⟨_,rfl,?_⟩
   have n0_:=Aside0.mk (blk_below BK155.out hb)
   have n1_:=Aside0.mk (below_step HB.out hb)
   clear BK155
   clear HB
   have BK155:=n0_
   have HB:=n1_
   clear n0_ n1_
   (try clear hb)
   (try clear hb2)
   (try clear hk)
   (try clear hi)
   refine hK.out _ _ ⟨(blk_cell BK155.out 0).trans rfl,(blk_cell BK155.out 1).trans rfl,(blk_cell BK155.out 2).trans rfl,((HB.out.cell (World.block_lt_of_cell? w _ hw157_0)).trans hw157_0),((HB.out.cell (World.block_lt_of_cell? w _ hw157_1)).trans hw157_1),((HB.out.cell (World.block_lt_of_cell? w _ hw157_2)).trans hw157_2),((HB.out.cell (World.block_lt_of_cell? w _ hw157_3)).trans hw157_3)⟩ (fun hHeld=> ?_)
   clear hK K
   refine norm_ (a':= ?_) ?_ ?_
   rotate_left
   ·show Act.put _ (some 30) _=_
    simp only[Act.put,List.setIfInBounds_toArray,List.set_cons_zero,List.set_cons_succ,i64_w,i32_w]
    rfl
   refine pure_ (i:=8) (N:=some 5) (v:= ?_) (a':= ?_) #[true,true,true,true,true,true,true,true,true] rfl rfl (any_of HT_.out (by kernel_rfl)) (fun _ _ _ h=>h) (Or.inl ⟨by rfl,?_⟩) ?_ ?_
   rotate_left
   ·intro w'
    go_simp
    with_reducible rfl
   rotate_left
   ·simp only[Act.put,List.setIfInBounds_toArray,List.set_cons_zero,List.set_cons_succ,i64_w,i32_w]
    rfl
   refine done_ (done_of HT_.out (by kernel_rfl)) ?_
   try go_wp2
   go_roundg k1
   case measure=>have:=HK1.out;omega
   case rel=>exact⟨(wrap64 (x4_1+1)),(by first|rfl|(simp;done)|(simp[*];done)),H',⟨by have:=HK1.out;omega⟩,⟨BK155.out⟩,⟨HB.out⟩⟩
end Go.Proofs.Ytkcpanpdipmmmaa.P
namespace Go.Proofs.Ytkcpanpdipmmmaa.P
open Go.RowKit Go.Proofs.YtkcpanpdipmmmaaW.PrintWords Go.Proofs.YtkcpanpdipmmmaaW.PrintLast Go.Proofs.YtkcpanpdipmmmaaW.PrintMore
attribute [local go_sem] max2_int min2_int max_two min_two max_three min_three max_four min_four
def ebbtideref07_Within.l0:Nat→List Int→Int→Int→Bool→List (S74)→Option (Bool)
 |0,_,_,_,_,_=>none
 |k+1,x1,x5,x160000,x160001,x160002=>if x5<(x1.length:Int) then(if 0≤x5 then(if (rd x1 x5)<0 then(some false) else(if x5<(x160002.length:Int) then(if (rd x1 x5)>((rd_T74 x160002 x5).f2) then(some false) else(ebbtideref07_Within.l0 k x1 (wrap64 (x5+1)) x160000 x160001 x160002)) else(none))) else(none)) else(some true)
def ebbtideref07_Within.f (k:Nat) (a0_0:Int) (a0_1:Bool) (l0_2:List (S74)) (l1:List Int):Option (Bool):=if (l1.length:Int)=(l0_2.length:Int) then(ebbtideref07_Within.l0 k l1 0 a0_0 a0_1 l0_2) else(some false)
set_option maxHeartbeats 8000000 in
set_option maxRecDepth 100000 in
theorem ebbtideref07_Within.calls (k:Nat) (a0_0:Int) (a0_1:Bool) (A0_2:Option Addr) (c0_2:Nat) (l0_2:List (S74)) (A1:Option Addr) (c1:Nat) (l1:List Int) (r:Bool) (w:World) (hr0_2:Kd.C k74 w A0_2 l0_2.length l0_2) (hc0_2:l0_2.length≤c0_2) (hr1:Kd.C (Kd.int .i64) w A1 l1.length l1) (hc1:l1.length≤c1) (h:ebbtideref07_Within.f k a0_0 a0_1 l0_2 l1=some r):
  Calls Try.prog 102 #[.agg #[.int .i64 a0_0, .bool a0_1, .slice A0_2 l0_2.length c0_2], .slice A1 l1.length c1] w fun e w'=>e= .returned (.bool r)∧Below w.heap.size w w':=by
 have hu24:=Try.underlying24
 have HR0_2:=Aside0.mk hr0_2
 have HC0_2:=Aside0.mk hc0_2
 clear hr0_2 hc0_2
 have HR1:=Aside0.mk hr1
 have HC1:=Aside0.mk hc1
 clear hr1 hc1
 have HB:=Aside0.mk (Below.refl w.heap.size w)
 have H:(if (l1.length:Int)=(l0_2.length:Int) then(ebbtideref07_Within.l0 k l1 0 a0_0 a0_1 l0_2) else(some false))=some r:=h
 clear h
 by_cases c3:(l1.length:Int)=(l0_2.length:Int)
 rotate_left
 ·rw[if_neg c3] at H
  have c3b0:((l1.length:Int) == (l0_2.length:Int))=false:=beq_eq_false_iff_ne.mpr c3
  have c3b1:((l1.length:Int) != (l0_2.length:Int))=true:=bne_iff_ne.mpr c3
  have c3b2:(l1.length == l0_2.length)=false:=by first|simpa using c3|(simp at c3 ⊢;omega)
  obtain rfl:=Option.some.inj H
  go_enter Try.func102,Try.ntmps102
  go_wp2_with (first|((with_reducible refine gate_dst (N:=2) rfl ?_);refine box_event ?hg (N:=2) ?hd (cs:= #[.int .i64 a0_0, .bool a0_1, .slice A0_2 l0_2.length c0_2]) (t:=24) ?hr ?_;(case hd=>rfl);(case hg=>rfl);(case hr=>first|(go_simp;done)|(go_simp;rfl));intro gb159 hg w13 hbox hb;have n0_:=Aside0.mk (below_step (by repeat(first|(with_reducible first|exact HB.out|apply below_alloc|apply pw_below_drewN|apply below_drew1)|exact HB.out)) hb);have n1_:=Aside0.mk (hbox);have n2_:=Aside0.mk ((by rw[hg];exact(below_size (by repeat(first|(with_reducible first|exact HB.out|apply below_alloc|apply pw_below_drewN|apply below_drew1)|exact HB.out))):w.heap.size≤gb159));have n3_:=Aside0.mk ((by rw[hg];exact(below_size (by repeat(first|(with_reducible first|exact HB.out|apply below_alloc|apply pw_below_drewN|apply below_drew1)|exact HB.out))):w.heap.size≤gb159));clear HB;have HB:=n0_;have BK159:=n1_;have GW159:=n2_;have GE159:=n3_;clear n0_ n1_ n2_ n3_;clear hb hbox hg;have hcz14_0:w13.cell? ⟨gb159,0,none⟩=some (.int .i64 a0_0):=(blk_cell BK159.out 0).trans rfl;have hcz14_1:w13.cell? ⟨gb159,1,none⟩=some (.bool a0_1):=(blk_cell BK159.out 1).trans rfl;have hcz14_2:w13.cell? ⟨gb159,2,none⟩=some (.slice A0_2 l0_2.length c0_2):=(blk_cell BK159.out 2).trans rfl;have hfz14_0:=blk_frozen BK159.out 0;have hfz14_1:=blk_frozen BK159.out 1;have hfz14_2:=blk_frozen BK159.out 2))
  repeat(go_quiet (first|((with_reducible refine gate_dst (N:=2) rfl ?_);refine box_event ?hg (N:=2) ?hd (cs:= #[.int .i64 a0_0, .bool a0_1, .slice A0_2 l0_2.length c0_2]) (t:=24) ?hr ?_;(case hd=>rfl);(case hg=>rfl);(case hr=>first|(go_simp;done)|(go_simp;rfl));intro gb159 hg w13 hbox hb;have n0_:=Aside0.mk (below_step (by repeat(first|(with_reducible first|exact HB.out|apply below_alloc|apply pw_below_drewN|apply below_drew1)|exact HB.out)) hb);have n1_:=Aside0.mk (hbox);have n2_:=Aside0.mk ((by rw[hg];exact(below_size (by repeat(first|(with_reducible first|exact HB.out|apply below_alloc|apply pw_below_drewN|apply below_drew1)|exact HB.out))):w.heap.size≤gb159));have n3_:=Aside0.mk ((by rw[hg];exact(below_size (by repeat(first|(with_reducible first|exact HB.out|apply below_alloc|apply pw_below_drewN|apply below_drew1)|exact HB.out))):w.heap.size≤gb159));clear HB;have HB:=n0_;have BK159:=n1_;have GW159:=n2_;have GE159:=n3_;clear n0_ n1_ n2_ n3_;clear hb hbox hg;have hcz14_0:w13.cell? ⟨gb159,0,none⟩=some (.int .i64 a0_0):=(blk_cell BK159.out 0).trans rfl;have hcz14_1:w13.cell? ⟨gb159,1,none⟩=some (.bool a0_1):=(blk_cell BK159.out 1).trans rfl;have hcz14_2:w13.cell? ⟨gb159,2,none⟩=some (.slice A0_2 l0_2.length c0_2):=(blk_cell BK159.out 2).trans rfl;have hfz14_0:=blk_frozen BK159.out 0;have hfz14_1:=blk_frozen BK159.out 1;have hfz14_2:=blk_frozen BK159.out 2));try go_wp2_with (first|((with_reducible refine gate_dst (N:=2) rfl ?_);refine box_event ?hg (N:=2) ?hd (cs:= #[.int .i64 a0_0, .bool a0_1, .slice A0_2 l0_2.length c0_2]) (t:=24) ?hr ?_;(case hd=>rfl);(case hg=>rfl);(case hr=>first|(go_simp;done)|(go_simp;rfl));intro gb159 hg w13 hbox hb;have n0_:=Aside0.mk (below_step (by repeat(first|(with_reducible first|exact HB.out|apply below_alloc|apply pw_below_drewN|apply below_drew1)|exact HB.out)) hb);have n1_:=Aside0.mk (hbox);have n2_:=Aside0.mk ((by rw[hg];exact(below_size (by repeat(first|(with_reducible first|exact HB.out|apply below_alloc|apply pw_below_drewN|apply below_drew1)|exact HB.out))):w.heap.size≤gb159));have n3_:=Aside0.mk ((by rw[hg];exact(below_size (by repeat(first|(with_reducible first|exact HB.out|apply below_alloc|apply pw_below_drewN|apply below_drew1)|exact HB.out))):w.heap.size≤gb159));clear HB;have HB:=n0_;have BK159:=n1_;have GW159:=n2_;have GE159:=n3_;clear n0_ n1_ n2_ n3_;clear hb hbox hg;have hcz14_0:w13.cell? ⟨gb159,0,none⟩=some (.int .i64 a0_0):=(blk_cell BK159.out 0).trans rfl;have hcz14_1:w13.cell? ⟨gb159,1,none⟩=some (.bool a0_1):=(blk_cell BK159.out 1).trans rfl;have hcz14_2:w13.cell? ⟨gb159,2,none⟩=some (.slice A0_2 l0_2.length c0_2):=(blk_cell BK159.out 2).trans rfl;have hfz14_0:=blk_frozen BK159.out 0;have hfz14_1:=blk_frozen BK159.out 1;have hfz14_2:=blk_frozen BK159.out 2)))
  go_ret
  exact⟨by first|rfl|(simp[errW_none,errW_some]<;>rfl)|(simp[*,errW_none,errW_some]<;>rfl),by repeat(first|(with_reducible first|exact HB.out|apply below_alloc|apply pw_below_drewN|apply below_drew1|refine below_set ?_ GE159.out)|exact HB.out)⟩
 rw[if_pos c3] at H
 have c3b0:((l1.length:Int) == (l0_2.length:Int))=true:=beq_iff_eq.mpr c3
 have c3b1:((l1.length:Int) != (l0_2.length:Int))=false:=bne_eq_false_iff_eq.mpr c3
 have c3b2:(l1.length == l0_2.length)=true:=by first|simpa using c3|(simp at c3 ⊢;omega)
 clear c3
 have H':=Aside0.mk H
 clear H
 go_enter Try.func102,Try.ntmps102
 go_wp2_with (first|((with_reducible refine gate_dst (N:=2) rfl ?_);refine box_event ?hg (N:=2) ?hd (cs:= #[.int .i64 a0_0, .bool a0_1, .slice A0_2 l0_2.length c0_2]) (t:=24) ?hr ?_;(case hd=>rfl);(case hg=>rfl);(case hr=>first|(go_simp;done)|(go_simp;rfl));intro gb159 hg w4 hbox hb;have n0_:=Aside0.mk (below_step (by repeat(first|(with_reducible first|exact HB.out|apply below_alloc|apply pw_below_drewN|apply below_drew1)|exact HB.out)) hb);have n1_:=Aside0.mk (hbox);have n2_:=Aside0.mk ((by rw[hg];exact(below_size (by repeat(first|(with_reducible first|exact HB.out|apply below_alloc|apply pw_below_drewN|apply below_drew1)|exact HB.out))):w.heap.size≤gb159));have n3_:=Aside0.mk ((by rw[hg];exact(below_size (by repeat(first|(with_reducible first|exact HB.out|apply below_alloc|apply pw_below_drewN|apply below_drew1)|exact HB.out))):w.heap.size≤gb159));clear HB;have HB:=n0_;have BK159:=n1_;have GW159:=n2_;have GE159:=n3_;clear n0_ n1_ n2_ n3_;clear hb hbox hg;have hcz5_0:w4.cell? ⟨gb159,0,none⟩=some (.int .i64 a0_0):=(blk_cell BK159.out 0).trans rfl;have hcz5_1:w4.cell? ⟨gb159,1,none⟩=some (.bool a0_1):=(blk_cell BK159.out 1).trans rfl;have hcz5_2:w4.cell? ⟨gb159,2,none⟩=some (.slice A0_2 l0_2.length c0_2):=(blk_cell BK159.out 2).trans rfl;have hfz5_0:=blk_frozen BK159.out 0;have hfz5_1:=blk_frozen BK159.out 1;have hfz5_2:=blk_frozen BK159.out 2))
 repeat(go_quiet (first|((with_reducible refine gate_dst (N:=2) rfl ?_);refine box_event ?hg (N:=2) ?hd (cs:= #[.int .i64 a0_0, .bool a0_1, .slice A0_2 l0_2.length c0_2]) (t:=24) ?hr ?_;(case hd=>rfl);(case hg=>rfl);(case hr=>first|(go_simp;done)|(go_simp;rfl));intro gb159 hg w4 hbox hb;have n0_:=Aside0.mk (below_step (by repeat(first|(with_reducible first|exact HB.out|apply below_alloc|apply pw_below_drewN|apply below_drew1)|exact HB.out)) hb);have n1_:=Aside0.mk (hbox);have n2_:=Aside0.mk ((by rw[hg];exact(below_size (by repeat(first|(with_reducible first|exact HB.out|apply below_alloc|apply pw_below_drewN|apply below_drew1)|exact HB.out))):w.heap.size≤gb159));have n3_:=Aside0.mk ((by rw[hg];exact(below_size (by repeat(first|(with_reducible first|exact HB.out|apply below_alloc|apply pw_below_drewN|apply below_drew1)|exact HB.out))):w.heap.size≤gb159));clear HB;have HB:=n0_;have BK159:=n1_;have GW159:=n2_;have GE159:=n3_;clear n0_ n1_ n2_ n3_;clear hb hbox hg;have hcz5_0:w4.cell? ⟨gb159,0,none⟩=some (.int .i64 a0_0):=(blk_cell BK159.out 0).trans rfl;have hcz5_1:w4.cell? ⟨gb159,1,none⟩=some (.bool a0_1):=(blk_cell BK159.out 1).trans rfl;have hcz5_2:w4.cell? ⟨gb159,2,none⟩=some (.slice A0_2 l0_2.length c0_2):=(blk_cell BK159.out 2).trans rfl;have hfz5_0:=blk_frozen BK159.out 0;have hfz5_1:=blk_frozen BK159.out 1;have hfz5_2:=blk_frozen BK159.out 2));try go_wp2_with (first|((with_reducible refine gate_dst (N:=2) rfl ?_);refine box_event ?hg (N:=2) ?hd (cs:= #[.int .i64 a0_0, .bool a0_1, .slice A0_2 l0_2.length c0_2]) (t:=24) ?hr ?_;(case hd=>rfl);(case hg=>rfl);(case hr=>first|(go_simp;done)|(go_simp;rfl));intro gb159 hg w4 hbox hb;have n0_:=Aside0.mk (below_step (by repeat(first|(with_reducible first|exact HB.out|apply below_alloc|apply pw_below_drewN|apply below_drew1)|exact HB.out)) hb);have n1_:=Aside0.mk (hbox);have n2_:=Aside0.mk ((by rw[hg];exact(below_size (by repeat(first|(with_reducible first|exact HB.out|apply below_alloc|apply pw_below_drewN|apply below_drew1)|exact HB.out))):w.heap.size≤gb159));have n3_:=Aside0.mk ((by rw[hg];exact(below_size (by repeat(first|(with_reducible first|exact HB.out|apply below_alloc|apply pw_below_drewN|apply below_drew1)|exact HB.out))):w.heap.size≤gb159));clear HB;have HB:=n0_;have BK159:=n1_;have GW159:=n2_;have GE159:=n3_;clear n0_ n1_ n2_ n3_;clear hb hbox hg;have hcz5_0:w4.cell? ⟨gb159,0,none⟩=some (.int .i64 a0_0):=(blk_cell BK159.out 0).trans rfl;have hcz5_1:w4.cell? ⟨gb159,1,none⟩=some (.bool a0_1):=(blk_cell BK159.out 1).trans rfl;have hcz5_2:w4.cell? ⟨gb159,2,none⟩=some (.slice A0_2 l0_2.length c0_2):=(blk_cell BK159.out 2).trans rfl;have hfz5_0:=blk_frozen BK159.out 0;have hfz5_1:=blk_frozen BK159.out 1;have hfz5_2:=blk_frozen BK159.out 2)))
 go_loopg [5] k (fun kq v5 w'=> ∃ (x5_1:Int),v5= .int .i64 x5_1∧Aside0 (ebbtideref07_Within.l0 kq l1 x5_1 a0_0 a0_1 l0_2=some r)∧Aside0 (kq≤k)∧Aside0 (w'.heap[gb159]? =some (.cells #[.int .i64 a0_0, .bool a0_1,(.slice A0_2 l0_2.length c0_2)] 24 (0,0)))∧Aside0 (Below w.heap.size w w'))
 case atStart=>exact⟨(0),(by first|rfl|(simp;done)|(simp[*];done)),H',⟨Nat.le_refl _⟩,⟨by(with_reducible repeat(first|refine blk_drewN ?_ _|refine blk_drew ?_|refine blk_alloc ?_ _));exact BK159.out⟩,⟨by repeat(first|(with_reducible first|exact HB.out|apply below_alloc|apply pw_below_drewN|apply below_drew1|refine below_set ?_ GE159.out)|exact HB.out)⟩⟩
 case round=>
  clear H'
  try clear c1
  try clear p2
  try clear c3
  try clear c3b0
  try clear c3b1
  try clear c3b2
  try clear hcz5_0
  try clear hcz5_1
  try clear hcz5_2
  try clear hfz5_0
  try clear hfz5_1
  try clear hfz5_2
  obtain⟨x5_1,rfl,HA,HK1,BK159,HB⟩:=hrel
  cases gk with
  |zero=>exact absurd HA.out (by simp[ebbtideref07_Within.l0])
  |succ k1=>
   have H:=HA.out
   clear HA
   simp only[ebbtideref07_Within.l0] at H
   by_cases c6:x5_1<(l1.length:Int)
   rotate_left
   ·rw[if_neg c6] at H
    have c6b0:decide (x5_1<(l1.length:Int))=false:=decide_eq_false c6
    clear c6
    obtain rfl:=Option.some.inj H
    go_wp2
    repeat(go_quiet (fail);try go_wp2)
    go_ret
    exact⟨by first|rfl|(simp[errW_none,errW_some]<;>rfl)|(simp[*,errW_none,errW_some]<;>rfl),by repeat(first|(with_reducible first|exact HB.out|apply below_alloc|apply pw_below_drewN|apply below_drew1|refine below_set ?_ GE159.out)|exact HB.out)⟩
   rw[if_pos c6] at H
   have c6b0:decide (x5_1<(l1.length:Int))=true:=decide_eq_true c6
   clear c6
   by_cases c7:0≤x5_1
   rotate_left
   ·rw[if_neg c7] at H
    exact absurd H (by simp)
   rw[if_pos c7] at H
   have c7b0:decide (0≤x5_1)=true:=decide_eq_true c7
   clear c7
   by_cases c8:(rd l1 x5_1)<0
   ·rw[if_pos c8] at H
    have c8b0:decide ((rd l1 x5_1)<0)=true:=decide_eq_true c8
    clear c8
    obtain rfl:=Option.some.inj H
    have p160:0≤(x5_1:Int):=of_decide_eq_true (by first|(with_reducible assumption)|assumption)
    have q160:x5_1<(l1.length:Int):=of_decide_eq_true (by first|(with_reducible assumption)|assumption)
    obtain⟨ad160,e160,hx160_0⟩:=Kd.at_int HR1.out x5_1 p160 q160
    cases e160
    replace hx160_0:=(HB.out.cell (World.block_lt_of_cell? w _ hx160_0)).trans hx160_0
    replace p160:=eq_true p160
    replace q160:=eq_true q160
    go_wp2
    repeat(go_quiet (fail);try go_wp2)
    go_ret
    exact⟨by first|rfl|(simp[errW_none,errW_some]<;>rfl)|(simp[*,errW_none,errW_some]<;>rfl),by repeat(first|(with_reducible first|exact HB.out|apply below_alloc|apply pw_below_drewN|apply below_drew1|refine below_set ?_ GE159.out)|exact HB.out)⟩
   rw[if_neg c8] at H
   have c8b0:decide ((rd l1 x5_1)<0)=false:=decide_eq_false c8
   clear c8
   by_cases c9:x5_1<(l0_2.length:Int)
   rotate_left
   ·rw[if_neg c9] at H
    exact absurd H (by simp)
   rw[if_pos c9] at H
   have c9b0:decide (x5_1<(l0_2.length:Int))=true:=decide_eq_true c9
   clear c9
   by_cases c10:(rd l1 x5_1)>((rd_T74 l0_2 x5_1).f2)
   ·rw[if_pos c10] at H
    have c10b0:decide (((rd_T74 l0_2 x5_1).f2)<(rd l1 x5_1))=true:=decide_eq_true c10
    clear c10
    obtain rfl:=Option.some.inj H
    have p160:0≤(x5_1:Int):=of_decide_eq_true (by first|(with_reducible assumption)|assumption)
    have q160:x5_1<(l1.length:Int):=of_decide_eq_true (by first|(with_reducible assumption)|assumption)
    obtain⟨ad160,e160,hx160_0⟩:=Kd.at_int HR1.out x5_1 p160 q160
    cases e160
    replace hx160_0:=(HB.out.cell (World.block_lt_of_cell? w _ hx160_0)).trans hx160_0
    replace p160:=eq_true p160
    replace q160:=eq_true q160
    have p161:0≤(x5_1:Int):=of_decide_eq_true (by first|(with_reducible assumption)|assumption)
    have q161:x5_1<(l1.length:Int):=of_decide_eq_true (by first|(with_reducible assumption)|assumption)
    obtain⟨ad161,e161,hx161_0⟩:=Kd.at_int HR1.out x5_1 p161 q161
    obtain rfl:ad160=ad161:=(by injection e161)
    replace hx161_0:=(HB.out.cell (World.block_lt_of_cell? w _ hx161_0)).trans hx161_0
    replace p161:=eq_true p161
    replace q161:=eq_true q161
    have hcz11_0:wr.cell? ⟨gb159,0,none⟩=some (.int .i64 a0_0):=(blk_cell BK159.out 0).trans rfl
    have hcz11_1:wr.cell? ⟨gb159,1,none⟩=some (.bool a0_1):=(blk_cell BK159.out 1).trans rfl
    have hcz11_2:wr.cell? ⟨gb159,2,none⟩=some (.slice A0_2 l0_2.length c0_2):=(blk_cell BK159.out 2).trans rfl
    have hfz11_0:=blk_frozen BK159.out 0
    have hfz11_1:=blk_frozen BK159.out 1
    have hfz11_2:=blk_frozen BK159.out 2
    have p162:0≤(x5_1:Int):=of_decide_eq_true (by first|(with_reducible assumption)|assumption)
    have q162:x5_1<(l0_2.length:Int):=of_decide_eq_true (by first|(with_reducible assumption)|assumption)
    obtain⟨ad162,e162,hx162_0,hx162_1,hx162_2,hx162_3⟩:=at_T74 HR0_2.out x5_1 p162 q162
    cases e162
    replace hx162_0:=(HB.out.cell (World.block_lt_of_cell? w _ hx162_0)).trans hx162_0
    replace hx162_1:=(HB.out.cell (World.block_lt_of_cell? w _ hx162_1)).trans hx162_1
    replace hx162_2:=(HB.out.cell (World.block_lt_of_cell? w _ hx162_2)).trans hx162_2
    replace hx162_3:=(HB.out.cell (World.block_lt_of_cell? w _ hx162_3)).trans hx162_3
    replace p162:=eq_true p162
    replace q162:=eq_true q162
    go_wp2
    repeat(go_quiet (fail);try go_wp2)
    go_ret
    exact⟨by first|rfl|(simp[errW_none,errW_some]<;>rfl)|(simp[*,errW_none,errW_some]<;>rfl),by repeat(first|(with_reducible first|exact HB.out|apply below_alloc|apply pw_below_drewN|apply below_drew1|refine below_set ?_ GE159.out)|exact HB.out)⟩
   rw[if_neg c10] at H
   have c10b0:decide (((rd_T74 l0_2 x5_1).f2)<(rd l1 x5_1))=false:=decide_eq_false c10
   clear c10
   have H':=Aside0.mk H
   clear H
   have p160:0≤(x5_1:Int):=of_decide_eq_true (by first|(with_reducible assumption)|assumption)
   have q160:x5_1<(l1.length:Int):=of_decide_eq_true (by first|(with_reducible assumption)|assumption)
   obtain⟨ad160,e160,hx160_0⟩:=Kd.at_int HR1.out x5_1 p160 q160
   cases e160
   replace hx160_0:=(HB.out.cell (World.block_lt_of_cell? w _ hx160_0)).trans hx160_0
   replace p160:=eq_true p160
   replace q160:=eq_true q160
   have p161:0≤(x5_1:Int):=of_decide_eq_true (by first|(with_reducible assumption)|assumption)
   have q161:x5_1<(l1.length:Int):=of_decide_eq_true (by first|(with_reducible assumption)|assumption)
   obtain⟨ad161,e161,hx161_0⟩:=Kd.at_int HR1.out x5_1 p161 q161
   obtain rfl:ad160=ad161:=(by injection e161)
   replace hx161_0:=(HB.out.cell (World.block_lt_of_cell? w _ hx161_0)).trans hx161_0
   replace p161:=eq_true p161
   replace q161:=eq_true q161
   have hcz12_0:wr.cell? ⟨gb159,0,none⟩=some (.int .i64 a0_0):=(blk_cell BK159.out 0).trans rfl
   have hcz12_1:wr.cell? ⟨gb159,1,none⟩=some (.bool a0_1):=(blk_cell BK159.out 1).trans rfl
   have hcz12_2:wr.cell? ⟨gb159,2,none⟩=some (.slice A0_2 l0_2.length c0_2):=(blk_cell BK159.out 2).trans rfl
   have hfz12_0:=blk_frozen BK159.out 0
   have hfz12_1:=blk_frozen BK159.out 1
   have hfz12_2:=blk_frozen BK159.out 2
   have p162:0≤(x5_1:Int):=of_decide_eq_true (by first|(with_reducible assumption)|assumption)
   have q162:x5_1<(l0_2.length:Int):=of_decide_eq_true (by first|(with_reducible assumption)|assumption)
   obtain⟨ad162,e162,hx162_0,hx162_1,hx162_2,hx162_3⟩:=at_T74 HR0_2.out x5_1 p162 q162
   cases e162
   replace hx162_0:=(HB.out.cell (World.block_lt_of_cell? w _ hx162_0)).trans hx162_0
   replace hx162_1:=(HB.out.cell (World.block_lt_of_cell? w _ hx162_1)).trans hx162_1
   replace hx162_2:=(HB.out.cell (World.block_lt_of_cell? w _ hx162_2)).trans hx162_2
   replace hx162_3:=(HB.out.cell (World.block_lt_of_cell? w _ hx162_3)).trans hx162_3
   replace p162:=eq_true p162
   replace q162:=eq_true q162
   go_wp2
   repeat(go_quiet (fail);try go_wp2)
   go_roundg k1
   case measure=>have:=HK1.out;omega
   case rel=>exact⟨(wrap64 (x5_1+1)),(by first|rfl|(simp;done)|(simp[*];done)),H',⟨by have:=HK1.out;omega⟩,⟨by(with_reducible repeat(first|refine blk_drewN ?_ _|refine blk_drew ?_|refine blk_alloc ?_ _));exact BK159.out⟩,⟨by repeat(first|(with_reducible first|exact HB.out|apply below_alloc|apply pw_below_drewN|apply below_drew1|refine below_set ?_ GE159.out)|exact HB.out)⟩⟩
end Go.Proofs.Ytkcpanpdipmmmaa.P
namespace Go.Proofs.Ytkcpanpdipmmmaa.P
open Go.RowKit Go.Proofs.YtkcpanpdipmmmaaW.PrintWords Go.Proofs.YtkcpanpdipmmmaaW.PrintLast Go.Proofs.YtkcpanpdipmmmaaW.PrintMore
attribute [local go_sem] max2_int min2_int max_two min_two max_three min_three max_four min_four
def ebbtideref07_Asked.f (k:Nat) (a0_0:Int) (a0_1:Bool) (l0_2:List (S74)) (l1:List Int):Option (Int):=(ebbtideref05_Check.f k a0_0 a0_1 l0_2).bind fun t164=>(if t164=0 then((ebbtideref07_Within.f k a0_0 a0_1 l0_2 l1).bind fun t165=>(if t165=true then(some 0) else(some 71))) else(some t164))
set_option maxHeartbeats 8000000 in
set_option maxRecDepth 100000 in
theorem ebbtideref07_Asked.calls (k:Nat) (a0_0:Int) (a0_1:Bool) (A0_2:Option Addr) (c0_2:Nat) (l0_2:List (S74)) (A1:Option Addr) (c1:Nat) (l1:List Int) (r:Int) (w:World) (hr0_2:Kd.C k74 w A0_2 l0_2.length l0_2) (hc0_2:l0_2.length≤c0_2) (hr1:Kd.C (Kd.int .i64) w A1 l1.length l1) (hc1:l1.length≤c1) (h:ebbtideref07_Asked.f k a0_0 a0_1 l0_2 l1=some r):
  Calls Try.prog 98 #[.agg #[.int .i64 a0_0, .bool a0_1, .slice A0_2 l0_2.length c0_2], .slice A1 l1.length c1] w fun e w'=>e= .returned (.int .i64 r)∧Below w.heap.size w w':=by
 have hu24:=Try.underlying24
 have HR0_2:=Aside0.mk hr0_2
 have HC0_2:=Aside0.mk hc0_2
 clear hr0_2 hc0_2
 have HR1:=Aside0.mk hr1
 have HC1:=Aside0.mk hc1
 clear hr1 hc1
 have HB:=Aside0.mk (Below.refl w.heap.size w)
 have H:((ebbtideref05_Check.f k a0_0 a0_1 l0_2).bind fun t164=>(if t164=0 then((ebbtideref07_Within.f k a0_0 a0_1 l0_2 l1).bind fun t165=>(if t165=true then(some 0) else(some 71))) else(some t164)))=some r:=h
 clear h
 replace H:=Option.bind_eq_some_iff.mp H
 obtain⟨t164,A30,H⟩:=H
 replace H:(if t164=0 then((ebbtideref07_Within.f k a0_0 a0_1 l0_2 l1).bind fun t165=>(if t165=true then(some 0) else(some 71))) else(some t164))=some r:=H
 have A3:=Aside0.mk A30
 clear A30
 by_cases c4:t164=0
 rotate_left
 ·rw[if_neg c4] at H
  have c4b0:(t164 == 0)=false:=beq_eq_false_iff_ne.mpr c4
  have c4b1:(t164 != 0)=true:=bne_iff_ne.mpr c4
  obtain rfl:=Option.some.inj H
  go_enter Try.func98,Try.ntmps98
  go_wp2_with (first|((with_reducible refine gate_dst (N:=2) rfl ?_);refine box_event ?hg (N:=2) ?hd (cs:= #[.int .i64 a0_0, .bool a0_1, .slice A0_2 l0_2.length c0_2]) (t:=24) ?hr ?_;(case hd=>rfl);(case hg=>rfl);(case hr=>first|(go_simp;done)|(go_simp;rfl));intro gb163 hg w17 hbox hb;have n0_:=Aside0.mk (below_step (by repeat(first|(with_reducible first|exact HB.out|apply below_alloc|apply pw_below_drewN|apply below_drew1)|exact HB.out)) hb);have n1_:=Aside0.mk (hbox);have n2_:=Aside0.mk ((by rw[hg];exact(below_size (by repeat(first|(with_reducible first|exact HB.out|apply below_alloc|apply pw_below_drewN|apply below_drew1)|exact HB.out))):w.heap.size≤gb163));have n3_:=Aside0.mk ((by rw[hg];exact(below_size (by repeat(first|(with_reducible first|exact HB.out|apply below_alloc|apply pw_below_drewN|apply below_drew1)|exact HB.out))):w.heap.size≤gb163));clear HB;have HB:=n0_;have BK163:=n1_;have GW163:=n2_;have GE163:=n3_;clear n0_ n1_ n2_ n3_;clear hb hbox hg;have hcz18_0:w17.cell? ⟨gb163,0,none⟩=some (.int .i64 a0_0):=(blk_cell BK163.out 0).trans rfl;have hcz18_1:w17.cell? ⟨gb163,1,none⟩=some (.bool a0_1):=(blk_cell BK163.out 1).trans rfl;have hcz18_2:w17.cell? ⟨gb163,2,none⟩=some (.slice A0_2 l0_2.length c0_2):=(blk_cell BK163.out 2).trans rfl;have hfz18_0:=blk_frozen BK163.out 0;have hfz18_1:=blk_frozen BK163.out 1;have hfz18_2:=blk_frozen BK163.out 2)|((with_reducible refine gate_callee (f:=78) rfl ?_);refine goesL_ (some 7) rfl rfl Try.func78 (by kernel_rfl) rfl #[.agg #[.int .i64 a0_0, .bool a0_1, .slice A0_2 l0_2.length c0_2]] rfl (by(try simp only[List.map_toArray,List.map_cons,List.map_nil]);first|done|rfl|(simp only[List.length_drop,List.length_take];rfl)) ?_;(with_reducible refine(ebbtideref05_Check.calls k a0_0 a0_1 _ _ l0_2 t164 _ ?side1 ?side2 A3.out).mono ?_);(case side1=>repeat(first|exact(Kd.C_below HR0_2.out HB.out)|(with_reducible refine Kd.C_alloc ?_ _)|(with_reducible refine Kd.C_drewN ?_ _)|(with_reducible refine Kd.C_drew ?_)));(case side2=>exact HC0_2.out);rintro e w19 ⟨rfl,hb⟩;refine⟨_,rfl,?_⟩;have n0_:=Aside0.mk (blk_below (g:=gb163) (o:= .cells #[.int .i64 a0_0, .bool a0_1, .slice A0_2 l0_2.length c0_2] 24 (0,0)) (by(with_reducible repeat(first|refine blk_drewN ?_ _|refine blk_drew ?_|refine blk_alloc ?_ _));exact BK163.out) hb);have n1_:=Aside0.mk (below_step (by repeat(first|(with_reducible first|exact HB.out|apply below_alloc|apply pw_below_drewN|apply below_drew1|refine below_set ?_ GE163.out)|exact HB.out)) hb);clear BK163;clear HB;have BK163:=n0_;have HB:=n1_;clear n0_ n1_;(try clear hb);(try clear hb2);(try clear hk);(try clear hi)))
  go_ret
  exact⟨by first|rfl|(simp[errW_none,errW_some]<;>rfl)|(simp[*,errW_none,errW_some]<;>rfl),by repeat(first|(with_reducible first|exact HB.out|apply below_alloc|apply pw_below_drewN|apply below_drew1|refine below_set ?_ GE163.out)|exact HB.out)⟩
 rw[if_pos c4] at H
 have c4b0:(t164 == 0)=true:=beq_iff_eq.mpr c4
 have c4b1:(t164 != 0)=false:=bne_eq_false_iff_eq.mpr c4
 clear c4
 replace H:=Option.bind_eq_some_iff.mp H
 obtain⟨t165,A50,H⟩:=H
 replace H:(if t165=true then(some 0) else(some 71))=some r:=H
 have A5:=Aside0.mk A50
 clear A50
 by_cases c6:t165=true
 ·subst c6
  have H1:(some 0)=some r:=by first|(rw[if_pos rfl] at H;exact H)|(rw[if_pos trivial] at H;exact H)
  clear H
  have H:=H1
  clear H1
  obtain rfl:=Option.some.inj H
  go_enter Try.func98,Try.ntmps98
  go_wp2_with (first|((with_reducible refine gate_dst (N:=2) rfl ?_);refine box_event ?hg (N:=2) ?hd (cs:= #[.int .i64 a0_0, .bool a0_1, .slice A0_2 l0_2.length c0_2]) (t:=24) ?hr ?_;(case hd=>rfl);(case hg=>rfl);(case hr=>first|(go_simp;done)|(go_simp;rfl));intro gb163 hg w7 hbox hb;have n0_:=Aside0.mk (below_step (by repeat(first|(with_reducible first|exact HB.out|apply below_alloc|apply pw_below_drewN|apply below_drew1)|exact HB.out)) hb);have n1_:=Aside0.mk (hbox);have n2_:=Aside0.mk ((by rw[hg];exact(below_size (by repeat(first|(with_reducible first|exact HB.out|apply below_alloc|apply pw_below_drewN|apply below_drew1)|exact HB.out))):w.heap.size≤gb163));have n3_:=Aside0.mk ((by rw[hg];exact(below_size (by repeat(first|(with_reducible first|exact HB.out|apply below_alloc|apply pw_below_drewN|apply below_drew1)|exact HB.out))):w.heap.size≤gb163));clear HB;have HB:=n0_;have BK163:=n1_;have GW163:=n2_;have GE163:=n3_;clear n0_ n1_ n2_ n3_;clear hb hbox hg;have hcz8_0:w7.cell? ⟨gb163,0,none⟩=some (.int .i64 a0_0):=(blk_cell BK163.out 0).trans rfl;have hcz8_1:w7.cell? ⟨gb163,1,none⟩=some (.bool a0_1):=(blk_cell BK163.out 1).trans rfl;have hcz8_2:w7.cell? ⟨gb163,2,none⟩=some (.slice A0_2 l0_2.length c0_2):=(blk_cell BK163.out 2).trans rfl;have hfz8_0:=blk_frozen BK163.out 0;have hfz8_1:=blk_frozen BK163.out 1;have hfz8_2:=blk_frozen BK163.out 2)|((with_reducible refine gate_callee (f:=78) rfl ?_);refine goesL_ (some 7) rfl rfl Try.func78 (by kernel_rfl) rfl #[.agg #[.int .i64 a0_0, .bool a0_1, .slice A0_2 l0_2.length c0_2]] rfl (by(try simp only[List.map_toArray,List.map_cons,List.map_nil]);first|done|rfl|(simp only[List.length_drop,List.length_take];rfl)) ?_;(with_reducible refine(ebbtideref05_Check.calls k a0_0 a0_1 _ _ l0_2 t164 _ ?side1 ?side2 A3.out).mono ?_);(case side1=>repeat(first|exact(Kd.C_below HR0_2.out HB.out)|(with_reducible refine Kd.C_alloc ?_ _)|(with_reducible refine Kd.C_drewN ?_ _)|(with_reducible refine Kd.C_drew ?_)));(case side2=>exact HC0_2.out);rintro e w9 ⟨rfl,hb⟩;refine⟨_,rfl,?_⟩;have n0_:=Aside0.mk (blk_below (g:=gb163) (o:= .cells #[.int .i64 a0_0, .bool a0_1, .slice A0_2 l0_2.length c0_2] 24 (0,0)) (by(with_reducible repeat(first|refine blk_drewN ?_ _|refine blk_drew ?_|refine blk_alloc ?_ _));exact BK163.out) hb);have n1_:=Aside0.mk (below_step (by repeat(first|(with_reducible first|exact HB.out|apply below_alloc|apply pw_below_drewN|apply below_drew1|refine below_set ?_ GE163.out)|exact HB.out)) hb);clear BK163;clear HB;have BK163:=n0_;have HB:=n1_;clear n0_ n1_;(try clear hb);(try clear hb2);(try clear hk);(try clear hi);have hcz10_0:w9.cell? ⟨gb163,0,none⟩=some (.int .i64 a0_0):=(blk_cell BK163.out 0).trans rfl;have hcz10_1:w9.cell? ⟨gb163,1,none⟩=some (.bool a0_1):=(blk_cell BK163.out 1).trans rfl;have hcz10_2:w9.cell? ⟨gb163,2,none⟩=some (.slice A0_2 l0_2.length c0_2):=(blk_cell BK163.out 2).trans rfl;have hfz10_0:=blk_frozen BK163.out 0;have hfz10_1:=blk_frozen BK163.out 1;have hfz10_2:=blk_frozen BK163.out 2)|((with_reducible refine gate_callee (f:=102) rfl ?_);refine goesL_ (some 13) rfl rfl Try.func102 (by kernel_rfl) rfl #[.agg #[.int .i64 a0_0, .bool a0_1, .slice A0_2 l0_2.length c0_2], .slice A1 l1.length c1] rfl (by(try simp only[List.map_toArray,List.map_cons,List.map_nil]);first|done|rfl|(simp only[List.length_drop,List.length_take];rfl)) ?_;(with_reducible refine(ebbtideref07_Within.calls k a0_0 a0_1 _ _ l0_2 _ _ l1 true _ ?side1 ?side2 ?side3 ?side4 A5.out).mono ?_);(case side1=>repeat(first|exact(Kd.C_below HR0_2.out HB.out)|(with_reducible refine Kd.C_alloc ?_ _)|(with_reducible refine Kd.C_drewN ?_ _)|(with_reducible refine Kd.C_drew ?_)));(case side2=>exact HC0_2.out);(case side3=>repeat(first|exact(Kd.C_below HR1.out HB.out)|(with_reducible refine Kd.C_alloc ?_ _)|(with_reducible refine Kd.C_drewN ?_ _)|(with_reducible refine Kd.C_drew ?_)));(case side4=>exact HC1.out);rintro e w11 ⟨rfl,hb⟩;refine⟨_,rfl,?_⟩;have n0_:=Aside0.mk (blk_below (g:=gb163) (o:= .cells #[.int .i64 a0_0, .bool a0_1, .slice A0_2 l0_2.length c0_2] 24 (0,0)) (by(with_reducible repeat(first|refine blk_drewN ?_ _|refine blk_drew ?_|refine blk_alloc ?_ _));exact BK163.out) hb);have n1_:=Aside0.mk (below_step (by repeat(first|(with_reducible first|exact HB.out|apply below_alloc|apply pw_below_drewN|apply below_drew1|refine below_set ?_ GE163.out)|exact HB.out)) hb);clear BK163;clear HB;have BK163:=n0_;have HB:=n1_;clear n0_ n1_;(try clear hb);(try clear hb2);(try clear hk);(try clear hi)))
  go_ret
  exact⟨by first|rfl|(simp[errW_none,errW_some]<;>rfl)|(simp[*,errW_none,errW_some]<;>rfl),by repeat(first|(with_reducible first|exact HB.out|apply below_alloc|apply pw_below_drewN|apply below_drew1|refine below_set ?_ GE163.out)|exact HB.out)⟩
 replace c6:=Bool.eq_false_iff.mpr c6
 subst c6
 have H1:(some 71)=some r:=by rw[if_neg (show ¬ (false=true) by decide)] at H;exact H
 clear H
 have H:=H1
 clear H1
 obtain rfl:=Option.some.inj H
 go_enter Try.func98,Try.ntmps98
 go_wp2_with (first|((with_reducible refine gate_dst (N:=2) rfl ?_);refine box_event ?hg (N:=2) ?hd (cs:= #[.int .i64 a0_0, .bool a0_1, .slice A0_2 l0_2.length c0_2]) (t:=24) ?hr ?_;(case hd=>rfl);(case hg=>rfl);(case hr=>first|(go_simp;done)|(go_simp;rfl));intro gb163 hg w12 hbox hb;have n0_:=Aside0.mk (below_step (by repeat(first|(with_reducible first|exact HB.out|apply below_alloc|apply pw_below_drewN|apply below_drew1)|exact HB.out)) hb);have n1_:=Aside0.mk (hbox);have n2_:=Aside0.mk ((by rw[hg];exact(below_size (by repeat(first|(with_reducible first|exact HB.out|apply below_alloc|apply pw_below_drewN|apply below_drew1)|exact HB.out))):w.heap.size≤gb163));have n3_:=Aside0.mk ((by rw[hg];exact(below_size (by repeat(first|(with_reducible first|exact HB.out|apply below_alloc|apply pw_below_drewN|apply below_drew1)|exact HB.out))):w.heap.size≤gb163));clear HB;have HB:=n0_;have BK163:=n1_;have GW163:=n2_;have GE163:=n3_;clear n0_ n1_ n2_ n3_;clear hb hbox hg;have hcz13_0:w12.cell? ⟨gb163,0,none⟩=some (.int .i64 a0_0):=(blk_cell BK163.out 0).trans rfl;have hcz13_1:w12.cell? ⟨gb163,1,none⟩=some (.bool a0_1):=(blk_cell BK163.out 1).trans rfl;have hcz13_2:w12.cell? ⟨gb163,2,none⟩=some (.slice A0_2 l0_2.length c0_2):=(blk_cell BK163.out 2).trans rfl;have hfz13_0:=blk_frozen BK163.out 0;have hfz13_1:=blk_frozen BK163.out 1;have hfz13_2:=blk_frozen BK163.out 2)|((with_reducible refine gate_callee (f:=78) rfl ?_);refine goesL_ (some 7) rfl rfl Try.func78 (by kernel_rfl) rfl #[.agg #[.int .i64 a0_0, .bool a0_1, .slice A0_2 l0_2.length c0_2]] rfl (by(try simp only[List.map_toArray,List.map_cons,List.map_nil]);first|done|rfl|(simp only[List.length_drop,List.length_take];rfl)) ?_;(with_reducible refine(ebbtideref05_Check.calls k a0_0 a0_1 _ _ l0_2 t164 _ ?side1 ?side2 A3.out).mono ?_);(case side1=>repeat(first|exact(Kd.C_below HR0_2.out HB.out)|(with_reducible refine Kd.C_alloc ?_ _)|(with_reducible refine Kd.C_drewN ?_ _)|(with_reducible refine Kd.C_drew ?_)));(case side2=>exact HC0_2.out);rintro e w14 ⟨rfl,hb⟩;refine⟨_,rfl,?_⟩;have n0_:=Aside0.mk (blk_below (g:=gb163) (o:= .cells #[.int .i64 a0_0, .bool a0_1, .slice A0_2 l0_2.length c0_2] 24 (0,0)) (by(with_reducible repeat(first|refine blk_drewN ?_ _|refine blk_drew ?_|refine blk_alloc ?_ _));exact BK163.out) hb);have n1_:=Aside0.mk (below_step (by repeat(first|(with_reducible first|exact HB.out|apply below_alloc|apply pw_below_drewN|apply below_drew1|refine below_set ?_ GE163.out)|exact HB.out)) hb);clear BK163;clear HB;have BK163:=n0_;have HB:=n1_;clear n0_ n1_;(try clear hb);(try clear hb2);(try clear hk);(try clear hi);have hcz15_0:w14.cell? ⟨gb163,0,none⟩=some (.int .i64 a0_0):=(blk_cell BK163.out 0).trans rfl;have hcz15_1:w14.cell? ⟨gb163,1,none⟩=some (.bool a0_1):=(blk_cell BK163.out 1).trans rfl;have hcz15_2:w14.cell? ⟨gb163,2,none⟩=some (.slice A0_2 l0_2.length c0_2):=(blk_cell BK163.out 2).trans rfl;have hfz15_0:=blk_frozen BK163.out 0;have hfz15_1:=blk_frozen BK163.out 1;have hfz15_2:=blk_frozen BK163.out 2)|((with_reducible refine gate_callee (f:=102) rfl ?_);refine goesL_ (some 13) rfl rfl Try.func102 (by kernel_rfl) rfl #[.agg #[.int .i64 a0_0, .bool a0_1, .slice A0_2 l0_2.length c0_2], .slice A1 l1.length c1] rfl (by(try simp only[List.map_toArray,List.map_cons,List.map_nil]);first|done|rfl|(simp only[List.length_drop,List.length_take];rfl)) ?_;(with_reducible refine(ebbtideref07_Within.calls k a0_0 a0_1 _ _ l0_2 _ _ l1 false _ ?side1 ?side2 ?side3 ?side4 A5.out).mono ?_);(case side1=>repeat(first|exact(Kd.C_below HR0_2.out HB.out)|(with_reducible refine Kd.C_alloc ?_ _)|(with_reducible refine Kd.C_drewN ?_ _)|(with_reducible refine Kd.C_drew ?_)));(case side2=>exact HC0_2.out);(case side3=>repeat(first|exact(Kd.C_below HR1.out HB.out)|(with_reducible refine Kd.C_alloc ?_ _)|(with_reducible refine Kd.C_drewN ?_ _)|(with_reducible refine Kd.C_drew ?_)));(case side4=>exact HC1.out);rintro e w16 ⟨rfl,hb⟩;refine⟨_,rfl,?_⟩;have n0_:=Aside0.mk (blk_below (g:=gb163) (o:= .cells #[.int .i64 a0_0, .bool a0_1, .slice A0_2 l0_2.length c0_2] 24 (0,0)) (by(with_reducible repeat(first|refine blk_drewN ?_ _|refine blk_drew ?_|refine blk_alloc ?_ _));exact BK163.out) hb);have n1_:=Aside0.mk (below_step (by repeat(first|(with_reducible first|exact HB.out|apply below_alloc|apply pw_below_drewN|apply below_drew1|refine below_set ?_ GE163.out)|exact HB.out)) hb);clear BK163;clear HB;have BK163:=n0_;have HB:=n1_;clear n0_ n1_;(try clear hb);(try clear hb2);(try clear hk);(try clear hi)))
 go_ret
 exact⟨by first|rfl|(simp[errW_none,errW_some]<;>rfl)|(simp[*,errW_none,errW_some]<;>rfl),by repeat(first|(with_reducible first|exact HB.out|apply below_alloc|apply pw_below_drewN|apply below_drew1|refine below_set ?_ GE163.out)|exact HB.out)⟩
end Go.Proofs.Ytkcpanpdipmmmaa.P
namespace Go.Proofs.Ytkcpanpdipmmmaa.P
open Go.RowKit Go.Proofs.YtkcpanpdipmmmaaW.PrintWords Go.Proofs.YtkcpanpdipmmmaaW.PrintLast Go.Proofs.YtkcpanpdipmmmaaW.PrintMore
attribute [local go_sem] max2_int min2_int max_two min_two max_three min_three max_four min_four
def ebbtideref07_Cost.l0:Nat→List Int→Int→Int→Int→Bool→List (S74)→Option (Int × Int)
 |0,_,_,_,_,_,_=>none
 |k+1,x1,x7,x8,x355000,x355001,x355002=>if x8<(x1.length:Int) then(if 0≤x8 then(if x8<(x355002.length:Int) then(ebbtideref07_Cost.l0 k x1 (wrap64 (x7+(wrap64 ((rd x1 x8) * ((rd_T74 x355002 x8).f3))))) (wrap64 (x8+1)) x355000 x355001 x355002) else(none)) else(none)) else(some (x7,0))
def ebbtideref07_Cost.f (k:Nat) (a0_0:Int) (a0_1:Bool) (l0_2:List (S74)) (l1:List Int):Option (Int × Int):=(ebbtideref07_Asked.f k a0_0 a0_1 l0_2 l1).bind fun t355=>(if t355=0 then(ebbtideref07_Cost.l0 k l1 0 0 a0_0 a0_1 l0_2) else(some (0,t355)))
set_option maxHeartbeats 8000000 in
set_option maxRecDepth 100000 in
theorem ebbtideref07_Cost.calls (k:Nat) (a0_0:Int) (a0_1:Bool) (A0_2:Option Addr) (c0_2:Nat) (l0_2:List (S74)) (A1:Option Addr) (c1:Nat) (l1:List Int) (r1:Int) (r2:Int) (w:World) (hr0_2:Kd.C k74 w A0_2 l0_2.length l0_2) (hc0_2:l0_2.length≤c0_2) (hr1:Kd.C (Kd.int .i64) w A1 l1.length l1) (hc1:l1.length≤c1) (h:ebbtideref07_Cost.f k a0_0 a0_1 l0_2 l1=some (r1,r2)):
  Calls Try.prog 49 #[.agg #[.int .i64 a0_0, .bool a0_1, .slice A0_2 l0_2.length c0_2], .slice A1 l1.length c1] w fun e w'=>e= .returned (.tuple #[.int .i64 r1, .int .i64 r2])∧Below w.heap.size w w':=by
 have hu24:=Try.underlying24
 have HR0_2:=Aside0.mk hr0_2
 have HC0_2:=Aside0.mk hc0_2
 clear hr0_2 hc0_2
 have HR1:=Aside0.mk hr1
 have HC1:=Aside0.mk hc1
 clear hr1 hc1
 have HB:=Aside0.mk (Below.refl w.heap.size w)
 have H:((ebbtideref07_Asked.f k a0_0 a0_1 l0_2 l1).bind fun t355=>(if t355=0 then(ebbtideref07_Cost.l0 k l1 0 0 a0_0 a0_1 l0_2) else(some (0,t355))))=some (r1,r2):=h
 clear h
 replace H:=Option.bind_eq_some_iff.mp H
 obtain⟨t355,A30,H⟩:=H
 replace H:(if t355=0 then(ebbtideref07_Cost.l0 k l1 0 0 a0_0 a0_1 l0_2) else(some (0,t355)))=some (r1,r2):=H
 have A3:=Aside0.mk A30
 clear A30
 by_cases c4:t355=0
 rotate_left
 ·rw[if_neg c4] at H
  have c4b0:(t355 == 0)=false:=beq_eq_false_iff_ne.mpr c4
  have c4b1:(t355 != 0)=true:=bne_iff_ne.mpr c4
  simp only[Option.some.injEq,Prod.mk.injEq] at H
  obtain⟨rfl,rfl⟩:=H
  go_enter Try.func49,Try.ntmps49
  go_wp2_with (first|((with_reducible refine gate_dst (N:=2) rfl ?_);refine box_event ?hg (N:=2) ?hd (cs:= #[.int .i64 a0_0, .bool a0_1, .slice A0_2 l0_2.length c0_2]) (t:=24) ?hr ?_;(case hd=>rfl);(case hg=>rfl);(case hr=>first|(go_simp;done)|(go_simp;rfl));intro gb354 hg w12 hbox hb;have n0_:=Aside0.mk (below_step (by repeat(first|(with_reducible first|exact HB.out|apply below_alloc|apply pw_below_drewN|apply below_drew1)|exact HB.out)) hb);have n1_:=Aside0.mk (hbox);have n2_:=Aside0.mk ((by rw[hg];exact(below_size (by repeat(first|(with_reducible first|exact HB.out|apply below_alloc|apply pw_below_drewN|apply below_drew1)|exact HB.out))):w.heap.size≤gb354));have n3_:=Aside0.mk ((by rw[hg];exact(below_size (by repeat(first|(with_reducible first|exact HB.out|apply below_alloc|apply pw_below_drewN|apply below_drew1)|exact HB.out))):w.heap.size≤gb354));clear HB;have HB:=n0_;have BK354:=n1_;have GW354:=n2_;have GE354:=n3_;clear n0_ n1_ n2_ n3_;clear hb hbox hg;have hcz13_0:w12.cell? ⟨gb354,0,none⟩=some (.int .i64 a0_0):=(blk_cell BK354.out 0).trans rfl;have hcz13_1:w12.cell? ⟨gb354,1,none⟩=some (.bool a0_1):=(blk_cell BK354.out 1).trans rfl;have hcz13_2:w12.cell? ⟨gb354,2,none⟩=some (.slice A0_2 l0_2.length c0_2):=(blk_cell BK354.out 2).trans rfl;have hfz13_0:=blk_frozen BK354.out 0;have hfz13_1:=blk_frozen BK354.out 1;have hfz13_2:=blk_frozen BK354.out 2)|(go_at_call 98;(with_reducible refine(ebbtideref07_Asked.calls k a0_0 a0_1 _ _ l0_2 _ _ l1 t355 _ ?side1 ?side2 ?side3 ?side4 A3.out).mono ?_);(case side1=>repeat(first|exact(Kd.C_below HR0_2.out HB.out)|(with_reducible refine Kd.C_alloc ?_ _)|(with_reducible refine Kd.C_drewN ?_ _)|(with_reducible refine Kd.C_drew ?_)));(case side2=>exact HC0_2.out);(case side3=>repeat(first|exact(Kd.C_below HR1.out HB.out)|(with_reducible refine Kd.C_alloc ?_ _)|(with_reducible refine Kd.C_drewN ?_ _)|(with_reducible refine Kd.C_drew ?_)));(case side4=>exact HC1.out);rintro e w14 ⟨rfl,hb⟩;have n0_:=Aside0.mk (blk_below (g:=gb354) (o:= .cells #[.int .i64 a0_0, .bool a0_1, .slice A0_2 l0_2.length c0_2] 24 (0,0)) (by(with_reducible repeat(first|refine blk_drewN ?_ _|refine blk_drew ?_|refine blk_alloc ?_ _));exact BK354.out) hb);have n1_:=Aside0.mk (below_step (by repeat(first|(with_reducible first|exact HB.out|apply below_alloc|apply pw_below_drewN|apply below_drew1|refine below_set ?_ GE354.out)|exact HB.out)) hb);clear BK354;clear HB;have BK354:=n0_;have HB:=n1_;clear n0_ n1_;(try clear hb);(try clear hb2);(try clear hk);(try clear hi)))
  repeat(go_quiet (first|((with_reducible refine gate_dst (N:=2) rfl ?_);refine box_event ?hg (N:=2) ?hd (cs:= #[.int .i64 a0_0, .bool a0_1, .slice A0_2 l0_2.length c0_2]) (t:=24) ?hr ?_;(case hd=>rfl);(case hg=>rfl);(case hr=>first|(go_simp;done)|(go_simp;rfl));intro gb354 hg w12 hbox hb;have n0_:=Aside0.mk (below_step (by repeat(first|(with_reducible first|exact HB.out|apply below_alloc|apply pw_below_drewN|apply below_drew1)|exact HB.out)) hb);have n1_:=Aside0.mk (hbox);have n2_:=Aside0.mk ((by rw[hg];exact(below_size (by repeat(first|(with_reducible first|exact HB.out|apply below_alloc|apply pw_below_drewN|apply below_drew1)|exact HB.out))):w.heap.size≤gb354));have n3_:=Aside0.mk ((by rw[hg];exact(below_size (by repeat(first|(with_reducible first|exact HB.out|apply below_alloc|apply pw_below_drewN|apply below_drew1)|exact HB.out))):w.heap.size≤gb354));clear HB;have HB:=n0_;have BK354:=n1_;have GW354:=n2_;have GE354:=n3_;clear n0_ n1_ n2_ n3_;clear hb hbox hg;have hcz13_0:w12.cell? ⟨gb354,0,none⟩=some (.int .i64 a0_0):=(blk_cell BK354.out 0).trans rfl;have hcz13_1:w12.cell? ⟨gb354,1,none⟩=some (.bool a0_1):=(blk_cell BK354.out 1).trans rfl;have hcz13_2:w12.cell? ⟨gb354,2,none⟩=some (.slice A0_2 l0_2.length c0_2):=(blk_cell BK354.out 2).trans rfl;have hfz13_0:=blk_frozen BK354.out 0;have hfz13_1:=blk_frozen BK354.out 1;have hfz13_2:=blk_frozen BK354.out 2)|(go_at_call 98;(with_reducible refine(ebbtideref07_Asked.calls k a0_0 a0_1 _ _ l0_2 _ _ l1 t355 _ ?side1 ?side2 ?side3 ?side4 A3.out).mono ?_);(case side1=>repeat(first|exact(Kd.C_below HR0_2.out HB.out)|(with_reducible refine Kd.C_alloc ?_ _)|(with_reducible refine Kd.C_drewN ?_ _)|(with_reducible refine Kd.C_drew ?_)));(case side2=>exact HC0_2.out);(case side3=>repeat(first|exact(Kd.C_below HR1.out HB.out)|(with_reducible refine Kd.C_alloc ?_ _)|(with_reducible refine Kd.C_drewN ?_ _)|(with_reducible refine Kd.C_drew ?_)));(case side4=>exact HC1.out);rintro e w14 ⟨rfl,hb⟩;have n0_:=Aside0.mk (blk_below (g:=gb354) (o:= .cells #[.int .i64 a0_0, .bool a0_1, .slice A0_2 l0_2.length c0_2] 24 (0,0)) (by(with_reducible repeat(first|refine blk_drewN ?_ _|refine blk_drew ?_|refine blk_alloc ?_ _));exact BK354.out) hb);have n1_:=Aside0.mk (below_step (by repeat(first|(with_reducible first|exact HB.out|apply below_alloc|apply pw_below_drewN|apply below_drew1|refine below_set ?_ GE354.out)|exact HB.out)) hb);clear BK354;clear HB;have BK354:=n0_;have HB:=n1_;clear n0_ n1_;(try clear hb);(try clear hb2);(try clear hk);(try clear hi)));try go_wp2_with (first|((with_reducible refine gate_dst (N:=2) rfl ?_);refine box_event ?hg (N:=2) ?hd (cs:= #[.int .i64 a0_0, .bool a0_1, .slice A0_2 l0_2.length c0_2]) (t:=24) ?hr ?_;(case hd=>rfl);(case hg=>rfl);(case hr=>first|(go_simp;done)|(go_simp;rfl));intro gb354 hg w12 hbox hb;have n0_:=Aside0.mk (below_step (by repeat(first|(with_reducible first|exact HB.out|apply below_alloc|apply pw_below_drewN|apply below_drew1)|exact HB.out)) hb);have n1_:=Aside0.mk (hbox);have n2_:=Aside0.mk ((by rw[hg];exact(below_size (by repeat(first|(with_reducible first|exact HB.out|apply below_alloc|apply pw_below_drewN|apply below_drew1)|exact HB.out))):w.heap.size≤gb354));have n3_:=Aside0.mk ((by rw[hg];exact(below_size (by repeat(first|(with_reducible first|exact HB.out|apply below_alloc|apply pw_below_drewN|apply below_drew1)|exact HB.out))):w.heap.size≤gb354));clear HB;have HB:=n0_;have BK354:=n1_;have GW354:=n2_;have GE354:=n3_;clear n0_ n1_ n2_ n3_;clear hb hbox hg;have hcz13_0:w12.cell? ⟨gb354,0,none⟩=some (.int .i64 a0_0):=(blk_cell BK354.out 0).trans rfl;have hcz13_1:w12.cell? ⟨gb354,1,none⟩=some (.bool a0_1):=(blk_cell BK354.out 1).trans rfl;have hcz13_2:w12.cell? ⟨gb354,2,none⟩=some (.slice A0_2 l0_2.length c0_2):=(blk_cell BK354.out 2).trans rfl;have hfz13_0:=blk_frozen BK354.out 0;have hfz13_1:=blk_frozen BK354.out 1;have hfz13_2:=blk_frozen BK354.out 2)|(go_at_call 98;(with_reducible refine(ebbtideref07_Asked.calls k a0_0 a0_1 _ _ l0_2 _ _ l1 t355 _ ?side1 ?side2 ?side3 ?side4 A3.out).mono ?_);(case side1=>repeat(first|exact(Kd.C_below HR0_2.out HB.out)|(with_reducible refine Kd.C_alloc ?_ _)|(with_reducible refine Kd.C_drewN ?_ _)|(with_reducible refine Kd.C_drew ?_)));(case side2=>exact HC0_2.out);(case side3=>repeat(first|exact(Kd.C_below HR1.out HB.out)|(with_reducible refine Kd.C_alloc ?_ _)|(with_reducible refine Kd.C_drewN ?_ _)|(with_reducible refine Kd.C_drew ?_)));(case side4=>exact HC1.out);rintro e w14 ⟨rfl,hb⟩;have n0_:=Aside0.mk (blk_below (g:=gb354) (o:= .cells #[.int .i64 a0_0, .bool a0_1, .slice A0_2 l0_2.length c0_2] 24 (0,0)) (by(with_reducible repeat(first|refine blk_drewN ?_ _|refine blk_drew ?_|refine blk_alloc ?_ _));exact BK354.out) hb);have n1_:=Aside0.mk (below_step (by repeat(first|(with_reducible first|exact HB.out|apply below_alloc|apply pw_below_drewN|apply below_drew1|refine below_set ?_ GE354.out)|exact HB.out)) hb);clear BK354;clear HB;have BK354:=n0_;have HB:=n1_;clear n0_ n1_;(try clear hb);(try clear hb2);(try clear hk);(try clear hi))))
  go_ret2
  exact⟨by first|rfl|(simp[errW_none,errW_some]<;>rfl)|(simp[*,errW_none,errW_some]<;>rfl),by repeat(first|(with_reducible first|exact HB.out|apply below_alloc|apply pw_below_drewN|apply below_drew1|refine below_set ?_ GE354.out)|exact HB.out)⟩
 rw[if_pos c4] at H
 have c4b0:(t355 == 0)=true:=beq_iff_eq.mpr c4
 have c4b1:(t355 != 0)=false:=bne_eq_false_iff_eq.mpr c4
 clear c4
 have H':=Aside0.mk H
 clear H
 go_enter Try.func49,Try.ntmps49
 go_wp2_with (first|((with_reducible refine gate_dst (N:=2) rfl ?_);refine box_event ?hg (N:=2) ?hd (cs:= #[.int .i64 a0_0, .bool a0_1, .slice A0_2 l0_2.length c0_2]) (t:=24) ?hr ?_;(case hd=>rfl);(case hg=>rfl);(case hr=>first|(go_simp;done)|(go_simp;rfl));intro gb354 hg w5 hbox hb;have n0_:=Aside0.mk (below_step (by repeat(first|(with_reducible first|exact HB.out|apply below_alloc|apply pw_below_drewN|apply below_drew1)|exact HB.out)) hb);have n1_:=Aside0.mk (hbox);have n2_:=Aside0.mk ((by rw[hg];exact(below_size (by repeat(first|(with_reducible first|exact HB.out|apply below_alloc|apply pw_below_drewN|apply below_drew1)|exact HB.out))):w.heap.size≤gb354));have n3_:=Aside0.mk ((by rw[hg];exact(below_size (by repeat(first|(with_reducible first|exact HB.out|apply below_alloc|apply pw_below_drewN|apply below_drew1)|exact HB.out))):w.heap.size≤gb354));clear HB;have HB:=n0_;have BK354:=n1_;have GW354:=n2_;have GE354:=n3_;clear n0_ n1_ n2_ n3_;clear hb hbox hg;have hcz6_0:w5.cell? ⟨gb354,0,none⟩=some (.int .i64 a0_0):=(blk_cell BK354.out 0).trans rfl;have hcz6_1:w5.cell? ⟨gb354,1,none⟩=some (.bool a0_1):=(blk_cell BK354.out 1).trans rfl;have hcz6_2:w5.cell? ⟨gb354,2,none⟩=some (.slice A0_2 l0_2.length c0_2):=(blk_cell BK354.out 2).trans rfl;have hfz6_0:=blk_frozen BK354.out 0;have hfz6_1:=blk_frozen BK354.out 1;have hfz6_2:=blk_frozen BK354.out 2)|(go_at_call 98;(with_reducible refine(ebbtideref07_Asked.calls k a0_0 a0_1 _ _ l0_2 _ _ l1 t355 _ ?side1 ?side2 ?side3 ?side4 A3.out).mono ?_);(case side1=>repeat(first|exact(Kd.C_below HR0_2.out HB.out)|(with_reducible refine Kd.C_alloc ?_ _)|(with_reducible refine Kd.C_drewN ?_ _)|(with_reducible refine Kd.C_drew ?_)));(case side2=>exact HC0_2.out);(case side3=>repeat(first|exact(Kd.C_below HR1.out HB.out)|(with_reducible refine Kd.C_alloc ?_ _)|(with_reducible refine Kd.C_drewN ?_ _)|(with_reducible refine Kd.C_drew ?_)));(case side4=>exact HC1.out);rintro e w7 ⟨rfl,hb⟩;have n0_:=Aside0.mk (blk_below (g:=gb354) (o:= .cells #[.int .i64 a0_0, .bool a0_1, .slice A0_2 l0_2.length c0_2] 24 (0,0)) (by(with_reducible repeat(first|refine blk_drewN ?_ _|refine blk_drew ?_|refine blk_alloc ?_ _));exact BK354.out) hb);have n1_:=Aside0.mk (below_step (by repeat(first|(with_reducible first|exact HB.out|apply below_alloc|apply pw_below_drewN|apply below_drew1|refine below_set ?_ GE354.out)|exact HB.out)) hb);clear BK354;clear HB;have BK354:=n0_;have HB:=n1_;clear n0_ n1_;(try clear hb);(try clear hb2);(try clear hk);(try clear hi)))
 repeat(go_quiet (first|((with_reducible refine gate_dst (N:=2) rfl ?_);refine box_event ?hg (N:=2) ?hd (cs:= #[.int .i64 a0_0, .bool a0_1, .slice A0_2 l0_2.length c0_2]) (t:=24) ?hr ?_;(case hd=>rfl);(case hg=>rfl);(case hr=>first|(go_simp;done)|(go_simp;rfl));intro gb354 hg w5 hbox hb;have n0_:=Aside0.mk (below_step (by repeat(first|(with_reducible first|exact HB.out|apply below_alloc|apply pw_below_drewN|apply below_drew1)|exact HB.out)) hb);have n1_:=Aside0.mk (hbox);have n2_:=Aside0.mk ((by rw[hg];exact(below_size (by repeat(first|(with_reducible first|exact HB.out|apply below_alloc|apply pw_below_drewN|apply below_drew1)|exact HB.out))):w.heap.size≤gb354));have n3_:=Aside0.mk ((by rw[hg];exact(below_size (by repeat(first|(with_reducible first|exact HB.out|apply below_alloc|apply pw_below_drewN|apply below_drew1)|exact HB.out))):w.heap.size≤gb354));clear HB;have HB:=n0_;have BK354:=n1_;have GW354:=n2_;have GE354:=n3_;clear n0_ n1_ n2_ n3_;clear hb hbox hg;have hcz6_0:w5.cell? ⟨gb354,0,none⟩=some (.int .i64 a0_0):=(blk_cell BK354.out 0).trans rfl;have hcz6_1:w5.cell? ⟨gb354,1,none⟩=some (.bool a0_1):=(blk_cell BK354.out 1).trans rfl;have hcz6_2:w5.cell? ⟨gb354,2,none⟩=some (.slice A0_2 l0_2.length c0_2):=(blk_cell BK354.out 2).trans rfl;have hfz6_0:=blk_frozen BK354.out 0;have hfz6_1:=blk_frozen BK354.out 1;have hfz6_2:=blk_frozen BK354.out 2)|(go_at_call 98;(with_reducible refine(ebbtideref07_Asked.calls k a0_0 a0_1 _ _ l0_2 _ _ l1 t355 _ ?side1 ?side2 ?side3 ?side4 A3.out).mono ?_);(case side1=>repeat(first|exact(Kd.C_below HR0_2.out HB.out)|(with_reducible refine Kd.C_alloc ?_ _)|(with_reducible refine Kd.C_drewN ?_ _)|(with_reducible refine Kd.C_drew ?_)));(case side2=>exact HC0_2.out);(case side3=>repeat(first|exact(Kd.C_below HR1.out HB.out)|(with_reducible refine Kd.C_alloc ?_ _)|(with_reducible refine Kd.C_drewN ?_ _)|(with_reducible refine Kd.C_drew ?_)));(case side4=>exact HC1.out);rintro e w7 ⟨rfl,hb⟩;have n0_:=Aside0.mk (blk_below (g:=gb354) (o:= .cells #[.int .i64 a0_0, .bool a0_1, .slice A0_2 l0_2.length c0_2] 24 (0,0)) (by(with_reducible repeat(first|refine blk_drewN ?_ _|refine blk_drew ?_|refine blk_alloc ?_ _));exact BK354.out) hb);have n1_:=Aside0.mk (below_step (by repeat(first|(with_reducible first|exact HB.out|apply below_alloc|apply pw_below_drewN|apply below_drew1|refine below_set ?_ GE354.out)|exact HB.out)) hb);clear BK354;clear HB;have BK354:=n0_;have HB:=n1_;clear n0_ n1_;(try clear hb);(try clear hb2);(try clear hk);(try clear hi)));try go_wp2_with (first|((with_reducible refine gate_dst (N:=2) rfl ?_);refine box_event ?hg (N:=2) ?hd (cs:= #[.int .i64 a0_0, .bool a0_1, .slice A0_2 l0_2.length c0_2]) (t:=24) ?hr ?_;(case hd=>rfl);(case hg=>rfl);(case hr=>first|(go_simp;done)|(go_simp;rfl));intro gb354 hg w5 hbox hb;have n0_:=Aside0.mk (below_step (by repeat(first|(with_reducible first|exact HB.out|apply below_alloc|apply pw_below_drewN|apply below_drew1)|exact HB.out)) hb);have n1_:=Aside0.mk (hbox);have n2_:=Aside0.mk ((by rw[hg];exact(below_size (by repeat(first|(with_reducible first|exact HB.out|apply below_alloc|apply pw_below_drewN|apply below_drew1)|exact HB.out))):w.heap.size≤gb354));have n3_:=Aside0.mk ((by rw[hg];exact(below_size (by repeat(first|(with_reducible first|exact HB.out|apply below_alloc|apply pw_below_drewN|apply below_drew1)|exact HB.out))):w.heap.size≤gb354));clear HB;have HB:=n0_;have BK354:=n1_;have GW354:=n2_;have GE354:=n3_;clear n0_ n1_ n2_ n3_;clear hb hbox hg;have hcz6_0:w5.cell? ⟨gb354,0,none⟩=some (.int .i64 a0_0):=(blk_cell BK354.out 0).trans rfl;have hcz6_1:w5.cell? ⟨gb354,1,none⟩=some (.bool a0_1):=(blk_cell BK354.out 1).trans rfl;have hcz6_2:w5.cell? ⟨gb354,2,none⟩=some (.slice A0_2 l0_2.length c0_2):=(blk_cell BK354.out 2).trans rfl;have hfz6_0:=blk_frozen BK354.out 0;have hfz6_1:=blk_frozen BK354.out 1;have hfz6_2:=blk_frozen BK354.out 2)|(go_at_call 98;(with_reducible refine(ebbtideref07_Asked.calls k a0_0 a0_1 _ _ l0_2 _ _ l1 t355 _ ?side1 ?side2 ?side3 ?side4 A3.out).mono ?_);(case side1=>repeat(first|exact(Kd.C_below HR0_2.out HB.out)|(with_reducible refine Kd.C_alloc ?_ _)|(with_reducible refine Kd.C_drewN ?_ _)|(with_reducible refine Kd.C_drew ?_)));(case side2=>exact HC0_2.out);(case side3=>repeat(first|exact(Kd.C_below HR1.out HB.out)|(with_reducible refine Kd.C_alloc ?_ _)|(with_reducible refine Kd.C_drewN ?_ _)|(with_reducible refine Kd.C_drew ?_)));(case side4=>exact HC1.out);rintro e w7 ⟨rfl,hb⟩;have n0_:=Aside0.mk (blk_below (g:=gb354) (o:= .cells #[.int .i64 a0_0, .bool a0_1, .slice A0_2 l0_2.length c0_2] 24 (0,0)) (by(with_reducible repeat(first|refine blk_drewN ?_ _|refine blk_drew ?_|refine blk_alloc ?_ _));exact BK354.out) hb);have n1_:=Aside0.mk (below_step (by repeat(first|(with_reducible first|exact HB.out|apply below_alloc|apply pw_below_drewN|apply below_drew1|refine below_set ?_ GE354.out)|exact HB.out)) hb);clear BK354;clear HB;have BK354:=n0_;have HB:=n1_;clear n0_ n1_;(try clear hb);(try clear hb2);(try clear hk);(try clear hi))))
 go_loopg [7,8] k (fun kq v7 v8 w'=> ∃ (x7_1:Int) (x8_1:Int),v7= .int .i64 x7_1∧v8= .int .i64 x8_1∧Aside0 (ebbtideref07_Cost.l0 kq l1 x7_1 x8_1 a0_0 a0_1 l0_2=some (r1,r2))∧Aside0 (kq≤k)∧Aside0 (w'.heap[gb354]? =some (.cells #[.int .i64 a0_0, .bool a0_1,(.slice A0_2 l0_2.length c0_2)] 24 (0,0)))∧Aside0 (Below w.heap.size w w'))
 case atStart=>exact⟨(0),(0),(by first|rfl|(simp;done)|(simp[*];done)),(by first|rfl|(simp;done)|(simp[*];done)),H',⟨Nat.le_refl _⟩,⟨by(with_reducible repeat(first|refine blk_drewN ?_ _|refine blk_drew ?_|refine blk_alloc ?_ _));exact BK354.out⟩,⟨by repeat(first|(with_reducible first|exact HB.out|apply below_alloc|apply pw_below_drewN|apply below_drew1|refine below_set ?_ GE354.out)|exact HB.out)⟩⟩
 case round=>
  clear H'
  try clear c1
  try clear p2
  try clear c4
  try clear c4b0
  try clear c4b1
  try clear hcz6_0
  try clear hcz6_1
  try clear hcz6_2
  try clear hfz6_0
  try clear hfz6_1
  try clear hfz6_2
  obtain⟨x7_1,x8_1,rfl,rfl,HA,HK1,BK354,HB⟩:=hrel
  cases gk with
  |zero=>exact absurd HA.out (by simp[ebbtideref07_Cost.l0])
  |succ k1=>
   have H:=HA.out
   clear HA
   simp only[ebbtideref07_Cost.l0] at H
   by_cases c8:x8_1<(l1.length:Int)
   rotate_left
   ·rw[if_neg c8] at H
    have c8b0:decide (x8_1<(l1.length:Int))=false:=decide_eq_false c8
    clear c8
    simp only[Option.some.injEq,Prod.mk.injEq] at H
    obtain⟨rfl,rfl⟩:=H
    go_wp2
    repeat(go_quiet (fail);try go_wp2)
    go_ret2
    exact⟨by first|rfl|(simp[errW_none,errW_some]<;>rfl)|(simp[*,errW_none,errW_some]<;>rfl),by repeat(first|(with_reducible first|exact HB.out|apply below_alloc|apply pw_below_drewN|apply below_drew1|refine below_set ?_ GE354.out)|exact HB.out)⟩
   rw[if_pos c8] at H
   have c8b0:decide (x8_1<(l1.length:Int))=true:=decide_eq_true c8
   clear c8
   by_cases c9:0≤x8_1
   rotate_left
   ·rw[if_neg c9] at H
    exact absurd H (by simp)
   rw[if_pos c9] at H
   have c9b0:decide (0≤x8_1)=true:=decide_eq_true c9
   clear c9
   by_cases c10:x8_1<(l0_2.length:Int)
   rotate_left
   ·rw[if_neg c10] at H
    exact absurd H (by simp)
   rw[if_pos c10] at H
   have c10b0:decide (x8_1<(l0_2.length:Int))=true:=decide_eq_true c10
   clear c10
   have H':=Aside0.mk H
   clear H
   have p356:0≤(x8_1:Int):=of_decide_eq_true (by first|(with_reducible assumption)|assumption)
   have q356:x8_1<(l1.length:Int):=of_decide_eq_true (by first|(with_reducible assumption)|assumption)
   obtain⟨ad356,e356,hx356_0⟩:=Kd.at_int HR1.out x8_1 p356 q356
   cases e356
   replace hx356_0:=(HB.out.cell (World.block_lt_of_cell? w _ hx356_0)).trans hx356_0
   replace p356:=eq_true p356
   replace q356:=eq_true q356
   have hcz11_0:wr.cell? ⟨gb354,0,none⟩=some (.int .i64 a0_0):=(blk_cell BK354.out 0).trans rfl
   have hcz11_1:wr.cell? ⟨gb354,1,none⟩=some (.bool a0_1):=(blk_cell BK354.out 1).trans rfl
   have hcz11_2:wr.cell? ⟨gb354,2,none⟩=some (.slice A0_2 l0_2.length c0_2):=(blk_cell BK354.out 2).trans rfl
   have hfz11_0:=blk_frozen BK354.out 0
   have hfz11_1:=blk_frozen BK354.out 1
   have hfz11_2:=blk_frozen BK354.out 2
   have p357:0≤(x8_1:Int):=of_decide_eq_true (by first|(with_reducible assumption)|assumption)
   have q357:x8_1<(l0_2.length:Int):=of_decide_eq_true (by first|(with_reducible assumption)|assumption)
   obtain⟨ad357,e357,hx357_0,hx357_1,hx357_2,hx357_3⟩:=at_T74 HR0_2.out x8_1 p357 q357
   cases e357
   replace hx357_0:=(HB.out.cell (World.block_lt_of_cell? w _ hx357_0)).trans hx357_0
   replace hx357_1:=(HB.out.cell (World.block_lt_of_cell? w _ hx357_1)).trans hx357_1
   replace hx357_2:=(HB.out.cell (World.block_lt_of_cell? w _ hx357_2)).trans hx357_2
   replace hx357_3:=(HB.out.cell (World.block_lt_of_cell? w _ hx357_3)).trans hx357_3
   replace p357:=eq_true p357
   replace q357:=eq_true q357
   go_wp2
   repeat(go_quiet (fail);try go_wp2)
   go_roundg k1
   case measure=>have:=HK1.out;omega
   case rel=>exact⟨(wrap64 (x7_1+(wrap64 ((rd l1 x8_1) * ((rd_T74 l0_2 x8_1).f3))))),(wrap64 (x8_1+1)),(by first|rfl|(simp;done)|(simp[*];done)),(by first|rfl|(simp;done)|(simp[*];done)),H',⟨by have:=HK1.out;omega⟩,⟨by(with_reducible repeat(first|refine blk_drewN ?_ _|refine blk_drew ?_|refine blk_alloc ?_ _));exact BK354.out⟩,⟨by repeat(first|(with_reducible first|exact HB.out|apply below_alloc|apply pw_below_drewN|apply below_drew1|refine below_set ?_ GE354.out)|exact HB.out)⟩⟩
end Go.Proofs.Ytkcpanpdipmmmaa.P
namespace Go.Proofs.Ytkcpanpdipmmmaa.P
open Go.RowKit Go.Proofs.YtkcpanpdipmmmaaW.PrintWords Go.Proofs.YtkcpanpdipmmmaaW.PrintLast Go.Proofs.YtkcpanpdipmmmaaW.PrintMore
attribute [local go_sem] max2_int min2_int max_two min_two max_three min_three max_four min_four
def ebbtideref07_Leaves.l0:Nat→List Int→Int→Int→Int→Int→Bool→List (S74)→Option (Int)
 |0,_,_,_,_,_,_,_=>none
 |k+1,x1,x2,x7,x8,x341000,x341001,x341002=>if x8<(x1.length:Int) then(if 0≤x8 then(if x8<(x341002.length:Int) then(if ((rd_T74 x341002 x8).f0)=x2 then(if ((rd_T74 x341002 x8).f1)=x2 then(ebbtideref07_Leaves.l0 k x1 x2 (wrap64 ((wrap64 (x7+(rd x1 x8))) - (rd x1 x8))) (wrap64 (x8+1)) x341000 x341001 x341002) else(ebbtideref07_Leaves.l0 k x1 x2 (wrap64 (x7+(rd x1 x8))) (wrap64 (x8+1)) x341000 x341001 x341002)) else(if ((rd_T74 x341002 x8).f1)=x2 then(ebbtideref07_Leaves.l0 k x1 x2 (wrap64 (x7 - (rd x1 x8))) (wrap64 (x8+1)) x341000 x341001 x341002) else(ebbtideref07_Leaves.l0 k x1 x2 x7 (wrap64 (x8+1)) x341000 x341001 x341002))) else(none)) else(none)) else(some x7)
def ebbtideref07_Leaves.f (k:Nat) (a0_0:Int) (a0_1:Bool) (l0_2:List (S74)) (l1:List Int) (a2:Int):Option (Int):=ebbtideref07_Leaves.l0 k l1 a2 0 0 a0_0 a0_1 l0_2
set_option maxHeartbeats 8000000 in
set_option maxRecDepth 100000 in
theorem ebbtideref07_Leaves.calls (k:Nat) (a0_0:Int) (a0_1:Bool) (A0_2:Option Addr) (c0_2:Nat) (l0_2:List (S74)) (A1:Option Addr) (c1:Nat) (l1:List Int) (a2:Int) (r:Int) (w:World) (hr0_2:Kd.C k74 w A0_2 l0_2.length l0_2) (hc0_2:l0_2.length≤c0_2) (hr1:Kd.C (Kd.int .i64) w A1 l1.length l1) (hc1:l1.length≤c1) (h:ebbtideref07_Leaves.f k a0_0 a0_1 l0_2 l1 a2=some r):
  Calls Try.prog 103 #[.agg #[.int .i64 a0_0, .bool a0_1, .slice A0_2 l0_2.length c0_2], .slice A1 l1.length c1, .int .i64 a2] w fun e w'=>e= .returned (.int .i64 r)∧Below w.heap.size w w':=by
 have hu24:=Try.underlying24
 have HR0_2:=Aside0.mk hr0_2
 have HC0_2:=Aside0.mk hc0_2
 clear hr0_2 hc0_2
 have HR1:=Aside0.mk hr1
 have HC1:=Aside0.mk hc1
 clear hr1 hc1
 have HB:=Aside0.mk (Below.refl w.heap.size w)
 have H:(ebbtideref07_Leaves.l0 k l1 a2 0 0 a0_0 a0_1 l0_2)=some r:=h
 clear h
 have H':=Aside0.mk H
 clear H
 go_enter Try.func103,Try.ntmps103
 go_wp2_with (first|((with_reducible refine gate_dst (N:=3) rfl ?_);refine box_event ?hg (N:=3) ?hd (cs:= #[.int .i64 a0_0, .bool a0_1, .slice A0_2 l0_2.length c0_2]) (t:=24) ?hr ?_;(case hd=>rfl);(case hg=>rfl);(case hr=>first|(go_simp;done)|(go_simp;rfl));intro gb340 hg w4 hbox hb;have n0_:=Aside0.mk (below_step (by repeat(first|(with_reducible first|exact HB.out|apply below_alloc|apply pw_below_drewN|apply below_drew1)|exact HB.out)) hb);have n1_:=Aside0.mk (hbox);have n2_:=Aside0.mk ((by rw[hg];exact(below_size (by repeat(first|(with_reducible first|exact HB.out|apply below_alloc|apply pw_below_drewN|apply below_drew1)|exact HB.out))):w.heap.size≤gb340));have n3_:=Aside0.mk ((by rw[hg];exact(below_size (by repeat(first|(with_reducible first|exact HB.out|apply below_alloc|apply pw_below_drewN|apply below_drew1)|exact HB.out))):w.heap.size≤gb340));clear HB;have HB:=n0_;have BK340:=n1_;have GW340:=n2_;have GE340:=n3_;clear n0_ n1_ n2_ n3_;clear hb hbox hg))
 go_loopg [7,8] k (fun kq v7 v8 w'=> ∃ (x7_1:Int) (x8_1:Int),v7= .int .i64 x7_1∧v8= .int .i64 x8_1∧Aside0 (ebbtideref07_Leaves.l0 kq l1 a2 x7_1 x8_1 a0_0 a0_1 l0_2=some r)∧Aside0 (kq≤k)∧Aside0 (w'.heap[gb340]? =some (.cells #[.int .i64 a0_0, .bool a0_1,(.slice A0_2 l0_2.length c0_2)] 24 (0,0)))∧Aside0 (Below w.heap.size w w'))
 case atStart=>exact⟨(0),(0),(by first|rfl|(simp;done)|(simp[*];done)),(by first|rfl|(simp;done)|(simp[*];done)),H',⟨Nat.le_refl _⟩,⟨by(with_reducible repeat(first|refine blk_drewN ?_ _|refine blk_drew ?_|refine blk_alloc ?_ _));exact BK340.out⟩,⟨by repeat(first|(with_reducible first|exact HB.out|apply below_alloc|apply pw_below_drewN|apply below_drew1|refine below_set ?_ GE340.out)|exact HB.out)⟩⟩
 case round=>
  clear H'
  try clear c1
  try clear p2
  obtain⟨x7_1,x8_1,rfl,rfl,HA,HK1,BK340,HB⟩:=hrel
  cases gk with
  |zero=>exact absurd HA.out (by simp[ebbtideref07_Leaves.l0])
  |succ k1=>
   have H:=HA.out
   clear HA
   simp only[ebbtideref07_Leaves.l0] at H
   by_cases c5:x8_1<(l1.length:Int)
   rotate_left
   ·rw[if_neg c5] at H
    have c5b0:decide (x8_1<(l1.length:Int))=false:=decide_eq_false c5
    clear c5
    obtain rfl:=Option.some.inj H
    go_wp2
    go_ret
    exact⟨by first|rfl|(simp[errW_none,errW_some]<;>rfl)|(simp[*,errW_none,errW_some]<;>rfl),by repeat(first|(with_reducible first|exact HB.out|apply below_alloc|apply pw_below_drewN|apply below_drew1|refine below_set ?_ GE340.out)|exact HB.out)⟩
   rw[if_pos c5] at H
   have c5b0:decide (x8_1<(l1.length:Int))=true:=decide_eq_true c5
   clear c5
   by_cases c6:0≤x8_1
   rotate_left
   ·rw[if_neg c6] at H
    exact absurd H (by simp)
   rw[if_pos c6] at H
   have c6b0:decide (0≤x8_1)=true:=decide_eq_true c6
   clear c6
   by_cases c7:x8_1<(l0_2.length:Int)
   rotate_left
   ·rw[if_neg c7] at H
    exact absurd H (by simp)
   rw[if_pos c7] at H
   have c7b0:decide (x8_1<(l0_2.length:Int))=true:=decide_eq_true c7
   clear c7
   by_cases c8:((rd_T74 l0_2 x8_1).f0)=a2
   rotate_left
   ·rw[if_neg c8] at H
    have c8b0:(((rd_T74 l0_2 x8_1).f0) == a2)=false:=beq_eq_false_iff_ne.mpr c8
    have c8b1:(((rd_T74 l0_2 x8_1).f0) != a2)=true:=bne_iff_ne.mpr c8
    by_cases c12:((rd_T74 l0_2 x8_1).f1)=a2
    rotate_left
    ·rw[if_neg c12] at H
     have c12b0:(((rd_T74 l0_2 x8_1).f1) == a2)=false:=beq_eq_false_iff_ne.mpr c12
     have c12b1:(((rd_T74 l0_2 x8_1).f1) != a2)=true:=bne_iff_ne.mpr c12
     have H':=Aside0.mk H
     clear H
     have hcz14_0:wr.cell? ⟨gb340,0,none⟩=some (.int .i64 a0_0):=(blk_cell BK340.out 0).trans rfl
     have hcz14_1:wr.cell? ⟨gb340,1,none⟩=some (.bool a0_1):=(blk_cell BK340.out 1).trans rfl
     have hcz14_2:wr.cell? ⟨gb340,2,none⟩=some (.slice A0_2 l0_2.length c0_2):=(blk_cell BK340.out 2).trans rfl
     have hfz14_0:=blk_frozen BK340.out 0
     have hfz14_1:=blk_frozen BK340.out 1
     have hfz14_2:=blk_frozen BK340.out 2
     have p341:0≤(x8_1:Int):=of_decide_eq_true (by first|(with_reducible assumption)|assumption)
     have q341:x8_1<(l0_2.length:Int):=of_decide_eq_true (by first|(with_reducible assumption)|assumption)
     obtain⟨ad341,e341,hx341_0,hx341_1,hx341_2,hx341_3⟩:=at_T74 HR0_2.out x8_1 p341 q341
     cases e341
     replace hx341_0:=(HB.out.cell (World.block_lt_of_cell? w _ hx341_0)).trans hx341_0
     replace hx341_1:=(HB.out.cell (World.block_lt_of_cell? w _ hx341_1)).trans hx341_1
     replace hx341_2:=(HB.out.cell (World.block_lt_of_cell? w _ hx341_2)).trans hx341_2
     replace hx341_3:=(HB.out.cell (World.block_lt_of_cell? w _ hx341_3)).trans hx341_3
     replace p341:=eq_true p341
     replace q341:=eq_true q341
     have p345:0≤(x8_1:Int):=of_decide_eq_true (by first|(with_reducible assumption)|assumption)
     have q345:x8_1<(l0_2.length:Int):=of_decide_eq_true (by first|(with_reducible assumption)|assumption)
     obtain⟨ad345,e345,hx345_0,hx345_1,hx345_2,hx345_3⟩:=at_T74 HR0_2.out x8_1 p345 q345
     obtain rfl:ad341=ad345:=(by injection e345)
     replace hx345_0:=(HB.out.cell (World.block_lt_of_cell? w _ hx345_0)).trans hx345_0
     replace hx345_1:=(HB.out.cell (World.block_lt_of_cell? w _ hx345_1)).trans hx345_1
     replace hx345_2:=(HB.out.cell (World.block_lt_of_cell? w _ hx345_2)).trans hx345_2
     replace hx345_3:=(HB.out.cell (World.block_lt_of_cell? w _ hx345_3)).trans hx345_3
     replace p345:=eq_true p345
     replace q345:=eq_true q345
     go_wp2
     go_roundg k1
     case measure=>have:=HK1.out;omega
     case rel=>exact⟨(x7_1),(wrap64 (x8_1+1)),(by first|rfl|(simp;done)|(simp[*];done)),(by first|rfl|(simp;done)|(simp[*];done)),H',⟨by have:=HK1.out;omega⟩,⟨by(with_reducible repeat(first|refine blk_drewN ?_ _|refine blk_drew ?_|refine blk_alloc ?_ _));exact BK340.out⟩,⟨by repeat(first|(with_reducible first|exact HB.out|apply below_alloc|apply pw_below_drewN|apply below_drew1|refine below_set ?_ GE340.out)|exact HB.out)⟩⟩
    rw[if_pos c12] at H
    have c12b0:(((rd_T74 l0_2 x8_1).f1) == a2)=true:=beq_iff_eq.mpr c12
    have c12b1:(((rd_T74 l0_2 x8_1).f1) != a2)=false:=bne_eq_false_iff_eq.mpr c12
    clear c12
    have H':=Aside0.mk H
    clear H
    have hcz13_0:wr.cell? ⟨gb340,0,none⟩=some (.int .i64 a0_0):=(blk_cell BK340.out 0).trans rfl
    have hcz13_1:wr.cell? ⟨gb340,1,none⟩=some (.bool a0_1):=(blk_cell BK340.out 1).trans rfl
    have hcz13_2:wr.cell? ⟨gb340,2,none⟩=some (.slice A0_2 l0_2.length c0_2):=(blk_cell BK340.out 2).trans rfl
    have hfz13_0:=blk_frozen BK340.out 0
    have hfz13_1:=blk_frozen BK340.out 1
    have hfz13_2:=blk_frozen BK340.out 2
    have p341:0≤(x8_1:Int):=of_decide_eq_true (by first|(with_reducible assumption)|assumption)
    have q341:x8_1<(l0_2.length:Int):=of_decide_eq_true (by first|(with_reducible assumption)|assumption)
    obtain⟨ad341,e341,hx341_0,hx341_1,hx341_2,hx341_3⟩:=at_T74 HR0_2.out x8_1 p341 q341
    cases e341
    replace hx341_0:=(HB.out.cell (World.block_lt_of_cell? w _ hx341_0)).trans hx341_0
    replace hx341_1:=(HB.out.cell (World.block_lt_of_cell? w _ hx341_1)).trans hx341_1
    replace hx341_2:=(HB.out.cell (World.block_lt_of_cell? w _ hx341_2)).trans hx341_2
    replace hx341_3:=(HB.out.cell (World.block_lt_of_cell? w _ hx341_3)).trans hx341_3
    replace p341:=eq_true p341
    replace q341:=eq_true q341
    have p345:0≤(x8_1:Int):=of_decide_eq_true (by first|(with_reducible assumption)|assumption)
    have q345:x8_1<(l0_2.length:Int):=of_decide_eq_true (by first|(with_reducible assumption)|assumption)
    obtain⟨ad345,e345,hx345_0,hx345_1,hx345_2,hx345_3⟩:=at_T74 HR0_2.out x8_1 p345 q345
    obtain rfl:ad341=ad345:=(by injection e345)
    replace hx345_0:=(HB.out.cell (World.block_lt_of_cell? w _ hx345_0)).trans hx345_0
    replace hx345_1:=(HB.out.cell (World.block_lt_of_cell? w _ hx345_1)).trans hx345_1
    replace hx345_2:=(HB.out.cell (World.block_lt_of_cell? w _ hx345_2)).trans hx345_2
    replace hx345_3:=(HB.out.cell (World.block_lt_of_cell? w _ hx345_3)).trans hx345_3
    replace p345:=eq_true p345
    replace q345:=eq_true q345
    have p346:0≤(x8_1:Int):=of_decide_eq_true (by first|(with_reducible assumption)|assumption)
    have q346:x8_1<(l1.length:Int):=of_decide_eq_true (by first|(with_reducible assumption)|assumption)
    obtain⟨ad346,e346,hx346_0⟩:=Kd.at_int HR1.out x8_1 p346 q346
    cases e346
    replace hx346_0:=(HB.out.cell (World.block_lt_of_cell? w _ hx346_0)).trans hx346_0
    replace p346:=eq_true p346
    replace q346:=eq_true q346
    go_wp2
    go_roundg k1
    case measure=>have:=HK1.out;omega
    case rel=>exact⟨(wrap64 (x7_1 - (rd l1 x8_1))),(wrap64 (x8_1+1)),(by first|rfl|(simp;done)|(simp[*];done)),(by first|rfl|(simp;done)|(simp[*];done)),H',⟨by have:=HK1.out;omega⟩,⟨by(with_reducible repeat(first|refine blk_drewN ?_ _|refine blk_drew ?_|refine blk_alloc ?_ _));exact BK340.out⟩,⟨by repeat(first|(with_reducible first|exact HB.out|apply below_alloc|apply pw_below_drewN|apply below_drew1|refine below_set ?_ GE340.out)|exact HB.out)⟩⟩
   rw[if_pos c8] at H
   have c8b0:(((rd_T74 l0_2 x8_1).f0) == a2)=true:=beq_iff_eq.mpr c8
   have c8b1:(((rd_T74 l0_2 x8_1).f0) != a2)=false:=bne_eq_false_iff_eq.mpr c8
   clear c8
   by_cases c9:((rd_T74 l0_2 x8_1).f1)=a2
   rotate_left
   ·rw[if_neg c9] at H
    have c9b0:(((rd_T74 l0_2 x8_1).f1) == a2)=false:=beq_eq_false_iff_ne.mpr c9
    have c9b1:(((rd_T74 l0_2 x8_1).f1) != a2)=true:=bne_iff_ne.mpr c9
    have H':=Aside0.mk H
    clear H
    have hcz11_0:wr.cell? ⟨gb340,0,none⟩=some (.int .i64 a0_0):=(blk_cell BK340.out 0).trans rfl
    have hcz11_1:wr.cell? ⟨gb340,1,none⟩=some (.bool a0_1):=(blk_cell BK340.out 1).trans rfl
    have hcz11_2:wr.cell? ⟨gb340,2,none⟩=some (.slice A0_2 l0_2.length c0_2):=(blk_cell BK340.out 2).trans rfl
    have hfz11_0:=blk_frozen BK340.out 0
    have hfz11_1:=blk_frozen BK340.out 1
    have hfz11_2:=blk_frozen BK340.out 2
    have p341:0≤(x8_1:Int):=of_decide_eq_true (by first|(with_reducible assumption)|assumption)
    have q341:x8_1<(l0_2.length:Int):=of_decide_eq_true (by first|(with_reducible assumption)|assumption)
    obtain⟨ad341,e341,hx341_0,hx341_1,hx341_2,hx341_3⟩:=at_T74 HR0_2.out x8_1 p341 q341
    cases e341
    replace hx341_0:=(HB.out.cell (World.block_lt_of_cell? w _ hx341_0)).trans hx341_0
    replace hx341_1:=(HB.out.cell (World.block_lt_of_cell? w _ hx341_1)).trans hx341_1
    replace hx341_2:=(HB.out.cell (World.block_lt_of_cell? w _ hx341_2)).trans hx341_2
    replace hx341_3:=(HB.out.cell (World.block_lt_of_cell? w _ hx341_3)).trans hx341_3
    replace p341:=eq_true p341
    replace q341:=eq_true q341
    have p342:0≤(x8_1:Int):=of_decide_eq_true (by first|(with_reducible assumption)|assumption)
    have q342:x8_1<(l1.length:Int):=of_decide_eq_true (by first|(with_reducible assumption)|assumption)
    obtain⟨ad342,e342,hx342_0⟩:=Kd.at_int HR1.out x8_1 p342 q342
    cases e342
    replace hx342_0:=(HB.out.cell (World.block_lt_of_cell? w _ hx342_0)).trans hx342_0
    replace p342:=eq_true p342
    replace q342:=eq_true q342
    have p343:0≤(x8_1:Int):=of_decide_eq_true (by first|(with_reducible assumption)|assumption)
    have q343:x8_1<(l0_2.length:Int):=of_decide_eq_true (by first|(with_reducible assumption)|assumption)
    obtain⟨ad343,e343,hx343_0,hx343_1,hx343_2,hx343_3⟩:=at_T74 HR0_2.out x8_1 p343 q343
    obtain rfl:ad341=ad343:=(by injection e343)
    replace hx343_0:=(HB.out.cell (World.block_lt_of_cell? w _ hx343_0)).trans hx343_0
    replace hx343_1:=(HB.out.cell (World.block_lt_of_cell? w _ hx343_1)).trans hx343_1
    replace hx343_2:=(HB.out.cell (World.block_lt_of_cell? w _ hx343_2)).trans hx343_2
    replace hx343_3:=(HB.out.cell (World.block_lt_of_cell? w _ hx343_3)).trans hx343_3
    replace p343:=eq_true p343
    replace q343:=eq_true q343
    go_wp2
    go_roundg k1
    case measure=>have:=HK1.out;omega
    case rel=>exact⟨(wrap64 (x7_1+(rd l1 x8_1))),(wrap64 (x8_1+1)),(by first|rfl|(simp;done)|(simp[*];done)),(by first|rfl|(simp;done)|(simp[*];done)),H',⟨by have:=HK1.out;omega⟩,⟨by(with_reducible repeat(first|refine blk_drewN ?_ _|refine blk_drew ?_|refine blk_alloc ?_ _));exact BK340.out⟩,⟨by repeat(first|(with_reducible first|exact HB.out|apply below_alloc|apply pw_below_drewN|apply below_drew1|refine below_set ?_ GE340.out)|exact HB.out)⟩⟩
   rw[if_pos c9] at H
   have c9b0:(((rd_T74 l0_2 x8_1).f1) == a2)=true:=beq_iff_eq.mpr c9
   have c9b1:(((rd_T74 l0_2 x8_1).f1) != a2)=false:=bne_eq_false_iff_eq.mpr c9
   clear c9
   have H':=Aside0.mk H
   clear H
   have hcz10_0:wr.cell? ⟨gb340,0,none⟩=some (.int .i64 a0_0):=(blk_cell BK340.out 0).trans rfl
   have hcz10_1:wr.cell? ⟨gb340,1,none⟩=some (.bool a0_1):=(blk_cell BK340.out 1).trans rfl
   have hcz10_2:wr.cell? ⟨gb340,2,none⟩=some (.slice A0_2 l0_2.length c0_2):=(blk_cell BK340.out 2).trans rfl
   have hfz10_0:=blk_frozen BK340.out 0
   have hfz10_1:=blk_frozen BK340.out 1
   have hfz10_2:=blk_frozen BK340.out 2
   have p341:0≤(x8_1:Int):=of_decide_eq_true (by first|(with_reducible assumption)|assumption)
   have q341:x8_1<(l0_2.length:Int):=of_decide_eq_true (by first|(with_reducible assumption)|assumption)
   obtain⟨ad341,e341,hx341_0,hx341_1,hx341_2,hx341_3⟩:=at_T74 HR0_2.out x8_1 p341 q341
   cases e341
   replace hx341_0:=(HB.out.cell (World.block_lt_of_cell? w _ hx341_0)).trans hx341_0
   replace hx341_1:=(HB.out.cell (World.block_lt_of_cell? w _ hx341_1)).trans hx341_1
   replace hx341_2:=(HB.out.cell (World.block_lt_of_cell? w _ hx341_2)).trans hx341_2
   replace hx341_3:=(HB.out.cell (World.block_lt_of_cell? w _ hx341_3)).trans hx341_3
   replace p341:=eq_true p341
   replace q341:=eq_true q341
   have p342:0≤(x8_1:Int):=of_decide_eq_true (by first|(with_reducible assumption)|assumption)
   have q342:x8_1<(l1.length:Int):=of_decide_eq_true (by first|(with_reducible assumption)|assumption)
   obtain⟨ad342,e342,hx342_0⟩:=Kd.at_int HR1.out x8_1 p342 q342
   cases e342
   replace hx342_0:=(HB.out.cell (World.block_lt_of_cell? w _ hx342_0)).trans hx342_0
   replace p342:=eq_true p342
   replace q342:=eq_true q342
   have p343:0≤(x8_1:Int):=of_decide_eq_true (by first|(with_reducible assumption)|assumption)
   have q343:x8_1<(l0_2.length:Int):=of_decide_eq_true (by first|(with_reducible assumption)|assumption)
   obtain⟨ad343,e343,hx343_0,hx343_1,hx343_2,hx343_3⟩:=at_T74 HR0_2.out x8_1 p343 q343
   obtain rfl:ad341=ad343:=(by injection e343)
   replace hx343_0:=(HB.out.cell (World.block_lt_of_cell? w _ hx343_0)).trans hx343_0
   replace hx343_1:=(HB.out.cell (World.block_lt_of_cell? w _ hx343_1)).trans hx343_1
   replace hx343_2:=(HB.out.cell (World.block_lt_of_cell? w _ hx343_2)).trans hx343_2
   replace hx343_3:=(HB.out.cell (World.block_lt_of_cell? w _ hx343_3)).trans hx343_3
   replace p343:=eq_true p343
   replace q343:=eq_true q343
   have p344:0≤(x8_1:Int):=of_decide_eq_true (by first|(with_reducible assumption)|assumption)
   have q344:x8_1<(l1.length:Int):=of_decide_eq_true (by first|(with_reducible assumption)|assumption)
   obtain⟨ad344,e344,hx344_0⟩:=Kd.at_int HR1.out x8_1 p344 q344
   obtain rfl:ad342=ad344:=(by injection e344)
   replace hx344_0:=(HB.out.cell (World.block_lt_of_cell? w _ hx344_0)).trans hx344_0
   replace p344:=eq_true p344
   replace q344:=eq_true q344
   go_wp2
   go_roundg k1
   case measure=>have:=HK1.out;omega
   case rel=>exact⟨(wrap64 ((wrap64 (x7_1+(rd l1 x8_1))) - (rd l1 x8_1))),(wrap64 (x8_1+1)),(by first|rfl|(simp;done)|(simp[*];done)),(by first|rfl|(simp;done)|(simp[*];done)),H',⟨by have:=HK1.out;omega⟩,⟨by(with_reducible repeat(first|refine blk_drewN ?_ _|refine blk_drew ?_|refine blk_alloc ?_ _));exact BK340.out⟩,⟨by repeat(first|(with_reducible first|exact HB.out|apply below_alloc|apply pw_below_drewN|apply below_drew1|refine below_set ?_ GE340.out)|exact HB.out)⟩⟩
end Go.Proofs.Ytkcpanpdipmmmaa.P
namespace Go.Proofs.Ytkcpanpdipmmmaa.P
open Go.RowKit Go.Proofs.YtkcpanpdipmmmaaW.PrintWords Go.Proofs.YtkcpanpdipmmmaaW.PrintLast Go.Proofs.YtkcpanpdipmmmaaW.PrintMore
attribute [local go_sem] max2_int min2_int max_two min_two max_three min_three max_four min_four
def ebbtideref07_Balance.l0:Nat→List Int→List Int→Int→Int→Bool→List (S74)→Option (List Int × Int)
 |0,_,_,_,_,_,_=>none
 |k+1,x1,x7,x8,x348000,x348001,x348002=>if x8<x348000 then((ebbtideref07_Leaves.f k x348000 x348001 x348002 x1 x8).bind fun t350=>(if x7.length<17592186044416 then(ebbtideref07_Balance.l0 k x1 (x7 ++ [t350]) (wrap64 (x8+1)) x348000 x348001 x348002) else(none))) else(some (x7,0))
def ebbtideref07_Balance.f (k:Nat) (a0_0:Int) (a0_1:Bool) (l0_2:List (S74)) (l1:List Int):Option (List Int × Int):=(ebbtideref05_Check.f k a0_0 a0_1 l0_2).bind fun t348=>(if t348=0 then((ebbtideref07_Within.f k a0_0 a0_1 l0_2 l1).bind fun t349=>(if t349=true then(ebbtideref07_Balance.l0 k l1 ([]:List Int) 0 a0_0 a0_1 l0_2) else(some (([]:List Int),71)))) else(some (([]:List Int),t348)))
set_option maxHeartbeats 8000000 in
set_option maxRecDepth 100000 in
theorem ebbtideref07_Balance.calls (k:Nat) (a0_0:Int) (a0_1:Bool) (A0_2:Option Addr) (c0_2:Nat) (l0_2:List (S74)) (A1:Option Addr) (c1:Nat) (l1:List Int) (r1:List Int) (r2:Int) (w:World) (hr0_2:Kd.C k74 w A0_2 l0_2.length l0_2) (hc0_2:l0_2.length≤c0_2) (hr1:Kd.C (Kd.int .i64) w A1 l1.length l1) (hc1:l1.length≤c1) (h:ebbtideref07_Balance.f k a0_0 a0_1 l0_2 l1=some (r1,r2)):
  Calls Try.prog 48 #[.agg #[.int .i64 a0_0, .bool a0_1, .slice A0_2 l0_2.length c0_2], .slice A1 l1.length c1] w fun e w'=> ∃ v0_:Value,e= .returned (.tuple #[v0_, .int .i64 r2])∧Kd.R (Kd.int .i64) 3 w' w.heap.size (fun _=>True) v0_ r1∧Below w.heap.size w w':=by
 have hu24:=Try.underlying24
 have HR0_2:=Aside0.mk hr0_2
 have HC0_2:=Aside0.mk hc0_2
 clear hr0_2 hc0_2
 have HR1:=Aside0.mk hr1
 have HC1:=Aside0.mk hc1
 clear hr1 hc1
 have HB:=Aside0.mk (Below.refl w.heap.size w)
 have H:((ebbtideref05_Check.f k a0_0 a0_1 l0_2).bind fun t348=>(if t348=0 then((ebbtideref07_Within.f k a0_0 a0_1 l0_2 l1).bind fun t349=>(if t349=true then(ebbtideref07_Balance.l0 k l1 ([]:List Int) 0 a0_0 a0_1 l0_2) else(some (([]:List Int),71)))) else(some (([]:List Int),t348))))=some (r1,r2):=h
 clear h
 replace H:=Option.bind_eq_some_iff.mp H
 obtain⟨t348,A30,H⟩:=H
 replace H:(if t348=0 then((ebbtideref07_Within.f k a0_0 a0_1 l0_2 l1).bind fun t349=>(if t349=true then(ebbtideref07_Balance.l0 k l1 ([]:List Int) 0 a0_0 a0_1 l0_2) else(some (([]:List Int),71)))) else(some (([]:List Int),t348)))=some (r1,r2):=H
 have A3:=Aside0.mk A30
 clear A30
 by_cases c4:t348=0
 rotate_left
 ·rw[if_neg c4] at H
  have c4b0:(t348 == 0)=false:=beq_eq_false_iff_ne.mpr c4
  have c4b1:(t348 != 0)=true:=bne_iff_ne.mpr c4
  simp only[Option.some.injEq,Prod.mk.injEq] at H
  obtain⟨rfl,rfl⟩:=H
  go_enter Try.func48,Try.ntmps48
  go_wp2_with (first|((with_reducible refine gate_dst (N:=2) rfl ?_);refine box_event ?hg (N:=2) ?hd (cs:= #[.int .i64 a0_0, .bool a0_1, .slice A0_2 l0_2.length c0_2]) (t:=24) ?hr ?_;(case hd=>rfl);(case hg=>rfl);(case hr=>first|(go_simp;done)|(go_simp;rfl));intro gb347 hg w24 hbox hb;have n0_:=Aside0.mk (below_step HB.out hb);have n1_:=Aside0.mk (hbox);have n2_:=Aside0.mk ((by rw[hg];exact(below_size HB.out):w.heap.size≤gb347));have n3_:=Aside0.mk ((by rw[hg];exact(below_size HB.out):w.heap.size≤gb347));clear HB;have HB:=n0_;have BK347:=n1_;have GW347:=n2_;have GE347:=n3_;clear n0_ n1_ n2_ n3_;clear hb hbox hg;have hcz25_0:w24.cell? ⟨gb347,0,none⟩=some (.int .i64 a0_0):=(blk_cell BK347.out 0).trans rfl;have hcz25_1:w24.cell? ⟨gb347,1,none⟩=some (.bool a0_1):=(blk_cell BK347.out 1).trans rfl;have hcz25_2:w24.cell? ⟨gb347,2,none⟩=some (.slice A0_2 l0_2.length c0_2):=(blk_cell BK347.out 2).trans rfl;have hfz25_0:=blk_frozen BK347.out 0;have hfz25_1:=blk_frozen BK347.out 1;have hfz25_2:=blk_frozen BK347.out 2)|((with_reducible refine gate_callee (f:=78) rfl ?_);refine goesL_ (some 10) rfl rfl Try.func78 (by kernel_rfl) rfl #[.agg #[.int .i64 a0_0, .bool a0_1, .slice A0_2 l0_2.length c0_2]] rfl (by(try simp only[List.map_toArray,List.map_cons,List.map_nil]);first|done|rfl|(simp only[List.length_drop,List.length_take];rfl)) ?_;(with_reducible refine(ebbtideref05_Check.calls k a0_0 a0_1 _ _ l0_2 t348 _ ?side1 ?side2 A3.out).mono ?_);(case side1=>repeat(first|exact(Kd.C_below HR0_2.out HB.out)|(with_reducible refine Kd.C_alloc ?_ _)|(with_reducible refine Kd.C_drewN ?_ _)|(with_reducible refine Kd.C_drew ?_)));(case side2=>exact HC0_2.out);rintro e w26 ⟨rfl,hb⟩;refine⟨_,rfl,?_⟩;have n0_:=Aside0.mk (blk_below BK347.out hb);have n1_:=Aside0.mk (below_step HB.out hb);clear BK347;clear HB;have BK347:=n0_;have HB:=n1_;clear n0_ n1_;(try clear hb);(try clear hb2);(try clear hk);(try clear hi)))
  go_ret2
  exact⟨_,by first|rfl|(simp[errW_none,errW_some]<;>rfl)|(simp[*,errW_none,errW_some]<;>rfl),by first|exact Kd.R_nil _ _ _ _ _|exact Kd.N_nil _ _ _ _ _|exact Kd.V_nil _ _ _ _ _|exact Kd.Q_nil _ _ _ _ _|exact Kd.S_nil _ _ _ _ _,HB.out⟩
 rw[if_pos c4] at H
 have c4b0:(t348 == 0)=true:=beq_iff_eq.mpr c4
 have c4b1:(t348 != 0)=false:=bne_eq_false_iff_eq.mpr c4
 clear c4
 replace H:=Option.bind_eq_some_iff.mp H
 obtain⟨t349,A50,H⟩:=H
 replace H:(if t349=true then(ebbtideref07_Balance.l0 k l1 ([]:List Int) 0 a0_0 a0_1 l0_2) else(some (([]:List Int),71)))=some (r1,r2):=H
 have A5:=Aside0.mk A50
 clear A50
 by_cases c6:t349=true
 rotate_left
 ·replace c6:=Bool.eq_false_iff.mpr c6
  subst c6
  have H1:(some (([]:List Int),71))=some (r1,r2):=by rw[if_neg (show ¬ (false=true) by decide)] at H;exact H
  clear H
  have H:=H1
  clear H1
  simp only[Option.some.injEq,Prod.mk.injEq] at H
  obtain⟨rfl,rfl⟩:=H
  go_enter Try.func48,Try.ntmps48
  go_wp2_with (first|((with_reducible refine gate_dst (N:=2) rfl ?_);refine box_event ?hg (N:=2) ?hd (cs:= #[.int .i64 a0_0, .bool a0_1, .slice A0_2 l0_2.length c0_2]) (t:=24) ?hr ?_;(case hd=>rfl);(case hg=>rfl);(case hr=>first|(go_simp;done)|(go_simp;rfl));intro gb347 hg w19 hbox hb;have n0_:=Aside0.mk (below_step HB.out hb);have n1_:=Aside0.mk (hbox);have n2_:=Aside0.mk ((by rw[hg];exact(below_size HB.out):w.heap.size≤gb347));have n3_:=Aside0.mk ((by rw[hg];exact(below_size HB.out):w.heap.size≤gb347));clear HB;have HB:=n0_;have BK347:=n1_;have GW347:=n2_;have GE347:=n3_;clear n0_ n1_ n2_ n3_;clear hb hbox hg;have hcz20_0:w19.cell? ⟨gb347,0,none⟩=some (.int .i64 a0_0):=(blk_cell BK347.out 0).trans rfl;have hcz20_1:w19.cell? ⟨gb347,1,none⟩=some (.bool a0_1):=(blk_cell BK347.out 1).trans rfl;have hcz20_2:w19.cell? ⟨gb347,2,none⟩=some (.slice A0_2 l0_2.length c0_2):=(blk_cell BK347.out 2).trans rfl;have hfz20_0:=blk_frozen BK347.out 0;have hfz20_1:=blk_frozen BK347.out 1;have hfz20_2:=blk_frozen BK347.out 2)|((with_reducible refine gate_callee (f:=78) rfl ?_);refine goesL_ (some 10) rfl rfl Try.func78 (by kernel_rfl) rfl #[.agg #[.int .i64 a0_0, .bool a0_1, .slice A0_2 l0_2.length c0_2]] rfl (by(try simp only[List.map_toArray,List.map_cons,List.map_nil]);first|done|rfl|(simp only[List.length_drop,List.length_take];rfl)) ?_;(with_reducible refine(ebbtideref05_Check.calls k a0_0 a0_1 _ _ l0_2 t348 _ ?side1 ?side2 A3.out).mono ?_);(case side1=>repeat(first|exact(Kd.C_below HR0_2.out HB.out)|(with_reducible refine Kd.C_alloc ?_ _)|(with_reducible refine Kd.C_drewN ?_ _)|(with_reducible refine Kd.C_drew ?_)));(case side2=>exact HC0_2.out);rintro e w21 ⟨rfl,hb⟩;refine⟨_,rfl,?_⟩;have n0_:=Aside0.mk (blk_below BK347.out hb);have n1_:=Aside0.mk (below_step HB.out hb);clear BK347;clear HB;have BK347:=n0_;have HB:=n1_;clear n0_ n1_;(try clear hb);(try clear hb2);(try clear hk);(try clear hi);have hcz22_0:w21.cell? ⟨gb347,0,none⟩=some (.int .i64 a0_0):=(blk_cell BK347.out 0).trans rfl;have hcz22_1:w21.cell? ⟨gb347,1,none⟩=some (.bool a0_1):=(blk_cell BK347.out 1).trans rfl;have hcz22_2:w21.cell? ⟨gb347,2,none⟩=some (.slice A0_2 l0_2.length c0_2):=(blk_cell BK347.out 2).trans rfl;have hfz22_0:=blk_frozen BK347.out 0;have hfz22_1:=blk_frozen BK347.out 1;have hfz22_2:=blk_frozen BK347.out 2)|((with_reducible refine gate_callee (f:=102) rfl ?_);refine goesL_ (some 16) rfl rfl Try.func102 (by kernel_rfl) rfl #[.agg #[.int .i64 a0_0, .bool a0_1, .slice A0_2 l0_2.length c0_2], .slice A1 l1.length c1] rfl (by(try simp only[List.map_toArray,List.map_cons,List.map_nil]);first|done|rfl|(simp only[List.length_drop,List.length_take];rfl)) ?_;(with_reducible refine(ebbtideref07_Within.calls k a0_0 a0_1 _ _ l0_2 _ _ l1 false _ ?side1 ?side2 ?side3 ?side4 A5.out).mono ?_);(case side1=>repeat(first|exact(Kd.C_below HR0_2.out HB.out)|(with_reducible refine Kd.C_alloc ?_ _)|(with_reducible refine Kd.C_drewN ?_ _)|(with_reducible refine Kd.C_drew ?_)));(case side2=>exact HC0_2.out);(case side3=>repeat(first|exact(Kd.C_below HR1.out HB.out)|(with_reducible refine Kd.C_alloc ?_ _)|(with_reducible refine Kd.C_drewN ?_ _)|(with_reducible refine Kd.C_drew ?_)));(case side4=>exact HC1.out);rintro e w23 ⟨rfl,hb⟩;refine⟨_,rfl,?_⟩;have n0_:=Aside0.mk (blk_below BK347.out hb);have n1_:=Aside0.mk (below_step HB.out hb);clear BK347;clear HB;have BK347:=n0_;have HB:=n1_;clear n0_ n1_;(try clear hb);(try clear hb2);(try clear hk);(try clear hi)))
  go_ret2
  exact⟨_,by first|rfl|(simp[errW_none,errW_some]<;>rfl)|(simp[*,errW_none,errW_some]<;>rfl),by first|exact Kd.R_nil _ _ _ _ _|exact Kd.N_nil _ _ _ _ _|exact Kd.V_nil _ _ _ _ _|exact Kd.Q_nil _ _ _ _ _|exact Kd.S_nil _ _ _ _ _,HB.out⟩
 subst c6
 have H1:(ebbtideref07_Balance.l0 k l1 ([]:List Int) 0 a0_0 a0_1 l0_2)=some (r1,r2):=by first|(rw[if_pos rfl] at H;exact H)|(rw[if_pos trivial] at H;exact H)
 clear H
 have H:=H1
 clear H1
 have H':=Aside0.mk H
 clear H
 go_enter Try.func48,Try.ntmps48
 go_wp2_with (first|((with_reducible refine gate_dst (N:=2) rfl ?_);refine box_event ?hg (N:=2) ?hd (cs:= #[.int .i64 a0_0, .bool a0_1, .slice A0_2 l0_2.length c0_2]) (t:=24) ?hr ?_;(case hd=>rfl);(case hg=>rfl);(case hr=>first|(go_simp;done)|(go_simp;rfl));intro gb347 hg w7 hbox hb;have n0_:=Aside0.mk (below_step HB.out hb);have n1_:=Aside0.mk (hbox);have n2_:=Aside0.mk ((by rw[hg];exact(below_size HB.out):w.heap.size≤gb347));have n3_:=Aside0.mk ((by rw[hg];exact(below_size HB.out):w.heap.size≤gb347));clear HB;have HB:=n0_;have BK347:=n1_;have GW347:=n2_;have GE347:=n3_;clear n0_ n1_ n2_ n3_;clear hb hbox hg;have hcz8_0:w7.cell? ⟨gb347,0,none⟩=some (.int .i64 a0_0):=(blk_cell BK347.out 0).trans rfl;have hcz8_1:w7.cell? ⟨gb347,1,none⟩=some (.bool a0_1):=(blk_cell BK347.out 1).trans rfl;have hcz8_2:w7.cell? ⟨gb347,2,none⟩=some (.slice A0_2 l0_2.length c0_2):=(blk_cell BK347.out 2).trans rfl;have hfz8_0:=blk_frozen BK347.out 0;have hfz8_1:=blk_frozen BK347.out 1;have hfz8_2:=blk_frozen BK347.out 2)|((with_reducible refine gate_callee (f:=78) rfl ?_);refine goesL_ (some 10) rfl rfl Try.func78 (by kernel_rfl) rfl #[.agg #[.int .i64 a0_0, .bool a0_1, .slice A0_2 l0_2.length c0_2]] rfl (by(try simp only[List.map_toArray,List.map_cons,List.map_nil]);first|done|rfl|(simp only[List.length_drop,List.length_take];rfl)) ?_;(with_reducible refine(ebbtideref05_Check.calls k a0_0 a0_1 _ _ l0_2 t348 _ ?side1 ?side2 A3.out).mono ?_);(case side1=>repeat(first|exact(Kd.C_below HR0_2.out HB.out)|(with_reducible refine Kd.C_alloc ?_ _)|(with_reducible refine Kd.C_drewN ?_ _)|(with_reducible refine Kd.C_drew ?_)));(case side2=>exact HC0_2.out);rintro e w9 ⟨rfl,hb⟩;refine⟨_,rfl,?_⟩;have n0_:=Aside0.mk (blk_below BK347.out hb);have n1_:=Aside0.mk (below_step HB.out hb);clear BK347;clear HB;have BK347:=n0_;have HB:=n1_;clear n0_ n1_;(try clear hb);(try clear hb2);(try clear hk);(try clear hi);have hcz10_0:w9.cell? ⟨gb347,0,none⟩=some (.int .i64 a0_0):=(blk_cell BK347.out 0).trans rfl;have hcz10_1:w9.cell? ⟨gb347,1,none⟩=some (.bool a0_1):=(blk_cell BK347.out 1).trans rfl;have hcz10_2:w9.cell? ⟨gb347,2,none⟩=some (.slice A0_2 l0_2.length c0_2):=(blk_cell BK347.out 2).trans rfl;have hfz10_0:=blk_frozen BK347.out 0;have hfz10_1:=blk_frozen BK347.out 1;have hfz10_2:=blk_frozen BK347.out 2)|((with_reducible refine gate_callee (f:=102) rfl ?_);refine goesL_ (some 16) rfl rfl Try.func102 (by kernel_rfl) rfl #[.agg #[.int .i64 a0_0, .bool a0_1, .slice A0_2 l0_2.length c0_2], .slice A1 l1.length c1] rfl (by(try simp only[List.map_toArray,List.map_cons,List.map_nil]);first|done|rfl|(simp only[List.length_drop,List.length_take];rfl)) ?_;(with_reducible refine(ebbtideref07_Within.calls k a0_0 a0_1 _ _ l0_2 _ _ l1 true _ ?side1 ?side2 ?side3 ?side4 A5.out).mono ?_);(case side1=>repeat(first|exact(Kd.C_below HR0_2.out HB.out)|(with_reducible refine Kd.C_alloc ?_ _)|(with_reducible refine Kd.C_drewN ?_ _)|(with_reducible refine Kd.C_drew ?_)));(case side2=>exact HC0_2.out);(case side3=>repeat(first|exact(Kd.C_below HR1.out HB.out)|(with_reducible refine Kd.C_alloc ?_ _)|(with_reducible refine Kd.C_drewN ?_ _)|(with_reducible refine Kd.C_drew ?_)));(case side4=>exact HC1.out);rintro e w11 ⟨rfl,hb⟩;refine⟨_,rfl,?_⟩;have n0_:=Aside0.mk (blk_below BK347.out hb);have n1_:=Aside0.mk (below_step HB.out hb);clear BK347;clear HB;have BK347:=n0_;have HB:=n1_;clear n0_ n1_;(try clear hb);(try clear hb2);(try clear hk);(try clear hi)))
 go_loopg [7,8] k (fun kq v7 v8 w'=> ∃ (x7_1:List Int) (x8_1:Int),v8= .int .i64 x8_1∧Aside0 (ebbtideref07_Balance.l0 kq l1 x7_1 x8_1 a0_0 a0_1 l0_2=some (r1,r2))∧Aside0 (kq≤k)∧Aside0 (Kd.R (Kd.int .i64) 3 w' w.heap.size (fun _=>True) v7 x7_1)∧Aside0 (w'.heap[gb347]? =some (.cells #[.int .i64 a0_0, .bool a0_1,(.slice A0_2 l0_2.length c0_2)] 24 (0,0)))∧Aside0 (Below w.heap.size w w'))
 case atStart=>exact⟨(([]:List Int)),(0),(by first|rfl|(simp;done)|(simp[*];done)),H',⟨Nat.le_refl _⟩,⟨by first|exact Kd.R_nil _ _ _ _ _|exact Kd.N_nil _ _ _ _ _|exact Kd.V_nil _ _ _ _ _|exact Kd.Q_nil _ _ _ _ _|exact Kd.S_nil _ _ _ _ _⟩,⟨BK347.out⟩,⟨HB.out⟩⟩
 case round=>
  clear H'
  try clear c1
  try clear p2
  try clear c4
  try clear c4b0
  try clear c4b1
  try clear c6
  try clear c7
  try clear c10
  try clear hcz10_0
  try clear hcz10_1
  try clear hcz10_2
  try clear hcz8_0
  try clear hcz8_1
  try clear hcz8_2
  try clear hfz10_0
  try clear hfz10_1
  try clear hfz10_2
  try clear hfz8_0
  try clear hfz8_1
  try clear hfz8_2
  obtain⟨x7_1,x8_1,rfl,HA,HK1,HO_7,BK347,HB⟩:=hrel
  cases gk with
  |zero=>exact absurd HA.out (by simp[ebbtideref07_Balance.l0])
  |succ k1=>
   have H:=HA.out
   clear HA
   simp only[ebbtideref07_Balance.l0] at H
   by_cases c12:x8_1<a0_0
   rotate_left
   ·rw[if_neg c12] at H
    have c12b0:decide (x8_1<a0_0)=false:=decide_eq_false c12
    clear c12
    simp only[Option.some.injEq,Prod.mk.injEq] at H
    obtain⟨rfl,rfl⟩:=H
    have hcz18_0:wr.cell? ⟨gb347,0,none⟩=some (.int .i64 a0_0):=(blk_cell BK347.out 0).trans rfl
    have hcz18_1:wr.cell? ⟨gb347,1,none⟩=some (.bool a0_1):=(blk_cell BK347.out 1).trans rfl
    have hcz18_2:wr.cell? ⟨gb347,2,none⟩=some (.slice A0_2 l0_2.length c0_2):=(blk_cell BK347.out 2).trans rfl
    have hfz18_0:=blk_frozen BK347.out 0
    have hfz18_1:=blk_frozen BK347.out 1
    have hfz18_2:=blk_frozen BK347.out 2
    go_wp2
    go_ret2
    exact⟨_,by first|rfl|(simp[errW_none,errW_some]<;>rfl)|(simp[*,errW_none,errW_some]<;>rfl),by(with_reducible repeat(first|apply Kd.R_alloc|apply Kd.R_drewN|apply Kd.R_drew));exact HO_7.out,HB.out⟩
   rw[if_pos c12] at H
   have c12b0:decide (x8_1<a0_0)=true:=decide_eq_true c12
   clear c12
   replace H:=Option.bind_eq_some_iff.mp H
   obtain⟨t350,A130,H⟩:=H
   replace H:(if x7_1.length<17592186044416 then(ebbtideref07_Balance.l0 k1 l1 (x7_1 ++ [t350]) (wrap64 (x8_1+1)) a0_0 a0_1 l0_2) else(none))=some (r1,r2):=H
   have A13:=Aside0.mk A130
   clear A130
   by_cases c14:x7_1.length<17592186044416
   rotate_left
   ·rw[if_neg c14] at H
    exact absurd H (by simp)
   rw[if_pos c14] at H
   have LMc14:=Aside0.mk c14
   clear c14
   obtain⟨y351,hy351⟩: ∃ y_:List Int,y_=(x7_1 ++ [t350]):=⟨_,rfl⟩
   replace H:(ebbtideref07_Balance.l0 k1 l1 y351 (wrap64 (x8_1+1)) a0_0 a0_1 l0_2)=some (r1,r2):=by first|(rw[hy351];with_reducible exact H)|(have H2_:=(Option.bind_some _ _).symm.trans H;rw[hy351];with_reducible exact H2_)|(have H2_:=(Option.bind_some _ _).symm.trans H;with_reducible exact H2_)|with_reducible exact H|(rw[hy351];exact H)|exact H
   have Ny351:=Aside0.mk hy351
   clear hy351
   have H':=Aside0.mk H
   clear H
   have hcz15_0:wr.cell? ⟨gb347,0,none⟩=some (.int .i64 a0_0):=(blk_cell BK347.out 0).trans rfl
   have hcz15_1:wr.cell? ⟨gb347,1,none⟩=some (.bool a0_1):=(blk_cell BK347.out 1).trans rfl
   have hcz15_2:wr.cell? ⟨gb347,2,none⟩=some (.slice A0_2 l0_2.length c0_2):=(blk_cell BK347.out 2).trans rfl
   have hfz15_0:=blk_frozen BK347.out 0
   have hfz15_1:=blk_frozen BK347.out 1
   have hfz15_2:=blk_frozen BK347.out 2
   go_wp2_with (first|((with_reducible refine gate_callee (f:=103) rfl ?_);refine goesL_ (some 28) rfl rfl Try.func103 (by kernel_rfl) rfl #[.agg #[.int .i64 a0_0, .bool a0_1, .slice A0_2 l0_2.length c0_2], .slice A1 l1.length c1, .int .i64 x8_1] rfl (by(try simp only[List.map_toArray,List.map_cons,List.map_nil]);first|done|rfl|(simp only[List.length_drop,List.length_take];rfl)) ?_;(with_reducible refine(ebbtideref07_Leaves.calls k1 a0_0 a0_1 _ _ l0_2 _ _ l1 x8_1 t350 _ ?side1 ?side2 ?side3 ?side4 A13.out).mono ?_);(case side1=>repeat(first|exact(Kd.C_below HR0_2.out HB.out)|(with_reducible refine Kd.C_alloc ?_ _)|(with_reducible refine Kd.C_drewN ?_ _)|(with_reducible refine Kd.C_drew ?_)));(case side2=>exact HC0_2.out);(case side3=>repeat(first|exact(Kd.C_below HR1.out HB.out)|(with_reducible refine Kd.C_alloc ?_ _)|(with_reducible refine Kd.C_drewN ?_ _)|(with_reducible refine Kd.C_drew ?_)));(case side4=>exact HC1.out);rintro e w16 ⟨rfl,hb⟩;refine⟨_,rfl,?_⟩;have n0_:=Aside0.mk (Kd.R_below HO_7.out hb);have n1_:=Aside0.mk (blk_below BK347.out hb);have n2_:=Aside0.mk (below_step HB.out hb);clear HO_7;clear BK347;clear HB;have HO_7:=n0_;have BK347:=n1_;have HB:=n2_;clear n0_ n1_ n2_;(try clear hb);(try clear hb2);(try clear hk);(try clear hi))|((with_reducible refine gate_builtin (b:= .append) (xs:= #[.tmp 24, .tmp 29]) rfl ?_);at_builtin;refine Kd.R_append (Kd.int .i64) (w0:=w) w.heap.size rfl (.tmp 24) (.tmp 29) 25 3 (.int .i64 0) 8 rfl Try.underlying25 info3 rfl (by decide) (by omega) u7 x7_1 t350 [.int .i64 t350] (fun _=>True) (fun _=>False) rfl rfl ?aP (fun _ hk=>hk.elim) ?aF ?aO ?aB ?aS ?aL ?_;(case aP=>exact rfl);(case aB=>exact HB.out);(case aF=>exact(fun _ _=>trivial));(case aO=>exact HO_7.out);(case aS=>exact(below_size HB.out));(case aL=>have:=LMc14.out;omega);intro v352 w17 ho hb hg hat;rw[← Ny351.out] at ho;have n0_:=Aside0.mk (blk_grown BK347.out hg (Kd.R_ne HO_7.out BK347.out (by decide)));have n1_:=Aside0.mk (hb);have n2_:=Aside0.mk (ho);clear BK347;clear HB;clear HO_7;have BK347:=n0_;have HB:=n1_;have HO353:=n2_;clear n0_ n1_ n2_;clear ho hb hg hat))
   go_roundg k1
   case measure=>have:=HK1.out;omega
   case rel=>exact⟨(y351),(wrap64 (x8_1+1)),(by first|rfl|(simp;done)|(simp[*];done)),H',⟨by have:=HK1.out;omega⟩,⟨HO353.out⟩,⟨BK347.out⟩,⟨HB.out⟩⟩
end Go.Proofs.Ytkcpanpdipmmmaa.P
namespace Go.Proofs.Ytkcpanpdipmmmaa.P
open Go.RowKit Go.Proofs.YtkcpanpdipmmmaaW.PrintWords Go.Proofs.YtkcpanpdipmmmaaW.PrintLast Go.Proofs.YtkcpanpdipmmmaaW.PrintMore
attribute [local go_sem] max2_int min2_int max_two min_two max_three min_three max_four min_four
def ebbtideref06_Node.f (a0_0:Int) (a0_1:Bool) (l0_2:List (S74)) (a1:Int):Option (Bool):=if a1≥0 then(some (decide (a1<a0_0))) else(some false)
set_option maxHeartbeats 8000000 in
set_option maxRecDepth 100000 in
theorem ebbtideref06_Node.calls (a0_0:Int) (a0_1:Bool) (A0_2:Option Addr) (c0_2:Nat) (l0_2:List (S74)) (a1:Int) (r:Bool) (w:World) (hr0_2:Kd.C k74 w A0_2 l0_2.length l0_2) (hc0_2:l0_2.length≤c0_2) (h:ebbtideref06_Node.f a0_0 a0_1 l0_2 a1=some r):
  Calls Try.prog 99 #[.agg #[.int .i64 a0_0, .bool a0_1, .slice A0_2 l0_2.length c0_2], .int .i64 a1] w fun e w'=>e= .returned (.bool r)∧Below w.heap.size w w':=by
 have hu24:=Try.underlying24
 have HR0_2:=Aside0.mk hr0_2
 have HC0_2:=Aside0.mk hc0_2
 clear hr0_2 hc0_2
 have HB:=Aside0.mk (Below.refl w.heap.size w)
 have H:(if a1≥0 then(some (decide (a1<a0_0))) else(some false))=some r:=h
 clear h
 by_cases c3:a1≥0
 rotate_left
 ·rw[if_neg c3] at H
  have c3b0:decide (0≤a1)=false:=decide_eq_false c3
  clear c3
  obtain rfl:=Option.some.inj H
  go_enter Try.func99,Try.ntmps99
  go_wp2_with (first|((with_reducible refine gate_dst (N:=2) rfl ?_);refine box_event ?hg (N:=2) ?hd (cs:= #[.int .i64 a0_0, .bool a0_1, .slice A0_2 l0_2.length c0_2]) (t:=24) ?hr ?_;(case hd=>rfl);(case hg=>rfl);(case hr=>first|(go_simp;done)|(go_simp;rfl));intro gb166 hg w6 hbox hb;have n0_:=Aside0.mk (below_step (by repeat(first|(with_reducible first|exact HB.out|apply below_alloc|apply pw_below_drewN|apply below_drew1)|exact HB.out)) hb);have n1_:=Aside0.mk (hbox);have n2_:=Aside0.mk ((by rw[hg];exact(below_size (by repeat(first|(with_reducible first|exact HB.out|apply below_alloc|apply pw_below_drewN|apply below_drew1)|exact HB.out))):w.heap.size≤gb166));have n3_:=Aside0.mk ((by rw[hg];exact(below_size (by repeat(first|(with_reducible first|exact HB.out|apply below_alloc|apply pw_below_drewN|apply below_drew1)|exact HB.out))):w.heap.size≤gb166));clear HB;have HB:=n0_;have BK166:=n1_;have GW166:=n2_;have GE166:=n3_;clear n0_ n1_ n2_ n3_;clear hb hbox hg))
  go_ret
  exact⟨by first|rfl|(simp[errW_none,errW_some]<;>rfl)|(simp[*,errW_none,errW_some]<;>rfl),by repeat(first|(with_reducible first|exact HB.out|apply below_alloc|apply pw_below_drewN|apply below_drew1|refine below_set ?_ GE166.out)|exact HB.out)⟩
 rw[if_pos c3] at H
 have c3b0:decide (0≤a1)=true:=decide_eq_true c3
 clear c3
 obtain rfl:=Option.some.inj H
 go_enter Try.func99,Try.ntmps99
 go_wp2_with (first|((with_reducible refine gate_dst (N:=2) rfl ?_);refine box_event ?hg (N:=2) ?hd (cs:= #[.int .i64 a0_0, .bool a0_1, .slice A0_2 l0_2.length c0_2]) (t:=24) ?hr ?_;(case hd=>rfl);(case hg=>rfl);(case hr=>first|(go_simp;done)|(go_simp;rfl));intro gb166 hg w4 hbox hb;have n0_:=Aside0.mk (below_step (by repeat(first|(with_reducible first|exact HB.out|apply below_alloc|apply pw_below_drewN|apply below_drew1)|exact HB.out)) hb);have n1_:=Aside0.mk (hbox);have n2_:=Aside0.mk ((by rw[hg];exact(below_size (by repeat(first|(with_reducible first|exact HB.out|apply below_alloc|apply pw_below_drewN|apply below_drew1)|exact HB.out))):w.heap.size≤gb166));have n3_:=Aside0.mk ((by rw[hg];exact(below_size (by repeat(first|(with_reducible first|exact HB.out|apply below_alloc|apply pw_below_drewN|apply below_drew1)|exact HB.out))):w.heap.size≤gb166));clear HB;have HB:=n0_;have BK166:=n1_;have GW166:=n2_;have GE166:=n3_;clear n0_ n1_ n2_ n3_;clear hb hbox hg;have hcz5_0:w4.cell? ⟨gb166,0,none⟩=some (.int .i64 a0_0):=(blk_cell BK166.out 0).trans rfl;have hcz5_1:w4.cell? ⟨gb166,1,none⟩=some (.bool a0_1):=(blk_cell BK166.out 1).trans rfl;have hcz5_2:w4.cell? ⟨gb166,2,none⟩=some (.slice A0_2 l0_2.length c0_2):=(blk_cell BK166.out 2).trans rfl;have hfz5_0:=blk_frozen BK166.out 0;have hfz5_1:=blk_frozen BK166.out 1;have hfz5_2:=blk_frozen BK166.out 2))
 go_ret
 exact⟨by first|rfl|(simp[errW_none,errW_some]<;>rfl)|(simp[*,errW_none,errW_some]<;>rfl),by repeat(first|(with_reducible first|exact HB.out|apply below_alloc|apply pw_below_drewN|apply below_drew1|refine below_set ?_ GE166.out)|exact HB.out)⟩
end Go.Proofs.Ytkcpanpdipmmmaa.P
namespace Go.Proofs.Ytkcpanpdipmmmaa.P
open Go.RowKit Go.Proofs.YtkcpanpdipmmmaaW.PrintWords Go.Proofs.YtkcpanpdipmmmaaW.PrintLast Go.Proofs.YtkcpanpdipmmmaaW.PrintMore
attribute [local go_sem] max2_int min2_int max_two min_two max_three min_three max_four min_four
def ebbtideref07_Ends.f (k:Nat) (a0_0:Int) (a0_1:Bool) (l0_2:List (S74)) (a1:Int) (a2:Int):Option (Int):=(ebbtideref05_Check.f k a0_0 a0_1 l0_2).bind fun t562=>(if t562=0 then((ebbtideref06_Node.f a0_0 a0_1 l0_2 a1).bind fun t563=>(if t563=true then((ebbtideref06_Node.f a0_0 a0_1 l0_2 a2).bind fun t564=>(if t564=true then(if a1=a2 then(some 70) else(some 0)) else(some 70))) else(some 70))) else(some t562))
set_option maxHeartbeats 8000000 in
set_option maxRecDepth 100000 in
theorem ebbtideref07_Ends.calls (k:Nat) (a0_0:Int) (a0_1:Bool) (A0_2:Option Addr) (c0_2:Nat) (l0_2:List (S74)) (a1:Int) (a2:Int) (r:Int) (w:World) (hr0_2:Kd.C k74 w A0_2 l0_2.length l0_2) (hc0_2:l0_2.length≤c0_2) (h:ebbtideref07_Ends.f k a0_0 a0_1 l0_2 a1 a2=some r):
  Calls Try.prog 77 #[.agg #[.int .i64 a0_0, .bool a0_1, .slice A0_2 l0_2.length c0_2], .int .i64 a1, .int .i64 a2] w fun e w'=>e= .returned (.int .i64 r)∧Below w.heap.size w w':=by
 have hu24:=Try.underlying24
 have HR0_2:=Aside0.mk hr0_2
 have HC0_2:=Aside0.mk hc0_2
 clear hr0_2 hc0_2
 have HB:=Aside0.mk (Below.refl w.heap.size w)
 have H:((ebbtideref05_Check.f k a0_0 a0_1 l0_2).bind fun t562=>(if t562=0 then((ebbtideref06_Node.f a0_0 a0_1 l0_2 a1).bind fun t563=>(if t563=true then((ebbtideref06_Node.f a0_0 a0_1 l0_2 a2).bind fun t564=>(if t564=true then(if a1=a2 then(some 70) else(some 0)) else(some 70))) else(some 70))) else(some t562)))=some r:=h
 clear h
 replace H:=Option.bind_eq_some_iff.mp H
 obtain⟨t562,A40,H⟩:=H
 replace H:(if t562=0 then((ebbtideref06_Node.f a0_0 a0_1 l0_2 a1).bind fun t563=>(if t563=true then((ebbtideref06_Node.f a0_0 a0_1 l0_2 a2).bind fun t564=>(if t564=true then(if a1=a2 then(some 70) else(some 0)) else(some 70))) else(some 70))) else(some t562))=some r:=H
 have A4:=Aside0.mk A40
 clear A40
 by_cases c5:t562=0
 rotate_left
 ·rw[if_neg c5] at H
  have c5b0:(t562 == 0)=false:=beq_eq_false_iff_ne.mpr c5
  have c5b1:(t562 != 0)=true:=bne_iff_ne.mpr c5
  obtain rfl:=Option.some.inj H
  go_enter Try.func77,Try.ntmps77
  go_wp2_with (first|((with_reducible refine gate_dst (N:=3) rfl ?_);refine box_event ?hg (N:=3) ?hd (cs:= #[.int .i64 a0_0, .bool a0_1, .slice A0_2 l0_2.length c0_2]) (t:=24) ?hr ?_;(case hd=>rfl);(case hg=>rfl);(case hr=>first|(go_simp;done)|(go_simp;rfl));intro gb561 hg w37 hbox hb;have n0_:=Aside0.mk (below_step HB.out hb);have n1_:=Aside0.mk (hbox);have n2_:=Aside0.mk ((by rw[hg];exact(below_size HB.out):w.heap.size≤gb561));have n3_:=Aside0.mk ((by rw[hg];exact(below_size HB.out):w.heap.size≤gb561));clear HB;have HB:=n0_;have BK561:=n1_;have GW561:=n2_;have GE561:=n3_;clear n0_ n1_ n2_ n3_;clear hb hbox hg;have hcz38_0:w37.cell? ⟨gb561,0,none⟩=some (.int .i64 a0_0):=(blk_cell BK561.out 0).trans rfl;have hcz38_1:w37.cell? ⟨gb561,1,none⟩=some (.bool a0_1):=(blk_cell BK561.out 1).trans rfl;have hcz38_2:w37.cell? ⟨gb561,2,none⟩=some (.slice A0_2 l0_2.length c0_2):=(blk_cell BK561.out 2).trans rfl;have hfz38_0:=blk_frozen BK561.out 0;have hfz38_1:=blk_frozen BK561.out 1;have hfz38_2:=blk_frozen BK561.out 2)|((with_reducible refine gate_callee (f:=78) rfl ?_);refine goesL_ (some 9) rfl rfl Try.func78 (by kernel_rfl) rfl #[.agg #[.int .i64 a0_0, .bool a0_1, .slice A0_2 l0_2.length c0_2]] rfl (by(try simp only[List.map_toArray,List.map_cons,List.map_nil]);first|done|rfl|(simp only[List.length_drop,List.length_take];rfl)) ?_;(with_reducible refine(ebbtideref05_Check.calls k a0_0 a0_1 _ _ l0_2 t562 _ ?side1 ?side2 A4.out).mono ?_);(case side1=>repeat(first|exact(Kd.C_below HR0_2.out HB.out)|(with_reducible refine Kd.C_alloc ?_ _)|(with_reducible refine Kd.C_drewN ?_ _)|(with_reducible refine Kd.C_drew ?_)));(case side2=>exact HC0_2.out);rintro e w39 ⟨rfl,hb⟩;refine⟨_,rfl,?_⟩;have n0_:=Aside0.mk (blk_below BK561.out hb);have n1_:=Aside0.mk (below_step HB.out hb);clear BK561;clear HB;have BK561:=n0_;have HB:=n1_;clear n0_ n1_;(try clear hb);(try clear hb2);(try clear hk);(try clear hi)))
  go_ret
  exact⟨by first|rfl|(simp[errW_none,errW_some]<;>rfl)|(simp[*,errW_none,errW_some]<;>rfl),HB.out⟩
 rw[if_pos c5] at H
 have c5b0:(t562 == 0)=true:=beq_iff_eq.mpr c5
 have c5b1:(t562 != 0)=false:=bne_eq_false_iff_eq.mpr c5
 clear c5
 replace H:=Option.bind_eq_some_iff.mp H
 obtain⟨t563,A60,H⟩:=H
 replace H:(if t563=true then((ebbtideref06_Node.f a0_0 a0_1 l0_2 a2).bind fun t564=>(if t564=true then(if a1=a2 then(some 70) else(some 0)) else(some 70))) else(some 70))=some r:=H
 have A6:=Aside0.mk A60
 clear A60
 by_cases c7:t563=true
 rotate_left
 ·replace c7:=Bool.eq_false_iff.mpr c7
  subst c7
  have H1:(some 70)=some r:=by rw[if_neg (show ¬ (false=true) by decide)] at H;exact H
  clear H
  have H:=H1
  clear H1
  obtain rfl:=Option.some.inj H
  go_enter Try.func77,Try.ntmps77
  go_wp2_with (first|((with_reducible refine gate_dst (N:=3) rfl ?_);refine box_event ?hg (N:=3) ?hd (cs:= #[.int .i64 a0_0, .bool a0_1, .slice A0_2 l0_2.length c0_2]) (t:=24) ?hr ?_;(case hd=>rfl);(case hg=>rfl);(case hr=>first|(go_simp;done)|(go_simp;rfl));intro gb561 hg w32 hbox hb;have n0_:=Aside0.mk (below_step HB.out hb);have n1_:=Aside0.mk (hbox);have n2_:=Aside0.mk ((by rw[hg];exact(below_size HB.out):w.heap.size≤gb561));have n3_:=Aside0.mk ((by rw[hg];exact(below_size HB.out):w.heap.size≤gb561));clear HB;have HB:=n0_;have BK561:=n1_;have GW561:=n2_;have GE561:=n3_;clear n0_ n1_ n2_ n3_;clear hb hbox hg;have hcz33_0:w32.cell? ⟨gb561,0,none⟩=some (.int .i64 a0_0):=(blk_cell BK561.out 0).trans rfl;have hcz33_1:w32.cell? ⟨gb561,1,none⟩=some (.bool a0_1):=(blk_cell BK561.out 1).trans rfl;have hcz33_2:w32.cell? ⟨gb561,2,none⟩=some (.slice A0_2 l0_2.length c0_2):=(blk_cell BK561.out 2).trans rfl;have hfz33_0:=blk_frozen BK561.out 0;have hfz33_1:=blk_frozen BK561.out 1;have hfz33_2:=blk_frozen BK561.out 2)|((with_reducible refine gate_callee (f:=78) rfl ?_);refine goesL_ (some 9) rfl rfl Try.func78 (by kernel_rfl) rfl #[.agg #[.int .i64 a0_0, .bool a0_1, .slice A0_2 l0_2.length c0_2]] rfl (by(try simp only[List.map_toArray,List.map_cons,List.map_nil]);first|done|rfl|(simp only[List.length_drop,List.length_take];rfl)) ?_;(with_reducible refine(ebbtideref05_Check.calls k a0_0 a0_1 _ _ l0_2 t562 _ ?side1 ?side2 A4.out).mono ?_);(case side1=>repeat(first|exact(Kd.C_below HR0_2.out HB.out)|(with_reducible refine Kd.C_alloc ?_ _)|(with_reducible refine Kd.C_drewN ?_ _)|(with_reducible refine Kd.C_drew ?_)));(case side2=>exact HC0_2.out);rintro e w34 ⟨rfl,hb⟩;refine⟨_,rfl,?_⟩;have n0_:=Aside0.mk (blk_below BK561.out hb);have n1_:=Aside0.mk (below_step HB.out hb);clear BK561;clear HB;have BK561:=n0_;have HB:=n1_;clear n0_ n1_;(try clear hb);(try clear hb2);(try clear hk);(try clear hi);have hcz35_0:w34.cell? ⟨gb561,0,none⟩=some (.int .i64 a0_0):=(blk_cell BK561.out 0).trans rfl;have hcz35_1:w34.cell? ⟨gb561,1,none⟩=some (.bool a0_1):=(blk_cell BK561.out 1).trans rfl;have hcz35_2:w34.cell? ⟨gb561,2,none⟩=some (.slice A0_2 l0_2.length c0_2):=(blk_cell BK561.out 2).trans rfl;have hfz35_0:=blk_frozen BK561.out 0;have hfz35_1:=blk_frozen BK561.out 1;have hfz35_2:=blk_frozen BK561.out 2)|((with_reducible refine gate_callee (f:=99) rfl ?_);refine goesL_ (some 15) rfl rfl Try.func99 (by kernel_rfl) rfl #[.agg #[.int .i64 a0_0, .bool a0_1, .slice A0_2 l0_2.length c0_2], .int .i64 a1] rfl (by(try simp only[List.map_toArray,List.map_cons,List.map_nil]);first|done|rfl|(simp only[List.length_drop,List.length_take];rfl)) ?_;(with_reducible refine(ebbtideref06_Node.calls a0_0 a0_1 _ _ l0_2 a1 false _ ?side1 ?side2 A6.out).mono ?_);(case side1=>repeat(first|exact(Kd.C_below HR0_2.out HB.out)|(with_reducible refine Kd.C_alloc ?_ _)|(with_reducible refine Kd.C_drewN ?_ _)|(with_reducible refine Kd.C_drew ?_)));(case side2=>exact HC0_2.out);rintro e w36 ⟨rfl,hb⟩;refine⟨_,rfl,?_⟩;have n0_:=Aside0.mk (blk_below BK561.out hb);have n1_:=Aside0.mk (below_step HB.out hb);clear BK561;clear HB;have BK561:=n0_;have HB:=n1_;clear n0_ n1_;(try clear hb);(try clear hb2);(try clear hk);(try clear hi)))
  go_ret
  exact⟨by first|rfl|(simp[errW_none,errW_some]<;>rfl)|(simp[*,errW_none,errW_some]<;>rfl),HB.out⟩
 subst c7
 have H1:((ebbtideref06_Node.f a0_0 a0_1 l0_2 a2).bind fun t564=>(if t564=true then(if a1=a2 then(some 70) else(some 0)) else(some 70)))=some r:=by first|(rw[if_pos rfl] at H;exact H)|(rw[if_pos trivial] at H;exact H)
 clear H
 have H:=H1
 clear H1
 replace H:=Option.bind_eq_some_iff.mp H
 obtain⟨t564,A80,H⟩:=H
 replace H:(if t564=true then(if a1=a2 then(some 70) else(some 0)) else(some 70))=some r:=H
 have A8:=Aside0.mk A80
 clear A80
 by_cases c9:t564=true
 rotate_left
 ·replace c9:=Bool.eq_false_iff.mpr c9
  subst c9
  have H1:(some 70)=some r:=by rw[if_neg (show ¬ (false=true) by decide)] at H;exact H
  clear H
  have H:=H1
  clear H1
  obtain rfl:=Option.some.inj H
  go_enter Try.func77,Try.ntmps77
  go_wp2_with (first|((with_reducible refine gate_dst (N:=3) rfl ?_);refine box_event ?hg (N:=3) ?hd (cs:= #[.int .i64 a0_0, .bool a0_1, .slice A0_2 l0_2.length c0_2]) (t:=24) ?hr ?_;(case hd=>rfl);(case hg=>rfl);(case hr=>first|(go_simp;done)|(go_simp;rfl));intro gb561 hg w25 hbox hb;have n0_:=Aside0.mk (below_step HB.out hb);have n1_:=Aside0.mk (hbox);have n2_:=Aside0.mk ((by rw[hg];exact(below_size HB.out):w.heap.size≤gb561));have n3_:=Aside0.mk ((by rw[hg];exact(below_size HB.out):w.heap.size≤gb561));clear HB;have HB:=n0_;have BK561:=n1_;have GW561:=n2_;have GE561:=n3_;clear n0_ n1_ n2_ n3_;clear hb hbox hg;have hcz26_0:w25.cell? ⟨gb561,0,none⟩=some (.int .i64 a0_0):=(blk_cell BK561.out 0).trans rfl;have hcz26_1:w25.cell? ⟨gb561,1,none⟩=some (.bool a0_1):=(blk_cell BK561.out 1).trans rfl;have hcz26_2:w25.cell? ⟨gb561,2,none⟩=some (.slice A0_2 l0_2.length c0_2):=(blk_cell BK561.out 2).trans rfl;have hfz26_0:=blk_frozen BK561.out 0;have hfz26_1:=blk_frozen BK561.out 1;have hfz26_2:=blk_frozen BK561.out 2)|((with_reducible refine gate_callee (f:=78) rfl ?_);refine goesL_ (some 9) rfl rfl Try.func78 (by kernel_rfl) rfl #[.agg #[.int .i64 a0_0, .bool a0_1, .slice A0_2 l0_2.length c0_2]] rfl (by(try simp only[List.map_toArray,List.map_cons,List.map_nil]);first|done|rfl|(simp only[List.length_drop,List.length_take];rfl)) ?_;(with_reducible refine(ebbtideref05_Check.calls k a0_0 a0_1 _ _ l0_2 t562 _ ?side1 ?side2 A4.out).mono ?_);(case side1=>repeat(first|exact(Kd.C_below HR0_2.out HB.out)|(with_reducible refine Kd.C_alloc ?_ _)|(with_reducible refine Kd.C_drewN ?_ _)|(with_reducible refine Kd.C_drew ?_)));(case side2=>exact HC0_2.out);rintro e w27 ⟨rfl,hb⟩;refine⟨_,rfl,?_⟩;have n0_:=Aside0.mk (blk_below BK561.out hb);have n1_:=Aside0.mk (below_step HB.out hb);clear BK561;clear HB;have BK561:=n0_;have HB:=n1_;clear n0_ n1_;(try clear hb);(try clear hb2);(try clear hk);(try clear hi);have hcz28_0:w27.cell? ⟨gb561,0,none⟩=some (.int .i64 a0_0):=(blk_cell BK561.out 0).trans rfl;have hcz28_1:w27.cell? ⟨gb561,1,none⟩=some (.bool a0_1):=(blk_cell BK561.out 1).trans rfl;have hcz28_2:w27.cell? ⟨gb561,2,none⟩=some (.slice A0_2 l0_2.length c0_2):=(blk_cell BK561.out 2).trans rfl;have hfz28_0:=blk_frozen BK561.out 0;have hfz28_1:=blk_frozen BK561.out 1;have hfz28_2:=blk_frozen BK561.out 2)|((with_reducible refine gate_callee (f:=99) rfl ?_);refine goesL_ (some 15) rfl rfl Try.func99 (by kernel_rfl) rfl #[.agg #[.int .i64 a0_0, .bool a0_1, .slice A0_2 l0_2.length c0_2], .int .i64 a1] rfl (by(try simp only[List.map_toArray,List.map_cons,List.map_nil]);first|done|rfl|(simp only[List.length_drop,List.length_take];rfl)) ?_;(with_reducible refine(ebbtideref06_Node.calls a0_0 a0_1 _ _ l0_2 a1 true _ ?side1 ?side2 A6.out).mono ?_);(case side1=>repeat(first|exact(Kd.C_below HR0_2.out HB.out)|(with_reducible refine Kd.C_alloc ?_ _)|(with_reducible refine Kd.C_drewN ?_ _)|(with_reducible refine Kd.C_drew ?_)));(case side2=>exact HC0_2.out);rintro e w29 ⟨rfl,hb⟩;refine⟨_,rfl,?_⟩;have n0_:=Aside0.mk (blk_below BK561.out hb);have n1_:=Aside0.mk (below_step HB.out hb);clear BK561;clear HB;have BK561:=n0_;have HB:=n1_;clear n0_ n1_;(try clear hb);(try clear hb2);(try clear hk);(try clear hi);have hcz30_0:w29.cell? ⟨gb561,0,none⟩=some (.int .i64 a0_0):=(blk_cell BK561.out 0).trans rfl;have hcz30_1:w29.cell? ⟨gb561,1,none⟩=some (.bool a0_1):=(blk_cell BK561.out 1).trans rfl;have hcz30_2:w29.cell? ⟨gb561,2,none⟩=some (.slice A0_2 l0_2.length c0_2):=(blk_cell BK561.out 2).trans rfl;have hfz30_0:=blk_frozen BK561.out 0;have hfz30_1:=blk_frozen BK561.out 1;have hfz30_2:=blk_frozen BK561.out 2)|(go_at_call 99;(with_reducible refine(ebbtideref06_Node.calls a0_0 a0_1 _ _ l0_2 a2 false _ ?side1 ?side2 A8.out).mono ?_);(case side1=>repeat(first|exact(Kd.C_below HR0_2.out HB.out)|(with_reducible refine Kd.C_alloc ?_ _)|(with_reducible refine Kd.C_drewN ?_ _)|(with_reducible refine Kd.C_drew ?_)));(case side2=>exact HC0_2.out);rintro e w31 ⟨rfl,hb⟩;have n0_:=Aside0.mk (blk_below BK561.out hb);have n1_:=Aside0.mk (below_step HB.out hb);clear BK561;clear HB;have BK561:=n0_;have HB:=n1_;clear n0_ n1_;(try clear hb);(try clear hb2);(try clear hk);(try clear hi)))
  go_ret
  exact⟨by first|rfl|(simp[errW_none,errW_some]<;>rfl)|(simp[*,errW_none,errW_some]<;>rfl),HB.out⟩
 subst c9
 have H1:(if a1=a2 then(some 70) else(some 0))=some r:=by first|(rw[if_pos rfl] at H;exact H)|(rw[if_pos trivial] at H;exact H)
 clear H
 have H:=H1
 clear H1
 by_cases c10:a1=a2
 rotate_left
 ·rw[if_neg c10] at H
  have c10b0:(a1 == a2)=false:=beq_eq_false_iff_ne.mpr c10
  have c10b1:(a1 != a2)=true:=bne_iff_ne.mpr c10
  obtain rfl:=Option.some.inj H
  go_enter Try.func77,Try.ntmps77
  go_wp2_with (first|((with_reducible refine gate_dst (N:=3) rfl ?_);refine box_event ?hg (N:=3) ?hd (cs:= #[.int .i64 a0_0, .bool a0_1, .slice A0_2 l0_2.length c0_2]) (t:=24) ?hr ?_;(case hd=>rfl);(case hg=>rfl);(case hr=>first|(go_simp;done)|(go_simp;rfl));intro gb561 hg w18 hbox hb;have n0_:=Aside0.mk (below_step HB.out hb);have n1_:=Aside0.mk (hbox);have n2_:=Aside0.mk ((by rw[hg];exact(below_size HB.out):w.heap.size≤gb561));have n3_:=Aside0.mk ((by rw[hg];exact(below_size HB.out):w.heap.size≤gb561));clear HB;have HB:=n0_;have BK561:=n1_;have GW561:=n2_;have GE561:=n3_;clear n0_ n1_ n2_ n3_;clear hb hbox hg;have hcz19_0:w18.cell? ⟨gb561,0,none⟩=some (.int .i64 a0_0):=(blk_cell BK561.out 0).trans rfl;have hcz19_1:w18.cell? ⟨gb561,1,none⟩=some (.bool a0_1):=(blk_cell BK561.out 1).trans rfl;have hcz19_2:w18.cell? ⟨gb561,2,none⟩=some (.slice A0_2 l0_2.length c0_2):=(blk_cell BK561.out 2).trans rfl;have hfz19_0:=blk_frozen BK561.out 0;have hfz19_1:=blk_frozen BK561.out 1;have hfz19_2:=blk_frozen BK561.out 2)|((with_reducible refine gate_callee (f:=78) rfl ?_);refine goesL_ (some 9) rfl rfl Try.func78 (by kernel_rfl) rfl #[.agg #[.int .i64 a0_0, .bool a0_1, .slice A0_2 l0_2.length c0_2]] rfl (by(try simp only[List.map_toArray,List.map_cons,List.map_nil]);first|done|rfl|(simp only[List.length_drop,List.length_take];rfl)) ?_;(with_reducible refine(ebbtideref05_Check.calls k a0_0 a0_1 _ _ l0_2 t562 _ ?side1 ?side2 A4.out).mono ?_);(case side1=>repeat(first|exact(Kd.C_below HR0_2.out HB.out)|(with_reducible refine Kd.C_alloc ?_ _)|(with_reducible refine Kd.C_drewN ?_ _)|(with_reducible refine Kd.C_drew ?_)));(case side2=>exact HC0_2.out);rintro e w20 ⟨rfl,hb⟩;refine⟨_,rfl,?_⟩;have n0_:=Aside0.mk (blk_below BK561.out hb);have n1_:=Aside0.mk (below_step HB.out hb);clear BK561;clear HB;have BK561:=n0_;have HB:=n1_;clear n0_ n1_;(try clear hb);(try clear hb2);(try clear hk);(try clear hi);have hcz21_0:w20.cell? ⟨gb561,0,none⟩=some (.int .i64 a0_0):=(blk_cell BK561.out 0).trans rfl;have hcz21_1:w20.cell? ⟨gb561,1,none⟩=some (.bool a0_1):=(blk_cell BK561.out 1).trans rfl;have hcz21_2:w20.cell? ⟨gb561,2,none⟩=some (.slice A0_2 l0_2.length c0_2):=(blk_cell BK561.out 2).trans rfl;have hfz21_0:=blk_frozen BK561.out 0;have hfz21_1:=blk_frozen BK561.out 1;have hfz21_2:=blk_frozen BK561.out 2)|((with_reducible refine gate_callee (f:=99) rfl ?_);refine goesL_ (some 15) rfl rfl Try.func99 (by kernel_rfl) rfl #[.agg #[.int .i64 a0_0, .bool a0_1, .slice A0_2 l0_2.length c0_2], .int .i64 a1] rfl (by(try simp only[List.map_toArray,List.map_cons,List.map_nil]);first|done|rfl|(simp only[List.length_drop,List.length_take];rfl)) ?_;(with_reducible refine(ebbtideref06_Node.calls a0_0 a0_1 _ _ l0_2 a1 true _ ?side1 ?side2 A6.out).mono ?_);(case side1=>repeat(first|exact(Kd.C_below HR0_2.out HB.out)|(with_reducible refine Kd.C_alloc ?_ _)|(with_reducible refine Kd.C_drewN ?_ _)|(with_reducible refine Kd.C_drew ?_)));(case side2=>exact HC0_2.out);rintro e w22 ⟨rfl,hb⟩;refine⟨_,rfl,?_⟩;have n0_:=Aside0.mk (blk_below BK561.out hb);have n1_:=Aside0.mk (below_step HB.out hb);clear BK561;clear HB;have BK561:=n0_;have HB:=n1_;clear n0_ n1_;(try clear hb);(try clear hb2);(try clear hk);(try clear hi);have hcz23_0:w22.cell? ⟨gb561,0,none⟩=some (.int .i64 a0_0):=(blk_cell BK561.out 0).trans rfl;have hcz23_1:w22.cell? ⟨gb561,1,none⟩=some (.bool a0_1):=(blk_cell BK561.out 1).trans rfl;have hcz23_2:w22.cell? ⟨gb561,2,none⟩=some (.slice A0_2 l0_2.length c0_2):=(blk_cell BK561.out 2).trans rfl;have hfz23_0:=blk_frozen BK561.out 0;have hfz23_1:=blk_frozen BK561.out 1;have hfz23_2:=blk_frozen BK561.out 2)|(go_at_call 99;(with_reducible refine(ebbtideref06_Node.calls a0_0 a0_1 _ _ l0_2 a2 true _ ?side1 ?side2 A8.out).mono ?_);(case side1=>repeat(first|exact(Kd.C_below HR0_2.out HB.out)|(with_reducible refine Kd.C_alloc ?_ _)|(with_reducible refine Kd.C_drewN ?_ _)|(with_reducible refine Kd.C_drew ?_)));(case side2=>exact HC0_2.out);rintro e w24 ⟨rfl,hb⟩;have n0_:=Aside0.mk (blk_below BK561.out hb);have n1_:=Aside0.mk (below_step HB.out hb);clear BK561;clear HB;have BK561:=n0_;have HB:=n1_;clear n0_ n1_;(try clear hb);(try clear hb2);(try clear hk);(try clear hi)))
  go_ret
  exact⟨by first|rfl|(simp[errW_none,errW_some]<;>rfl)|(simp[*,errW_none,errW_some]<;>rfl),HB.out⟩
 rw[if_pos c10] at H
 have c10b0:(a1 == a2)=true:=beq_iff_eq.mpr c10
 have c10b1:(a1 != a2)=false:=bne_eq_false_iff_eq.mpr c10
 clear c10
 obtain rfl:=Option.some.inj H
 go_enter Try.func77,Try.ntmps77
 go_wp2_with (first|((with_reducible refine gate_dst (N:=3) rfl ?_);refine box_event ?hg (N:=3) ?hd (cs:= #[.int .i64 a0_0, .bool a0_1, .slice A0_2 l0_2.length c0_2]) (t:=24) ?hr ?_;(case hd=>rfl);(case hg=>rfl);(case hr=>first|(go_simp;done)|(go_simp;rfl));intro gb561 hg w11 hbox hb;have n0_:=Aside0.mk (below_step HB.out hb);have n1_:=Aside0.mk (hbox);have n2_:=Aside0.mk ((by rw[hg];exact(below_size HB.out):w.heap.size≤gb561));have n3_:=Aside0.mk ((by rw[hg];exact(below_size HB.out):w.heap.size≤gb561));clear HB;have HB:=n0_;have BK561:=n1_;have GW561:=n2_;have GE561:=n3_;clear n0_ n1_ n2_ n3_;clear hb hbox hg;have hcz12_0:w11.cell? ⟨gb561,0,none⟩=some (.int .i64 a0_0):=(blk_cell BK561.out 0).trans rfl;have hcz12_1:w11.cell? ⟨gb561,1,none⟩=some (.bool a0_1):=(blk_cell BK561.out 1).trans rfl;have hcz12_2:w11.cell? ⟨gb561,2,none⟩=some (.slice A0_2 l0_2.length c0_2):=(blk_cell BK561.out 2).trans rfl;have hfz12_0:=blk_frozen BK561.out 0;have hfz12_1:=blk_frozen BK561.out 1;have hfz12_2:=blk_frozen BK561.out 2)|((with_reducible refine gate_callee (f:=78) rfl ?_);refine goesL_ (some 9) rfl rfl Try.func78 (by kernel_rfl) rfl #[.agg #[.int .i64 a0_0, .bool a0_1, .slice A0_2 l0_2.length c0_2]] rfl (by(try simp only[List.map_toArray,List.map_cons,List.map_nil]);first|done|rfl|(simp only[List.length_drop,List.length_take];rfl)) ?_;(with_reducible refine(ebbtideref05_Check.calls k a0_0 a0_1 _ _ l0_2 t562 _ ?side1 ?side2 A4.out).mono ?_);(case side1=>repeat(first|exact(Kd.C_below HR0_2.out HB.out)|(with_reducible refine Kd.C_alloc ?_ _)|(with_reducible refine Kd.C_drewN ?_ _)|(with_reducible refine Kd.C_drew ?_)));(case side2=>exact HC0_2.out);rintro e w13 ⟨rfl,hb⟩;refine⟨_,rfl,?_⟩;have n0_:=Aside0.mk (blk_below BK561.out hb);have n1_:=Aside0.mk (below_step HB.out hb);clear BK561;clear HB;have BK561:=n0_;have HB:=n1_;clear n0_ n1_;(try clear hb);(try clear hb2);(try clear hk);(try clear hi);have hcz14_0:w13.cell? ⟨gb561,0,none⟩=some (.int .i64 a0_0):=(blk_cell BK561.out 0).trans rfl;have hcz14_1:w13.cell? ⟨gb561,1,none⟩=some (.bool a0_1):=(blk_cell BK561.out 1).trans rfl;have hcz14_2:w13.cell? ⟨gb561,2,none⟩=some (.slice A0_2 l0_2.length c0_2):=(blk_cell BK561.out 2).trans rfl;have hfz14_0:=blk_frozen BK561.out 0;have hfz14_1:=blk_frozen BK561.out 1;have hfz14_2:=blk_frozen BK561.out 2)|((with_reducible refine gate_callee (f:=99) rfl ?_);refine goesL_ (some 15) rfl rfl Try.func99 (by kernel_rfl) rfl #[.agg #[.int .i64 a0_0, .bool a0_1, .slice A0_2 l0_2.length c0_2], .int .i64 a1] rfl (by(try simp only[List.map_toArray,List.map_cons,List.map_nil]);first|done|rfl|(simp only[List.length_drop,List.length_take];rfl)) ?_;(with_reducible refine(ebbtideref06_Node.calls a0_0 a0_1 _ _ l0_2 a1 true _ ?side1 ?side2 A6.out).mono ?_);(case side1=>repeat(first|exact(Kd.C_below HR0_2.out HB.out)|(with_reducible refine Kd.C_alloc ?_ _)|(with_reducible refine Kd.C_drewN ?_ _)|(with_reducible refine Kd.C_drew ?_)));(case side2=>exact HC0_2.out);rintro e w15 ⟨rfl,hb⟩;refine⟨_,rfl,?_⟩;have n0_:=Aside0.mk (blk_below BK561.out hb);have n1_:=Aside0.mk (below_step HB.out hb);clear BK561;clear HB;have BK561:=n0_;have HB:=n1_;clear n0_ n1_;(try clear hb);(try clear hb2);(try clear hk);(try clear hi);have hcz16_0:w15.cell? ⟨gb561,0,none⟩=some (.int .i64 a0_0):=(blk_cell BK561.out 0).trans rfl;have hcz16_1:w15.cell? ⟨gb561,1,none⟩=some (.bool a0_1):=(blk_cell BK561.out 1).trans rfl;have hcz16_2:w15.cell? ⟨gb561,2,none⟩=some (.slice A0_2 l0_2.length c0_2):=(blk_cell BK561.out 2).trans rfl;have hfz16_0:=blk_frozen BK561.out 0;have hfz16_1:=blk_frozen BK561.out 1;have hfz16_2:=blk_frozen BK561.out 2)|(go_at_call 99;(with_reducible refine(ebbtideref06_Node.calls a0_0 a0_1 _ _ l0_2 a2 true _ ?side1 ?side2 A8.out).mono ?_);(case side1=>repeat(first|exact(Kd.C_below HR0_2.out HB.out)|(with_reducible refine Kd.C_alloc ?_ _)|(with_reducible refine Kd.C_drewN ?_ _)|(with_reducible refine Kd.C_drew ?_)));(case side2=>exact HC0_2.out);rintro e w17 ⟨rfl,hb⟩;have n0_:=Aside0.mk (blk_below BK561.out hb);have n1_:=Aside0.mk (below_step HB.out hb);clear BK561;clear HB;have BK561:=n0_;have HB:=n1_;clear n0_ n1_;(try clear hb);(try clear hb2);(try clear hk);(try clear hi)))
 go_ret
 exact⟨by first|rfl|(simp[errW_none,errW_some]<;>rfl)|(simp[*,errW_none,errW_some]<;>rfl),HB.out⟩
end Go.Proofs.Ytkcpanpdipmmmaa.P
namespace Go.Proofs.Ytkcpanpdipmmmaa.P
open Go.RowKit Go.Proofs.YtkcpanpdipmmmaaW.PrintWords Go.Proofs.YtkcpanpdipmmmaaW.PrintLast Go.Proofs.YtkcpanpdipmmmaaW.PrintMore
attribute [local go_sem] max2_int min2_int max_two min_two max_three min_three max_four min_four
def ebbtideref07_Check.l0:Nat→Int→Int→List Int→Int→Int→Bool→List (S74)→Option (Int × Int)
 |0,_,_,_,_,_,_,_=>none
 |k+1,x1,x2,x11,x13,x654000,x654001,x654002=>if x13<x654000 then(if x13=x1 then(ebbtideref07_Check.l0 k x1 x2 x11 (wrap64 (x13+1)) x654000 x654001 x654002) else(if x13=x2 then(ebbtideref07_Check.l0 k x1 x2 x11 (wrap64 (x13+1)) x654000 x654001 x654002) else(if 0≤x13 then(if x13<(x11.length:Int) then(if (rd x11 x13)=0 then(ebbtideref07_Check.l0 k x1 x2 x11 (wrap64 (x13+1)) x654000 x654001 x654002) else(some (0,71))) else(none)) else(none)))) else(if 0≤x1 then(if x1<(x11.length:Int) then(some (rd x11 x1,0)) else(none)) else(none))
def ebbtideref07_Check.f (k:Nat) (a0_0:Int) (a0_1:Bool) (l0_2:List (S74)) (a1:Int) (a2:Int) (l3:List Int):Option (Int × Int):=(ebbtideref07_Ends.f k a0_0 a0_1 l0_2 a1 a2).bind fun t654=>(if t654=0 then((ebbtideref07_Balance.f k a0_0 a0_1 l0_2 l3).bind fun bt655=>(if bt655.2=0 then(ebbtideref07_Check.l0 k a1 a2 bt655.1 0 a0_0 a0_1 l0_2) else(some (0,bt655.2)))) else(some (0,t654)))
set_option maxHeartbeats 8000000 in
set_option maxRecDepth 100000 in
theorem ebbtideref07_Check.calls (k:Nat) (a0_0:Int) (a0_1:Bool) (A0_2:Option Addr) (c0_2:Nat) (l0_2:List (S74)) (a1:Int) (a2:Int) (A3:Option Addr) (c3:Nat) (l3:List Int) (r1:Int) (r2:Int) (w:World) (hr0_2:Kd.C k74 w A0_2 l0_2.length l0_2) (hc0_2:l0_2.length≤c0_2) (hr3:Kd.C (Kd.int .i64) w A3 l3.length l3) (hc3:l3.length≤c3) (h:ebbtideref07_Check.f k a0_0 a0_1 l0_2 a1 a2 l3=some (r1,r2)):
  Calls Try.prog 60 #[.agg #[.int .i64 a0_0, .bool a0_1, .slice A0_2 l0_2.length c0_2], .int .i64 a1, .int .i64 a2, .slice A3 l3.length c3] w fun e w'=>e= .returned (.tuple #[.int .i64 r1, .int .i64 r2])∧Below w.heap.size w w':=by
 have hu24:=Try.underlying24
 have HR0_2:=Aside0.mk hr0_2
 have HC0_2:=Aside0.mk hc0_2
 clear hr0_2 hc0_2
 have HR3:=Aside0.mk hr3
 have HC3:=Aside0.mk hc3
 clear hr3 hc3
 have HB:=Aside0.mk (Below.refl w.heap.size w)
 have H:((ebbtideref07_Ends.f k a0_0 a0_1 l0_2 a1 a2).bind fun t654=>(if t654=0 then((ebbtideref07_Balance.f k a0_0 a0_1 l0_2 l3).bind fun bt655=>(if bt655.2=0 then(ebbtideref07_Check.l0 k a1 a2 bt655.1 0 a0_0 a0_1 l0_2) else(some (0,bt655.2)))) else(some (0,t654))))=some (r1,r2):=h
 clear h
 replace H:=Option.bind_eq_some_iff.mp H
 obtain⟨t654,A50,H⟩:=H
 replace H:(if t654=0 then((ebbtideref07_Balance.f k a0_0 a0_1 l0_2 l3).bind fun bt655=>(if bt655.2=0 then(ebbtideref07_Check.l0 k a1 a2 bt655.1 0 a0_0 a0_1 l0_2) else(some (0,bt655.2)))) else(some (0,t654)))=some (r1,r2):=H
 have A5:=Aside0.mk A50
 clear A50
 by_cases c6:t654=0
 rotate_left
 ·rw[if_neg c6] at H
  have c6b0:(t654 == 0)=false:=beq_eq_false_iff_ne.mpr c6
  have c6b1:(t654 != 0)=true:=bne_iff_ne.mpr c6
  simp only[Option.some.injEq,Prod.mk.injEq] at H
  obtain⟨rfl,rfl⟩:=H
  go_enter Try.func60,Try.ntmps60
  go_wp2_with (first|((with_reducible refine gate_dst (N:=4) rfl ?_);refine box_event ?hg (N:=4) ?hd (cs:= #[.int .i64 a0_0, .bool a0_1, .slice A0_2 l0_2.length c0_2]) (t:=24) ?hr ?_;(case hd=>rfl);(case hg=>rfl);(case hr=>first|(go_simp;done)|(go_simp;rfl));intro gb653 hg w35 hbox hb;have n0_:=Aside0.mk (below_step HB.out hb);have n1_:=Aside0.mk (hbox);have n2_:=Aside0.mk ((by rw[hg];exact(below_size HB.out):w.heap.size≤gb653));have n3_:=Aside0.mk ((by rw[hg];exact(below_size HB.out):w.heap.size≤gb653));clear HB;have HB:=n0_;have BK653:=n1_;have GW653:=n2_;have GE653:=n3_;clear n0_ n1_ n2_ n3_;clear hb hbox hg;have hcz36_0:w35.cell? ⟨gb653,0,none⟩=some (.int .i64 a0_0):=(blk_cell BK653.out 0).trans rfl;have hcz36_1:w35.cell? ⟨gb653,1,none⟩=some (.bool a0_1):=(blk_cell BK653.out 1).trans rfl;have hcz36_2:w35.cell? ⟨gb653,2,none⟩=some (.slice A0_2 l0_2.length c0_2):=(blk_cell BK653.out 2).trans rfl;have hfz36_0:=blk_frozen BK653.out 0;have hfz36_1:=blk_frozen BK653.out 1;have hfz36_2:=blk_frozen BK653.out 2)|((with_reducible refine gate_callee (f:=77) rfl ?_);refine goesL_ (some 17) rfl rfl Try.func77 (by kernel_rfl) rfl #[.agg #[.int .i64 a0_0, .bool a0_1, .slice A0_2 l0_2.length c0_2], .int .i64 a1, .int .i64 a2] rfl (by(try simp only[List.map_toArray,List.map_cons,List.map_nil]);first|done|rfl|(simp only[List.length_drop,List.length_take];rfl)) ?_;(with_reducible refine(ebbtideref07_Ends.calls k a0_0 a0_1 _ _ l0_2 a1 a2 t654 _ ?side1 ?side2 A5.out).mono ?_);(case side1=>repeat(first|exact(Kd.C_below HR0_2.out HB.out)|(with_reducible refine Kd.C_alloc ?_ _)|(with_reducible refine Kd.C_drewN ?_ _)|(with_reducible refine Kd.C_drew ?_)));(case side2=>exact HC0_2.out);rintro e w37 ⟨rfl,hb⟩;refine⟨_,rfl,?_⟩;have n0_:=Aside0.mk (blk_below BK653.out hb);have n1_:=Aside0.mk (below_step HB.out hb);clear BK653;clear HB;have BK653:=n0_;have HB:=n1_;clear n0_ n1_;(try clear hb);(try clear hb2);(try clear hk);(try clear hi)))
  go_ret2
  exact⟨by first|rfl|(simp[errW_none,errW_some]<;>rfl)|(simp[*,errW_none,errW_some]<;>rfl),HB.out⟩
 rw[if_pos c6] at H
 have c6b0:(t654 == 0)=true:=beq_iff_eq.mpr c6
 have c6b1:(t654 != 0)=false:=bne_eq_false_iff_eq.mpr c6
 clear c6
 replace H:=Option.bind_eq_some_iff.mp H
 obtain⟨⟨t655,t658⟩,A70,H⟩:=H
 replace H:(if t658=0 then(ebbtideref07_Check.l0 k a1 a2 t655 0 a0_0 a0_1 l0_2) else(some (0,t658)))=some (r1,r2):=H
 have A7:=Aside0.mk A70
 clear A70
 by_cases c8:t658=0
 rotate_left
 ·rw[if_neg c8] at H
  have c8b0:(t658 == 0)=false:=beq_eq_false_iff_ne.mpr c8
  have c8b1:(t658 != 0)=true:=bne_iff_ne.mpr c8
  simp only[Option.some.injEq,Prod.mk.injEq] at H
  obtain⟨rfl,rfl⟩:=H
  go_enter Try.func60,Try.ntmps60
  go_wp2_with (first|((with_reducible refine gate_dst (N:=4) rfl ?_);refine box_event ?hg (N:=4) ?hd (cs:= #[.int .i64 a0_0, .bool a0_1, .slice A0_2 l0_2.length c0_2]) (t:=24) ?hr ?_;(case hd=>rfl);(case hg=>rfl);(case hr=>first|(go_simp;done)|(go_simp;rfl));intro gb653 hg w30 hbox hb;have n0_:=Aside0.mk (below_step HB.out hb);have n1_:=Aside0.mk (hbox);have n2_:=Aside0.mk ((by rw[hg];exact(below_size HB.out):w.heap.size≤gb653));have n3_:=Aside0.mk ((by rw[hg];exact(below_size HB.out):w.heap.size≤gb653));clear HB;have HB:=n0_;have BK653:=n1_;have GW653:=n2_;have GE653:=n3_;clear n0_ n1_ n2_ n3_;clear hb hbox hg;have hcz31_0:w30.cell? ⟨gb653,0,none⟩=some (.int .i64 a0_0):=(blk_cell BK653.out 0).trans rfl;have hcz31_1:w30.cell? ⟨gb653,1,none⟩=some (.bool a0_1):=(blk_cell BK653.out 1).trans rfl;have hcz31_2:w30.cell? ⟨gb653,2,none⟩=some (.slice A0_2 l0_2.length c0_2):=(blk_cell BK653.out 2).trans rfl;have hfz31_0:=blk_frozen BK653.out 0;have hfz31_1:=blk_frozen BK653.out 1;have hfz31_2:=blk_frozen BK653.out 2)|((with_reducible refine gate_callee (f:=77) rfl ?_);refine goesL_ (some 17) rfl rfl Try.func77 (by kernel_rfl) rfl #[.agg #[.int .i64 a0_0, .bool a0_1, .slice A0_2 l0_2.length c0_2], .int .i64 a1, .int .i64 a2] rfl (by(try simp only[List.map_toArray,List.map_cons,List.map_nil]);first|done|rfl|(simp only[List.length_drop,List.length_take];rfl)) ?_;(with_reducible refine(ebbtideref07_Ends.calls k a0_0 a0_1 _ _ l0_2 a1 a2 t654 _ ?side1 ?side2 A5.out).mono ?_);(case side1=>repeat(first|exact(Kd.C_below HR0_2.out HB.out)|(with_reducible refine Kd.C_alloc ?_ _)|(with_reducible refine Kd.C_drewN ?_ _)|(with_reducible refine Kd.C_drew ?_)));(case side2=>exact HC0_2.out);rintro e w32 ⟨rfl,hb⟩;refine⟨_,rfl,?_⟩;have n0_:=Aside0.mk (blk_below BK653.out hb);have n1_:=Aside0.mk (below_step HB.out hb);clear BK653;clear HB;have BK653:=n0_;have HB:=n1_;clear n0_ n1_;(try clear hb);(try clear hb2);(try clear hk);(try clear hi);have hcz33_0:w32.cell? ⟨gb653,0,none⟩=some (.int .i64 a0_0):=(blk_cell BK653.out 0).trans rfl;have hcz33_1:w32.cell? ⟨gb653,1,none⟩=some (.bool a0_1):=(blk_cell BK653.out 1).trans rfl;have hcz33_2:w32.cell? ⟨gb653,2,none⟩=some (.slice A0_2 l0_2.length c0_2):=(blk_cell BK653.out 2).trans rfl;have hfz33_0:=blk_frozen BK653.out 0;have hfz33_1:=blk_frozen BK653.out 1;have hfz33_2:=blk_frozen BK653.out 2)|((with_reducible refine gate_callee (f:=48) rfl ?_);refine goesL_ (some 24) rfl rfl Try.func48 (by kernel_rfl) rfl #[.agg #[.int .i64 a0_0, .bool a0_1, .slice A0_2 l0_2.length c0_2], .slice A3 l3.length c3] rfl (by(try simp only[List.map_toArray,List.map_cons,List.map_nil]);first|done|rfl|(simp only[List.length_drop,List.length_take];rfl)) ?_;(with_reducible refine(ebbtideref07_Balance.calls k a0_0 a0_1 _ _ l0_2 _ _ l3 t655 t658 _ ?side1 ?side2 ?side3 ?side4 A7.out).mono ?_);(case side1=>repeat(first|exact(Kd.C_below HR0_2.out HB.out)|(with_reducible refine Kd.C_alloc ?_ _)|(with_reducible refine Kd.C_drewN ?_ _)|(with_reducible refine Kd.C_drew ?_)));(case side2=>exact HC0_2.out);(case side3=>repeat(first|exact(Kd.C_below HR3.out HB.out)|(with_reducible refine Kd.C_alloc ?_ _)|(with_reducible refine Kd.C_drewN ?_ _)|(with_reducible refine Kd.C_drew ?_)));(case side4=>exact HC3.out);rintro e w34 ⟨v656,rfl,ho0,hb⟩;refine⟨_,rfl,?_⟩;have n0_:=Aside0.mk (Kd.R_lower ho0 (below_size HB.out));have n1_:=Aside0.mk (blk_below BK653.out hb);have n2_:=Aside0.mk (below_step HB.out hb);clear BK653;clear HB;have HO657:=n0_;have BK653:=n1_;have HB:=n2_;clear n0_ n1_ n2_;(try clear hb);(try clear hb2);(try clear hk);(try clear hi);(try clear ho0)))
  go_ret2
  exact⟨by first|rfl|(simp[errW_none,errW_some]<;>rfl)|(simp[*,errW_none,errW_some]<;>rfl),HB.out⟩
 rw[if_pos c8] at H
 have c8b0:(t658 == 0)=true:=beq_iff_eq.mpr c8
 have c8b1:(t658 != 0)=false:=bne_eq_false_iff_eq.mpr c8
 clear c8
 have H':=Aside0.mk H
 clear H
 go_enter Try.func60,Try.ntmps60
 go_wp2_with (first|((with_reducible refine gate_dst (N:=4) rfl ?_);refine box_event ?hg (N:=4) ?hd (cs:= #[.int .i64 a0_0, .bool a0_1, .slice A0_2 l0_2.length c0_2]) (t:=24) ?hr ?_;(case hd=>rfl);(case hg=>rfl);(case hr=>first|(go_simp;done)|(go_simp;rfl));intro gb653 hg w9 hbox hb;have n0_:=Aside0.mk (below_step HB.out hb);have n1_:=Aside0.mk (hbox);have n2_:=Aside0.mk ((by rw[hg];exact(below_size HB.out):w.heap.size≤gb653));have n3_:=Aside0.mk ((by rw[hg];exact(below_size HB.out):w.heap.size≤gb653));clear HB;have HB:=n0_;have BK653:=n1_;have GW653:=n2_;have GE653:=n3_;clear n0_ n1_ n2_ n3_;clear hb hbox hg;have hcz10_0:w9.cell? ⟨gb653,0,none⟩=some (.int .i64 a0_0):=(blk_cell BK653.out 0).trans rfl;have hcz10_1:w9.cell? ⟨gb653,1,none⟩=some (.bool a0_1):=(blk_cell BK653.out 1).trans rfl;have hcz10_2:w9.cell? ⟨gb653,2,none⟩=some (.slice A0_2 l0_2.length c0_2):=(blk_cell BK653.out 2).trans rfl;have hfz10_0:=blk_frozen BK653.out 0;have hfz10_1:=blk_frozen BK653.out 1;have hfz10_2:=blk_frozen BK653.out 2)|((with_reducible refine gate_callee (f:=77) rfl ?_);refine goesL_ (some 17) rfl rfl Try.func77 (by kernel_rfl) rfl #[.agg #[.int .i64 a0_0, .bool a0_1, .slice A0_2 l0_2.length c0_2], .int .i64 a1, .int .i64 a2] rfl (by(try simp only[List.map_toArray,List.map_cons,List.map_nil]);first|done|rfl|(simp only[List.length_drop,List.length_take];rfl)) ?_;(with_reducible refine(ebbtideref07_Ends.calls k a0_0 a0_1 _ _ l0_2 a1 a2 t654 _ ?side1 ?side2 A5.out).mono ?_);(case side1=>repeat(first|exact(Kd.C_below HR0_2.out HB.out)|(with_reducible refine Kd.C_alloc ?_ _)|(with_reducible refine Kd.C_drewN ?_ _)|(with_reducible refine Kd.C_drew ?_)));(case side2=>exact HC0_2.out);rintro e w11 ⟨rfl,hb⟩;refine⟨_,rfl,?_⟩;have n0_:=Aside0.mk (blk_below BK653.out hb);have n1_:=Aside0.mk (below_step HB.out hb);clear BK653;clear HB;have BK653:=n0_;have HB:=n1_;clear n0_ n1_;(try clear hb);(try clear hb2);(try clear hk);(try clear hi);have hcz12_0:w11.cell? ⟨gb653,0,none⟩=some (.int .i64 a0_0):=(blk_cell BK653.out 0).trans rfl;have hcz12_1:w11.cell? ⟨gb653,1,none⟩=some (.bool a0_1):=(blk_cell BK653.out 1).trans rfl;have hcz12_2:w11.cell? ⟨gb653,2,none⟩=some (.slice A0_2 l0_2.length c0_2):=(blk_cell BK653.out 2).trans rfl;have hfz12_0:=blk_frozen BK653.out 0;have hfz12_1:=blk_frozen BK653.out 1;have hfz12_2:=blk_frozen BK653.out 2)|((with_reducible refine gate_callee (f:=48) rfl ?_);refine goesL_ (some 24) rfl rfl Try.func48 (by kernel_rfl) rfl #[.agg #[.int .i64 a0_0, .bool a0_1, .slice A0_2 l0_2.length c0_2], .slice A3 l3.length c3] rfl (by(try simp only[List.map_toArray,List.map_cons,List.map_nil]);first|done|rfl|(simp only[List.length_drop,List.length_take];rfl)) ?_;(with_reducible refine(ebbtideref07_Balance.calls k a0_0 a0_1 _ _ l0_2 _ _ l3 t655 t658 _ ?side1 ?side2 ?side3 ?side4 A7.out).mono ?_);(case side1=>repeat(first|exact(Kd.C_below HR0_2.out HB.out)|(with_reducible refine Kd.C_alloc ?_ _)|(with_reducible refine Kd.C_drewN ?_ _)|(with_reducible refine Kd.C_drew ?_)));(case side2=>exact HC0_2.out);(case side3=>repeat(first|exact(Kd.C_below HR3.out HB.out)|(with_reducible refine Kd.C_alloc ?_ _)|(with_reducible refine Kd.C_drewN ?_ _)|(with_reducible refine Kd.C_drew ?_)));(case side4=>exact HC3.out);rintro e w13 ⟨v656,rfl,ho0,hb⟩;refine⟨_,rfl,?_⟩;have n0_:=Aside0.mk (Kd.R_lower ho0 (below_size HB.out));have n1_:=Aside0.mk (blk_below BK653.out hb);have n2_:=Aside0.mk (below_step HB.out hb);clear BK653;clear HB;have HO657:=n0_;have BK653:=n1_;have HB:=n2_;clear n0_ n1_ n2_;(try clear hb);(try clear hb2);(try clear hk);(try clear hi);(try clear ho0)))
 go_loopg [13] k (fun kq v13 w'=> ∃ (x13_1:Int),v13= .int .i64 x13_1∧Aside0 (ebbtideref07_Check.l0 kq a1 a2 t655 x13_1 a0_0 a0_1 l0_2=some (r1,r2))∧Aside0 (kq≤k)∧Aside0 (Kd.R (Kd.int .i64) 3 w' w.heap.size (fun _=>True) v656 t655)∧Aside0 (w'.heap[gb653]? =some (.cells #[.int .i64 a0_0, .bool a0_1,(.slice A0_2 l0_2.length c0_2)] 24 (0,0)))∧Aside0 (Below w.heap.size w w'))
 case atStart=>exact⟨(0),(by first|rfl|(simp;done)|(simp[*];done)),H',⟨Nat.le_refl _⟩,⟨HO657.out⟩,⟨BK653.out⟩,⟨HB.out⟩⟩
 case round=>
  clear H'
  try clear p2
  try clear c3
  try clear c4
  try clear c6
  try clear c6b0
  try clear c6b1
  try clear c7
  try clear c8
  try clear c8b0
  try clear c8b1
  try clear hcz10_0
  try clear hcz10_1
  try clear hcz10_2
  try clear hcz12_0
  try clear hcz12_1
  try clear hcz12_2
  try clear hfz10_0
  try clear hfz10_1
  try clear hfz10_2
  try clear hfz12_0
  try clear hfz12_1
  try clear hfz12_2
  obtain⟨x13_1,rfl,HA,HK1,HO_11,BK653,HB⟩:=hrel
  cases gk with
  |zero=>exact absurd HA.out (by simp[ebbtideref07_Check.l0])
  |succ k1=>
   have H:=HA.out
   clear HA
   simp only[ebbtideref07_Check.l0] at H
   by_cases c14:x13_1<a0_0
   rotate_left
   ·rw[if_neg c14] at H
    have c14b0:decide (x13_1<a0_0)=false:=decide_eq_false c14
    clear c14
    by_cases c26:0≤a1
    rotate_left
    ·rw[if_neg c26] at H
     exact absurd H (by simp)
    rw[if_pos c26] at H
    have c26b0:decide (0≤a1)=true:=decide_eq_true c26
    clear c26
    by_cases c27:a1<(t655.length:Int)
    rotate_left
    ·rw[if_neg c27] at H
     exact absurd H (by simp)
    rw[if_pos c27] at H
    have c27b0:decide (a1<(t655.length:Int))=true:=decide_eq_true c27
    clear c27
    simp only[Option.some.injEq,Prod.mk.injEq] at H
    obtain⟨rfl,rfl⟩:=H
    have hcz28_0:wr.cell? ⟨gb653,0,none⟩=some (.int .i64 a0_0):=(blk_cell BK653.out 0).trans rfl
    have hcz28_1:wr.cell? ⟨gb653,1,none⟩=some (.bool a0_1):=(blk_cell BK653.out 1).trans rfl
    have hcz28_2:wr.cell? ⟨gb653,2,none⟩=some (.slice A0_2 l0_2.length c0_2):=(blk_cell BK653.out 2).trans rfl
    have hfz28_0:=blk_frozen BK653.out 0
    have hfz28_1:=blk_frozen BK653.out 1
    have hfz28_2:=blk_frozen BK653.out 2
    obtain⟨Ao29,co29,eo29⟩:=Kd.R_slice HO_11.out
    subst eo29
    have p660:0≤(a1:Int):=of_decide_eq_true (by first|(with_reducible assumption)|assumption)
    have q660:a1<(t655.length:Int):=of_decide_eq_true (by first|(with_reducible assumption)|assumption)
    obtain⟨ad660,e660,hx660_0⟩:=Kd.at_int (Kd.R_reads' HO_11.out).2.2 a1 p660 q660
    cases e660
    replace p660:=eq_true p660
    replace q660:=eq_true q660
    go_wp2
    go_ret2
    exact⟨by first|rfl|(simp[errW_none,errW_some]<;>rfl)|(simp[*,errW_none,errW_some]<;>rfl),HB.out⟩
   rw[if_pos c14] at H
   have c14b0:decide (x13_1<a0_0)=true:=decide_eq_true c14
   clear c14
   by_cases c15:x13_1=a1
   ·rw[if_pos c15] at H
    have c15b0:(x13_1 == a1)=true:=beq_iff_eq.mpr c15
    have c15b1:(x13_1 != a1)=false:=bne_eq_false_iff_eq.mpr c15
    clear c15
    have H':=Aside0.mk H
    clear H
    have hcz16_0:wr.cell? ⟨gb653,0,none⟩=some (.int .i64 a0_0):=(blk_cell BK653.out 0).trans rfl
    have hcz16_1:wr.cell? ⟨gb653,1,none⟩=some (.bool a0_1):=(blk_cell BK653.out 1).trans rfl
    have hcz16_2:wr.cell? ⟨gb653,2,none⟩=some (.slice A0_2 l0_2.length c0_2):=(blk_cell BK653.out 2).trans rfl
    have hfz16_0:=blk_frozen BK653.out 0
    have hfz16_1:=blk_frozen BK653.out 1
    have hfz16_2:=blk_frozen BK653.out 2
    go_wp2
    go_roundg k1
    case measure=>have:=HK1.out;omega
    case rel=>exact⟨(wrap64 (x13_1+1)),(by first|rfl|(simp;done)|(simp[*];done)),H',⟨by have:=HK1.out;omega⟩,⟨HO_11.out⟩,⟨BK653.out⟩,⟨HB.out⟩⟩
   rw[if_neg c15] at H
   have c15b0:(x13_1 == a1)=false:=beq_eq_false_iff_ne.mpr c15
   have c15b1:(x13_1 != a1)=true:=bne_iff_ne.mpr c15
   by_cases c17:x13_1=a2
   ·rw[if_pos c17] at H
    have c17b0:(x13_1 == a2)=true:=beq_iff_eq.mpr c17
    have c17b1:(x13_1 != a2)=false:=bne_eq_false_iff_eq.mpr c17
    clear c17
    have H':=Aside0.mk H
    clear H
    have hcz18_0:wr.cell? ⟨gb653,0,none⟩=some (.int .i64 a0_0):=(blk_cell BK653.out 0).trans rfl
    have hcz18_1:wr.cell? ⟨gb653,1,none⟩=some (.bool a0_1):=(blk_cell BK653.out 1).trans rfl
    have hcz18_2:wr.cell? ⟨gb653,2,none⟩=some (.slice A0_2 l0_2.length c0_2):=(blk_cell BK653.out 2).trans rfl
    have hfz18_0:=blk_frozen BK653.out 0
    have hfz18_1:=blk_frozen BK653.out 1
    have hfz18_2:=blk_frozen BK653.out 2
    go_wp2
    go_roundg k1
    case measure=>have:=HK1.out;omega
    case rel=>exact⟨(wrap64 (x13_1+1)),(by first|rfl|(simp;done)|(simp[*];done)),H',⟨by have:=HK1.out;omega⟩,⟨HO_11.out⟩,⟨BK653.out⟩,⟨HB.out⟩⟩
   rw[if_neg c17] at H
   have c17b0:(x13_1 == a2)=false:=beq_eq_false_iff_ne.mpr c17
   have c17b1:(x13_1 != a2)=true:=bne_iff_ne.mpr c17
   by_cases c19:0≤x13_1
   rotate_left
   ·rw[if_neg c19] at H
    exact absurd H (by simp)
   rw[if_pos c19] at H
   have c19b0:decide (0≤x13_1)=true:=decide_eq_true c19
   clear c19
   by_cases c20:x13_1<(t655.length:Int)
   rotate_left
   ·rw[if_neg c20] at H
    exact absurd H (by simp)
   rw[if_pos c20] at H
   have c20b0:decide (x13_1<(t655.length:Int))=true:=decide_eq_true c20
   clear c20
   by_cases c21:(rd t655 x13_1)=0
   rotate_left
   ·rw[if_neg c21] at H
    have c21b0:((rd t655 x13_1) == 0)=false:=beq_eq_false_iff_ne.mpr c21
    have c21b1:((rd t655 x13_1) != 0)=true:=bne_iff_ne.mpr c21
    simp only[Option.some.injEq,Prod.mk.injEq] at H
    obtain⟨rfl,rfl⟩:=H
    have hcz24_0:wr.cell? ⟨gb653,0,none⟩=some (.int .i64 a0_0):=(blk_cell BK653.out 0).trans rfl
    have hcz24_1:wr.cell? ⟨gb653,1,none⟩=some (.bool a0_1):=(blk_cell BK653.out 1).trans rfl
    have hcz24_2:wr.cell? ⟨gb653,2,none⟩=some (.slice A0_2 l0_2.length c0_2):=(blk_cell BK653.out 2).trans rfl
    have hfz24_0:=blk_frozen BK653.out 0
    have hfz24_1:=blk_frozen BK653.out 1
    have hfz24_2:=blk_frozen BK653.out 2
    obtain⟨Ao25,co25,eo25⟩:=Kd.R_slice HO_11.out
    subst eo25
    have p659:0≤(x13_1:Int):=of_decide_eq_true (by first|(with_reducible assumption)|assumption)
    have q659:x13_1<(t655.length:Int):=of_decide_eq_true (by first|(with_reducible assumption)|assumption)
    obtain⟨ad659,e659,hx659_0⟩:=Kd.at_int (Kd.R_reads' HO_11.out).2.2 x13_1 p659 q659
    cases e659
    replace p659:=eq_true p659
    replace q659:=eq_true q659
    go_wp2
    go_ret2
    exact⟨by first|rfl|(simp[errW_none,errW_some]<;>rfl)|(simp[*,errW_none,errW_some]<;>rfl),HB.out⟩
   rw[if_pos c21] at H
   have c21b0:((rd t655 x13_1) == 0)=true:=beq_iff_eq.mpr c21
   have c21b1:((rd t655 x13_1) != 0)=false:=bne_eq_false_iff_eq.mpr c21
   clear c21
   have H':=Aside0.mk H
   clear H
   have hcz22_0:wr.cell? ⟨gb653,0,none⟩=some (.int .i64 a0_0):=(blk_cell BK653.out 0).trans rfl
   have hcz22_1:wr.cell? ⟨gb653,1,none⟩=some (.bool a0_1):=(blk_cell BK653.out 1).trans rfl
   have hcz22_2:wr.cell? ⟨gb653,2,none⟩=some (.slice A0_2 l0_2.length c0_2):=(blk_cell BK653.out 2).trans rfl
   have hfz22_0:=blk_frozen BK653.out 0
   have hfz22_1:=blk_frozen BK653.out 1
   have hfz22_2:=blk_frozen BK653.out 2
   obtain⟨Ao23,co23,eo23⟩:=Kd.R_slice HO_11.out
   subst eo23
   have p659:0≤(x13_1:Int):=of_decide_eq_true (by first|(with_reducible assumption)|assumption)
   have q659:x13_1<(t655.length:Int):=of_decide_eq_true (by first|(with_reducible assumption)|assumption)
   obtain⟨ad659,e659,hx659_0⟩:=Kd.at_int (Kd.R_reads' HO_11.out).2.2 x13_1 p659 q659
   cases e659
   replace p659:=eq_true p659
   replace q659:=eq_true q659
   go_wp2
   go_roundg k1
   case measure=>have:=HK1.out;omega
   case rel=>exact⟨(wrap64 (x13_1+1)),(by first|rfl|(simp;done)|(simp[*];done)),H',⟨by have:=HK1.out;omega⟩,⟨HO_11.out⟩,⟨BK653.out⟩,⟨HB.out⟩⟩
end Go.Proofs.Ytkcpanpdipmmmaa.P
namespace Go.Proofs.Ytkcpanpdipmmmaa.P
open Go.RowKit Go.Proofs.YtkcpanpdipmmmaaW.PrintWords Go.Proofs.YtkcpanpdipmmmaaW.PrintLast Go.Proofs.YtkcpanpdipmmmaaW.PrintMore
attribute [local go_sem] max2_int min2_int max_two min_two max_three min_three max_four min_four
def ebbtideref12_Span.f (a0:Int):Option (Int):=if a0<0 then(some 1) else(if a0>1024 then(some 2) else(some 0))
set_option maxHeartbeats 8000000 in
set_option maxRecDepth 100000 in
theorem ebbtideref12_Span.calls (a0:Int) (r:Int) (w:World) (h:ebbtideref12_Span.f a0=some r):
  Calls Try.prog 120 #[.int .i64 a0] w fun e w'=>e= .returned (.int .i64 r)∧Drawn0 w w':=by
 have H:(if a0<0 then(some 1) else(if a0>1024 then(some 2) else(some 0)))=some r:=h
 clear h
 by_cases c2:a0<0
 ·rw[if_pos c2] at H
  have c2b0:decide (a0<0)=true:=decide_eq_true c2
  clear c2
  obtain rfl:=Option.some.inj H
  go_enter Try.func120,Try.ntmps120
  go_wp2
  go_ret
  exact⟨by first|rfl|(simp;done)|(simp[*];done),by repeat(first|exact Drawn0.refl _|apply Drawn0.step)⟩
 rw[if_neg c2] at H
 have c2b0:decide (a0<0)=false:=decide_eq_false c2
 clear c2
 by_cases c3:a0>1024
 rotate_left
 ·rw[if_neg c3] at H
  have c3b0:decide (1024<a0)=false:=decide_eq_false c3
  clear c3
  obtain rfl:=Option.some.inj H
  go_enter Try.func120,Try.ntmps120
  go_wp2
  go_ret
  exact⟨by first|rfl|(simp;done)|(simp[*];done),by repeat(first|exact Drawn0.refl _|apply Drawn0.step)⟩
 rw[if_pos c3] at H
 have c3b0:decide (1024<a0)=true:=decide_eq_true c3
 clear c3
 obtain rfl:=Option.some.inj H
 go_enter Try.func120,Try.ntmps120
 go_wp2
 go_ret
 exact⟨by first|rfl|(simp;done)|(simp[*];done),by repeat(first|exact Drawn0.refl _|apply Drawn0.step)⟩
end Go.Proofs.Ytkcpanpdipmmmaa.P
namespace Go.Proofs.Ytkcpanpdipmmmaa.P
open Go.RowKit Go.Proofs.YtkcpanpdipmmmaaW.PrintWords Go.Proofs.YtkcpanpdipmmmaaW.PrintLast Go.Proofs.YtkcpanpdipmmmaaW.PrintMore
attribute [local go_sem] max2_int min2_int max_two min_two max_three min_three max_four min_four
def ebbtideref12_Asked.f (k:Nat) (a0_0:Int) (a0_1:Bool) (l0_2:List (S74)) (a1:Int) (a2:Int) (a3:Int):Option (Int):=(ebbtideref07_Ends.f k a0_0 a0_1 l0_2 a1 a2).bind fun t736=>(if t736=0 then((ebbtideref12_Span.f a3).bind fun t737=>(some t737)) else(some t736))
set_option maxHeartbeats 8000000 in
set_option maxRecDepth 100000 in
theorem ebbtideref12_Asked.calls (k:Nat) (a0_0:Int) (a0_1:Bool) (A0_2:Option Addr) (c0_2:Nat) (l0_2:List (S74)) (a1:Int) (a2:Int) (a3:Int) (r:Int) (w:World) (hr0_2:Kd.C k74 w A0_2 l0_2.length l0_2) (hc0_2:l0_2.length≤c0_2) (h:ebbtideref12_Asked.f k a0_0 a0_1 l0_2 a1 a2 a3=some r):
  Calls Try.prog 70 #[.agg #[.int .i64 a0_0, .bool a0_1, .slice A0_2 l0_2.length c0_2], .int .i64 a1, .int .i64 a2, .int .i64 a3] w fun e w'=>e= .returned (.int .i64 r)∧Below w.heap.size w w':=by
 have hu24:=Try.underlying24
 have HR0_2:=Aside0.mk hr0_2
 have HC0_2:=Aside0.mk hc0_2
 clear hr0_2 hc0_2
 have HB:=Aside0.mk (Below.refl w.heap.size w)
 have H:((ebbtideref07_Ends.f k a0_0 a0_1 l0_2 a1 a2).bind fun t736=>(if t736=0 then((ebbtideref12_Span.f a3).bind fun t737=>(some t737)) else(some t736)))=some r:=h
 clear h
 replace H:=Option.bind_eq_some_iff.mp H
 obtain⟨t736,A50,H⟩:=H
 replace H:(if t736=0 then((ebbtideref12_Span.f a3).bind fun t737=>(some t737)) else(some t736))=some r:=H
 have A5:=Aside0.mk A50
 clear A50
 by_cases c6:t736=0
 rotate_left
 ·rw[if_neg c6] at H
  have c6b0:(t736 == 0)=false:=beq_eq_false_iff_ne.mpr c6
  have c6b1:(t736 != 0)=true:=bne_iff_ne.mpr c6
  obtain rfl:=Option.some.inj H
  go_enter Try.func70,Try.ntmps70
  go_wp2_with (first|((with_reducible refine gate_dst (N:=4) rfl ?_);refine box_event ?hg (N:=4) ?hd (cs:= #[.int .i64 a0_0, .bool a0_1, .slice A0_2 l0_2.length c0_2]) (t:=24) ?hr ?_;(case hd=>rfl);(case hg=>rfl);(case hr=>first|(go_simp;done)|(go_simp;rfl));intro gb735 hg w11 hbox hb;have n0_:=Aside0.mk (below_step (by repeat(first|(with_reducible first|exact HB.out|apply below_alloc|apply pw_below_drewN|apply below_drew1)|exact HB.out)) hb);have n1_:=Aside0.mk (hbox);have n2_:=Aside0.mk ((by rw[hg];exact(below_size (by repeat(first|(with_reducible first|exact HB.out|apply below_alloc|apply pw_below_drewN|apply below_drew1)|exact HB.out))):w.heap.size≤gb735));have n3_:=Aside0.mk ((by rw[hg];exact(below_size (by repeat(first|(with_reducible first|exact HB.out|apply below_alloc|apply pw_below_drewN|apply below_drew1)|exact HB.out))):w.heap.size≤gb735));clear HB;have HB:=n0_;have BK735:=n1_;have GW735:=n2_;have GE735:=n3_;clear n0_ n1_ n2_ n3_;clear hb hbox hg;have hcz12_0:w11.cell? ⟨gb735,0,none⟩=some (.int .i64 a0_0):=(blk_cell BK735.out 0).trans rfl;have hcz12_1:w11.cell? ⟨gb735,1,none⟩=some (.bool a0_1):=(blk_cell BK735.out 1).trans rfl;have hcz12_2:w11.cell? ⟨gb735,2,none⟩=some (.slice A0_2 l0_2.length c0_2):=(blk_cell BK735.out 2).trans rfl;have hfz12_0:=blk_frozen BK735.out 0;have hfz12_1:=blk_frozen BK735.out 1;have hfz12_2:=blk_frozen BK735.out 2)|((with_reducible refine gate_callee (f:=77) rfl ?_);refine goesL_ (some 13) rfl rfl Try.func77 (by kernel_rfl) rfl #[.agg #[.int .i64 a0_0, .bool a0_1, .slice A0_2 l0_2.length c0_2], .int .i64 a1, .int .i64 a2] rfl (by(try simp only[List.map_toArray,List.map_cons,List.map_nil]);first|done|rfl|(simp only[List.length_drop,List.length_take];rfl)) ?_;(with_reducible refine(ebbtideref07_Ends.calls k a0_0 a0_1 _ _ l0_2 a1 a2 t736 _ ?side1 ?side2 A5.out).mono ?_);(case side1=>repeat(first|exact(Kd.C_below HR0_2.out HB.out)|(with_reducible refine Kd.C_alloc ?_ _)|(with_reducible refine Kd.C_drewN ?_ _)|(with_reducible refine Kd.C_drew ?_)));(case side2=>exact HC0_2.out);rintro e w13 ⟨rfl,hb⟩;refine⟨_,rfl,?_⟩;have n0_:=Aside0.mk (blk_below (g:=gb735) (o:= .cells #[.int .i64 a0_0, .bool a0_1, .slice A0_2 l0_2.length c0_2] 24 (0,0)) (by(with_reducible repeat(first|refine blk_drewN ?_ _|refine blk_drew ?_|refine blk_alloc ?_ _));exact BK735.out) hb);have n1_:=Aside0.mk (below_step (by repeat(first|(with_reducible first|exact HB.out|apply below_alloc|apply pw_below_drewN|apply below_drew1|refine below_set ?_ GE735.out)|exact HB.out)) hb);clear BK735;clear HB;have BK735:=n0_;have HB:=n1_;clear n0_ n1_;(try clear hb);(try clear hb2);(try clear hk);(try clear hi)))
  go_ret
  exact⟨by first|rfl|(simp[errW_none,errW_some]<;>rfl)|(simp[*,errW_none,errW_some]<;>rfl),by repeat(first|(with_reducible first|exact HB.out|apply below_alloc|apply pw_below_drewN|apply below_drew1|refine below_set ?_ GE735.out)|exact HB.out)⟩
 rw[if_pos c6] at H
 have c6b0:(t736 == 0)=true:=beq_iff_eq.mpr c6
 have c6b1:(t736 != 0)=false:=bne_eq_false_iff_eq.mpr c6
 clear c6
 replace H:=Option.bind_eq_some_iff.mp H
 obtain⟨t737,A70,H⟩:=H
 replace H:(some t737)=some r:=H
 have A7:=Aside0.mk A70
 clear A70
 obtain rfl:=Option.some.inj H
 go_enter Try.func70,Try.ntmps70
 go_wp2_with (first|((with_reducible refine gate_dst (N:=4) rfl ?_);refine box_event ?hg (N:=4) ?hd (cs:= #[.int .i64 a0_0, .bool a0_1, .slice A0_2 l0_2.length c0_2]) (t:=24) ?hr ?_;(case hd=>rfl);(case hg=>rfl);(case hr=>first|(go_simp;done)|(go_simp;rfl));intro gb735 hg w8 hbox hb;have n0_:=Aside0.mk (below_step (by repeat(first|(with_reducible first|exact HB.out|apply below_alloc|apply pw_below_drewN|apply below_drew1)|exact HB.out)) hb);have n1_:=Aside0.mk (hbox);have n2_:=Aside0.mk ((by rw[hg];exact(below_size (by repeat(first|(with_reducible first|exact HB.out|apply below_alloc|apply pw_below_drewN|apply below_drew1)|exact HB.out))):w.heap.size≤gb735));have n3_:=Aside0.mk ((by rw[hg];exact(below_size (by repeat(first|(with_reducible first|exact HB.out|apply below_alloc|apply pw_below_drewN|apply below_drew1)|exact HB.out))):w.heap.size≤gb735));clear HB;have HB:=n0_;have BK735:=n1_;have GW735:=n2_;have GE735:=n3_;clear n0_ n1_ n2_ n3_;clear hb hbox hg;have hcz9_0:w8.cell? ⟨gb735,0,none⟩=some (.int .i64 a0_0):=(blk_cell BK735.out 0).trans rfl;have hcz9_1:w8.cell? ⟨gb735,1,none⟩=some (.bool a0_1):=(blk_cell BK735.out 1).trans rfl;have hcz9_2:w8.cell? ⟨gb735,2,none⟩=some (.slice A0_2 l0_2.length c0_2):=(blk_cell BK735.out 2).trans rfl;have hfz9_0:=blk_frozen BK735.out 0;have hfz9_1:=blk_frozen BK735.out 1;have hfz9_2:=blk_frozen BK735.out 2)|((with_reducible refine gate_callee (f:=77) rfl ?_);refine goesL_ (some 13) rfl rfl Try.func77 (by kernel_rfl) rfl #[.agg #[.int .i64 a0_0, .bool a0_1, .slice A0_2 l0_2.length c0_2], .int .i64 a1, .int .i64 a2] rfl (by(try simp only[List.map_toArray,List.map_cons,List.map_nil]);first|done|rfl|(simp only[List.length_drop,List.length_take];rfl)) ?_;(with_reducible refine(ebbtideref07_Ends.calls k a0_0 a0_1 _ _ l0_2 a1 a2 t736 _ ?side1 ?side2 A5.out).mono ?_);(case side1=>repeat(first|exact(Kd.C_below HR0_2.out HB.out)|(with_reducible refine Kd.C_alloc ?_ _)|(with_reducible refine Kd.C_drewN ?_ _)|(with_reducible refine Kd.C_drew ?_)));(case side2=>exact HC0_2.out);rintro e w10 ⟨rfl,hb⟩;refine⟨_,rfl,?_⟩;have n0_:=Aside0.mk (blk_below (g:=gb735) (o:= .cells #[.int .i64 a0_0, .bool a0_1, .slice A0_2 l0_2.length c0_2] 24 (0,0)) (by(with_reducible repeat(first|refine blk_drewN ?_ _|refine blk_drew ?_|refine blk_alloc ?_ _));exact BK735.out) hb);have n1_:=Aside0.mk (below_step (by repeat(first|(with_reducible first|exact HB.out|apply below_alloc|apply pw_below_drewN|apply below_drew1|refine below_set ?_ GE735.out)|exact HB.out)) hb);clear BK735;clear HB;have BK735:=n0_;have HB:=n1_;clear n0_ n1_;(try clear hb);(try clear hb2);(try clear hk);(try clear hi))|((with_reducible refine gate_callee (f:=120) rfl ?_);refine goesL_ (some 18) rfl rfl Try.func120 (by kernel_rfl) rfl #[.int .i64 a3] rfl (by(try simp only[List.map_toArray,List.map_cons,List.map_nil]);first|done|rfl|(simp only[List.length_drop,List.length_take];rfl)) ?_;(with_reducible refine(ebbtideref12_Span.calls a3 t737 _ A7.out).mono ?_);rintro e w' ⟨rfl,⟨nd,rfl⟩⟩;refine⟨_,rfl,?_⟩))
 go_ret
 exact⟨by first|rfl|(simp[errW_none,errW_some]<;>rfl)|(simp[*,errW_none,errW_some]<;>rfl),by repeat(first|(with_reducible first|exact HB.out|apply below_alloc|apply pw_below_drewN|apply below_drew1|refine below_set ?_ GE735.out)|exact HB.out)⟩
end Go.Proofs.Ytkcpanpdipmmmaa.P
namespace Go.Proofs.Ytkcpanpdipmmmaa.P
open Go.RowKit Go.Proofs.YtkcpanpdipmmmaaW.PrintWords Go.Proofs.YtkcpanpdipmmmaaW.PrintLast Go.Proofs.YtkcpanpdipmmmaaW.PrintMore
attribute [local go_sem] max2_int min2_int max_two min_two max_three min_three max_four min_four
def ebbtideref12_Worth.f (k:Nat) (a0_0:Int) (a0_1:Bool) (l0_2:List (S74)) (a1:Int) (a2:Int) (l3:List Int) (a4:Int):Option (Int × Int):=(ebbtideref12_Asked.f k a0_0 a0_1 l0_2 a1 a2 a4).bind fun t739=>(if t739=0 then((ebbtideref07_Check.f k a0_0 a0_1 l0_2 a1 a2 l3).bind fun bt740=>(if bt740.2=0 then((ebbtideref07_Cost.f k a0_0 a0_1 l0_2 l3).bind fun bt742=>(some (wrap64 ((wrap64 ((wrap64 (a4+1)) * bt740.1)) - bt742.1),0))) else(some (0,bt740.2)))) else(some (0,t739)))
set_option maxHeartbeats 8000000 in
set_option maxRecDepth 100000 in
theorem ebbtideref12_Worth.calls (k:Nat) (a0_0:Int) (a0_1:Bool) (A0_2:Option Addr) (c0_2:Nat) (l0_2:List (S74)) (a1:Int) (a2:Int) (A3:Option Addr) (c3:Nat) (l3:List Int) (a4:Int) (r1:Int) (r2:Int) (w:World) (hr0_2:Kd.C k74 w A0_2 l0_2.length l0_2) (hc0_2:l0_2.length≤c0_2) (hr3:Kd.C (Kd.int .i64) w A3 l3.length l3) (hc3:l3.length≤c3) (h:ebbtideref12_Worth.f k a0_0 a0_1 l0_2 a1 a2 l3 a4=some (r1,r2)):
  Calls Try.prog 64 #[.agg #[.int .i64 a0_0, .bool a0_1, .slice A0_2 l0_2.length c0_2], .int .i64 a1, .int .i64 a2, .slice A3 l3.length c3, .int .i64 a4] w fun e w'=>e= .returned (.tuple #[.int .i64 r1, .int .i64 r2])∧Below w.heap.size w w':=by
 have hu24:=Try.underlying24
 have HR0_2:=Aside0.mk hr0_2
 have HC0_2:=Aside0.mk hc0_2
 clear hr0_2 hc0_2
 have HR3:=Aside0.mk hr3
 have HC3:=Aside0.mk hc3
 clear hr3 hc3
 have HB:=Aside0.mk (Below.refl w.heap.size w)
 have H:((ebbtideref12_Asked.f k a0_0 a0_1 l0_2 a1 a2 a4).bind fun t739=>(if t739=0 then((ebbtideref07_Check.f k a0_0 a0_1 l0_2 a1 a2 l3).bind fun bt740=>(if bt740.2=0 then((ebbtideref07_Cost.f k a0_0 a0_1 l0_2 l3).bind fun bt742=>(some (wrap64 ((wrap64 ((wrap64 (a4+1)) * bt740.1)) - bt742.1),0))) else(some (0,bt740.2)))) else(some (0,t739))))=some (r1,r2):=h
 clear h
 replace H:=Option.bind_eq_some_iff.mp H
 obtain⟨t739,A60,H⟩:=H
 replace H:(if t739=0 then((ebbtideref07_Check.f k a0_0 a0_1 l0_2 a1 a2 l3).bind fun bt740=>(if bt740.2=0 then((ebbtideref07_Cost.f k a0_0 a0_1 l0_2 l3).bind fun bt742=>(some (wrap64 ((wrap64 ((wrap64 (a4+1)) * bt740.1)) - bt742.1),0))) else(some (0,bt740.2)))) else(some (0,t739)))=some (r1,r2):=H
 have A6:=Aside0.mk A60
 clear A60
 by_cases c7:t739=0
 rotate_left
 ·rw[if_neg c7] at H
  have c7b0:(t739 == 0)=false:=beq_eq_false_iff_ne.mpr c7
  have c7b1:(t739 != 0)=true:=bne_iff_ne.mpr c7
  simp only[Option.some.injEq,Prod.mk.injEq] at H
  obtain⟨rfl,rfl⟩:=H
  go_enter Try.func64,Try.ntmps64
  go_wp2_with (first|((with_reducible refine gate_dst (N:=5) rfl ?_);refine box_event ?hg (N:=5) ?hd (cs:= #[.int .i64 a0_0, .bool a0_1, .slice A0_2 l0_2.length c0_2]) (t:=24) ?hr ?_;(case hd=>rfl);(case hg=>rfl);(case hr=>first|(go_simp;done)|(go_simp;rfl));intro gb738 hg w23 hbox hb;have n0_:=Aside0.mk (below_step (by repeat(first|(with_reducible first|exact HB.out|apply below_alloc|apply pw_below_drewN|apply below_drew1)|exact HB.out)) hb);have n1_:=Aside0.mk (hbox);have n2_:=Aside0.mk ((by rw[hg];exact(below_size (by repeat(first|(with_reducible first|exact HB.out|apply below_alloc|apply pw_below_drewN|apply below_drew1)|exact HB.out))):w.heap.size≤gb738));have n3_:=Aside0.mk ((by rw[hg];exact(below_size (by repeat(first|(with_reducible first|exact HB.out|apply below_alloc|apply pw_below_drewN|apply below_drew1)|exact HB.out))):w.heap.size≤gb738));clear HB;have HB:=n0_;have BK738:=n1_;have GW738:=n2_;have GE738:=n3_;clear n0_ n1_ n2_ n3_;clear hb hbox hg;have hcz24_0:w23.cell? ⟨gb738,0,none⟩=some (.int .i64 a0_0):=(blk_cell BK738.out 0).trans rfl;have hcz24_1:w23.cell? ⟨gb738,1,none⟩=some (.bool a0_1):=(blk_cell BK738.out 1).trans rfl;have hcz24_2:w23.cell? ⟨gb738,2,none⟩=some (.slice A0_2 l0_2.length c0_2):=(blk_cell BK738.out 2).trans rfl;have hfz24_0:=blk_frozen BK738.out 0;have hfz24_1:=blk_frozen BK738.out 1;have hfz24_2:=blk_frozen BK738.out 2)|((with_reducible refine gate_callee (f:=70) rfl ?_);refine goesL_ (some 21) rfl rfl Try.func70 (by kernel_rfl) rfl #[.agg #[.int .i64 a0_0, .bool a0_1, .slice A0_2 l0_2.length c0_2], .int .i64 a1, .int .i64 a2, .int .i64 a4] rfl (by(try simp only[List.map_toArray,List.map_cons,List.map_nil]);first|done|rfl|(simp only[List.length_drop,List.length_take];rfl)) ?_;(with_reducible refine(ebbtideref12_Asked.calls k a0_0 a0_1 _ _ l0_2 a1 a2 a4 t739 _ ?side1 ?side2 A6.out).mono ?_);(case side1=>repeat(first|exact(Kd.C_below HR0_2.out HB.out)|(with_reducible refine Kd.C_alloc ?_ _)|(with_reducible refine Kd.C_drewN ?_ _)|(with_reducible refine Kd.C_drew ?_)));(case side2=>exact HC0_2.out);rintro e w25 ⟨rfl,hb⟩;refine⟨_,rfl,?_⟩;have n0_:=Aside0.mk (blk_below (g:=gb738) (o:= .cells #[.int .i64 a0_0, .bool a0_1, .slice A0_2 l0_2.length c0_2] 24 (0,0)) (by(with_reducible repeat(first|refine blk_drewN ?_ _|refine blk_drew ?_|refine blk_alloc ?_ _));exact BK738.out) hb);have n1_:=Aside0.mk (below_step (by repeat(first|(with_reducible first|exact HB.out|apply below_alloc|apply pw_below_drewN|apply below_drew1|refine below_set ?_ GE738.out)|exact HB.out)) hb);clear BK738;clear HB;have BK738:=n0_;have HB:=n1_;clear n0_ n1_;(try clear hb);(try clear hb2);(try clear hk);(try clear hi)))
  go_ret2
  exact⟨by first|rfl|(simp[errW_none,errW_some]<;>rfl)|(simp[*,errW_none,errW_some]<;>rfl),by repeat(first|(with_reducible first|exact HB.out|apply below_alloc|apply pw_below_drewN|apply below_drew1|refine below_set ?_ GE738.out)|exact HB.out)⟩
 rw[if_pos c7] at H
 have c7b0:(t739 == 0)=true:=beq_iff_eq.mpr c7
 have c7b1:(t739 != 0)=false:=bne_eq_false_iff_eq.mpr c7
 clear c7
 replace H:=Option.bind_eq_some_iff.mp H
 obtain⟨⟨t740,t741⟩,A80,H⟩:=H
 replace H:(if t741=0 then((ebbtideref07_Cost.f k a0_0 a0_1 l0_2 l3).bind fun bt742=>(some (wrap64 ((wrap64 ((wrap64 (a4+1)) * t740)) - bt742.1),0))) else(some (0,t741)))=some (r1,r2):=H
 have A8:=Aside0.mk A80
 clear A80
 by_cases c9:t741=0
 rotate_left
 ·rw[if_neg c9] at H
  have c9b0:(t741 == 0)=false:=beq_eq_false_iff_ne.mpr c9
  have c9b1:(t741 != 0)=true:=bne_iff_ne.mpr c9
  simp only[Option.some.injEq,Prod.mk.injEq] at H
  obtain⟨rfl,rfl⟩:=H
  go_enter Try.func64,Try.ntmps64
  go_wp2_with (first|((with_reducible refine gate_dst (N:=5) rfl ?_);refine box_event ?hg (N:=5) ?hd (cs:= #[.int .i64 a0_0, .bool a0_1, .slice A0_2 l0_2.length c0_2]) (t:=24) ?hr ?_;(case hd=>rfl);(case hg=>rfl);(case hr=>first|(go_simp;done)|(go_simp;rfl));intro gb738 hg w18 hbox hb;have n0_:=Aside0.mk (below_step (by repeat(first|(with_reducible first|exact HB.out|apply below_alloc|apply pw_below_drewN|apply below_drew1)|exact HB.out)) hb);have n1_:=Aside0.mk (hbox);have n2_:=Aside0.mk ((by rw[hg];exact(below_size (by repeat(first|(with_reducible first|exact HB.out|apply below_alloc|apply pw_below_drewN|apply below_drew1)|exact HB.out))):w.heap.size≤gb738));have n3_:=Aside0.mk ((by rw[hg];exact(below_size (by repeat(first|(with_reducible first|exact HB.out|apply below_alloc|apply pw_below_drewN|apply below_drew1)|exact HB.out))):w.heap.size≤gb738));clear HB;have HB:=n0_;have BK738:=n1_;have GW738:=n2_;have GE738:=n3_;clear n0_ n1_ n2_ n3_;clear hb hbox hg;have hcz19_0:w18.cell? ⟨gb738,0,none⟩=some (.int .i64 a0_0):=(blk_cell BK738.out 0).trans rfl;have hcz19_1:w18.cell? ⟨gb738,1,none⟩=some (.bool a0_1):=(blk_cell BK738.out 1).trans rfl;have hcz19_2:w18.cell? ⟨gb738,2,none⟩=some (.slice A0_2 l0_2.length c0_2):=(blk_cell BK738.out 2).trans rfl;have hfz19_0:=blk_frozen BK738.out 0;have hfz19_1:=blk_frozen BK738.out 1;have hfz19_2:=blk_frozen BK738.out 2)|((with_reducible refine gate_callee (f:=70) rfl ?_);refine goesL_ (some 21) rfl rfl Try.func70 (by kernel_rfl) rfl #[.agg #[.int .i64 a0_0, .bool a0_1, .slice A0_2 l0_2.length c0_2], .int .i64 a1, .int .i64 a2, .int .i64 a4] rfl (by(try simp only[List.map_toArray,List.map_cons,List.map_nil]);first|done|rfl|(simp only[List.length_drop,List.length_take];rfl)) ?_;(with_reducible refine(ebbtideref12_Asked.calls k a0_0 a0_1 _ _ l0_2 a1 a2 a4 t739 _ ?side1 ?side2 A6.out).mono ?_);(case side1=>repeat(first|exact(Kd.C_below HR0_2.out HB.out)|(with_reducible refine Kd.C_alloc ?_ _)|(with_reducible refine Kd.C_drewN ?_ _)|(with_reducible refine Kd.C_drew ?_)));(case side2=>exact HC0_2.out);rintro e w20 ⟨rfl,hb⟩;refine⟨_,rfl,?_⟩;have n0_:=Aside0.mk (blk_below (g:=gb738) (o:= .cells #[.int .i64 a0_0, .bool a0_1, .slice A0_2 l0_2.length c0_2] 24 (0,0)) (by(with_reducible repeat(first|refine blk_drewN ?_ _|refine blk_drew ?_|refine blk_alloc ?_ _));exact BK738.out) hb);have n1_:=Aside0.mk (below_step (by repeat(first|(with_reducible first|exact HB.out|apply below_alloc|apply pw_below_drewN|apply below_drew1|refine below_set ?_ GE738.out)|exact HB.out)) hb);clear BK738;clear HB;have BK738:=n0_;have HB:=n1_;clear n0_ n1_;(try clear hb);(try clear hb2);(try clear hk);(try clear hi);have hcz21_0:w20.cell? ⟨gb738,0,none⟩=some (.int .i64 a0_0):=(blk_cell BK738.out 0).trans rfl;have hcz21_1:w20.cell? ⟨gb738,1,none⟩=some (.bool a0_1):=(blk_cell BK738.out 1).trans rfl;have hcz21_2:w20.cell? ⟨gb738,2,none⟩=some (.slice A0_2 l0_2.length c0_2):=(blk_cell BK738.out 2).trans rfl;have hfz21_0:=blk_frozen BK738.out 0;have hfz21_1:=blk_frozen BK738.out 1;have hfz21_2:=blk_frozen BK738.out 2)|((with_reducible refine gate_callee (f:=60) rfl ?_);refine goesL_ (some 30) rfl rfl Try.func60 (by kernel_rfl) rfl #[.agg #[.int .i64 a0_0, .bool a0_1, .slice A0_2 l0_2.length c0_2], .int .i64 a1, .int .i64 a2, .slice A3 l3.length c3] rfl (by(try simp only[List.map_toArray,List.map_cons,List.map_nil]);first|done|rfl|(simp only[List.length_drop,List.length_take];rfl)) ?_;(with_reducible refine(ebbtideref07_Check.calls k a0_0 a0_1 _ _ l0_2 a1 a2 _ _ l3 t740 t741 _ ?side1 ?side2 ?side3 ?side4 A8.out).mono ?_);(case side1=>repeat(first|exact(Kd.C_below HR0_2.out HB.out)|(with_reducible refine Kd.C_alloc ?_ _)|(with_reducible refine Kd.C_drewN ?_ _)|(with_reducible refine Kd.C_drew ?_)));(case side2=>exact HC0_2.out);(case side3=>repeat(first|exact(Kd.C_below HR3.out HB.out)|(with_reducible refine Kd.C_alloc ?_ _)|(with_reducible refine Kd.C_drewN ?_ _)|(with_reducible refine Kd.C_drew ?_)));(case side4=>exact HC3.out);rintro e w22 ⟨rfl,hb⟩;refine⟨_,rfl,?_⟩;have n0_:=Aside0.mk (blk_below (g:=gb738) (o:= .cells #[.int .i64 a0_0, .bool a0_1, .slice A0_2 l0_2.length c0_2] 24 (0,0)) (by(with_reducible repeat(first|refine blk_drewN ?_ _|refine blk_drew ?_|refine blk_alloc ?_ _));exact BK738.out) hb);have n1_:=Aside0.mk (below_step (by repeat(first|(with_reducible first|exact HB.out|apply below_alloc|apply pw_below_drewN|apply below_drew1|refine below_set ?_ GE738.out)|exact HB.out)) hb);clear BK738;clear HB;have BK738:=n0_;have HB:=n1_;clear n0_ n1_;(try clear hb);(try clear hb2);(try clear hk);(try clear hi)))
  go_ret2
  exact⟨by first|rfl|(simp[errW_none,errW_some]<;>rfl)|(simp[*,errW_none,errW_some]<;>rfl),by repeat(first|(with_reducible first|exact HB.out|apply below_alloc|apply pw_below_drewN|apply below_drew1|refine below_set ?_ GE738.out)|exact HB.out)⟩
 rw[if_pos c9] at H
 have c9b0:(t741 == 0)=true:=beq_iff_eq.mpr c9
 have c9b1:(t741 != 0)=false:=bne_eq_false_iff_eq.mpr c9
 clear c9
 replace H:=Option.bind_eq_some_iff.mp H
 obtain⟨⟨t742,t743⟩,A100,H⟩:=H
 replace H:(some (wrap64 ((wrap64 ((wrap64 (a4+1)) * t740)) - t742),0))=some (r1,r2):=H
 have A10:=Aside0.mk A100
 clear A100
 simp only[Option.some.injEq,Prod.mk.injEq] at H
 obtain⟨rfl,rfl⟩:=H
 go_enter Try.func64,Try.ntmps64
 go_wp2_with (first|((with_reducible refine gate_dst (N:=5) rfl ?_);refine box_event ?hg (N:=5) ?hd (cs:= #[.int .i64 a0_0, .bool a0_1, .slice A0_2 l0_2.length c0_2]) (t:=24) ?hr ?_;(case hd=>rfl);(case hg=>rfl);(case hr=>first|(go_simp;done)|(go_simp;rfl));intro gb738 hg w11 hbox hb;have n0_:=Aside0.mk (below_step (by repeat(first|(with_reducible first|exact HB.out|apply below_alloc|apply pw_below_drewN|apply below_drew1)|exact HB.out)) hb);have n1_:=Aside0.mk (hbox);have n2_:=Aside0.mk ((by rw[hg];exact(below_size (by repeat(first|(with_reducible first|exact HB.out|apply below_alloc|apply pw_below_drewN|apply below_drew1)|exact HB.out))):w.heap.size≤gb738));have n3_:=Aside0.mk ((by rw[hg];exact(below_size (by repeat(first|(with_reducible first|exact HB.out|apply below_alloc|apply pw_below_drewN|apply below_drew1)|exact HB.out))):w.heap.size≤gb738));clear HB;have HB:=n0_;have BK738:=n1_;have GW738:=n2_;have GE738:=n3_;clear n0_ n1_ n2_ n3_;clear hb hbox hg;have hcz12_0:w11.cell? ⟨gb738,0,none⟩=some (.int .i64 a0_0):=(blk_cell BK738.out 0).trans rfl;have hcz12_1:w11.cell? ⟨gb738,1,none⟩=some (.bool a0_1):=(blk_cell BK738.out 1).trans rfl;have hcz12_2:w11.cell? ⟨gb738,2,none⟩=some (.slice A0_2 l0_2.length c0_2):=(blk_cell BK738.out 2).trans rfl;have hfz12_0:=blk_frozen BK738.out 0;have hfz12_1:=blk_frozen BK738.out 1;have hfz12_2:=blk_frozen BK738.out 2)|((with_reducible refine gate_callee (f:=70) rfl ?_);refine goesL_ (some 21) rfl rfl Try.func70 (by kernel_rfl) rfl #[.agg #[.int .i64 a0_0, .bool a0_1, .slice A0_2 l0_2.length c0_2], .int .i64 a1, .int .i64 a2, .int .i64 a4] rfl (by(try simp only[List.map_toArray,List.map_cons,List.map_nil]);first|done|rfl|(simp only[List.length_drop,List.length_take];rfl)) ?_;(with_reducible refine(ebbtideref12_Asked.calls k a0_0 a0_1 _ _ l0_2 a1 a2 a4 t739 _ ?side1 ?side2 A6.out).mono ?_);(case side1=>repeat(first|exact(Kd.C_below HR0_2.out HB.out)|(with_reducible refine Kd.C_alloc ?_ _)|(with_reducible refine Kd.C_drewN ?_ _)|(with_reducible refine Kd.C_drew ?_)));(case side2=>exact HC0_2.out);rintro e w13 ⟨rfl,hb⟩;refine⟨_,rfl,?_⟩;have n0_:=Aside0.mk (blk_below (g:=gb738) (o:= .cells #[.int .i64 a0_0, .bool a0_1, .slice A0_2 l0_2.length c0_2] 24 (0,0)) (by(with_reducible repeat(first|refine blk_drewN ?_ _|refine blk_drew ?_|refine blk_alloc ?_ _));exact BK738.out) hb);have n1_:=Aside0.mk (below_step (by repeat(first|(with_reducible first|exact HB.out|apply below_alloc|apply pw_below_drewN|apply below_drew1|refine below_set ?_ GE738.out)|exact HB.out)) hb);clear BK738;clear HB;have BK738:=n0_;have HB:=n1_;clear n0_ n1_;(try clear hb);(try clear hb2);(try clear hk);(try clear hi);have hcz14_0:w13.cell? ⟨gb738,0,none⟩=some (.int .i64 a0_0):=(blk_cell BK738.out 0).trans rfl;have hcz14_1:w13.cell? ⟨gb738,1,none⟩=some (.bool a0_1):=(blk_cell BK738.out 1).trans rfl;have hcz14_2:w13.cell? ⟨gb738,2,none⟩=some (.slice A0_2 l0_2.length c0_2):=(blk_cell BK738.out 2).trans rfl;have hfz14_0:=blk_frozen BK738.out 0;have hfz14_1:=blk_frozen BK738.out 1;have hfz14_2:=blk_frozen BK738.out 2)|((with_reducible refine gate_callee (f:=60) rfl ?_);refine goesL_ (some 30) rfl rfl Try.func60 (by kernel_rfl) rfl #[.agg #[.int .i64 a0_0, .bool a0_1, .slice A0_2 l0_2.length c0_2], .int .i64 a1, .int .i64 a2, .slice A3 l3.length c3] rfl (by(try simp only[List.map_toArray,List.map_cons,List.map_nil]);first|done|rfl|(simp only[List.length_drop,List.length_take];rfl)) ?_;(with_reducible refine(ebbtideref07_Check.calls k a0_0 a0_1 _ _ l0_2 a1 a2 _ _ l3 t740 t741 _ ?side1 ?side2 ?side3 ?side4 A8.out).mono ?_);(case side1=>repeat(first|exact(Kd.C_below HR0_2.out HB.out)|(with_reducible refine Kd.C_alloc ?_ _)|(with_reducible refine Kd.C_drewN ?_ _)|(with_reducible refine Kd.C_drew ?_)));(case side2=>exact HC0_2.out);(case side3=>repeat(first|exact(Kd.C_below HR3.out HB.out)|(with_reducible refine Kd.C_alloc ?_ _)|(with_reducible refine Kd.C_drewN ?_ _)|(with_reducible refine Kd.C_drew ?_)));(case side4=>exact HC3.out);rintro e w15 ⟨rfl,hb⟩;refine⟨_,rfl,?_⟩;have n0_:=Aside0.mk (blk_below (g:=gb738) (o:= .cells #[.int .i64 a0_0, .bool a0_1, .slice A0_2 l0_2.length c0_2] 24 (0,0)) (by(with_reducible repeat(first|refine blk_drewN ?_ _|refine blk_drew ?_|refine blk_alloc ?_ _));exact BK738.out) hb);have n1_:=Aside0.mk (below_step (by repeat(first|(with_reducible first|exact HB.out|apply below_alloc|apply pw_below_drewN|apply below_drew1|refine below_set ?_ GE738.out)|exact HB.out)) hb);clear BK738;clear HB;have BK738:=n0_;have HB:=n1_;clear n0_ n1_;(try clear hb);(try clear hb2);(try clear hk);(try clear hi);have hcz16_0:w15.cell? ⟨gb738,0,none⟩=some (.int .i64 a0_0):=(blk_cell BK738.out 0).trans rfl;have hcz16_1:w15.cell? ⟨gb738,1,none⟩=some (.bool a0_1):=(blk_cell BK738.out 1).trans rfl;have hcz16_2:w15.cell? ⟨gb738,2,none⟩=some (.slice A0_2 l0_2.length c0_2):=(blk_cell BK738.out 2).trans rfl;have hfz16_0:=blk_frozen BK738.out 0;have hfz16_1:=blk_frozen BK738.out 1;have hfz16_2:=blk_frozen BK738.out 2)|((with_reducible refine gate_callee (f:=49) rfl ?_);refine goesL_ (some 39) rfl rfl Try.func49 (by kernel_rfl) rfl #[.agg #[.int .i64 a0_0, .bool a0_1, .slice A0_2 l0_2.length c0_2], .slice A3 l3.length c3] rfl (by(try simp only[List.map_toArray,List.map_cons,List.map_nil]);first|done|rfl|(simp only[List.length_drop,List.length_take];rfl)) ?_;(with_reducible refine(ebbtideref07_Cost.calls k a0_0 a0_1 _ _ l0_2 _ _ l3 t742 t743 _ ?side1 ?side2 ?side3 ?side4 A10.out).mono ?_);(case side1=>repeat(first|exact(Kd.C_below HR0_2.out HB.out)|(with_reducible refine Kd.C_alloc ?_ _)|(with_reducible refine Kd.C_drewN ?_ _)|(with_reducible refine Kd.C_drew ?_)));(case side2=>exact HC0_2.out);(case side3=>repeat(first|exact(Kd.C_below HR3.out HB.out)|(with_reducible refine Kd.C_alloc ?_ _)|(with_reducible refine Kd.C_drewN ?_ _)|(with_reducible refine Kd.C_drew ?_)));(case side4=>exact HC3.out);rintro e w17 ⟨rfl,hb⟩;refine⟨_,rfl,?_⟩;have n0_:=Aside0.mk (blk_below (g:=gb738) (o:= .cells #[.int .i64 a0_0, .bool a0_1, .slice A0_2 l0_2.length c0_2] 24 (0,0)) (by(with_reducible repeat(first|refine blk_drewN ?_ _|refine blk_drew ?_|refine blk_alloc ?_ _));exact BK738.out) hb);have n1_:=Aside0.mk (below_step (by repeat(first|(with_reducible first|exact HB.out|apply below_alloc|apply pw_below_drewN|apply below_drew1|refine below_set ?_ GE738.out)|exact HB.out)) hb);clear BK738;clear HB;have BK738:=n0_;have HB:=n1_;clear n0_ n1_;(try clear hb);(try clear hb2);(try clear hk);(try clear hi)))
 go_ret2
 exact⟨by first|rfl|(simp[errW_none,errW_some]<;>rfl)|(simp[*,errW_none,errW_some]<;>rfl),by repeat(first|(with_reducible first|exact HB.out|apply below_alloc|apply pw_below_drewN|apply below_drew1|refine below_set ?_ GE738.out)|exact HB.out)⟩
end Go.Proofs.Ytkcpanpdipmmmaa.P
namespace Go.Proofs.Ytkcpanpdipmmmaa.P
open Go.RowKit Go.Proofs.YtkcpanpdipmmmaaW.PrintWords Go.Proofs.YtkcpanpdipmmmaaW.PrintLast Go.Proofs.YtkcpanpdipmmmaaW.PrintMore
attribute [local go_sem] max2_int min2_int max_two min_two max_three min_three max_four min_four
def static_Flowing_From.f (a0_0:Int) (a0_1:Bool) (l0_2:List (S74)) (l0_3:List Int) (a1_0:Int) (a1_1:Bool):Option (Int):=if a1_1=true then(if 0≤a1_0 then(if a1_0<(l0_2.length:Int) then(some ((rd_T74 l0_2 a1_0).f1)) else(none)) else(none)) else(if 0≤a1_0 then(if a1_0<(l0_2.length:Int) then(some ((rd_T74 l0_2 a1_0).f0)) else(none)) else(none))
set_option maxHeartbeats 8000000 in
set_option maxRecDepth 100000 in
theorem static_Flowing_From.calls (a0_0:Int) (a0_1:Bool) (A0_2:Option Addr) (c0_2:Nat) (l0_2:List (S74)) (A0_3:Option Addr) (c0_3:Nat) (l0_3:List Int) (a1_0:Int) (a1_1:Bool) (r:Int) (w:World) (hr0_2:Kd.C k74 w A0_2 l0_2.length l0_2) (hc0_2:l0_2.length≤c0_2) (hr0_3:Kd.C (Kd.int .i64) w A0_3 l0_3.length l0_3) (hc0_3:l0_3.length≤c0_3) (h:static_Flowing_From.f a0_0 a0_1 l0_2 l0_3 a1_0 a1_1=some r):
  Calls Try.prog 106 #[.agg #[.int .i64 a0_0, .bool a0_1, .slice A0_2 l0_2.length c0_2, .slice A0_3 l0_3.length c0_3], .agg #[.int .i64 a1_0, .bool a1_1]] w fun e w'=>e= .returned (.int .i64 r)∧Below w.heap.size w w':=by
 have hu115:=Try.underlying115
 have hu38:=Try.underlying38
 have HR0_2:=Aside0.mk hr0_2
 have HC0_2:=Aside0.mk hc0_2
 clear hr0_2 hc0_2
 have HR0_3:=Aside0.mk hr0_3
 have HC0_3:=Aside0.mk hc0_3
 clear hr0_3 hc0_3
 have HB:=Aside0.mk (Below.refl w.heap.size w)
 have H:(if a1_1=true then(if 0≤a1_0 then(if a1_0<(l0_2.length:Int) then(some ((rd_T74 l0_2 a1_0).f1)) else(none)) else(none)) else(if 0≤a1_0 then(if a1_0<(l0_2.length:Int) then(some ((rd_T74 l0_2 a1_0).f0)) else(none)) else(none)))=some r:=h
 clear h
 by_cases c3:a1_1=true
 ·subst c3
  have H1:(if 0≤a1_0 then(if a1_0<(l0_2.length:Int) then(some ((rd_T74 l0_2 a1_0).f1)) else(none)) else(none))=some r:=by first|(rw[if_pos rfl] at H;exact H)|(rw[if_pos trivial] at H;exact H)
  clear H
  have H:=H1
  clear H1
  by_cases c4:0≤a1_0
  rotate_left
  ·rw[if_neg c4] at H
   exact absurd H (by simp)
  rw[if_pos c4] at H
  have c4b0:decide (0≤a1_0)=true:=decide_eq_true c4
  clear c4
  by_cases c5:a1_0<(l0_2.length:Int)
  rotate_left
  ·rw[if_neg c5] at H
   exact absurd H (by simp)
  rw[if_pos c5] at H
  have c5b0:decide (a1_0<(l0_2.length:Int))=true:=decide_eq_true c5
  clear c5
  obtain rfl:=Option.some.inj H
  go_enter Try.func106,Try.ntmps106
  go_wp2_with (first|((with_reducible refine gate_dst (N:=2) rfl ?_);refine box_event ?hg (N:=2) ?hd (cs:= #[.int .i64 a0_0, .bool a0_1, .slice A0_2 l0_2.length c0_2, .slice A0_3 l0_3.length c0_3]) (t:=115) ?hr ?_;(case hd=>rfl);(case hg=>rfl);(case hr=>first|(go_simp;done)|(go_simp;rfl));intro gb380 hg w6 hbox hb;have n0_:=Aside0.mk (below_step (by repeat(first|(with_reducible first|exact HB.out|apply below_alloc|apply pw_below_drewN|apply below_drew1)|exact HB.out)) hb);have n1_:=Aside0.mk (hbox);have n2_:=Aside0.mk ((by rw[hg];exact(below_size (by repeat(first|(with_reducible first|exact HB.out|apply below_alloc|apply pw_below_drewN|apply below_drew1)|exact HB.out))):w.heap.size≤gb380));have n3_:=Aside0.mk ((by rw[hg];exact(below_size (by repeat(first|(with_reducible first|exact HB.out|apply below_alloc|apply pw_below_drewN|apply below_drew1)|exact HB.out))):w.heap.size≤gb380));clear HB;have HB:=n0_;have BK380:=n1_;have GW380:=n2_;have GE380:=n3_;clear n0_ n1_ n2_ n3_;clear hb hbox hg)|((with_reducible refine gate_dst (N:=3) rfl ?_);refine box_event ?hg (N:=3) ?hd (cs:= #[.int .i64 a1_0, .bool true]) (t:=38) ?hr ?_;(case hd=>rfl);(case hg=>rfl);(case hr=>first|(go_simp;done)|(go_simp;rfl));intro gb381 hg w7 hbox hb;have n0_:=Aside0.mk (blk_below (g:=gb380) (o:= .cells #[.int .i64 a0_0, .bool a0_1, .slice A0_2 l0_2.length c0_2, .slice A0_3 l0_3.length c0_3] 115 (0,0)) (by(with_reducible repeat(first|refine blk_drewN ?_ _|refine blk_drew ?_|refine blk_alloc ?_ _));exact BK380.out) hb);have n1_:=Aside0.mk (below_step (by repeat(first|(with_reducible first|exact HB.out|apply below_alloc|apply pw_below_drewN|apply below_drew1|refine below_set ?_ GE380.out)|exact HB.out)) hb);have n2_:=Aside0.mk (hbox);have n3_:=Aside0.mk ((by rw[hg];exact(below_size (by repeat(first|(with_reducible first|exact HB.out|apply below_alloc|apply pw_below_drewN|apply below_drew1|refine below_set ?_ GE380.out)|exact HB.out))):w.heap.size≤gb381));have n4_:=Aside0.mk ((by rw[hg];exact(below_size (by repeat(first|(with_reducible first|exact HB.out|apply below_alloc|apply pw_below_drewN|apply below_drew1|refine below_set ?_ GE380.out)|exact HB.out))):w.heap.size≤gb381));have n5_:=Aside0.mk ((by rw[hg];exact Nat.ne_of_lt (blk_lt (g:=gb380) (o:= .cells #[.int .i64 a0_0, .bool a0_1, .slice A0_2 l0_2.length c0_2, .slice A0_3 l0_3.length c0_3] 115 (0,0)) (by(with_reducible repeat(first|refine blk_drewN ?_ _|refine blk_drew ?_|refine blk_alloc ?_ _));exact BK380.out)):gb380≠gb381));have n6_:=Aside0.mk ((by rw[hg];exact Nat.ne_of_gt (blk_lt (g:=gb380) (o:= .cells #[.int .i64 a0_0, .bool a0_1, .slice A0_2 l0_2.length c0_2, .slice A0_3 l0_3.length c0_3] 115 (0,0)) (by(with_reducible repeat(first|refine blk_drewN ?_ _|refine blk_drew ?_|refine blk_alloc ?_ _));exact BK380.out)):gb381≠gb380));clear BK380;clear HB;have BK380:=n0_;have HB:=n1_;have BK381:=n2_;have GW381:=n3_;have GE381:=n4_;have NB380_381:=n5_;have NB381_380:=n6_;clear n0_ n1_ n2_ n3_ n4_ n5_ n6_;clear hb hbox hg;have hnb8:=NB381_380.out;have hnc8:=NB380_381.out;have hcz9_0:w7.cell? ⟨gb381,0,none⟩=some (.int .i64 a1_0):=(blk_cell BK381.out 0).trans rfl;have hcz9_1:w7.cell? ⟨gb381,1,none⟩=some (.bool true):=(blk_cell BK381.out 1).trans rfl;have hfz9_0:=blk_frozen BK381.out 0;have hfz9_1:=blk_frozen BK381.out 1;have hcz10_0:w7.cell? ⟨gb380,0,none⟩=some (.int .i64 a0_0):=(blk_cell BK380.out 0).trans rfl;have hcz10_1:w7.cell? ⟨gb380,1,none⟩=some (.bool a0_1):=(blk_cell BK380.out 1).trans rfl;have hcz10_2:w7.cell? ⟨gb380,2,none⟩=some (.slice A0_2 l0_2.length c0_2):=(blk_cell BK380.out 2).trans rfl;have hcz10_3:w7.cell? ⟨gb380,3,none⟩=some (.slice A0_3 l0_3.length c0_3):=(blk_cell BK380.out 3).trans rfl;have hfz10_0:=blk_frozen BK380.out 0;have hfz10_1:=blk_frozen BK380.out 1;have hfz10_2:=blk_frozen BK380.out 2;have hfz10_3:=blk_frozen BK380.out 3;have p382:0≤(a1_0:Int):=of_decide_eq_true (by first|(with_reducible assumption)|assumption);have q382:a1_0<(l0_2.length:Int):=of_decide_eq_true (by first|(with_reducible assumption)|assumption);obtain⟨ad382,e382,hx382_0,hx382_1,hx382_2,hx382_3⟩:=at_T74 HR0_2.out a1_0 p382 q382;cases e382;replace hx382_0:=(HB.out.cell (World.block_lt_of_cell? w _ hx382_0)).trans hx382_0;replace hx382_1:=(HB.out.cell (World.block_lt_of_cell? w _ hx382_1)).trans hx382_1;replace hx382_2:=(HB.out.cell (World.block_lt_of_cell? w _ hx382_2)).trans hx382_2;replace hx382_3:=(HB.out.cell (World.block_lt_of_cell? w _ hx382_3)).trans hx382_3;replace p382:=eq_true p382;replace q382:=eq_true q382))
  go_ret
  exact⟨by first|rfl|(simp[errW_none,errW_some]<;>rfl)|(simp[*,errW_none,errW_some]<;>rfl),by repeat(first|(with_reducible first|exact HB.out|apply below_alloc|apply pw_below_drewN|apply below_drew1|refine below_set ?_ GE380.out|refine below_set ?_ GE381.out)|exact HB.out)⟩
 replace c3:=Bool.eq_false_iff.mpr c3
 subst c3
 have H1:(if 0≤a1_0 then(if a1_0<(l0_2.length:Int) then(some ((rd_T74 l0_2 a1_0).f0)) else(none)) else(none))=some r:=by rw[if_neg (show ¬ (false=true) by decide)] at H;exact H
 clear H
 have H:=H1
 clear H1
 by_cases c11:0≤a1_0
 rotate_left
 ·rw[if_neg c11] at H
  exact absurd H (by simp)
 rw[if_pos c11] at H
 have c11b0:decide (0≤a1_0)=true:=decide_eq_true c11
 clear c11
 by_cases c12:a1_0<(l0_2.length:Int)
 rotate_left
 ·rw[if_neg c12] at H
  exact absurd H (by simp)
 rw[if_pos c12] at H
 have c12b0:decide (a1_0<(l0_2.length:Int))=true:=decide_eq_true c12
 clear c12
 obtain rfl:=Option.some.inj H
 go_enter Try.func106,Try.ntmps106
 go_wp2_with (first|((with_reducible refine gate_dst (N:=2) rfl ?_);refine box_event ?hg (N:=2) ?hd (cs:= #[.int .i64 a0_0, .bool a0_1, .slice A0_2 l0_2.length c0_2, .slice A0_3 l0_3.length c0_3]) (t:=115) ?hr ?_;(case hd=>rfl);(case hg=>rfl);(case hr=>first|(go_simp;done)|(go_simp;rfl));intro gb380 hg w13 hbox hb;have n0_:=Aside0.mk (below_step (by repeat(first|(with_reducible first|exact HB.out|apply below_alloc|apply pw_below_drewN|apply below_drew1)|exact HB.out)) hb);have n1_:=Aside0.mk (hbox);have n2_:=Aside0.mk ((by rw[hg];exact(below_size (by repeat(first|(with_reducible first|exact HB.out|apply below_alloc|apply pw_below_drewN|apply below_drew1)|exact HB.out))):w.heap.size≤gb380));have n3_:=Aside0.mk ((by rw[hg];exact(below_size (by repeat(first|(with_reducible first|exact HB.out|apply below_alloc|apply pw_below_drewN|apply below_drew1)|exact HB.out))):w.heap.size≤gb380));clear HB;have HB:=n0_;have BK380:=n1_;have GW380:=n2_;have GE380:=n3_;clear n0_ n1_ n2_ n3_;clear hb hbox hg)|((with_reducible refine gate_dst (N:=3) rfl ?_);refine box_event ?hg (N:=3) ?hd (cs:= #[.int .i64 a1_0, .bool false]) (t:=38) ?hr ?_;(case hd=>rfl);(case hg=>rfl);(case hr=>first|(go_simp;done)|(go_simp;rfl));intro gb381 hg w14 hbox hb;have n0_:=Aside0.mk (blk_below (g:=gb380) (o:= .cells #[.int .i64 a0_0, .bool a0_1, .slice A0_2 l0_2.length c0_2, .slice A0_3 l0_3.length c0_3] 115 (0,0)) (by(with_reducible repeat(first|refine blk_drewN ?_ _|refine blk_drew ?_|refine blk_alloc ?_ _));exact BK380.out) hb);have n1_:=Aside0.mk (below_step (by repeat(first|(with_reducible first|exact HB.out|apply below_alloc|apply pw_below_drewN|apply below_drew1|refine below_set ?_ GE380.out)|exact HB.out)) hb);have n2_:=Aside0.mk (hbox);have n3_:=Aside0.mk ((by rw[hg];exact(below_size (by repeat(first|(with_reducible first|exact HB.out|apply below_alloc|apply pw_below_drewN|apply below_drew1|refine below_set ?_ GE380.out)|exact HB.out))):w.heap.size≤gb381));have n4_:=Aside0.mk ((by rw[hg];exact(below_size (by repeat(first|(with_reducible first|exact HB.out|apply below_alloc|apply pw_below_drewN|apply below_drew1|refine below_set ?_ GE380.out)|exact HB.out))):w.heap.size≤gb381));have n5_:=Aside0.mk ((by rw[hg];exact Nat.ne_of_lt (blk_lt (g:=gb380) (o:= .cells #[.int .i64 a0_0, .bool a0_1, .slice A0_2 l0_2.length c0_2, .slice A0_3 l0_3.length c0_3] 115 (0,0)) (by(with_reducible repeat(first|refine blk_drewN ?_ _|refine blk_drew ?_|refine blk_alloc ?_ _));exact BK380.out)):gb380≠gb381));have n6_:=Aside0.mk ((by rw[hg];exact Nat.ne_of_gt (blk_lt (g:=gb380) (o:= .cells #[.int .i64 a0_0, .bool a0_1, .slice A0_2 l0_2.length c0_2, .slice A0_3 l0_3.length c0_3] 115 (0,0)) (by(with_reducible repeat(first|refine blk_drewN ?_ _|refine blk_drew ?_|refine blk_alloc ?_ _));exact BK380.out)):gb381≠gb380));clear BK380;clear HB;have BK380:=n0_;have HB:=n1_;have BK381:=n2_;have GW381:=n3_;have GE381:=n4_;have NB380_381:=n5_;have NB381_380:=n6_;clear n0_ n1_ n2_ n3_ n4_ n5_ n6_;clear hb hbox hg;have hnb15:=NB381_380.out;have hnc15:=NB380_381.out;have hcz16_0:w14.cell? ⟨gb381,0,none⟩=some (.int .i64 a1_0):=(blk_cell BK381.out 0).trans rfl;have hcz16_1:w14.cell? ⟨gb381,1,none⟩=some (.bool false):=(blk_cell BK381.out 1).trans rfl;have hfz16_0:=blk_frozen BK381.out 0;have hfz16_1:=blk_frozen BK381.out 1;have hcz17_0:w14.cell? ⟨gb380,0,none⟩=some (.int .i64 a0_0):=(blk_cell BK380.out 0).trans rfl;have hcz17_1:w14.cell? ⟨gb380,1,none⟩=some (.bool a0_1):=(blk_cell BK380.out 1).trans rfl;have hcz17_2:w14.cell? ⟨gb380,2,none⟩=some (.slice A0_2 l0_2.length c0_2):=(blk_cell BK380.out 2).trans rfl;have hcz17_3:w14.cell? ⟨gb380,3,none⟩=some (.slice A0_3 l0_3.length c0_3):=(blk_cell BK380.out 3).trans rfl;have hfz17_0:=blk_frozen BK380.out 0;have hfz17_1:=blk_frozen BK380.out 1;have hfz17_2:=blk_frozen BK380.out 2;have hfz17_3:=blk_frozen BK380.out 3;have p383:0≤(a1_0:Int):=of_decide_eq_true (by first|(with_reducible assumption)|assumption);have q383:a1_0<(l0_2.length:Int):=of_decide_eq_true (by first|(with_reducible assumption)|assumption);obtain⟨ad383,e383,hx383_0,hx383_1,hx383_2,hx383_3⟩:=at_T74 HR0_2.out a1_0 p383 q383;cases e383;replace hx383_0:=(HB.out.cell (World.block_lt_of_cell? w _ hx383_0)).trans hx383_0;replace hx383_1:=(HB.out.cell (World.block_lt_of_cell? w _ hx383_1)).trans hx383_1;replace hx383_2:=(HB.out.cell (World.block_lt_of_cell? w _ hx383_2)).trans hx383_2;replace hx383_3:=(HB.out.cell (World.block_lt_of_cell? w _ hx383_3)).trans hx383_3;replace p383:=eq_true p383;replace q383:=eq_true q383))
 go_ret
 exact⟨by first|rfl|(simp[errW_none,errW_some]<;>rfl)|(simp[*,errW_none,errW_some]<;>rfl),by repeat(first|(with_reducible first|exact HB.out|apply below_alloc|apply pw_below_drewN|apply below_drew1|refine below_set ?_ GE380.out|refine below_set ?_ GE381.out)|exact HB.out)⟩
end Go.Proofs.Ytkcpanpdipmmmaa.P
namespace Go.Proofs.Ytkcpanpdipmmmaa.H
section
variable {α:Type}
structure Fd (α:Type) where
 v:Nat
 by_:α
 lv:Nat
def nodes (st:List (Fd α)):List Nat:=st.map Fd.v
end
end Go.Proofs.Ytkcpanpdipmmmaa.H
namespace Go.Proofs.Ytkcpanpdipmmmaa.H
section
variable {α:Type}
def Leads (to_:α→Nat) (es:Nat→List α):Nat→List α→Nat→Prop
 |u,[],t=>u=t
 |u,e::L,t=>e∈es u∧Leads to_ es (to_ e) L t
theorem Leads.snoc {to_:α→Nat} {es:Nat→List α} {L:List α} {e:α} : ∀ {u v:Nat},Leads to_ es u L v→e∈es v→Leads to_ es u (L ++ [e]) (to_ e):=by
 induction L with
 |nil=>intro u v h he;cases h;exact⟨he,rfl⟩
 |cons f L ih=>intro u v h he;exact⟨h.1,ih h.2 he⟩
end
end Go.Proofs.Ytkcpanpdipmmmaa.H
namespace Go.Proofs.Ytkcpanpdipmmmaa.H
open Go.RowKit Go.Proofs.YtkcpanpdipmmmaaW.PrintWords Go.Proofs.YtkcpanpdipmmmaaW.PrintLast
structure Mk where
 i:Nat
 N:Nat
 G:Value→World→Prop
def allB (md:Region.Mode) (ops:Array Oper) (bad:List Nat) (lb l':Array Bool):Nat→Array Bool→List Nat→Bool
 |0,l,rs=>rs.isEmpty && l == l'
 |n+1,l,rs=>(rs == bad && l == lb) || (Region.ready md ops l == rs && rs.all fun i=>allB md ops bad lb l' n (l.setIfInBounds i true) (rs.erase i))
structure Same (a' a:Act) (D:List Nat) (vs:Nat→Value):Prop where
 defers:a'.defers=a.defers
 size:a'.tmps.size=a.tmps.size
 at_: ∀ t,t<a.tmps.size→a'.tmps[t]? =if t∈D then some (vs t) else a.tmps[t]?
theorem Same.refl (a:Act) (vs:Nat→Value):Same a a [] vs:=⟨rfl,rfl,fun t _=>by rw[if_neg (by simp)]⟩
theorem Same.eq {a1 a2 a:Act} {D E:List Nat} {vs:Nat→Value} (h1:Same a1 a D vs) (h2:Same a2 a E vs) (hDE: ∀ t,t∈D↔t∈E):a1=a2:=by
 obtain⟨t1,d1⟩:=a1
 obtain⟨t2,d2⟩:=a2
 have e1:d1=d2:=h1.defers.trans h2.defers.symm
 have e2:t1=t2:=by
  apply Array.ext_getElem?
  intro t
  rcases Nat.lt_or_ge t a.tmps.size with h|h
  ·have h3:=h1.at_ t h
   have h4:=h2.at_ t h
   refine h3.trans (Eq.trans ?_ h4.symm)
   by_cases hd:t∈D
   ·rw[if_pos hd,if_pos ((hDE t).1 hd)]
   ·rw[if_neg hd,if_neg (fun h=>hd ((hDE t).2 h))]
  ·have s1:t1.size≤t:=by have:=h1.size;exact Nat.le_trans (Nat.le_of_eq this) h
   have s2:t2.size≤t:=by have:=h2.size;exact Nat.le_trans (Nat.le_of_eq this) h
   rw[Array.getElem?_eq_none s1,Array.getElem?_eq_none s2]
 rw[e1,e2]
theorem Same.put {a' a:Act} {D:List Nat} {vs:Nat→Value} (h:Same a' a D vs) (N:Nat) (v:Value):Same (a'.put (some N) v) a (N::D) (fun t=>if t=N then v else vs t):=by
 refine⟨h.defers,by simp[Act.put,h.size],fun t ht=> ?_⟩
 show (a'.tmps.setIfInBounds N v)[t]? =_
 by_cases e:N=t
 ·subst e
  rw[Array.getElem?_setIfInBounds_self_of_lt (by rw[h.size];exact ht),if_pos (by simp),if_pos rfl]
 ·rw[Array.getElem?_setIfInBounds_ne e,h.at_ t ht]
  by_cases hD:t∈D
  ·rw[if_pos hD,if_pos (List.mem_cons_of_mem _ hD),if_neg (fun h=>e h.symm)]
  ·rw[if_neg hD,if_neg (by simp[hD,Ne.symm e])]
theorem Same.eval {a' a:Act} {D:List Nat} {vs:Nat→Value} (h:Same a' a D vs) {t:Nat} (ht:t ∉ D):a'.eval (.tmp t)=a.eval (.tmp t):=by
 have:a'.tmps[t]? =a.tmps[t]? :=by
  rcases Nat.lt_or_ge t a.tmps.size with hl|hl
  ·rw[h.at_ t hl,if_neg ht]
  ·rw[Array.getElem?_eq_none (by rw[h.size];exact hl),Array.getElem?_eq_none hl]
 simp only[Act.eval,Array.getD_eq_getD_getElem?,this]
theorem putAll_same (ms:List Mk) (a0:Act) (vs:Nat→Value): ∀ (a:Act) (D:List Nat),Same a a0 D vs→Same (putAll a (ms.map fun m=>(m.N,vs m.N))) a0 (ms.map Mk.N ++ D) vs:=by
 induction ms with
 |nil=>intro a D h;exact h
 |cons m ms ih=>
  intro a D h
  have h1:=h.put m.N (vs m.N)
  have h2:Same (a.put (some m.N) (vs m.N)) a0 (m.N::D) vs:=by
   have e:(fun t=>if t=m.N then vs m.N else vs t)=vs:=by funext t;split<;>simp_all
   rw[e] at h1
   exact h1
  have h3:=ih _ _ h2
  refine⟨h3.defers,h3.size,fun t ht=> ?_⟩
  rw[show putAll a ((m::ms).map fun m=>(m.N,vs m.N))=putAll (a.put (some m.N) (vs m.N)) (ms.map fun m=>(m.N,vs m.N)) from rfl,h3.at_ t ht]
  have this:(t∈ms.map Mk.N ++ m.N::D)↔(t∈(m::ms).map Mk.N ++ D):=by
   simp only[List.mem_append,List.mem_cons,List.map_cons]
   constructor
   ·rintro(h|h|h)
    ·exact .inl (.inr h)
    ·exact .inl (.inl h)
    ·exact .inr h
   ·rintro((h|h)|h)
    ·exact .inr (.inl h)
    ·exact .inl h
    ·exact .inr (.inr h)
  by_cases hd:t∈ms.map Mk.N ++ m.N::D
  ·rw[if_pos hd,if_pos (this.1 hd)]
  ·rw[if_neg hd,if_neg (fun h=>hd (this.2 h))]
theorem inj_nodup {ms:List Mk} (h:(ms.map Mk.N).Nodup): ∀ m,m∈ms→ ∀ m',m'∈ms→m.N=m'.N→m=m':=by
 induction ms with
 |nil=>intro m hm;cases hm
 |cons x ms ih=>
  rw[List.map_cons,List.nodup_cons] at h
  intro m hm m' hm' e
  rcases List.mem_cons.1 hm with h1|h1<;>rcases List.mem_cons.1 hm' with h2|h2
  ·rw[h1,h2]
  ·exact absurd (List.mem_map.2 ⟨m',h2,by rw[← e,h1]⟩) h.1
  ·exact absurd (List.mem_map.2 ⟨m,h1,by rw[e,h2]⟩) h.1
  ·exact ih h.2 m h1 m' h2 e
section
variable {P:Program} {ops:Array Oper} {Q:Exit→Act→World→Prop} {md:Region.Mode} {S:World→Prop} {ds:List Nat}
theorem makers_ {fuel:Nat} {l:Array Bool} {a:Act} {w:World} (n:Nat) (l':Array Bool) (bad:List Nat) (lb:Array Bool) (ms:List Mk) (hn:ms.length=n) (hnd:(ms.map Mk.N).Nodup) (hni:(ms.map Mk.i).Nodup)
  (hops: ∀ m,m∈ms→ ∃ oi,ops[m.i]? =some oi∧oi.dst=some m.N∧m.i ∉ ds∧ ∀ (a':Act) (w':World) (K:Act→World→Prop),(∀ t,t ∉ ms.map Mk.N→a'.eval (.tmp t)=a.eval (.tmp t))→S w'→Below w.heap.size w w'→
   (∀ v w'',S w''→Below w'.heap.size w' w''→m.G v w''→K (a'.put (some m.N) v) w'')→if Region.wanted oi (yielded ops a'.tmps)=true then Oper.wp P oi a' w' K Q else K (a'.put (some m.N) undef) w')
  (hstab: ∀ m,m∈ms→ ∀ v w1 w2,Below w1.heap.size w1 w2→m.G v w1→m.G v w2) (hc:allB md ops bad lb l' n l (ms.map Mk.i)=true) (hS:S w)
  (h: ∀ (vs:Nat→Value) (w':World),Below w.heap.size w w'→S w'→(∀ m,m∈ms→m.G (vs m.N) w')→wpAnyLast P md ops Q S ds fuel l' (putAll a (ms.map fun m=>(m.N,vs m.N))) w')
  (hbad: ∀ (vs:Nat→Value) (w':World),Below w.heap.size w w'→S w'→(∀ m,m∈ms→m.i ∉ bad→m.G (vs m.N) w')→wpAnyLast P md ops Q S ds (fuel+bad.length) lb (putAll a ((ms.filter fun m=> !bad.contains m.i).map fun m=>(m.N,vs m.N))) w'):
  wpAnyLast P md ops Q S ds (fuel+n) l a w:=by
 subst hn
 have hinj:=inj_nodup hnd
 have aux: ∀ (n:Nat) (rs:List Mk) (l:Array Bool) (a':Act) (w':World) (D:List Nat) (vs:Nat→Value),rs.length=n→(rs.map Mk.i).Nodup→(∀ m,m∈rs→m∈ms)→(∀ m,m∈rs→m.N ∉ D)→(∀ m,m∈ms→m∈rs∨m.N∈D)→(∀ t,t∈D→t∈ms.map Mk.N)→
   Same a' a D vs→(∀ m,m∈ms→m.N∈D→m.G (vs m.N) w')→Below w.heap.size w w'→S w'→allB md ops bad lb l' n l (rs.map Mk.i)=true→wpAnyLast P md ops Q S ds (fuel+n) l a' w':=by
  intro n
  induction n with
  |zero=>
   intro rs l a' w' D vs hn hnr hsub hout hcov hD hs hG hb hS hc
   have hr:rs=[]:=List.eq_nil_of_length_eq_zero hn
   subst hr
   unfold allB at hc
   simp only[List.map_nil,List.isEmpty_nil,Bool.true_and,beq_iff_eq] at hc
   subst hc
   have hall: ∀ m,m∈ms→m.N∈D:=fun m hm=>(hcov m hm).elim (fun h=>by cases h) id
   have e:=Same.eq hs (putAll_same ms a vs a [] (Same.refl a vs)) (fun t=>⟨fun ht=>by rw[List.append_nil];exact hD t ht,fun ht=>by
    rw[List.append_nil] at ht
    obtain⟨m,hm,rfl⟩:=List.mem_map.1 ht
    exact hall m hm⟩)
   rw[e]
   exact h vs w' hb hS (fun m hm=>hG m hm (hall m hm))
  |succ n ih=>
   intro rs l a' w' D vs hn hnr hsub hout hcov hD hs hG hb hS hc
   unfold allB at hc
   rw[Bool.or_eq_true] at hc
   rcases hc with hc|hc
   ·rw[Bool.and_eq_true,beq_iff_eq,beq_iff_eq] at hc
    obtain⟨hbd,hl⟩:=hc
    subst hl
    have hin: ∀ m,m∈ms→(m.i ∉ bad↔m.N∈D):=by
     intro m hm
     constructor
     ·intro hnb
      rcases hcov m hm with h1|h1
      ·exact absurd (hbd▸List.mem_map_of_mem h1) hnb
      ·exact h1
     ·intro hND hb2
      rw[← hbd] at hb2
      obtain⟨x,hx,e⟩:=List.mem_map.1 hb2
      obtain⟨o1,h1,h2,_⟩:=hops x (hsub x hx)
      obtain⟨o2,h3,h4,_⟩:=hops m hm
      rw[e,h3] at h1
      injection h1 with h1
      subst h1
      rw[h4] at h2
      injection h2 with h2
      exact hout x hx (h2▸hND)
    have e:=Same.eq hs (putAll_same (ms.filter fun m=> !bad.contains m.i) a vs a [] (Same.refl a vs)) (fun t=>by
     rw[List.append_nil]
     constructor
     ·intro ht
      obtain⟨m,hm,rfl⟩:=List.mem_map.1 (hD t ht)
      exact List.mem_map_of_mem (List.mem_filter.2 ⟨hm,by simpa using (hin m hm).2 ht⟩)
     ·intro ht
      obtain⟨m,hm,rfl⟩:=List.mem_map.1 ht
      obtain⟨h1,h2⟩:=List.mem_filter.1 hm
      exact(hin m h1).1 (by simpa using h2))
    have hlen:n+1=bad.length:=by rw[← hbd,List.length_map];exact hn.symm
    rw[e,hlen]
    exact hbad vs w' hb hS (fun m hm hnb=>hG m hm ((hin m hm).1 hnb))
   rw[Bool.and_eq_true,beq_iff_eq,List.all_eq_true] at hc
   obtain⟨hrdy,hnext⟩:=hc
   refine wpAnyLast_ready (rs:=rs.map Mk.i) hrdy (by intro e;have:=congrArg List.length e;rw[List.length_map] at this;simp at this;rw[this] at hn;simp at hn) ?_
   intro i hi
   obtain⟨m,hm,rfl⟩:=List.mem_map.1 hi
   obtain⟨oi,ho,hd,hnd',hop⟩:=hops m (hsub m hm)
   refine wpOp_step ho (fun K' hK=> ?_)
   rw[hd]
   refine hop a' w' K' (fun t ht=>hs.eval (fun h=>ht (hD t h))) hS hb (fun v w'' hS2 hb2 hg=> ?_)
   refine hK _ _ ⟨fun _ _=>hS2,?_⟩
   have hlen:(rs.eraseP (fun x=>x.i == m.i)).length=n:=by
    rw[List.length_eraseP_of_mem hm (by simp)]
    omega
   have hmap:(rs.map Mk.i).erase m.i=(rs.eraseP (fun x=>x.i == m.i)).map Mk.i:=by
    rw[List.erase_eq_eraseP',List.eraseP_map]
    rfl
   have hgone: ∀ x,x∈rs.eraseP (fun x=>x.i == m.i)→x.i≠m.i:=by
    intro x hx
    have h1:x.i∈(rs.map Mk.i).erase m.i:=by rw[hmap];exact List.mem_map_of_mem hx
    exact(hnr.mem_erase_iff.1 h1).1
   refine ih (rs.eraseP (fun x=>x.i == m.i)) (l.setIfInBounds m.i true) _ w'' (m.N::D) (fun t=>if t=m.N then v else vs t) hlen (by rw[← hmap];exact hnr.erase _) (fun x hx=>hsub x (List.mem_of_mem_eraseP hx)) ?_ ?_ ?_ (hs.put m.N v) ?_ (below_then hb hb.size hb2) hS2 ?_
   ·intro x hx hxD
    rcases List.mem_cons.1 hxD with h|h
    ·have:=hinj x (hsub x (List.mem_of_mem_eraseP hx)) m (hsub m hm) h
     exact hgone x hx (by rw[this])
    ·exact hout x (List.mem_of_mem_eraseP hx) h
   ·intro x hx
    by_cases e:x.i=m.i
    ·right
     obtain⟨ox,hox,hdx,_⟩:=hops x hx
     rw[e,ho] at hox
     injection hox with hox
     subst hox
     rw[hd] at hdx
     injection hdx with hdx
     rw[hdx]
     exact List.mem_cons_self
    ·rcases hcov x hx with h|h
     ·left
      exact(List.mem_eraseP_of_neg (by simpa using e)).2 h
     ·right
      exact List.mem_cons_of_mem _ h
   ·intro t ht
    rcases List.mem_cons.1 ht with rfl|ht
    ·exact List.mem_map_of_mem (hsub m hm)
    ·exact hD t ht
   ·intro x hx hxD
    by_cases e:x.N=m.N
    ·have hxm:=hinj x hx m (hsub m hm) e
     subst hxm
     show x.G (if x.N=x.N then v else vs x.N) w''
     rw[if_pos rfl]
     exact hg
    ·show x.G (if x.N=m.N then v else vs x.N) w''
     rw[if_neg e]
     refine hstab x hx _ w' w'' hb2 (hG x hx ?_)
     rcases List.mem_cons.1 hxD with h|h
     ·exact absurd h e
     ·exact h
   ·have:=hnext m.i (List.mem_map_of_mem hm)
    rw[hmap] at this
    exact this
 exact aux ms.length ms l a w [] (fun _=>undef) rfl hni (fun m hm=>hm) (fun m hm h=>by cases h) (fun m hm=> .inl hm) (fun t ht=>by cases ht) (Same.refl a _) (fun m _ h=>by cases h) (Below.refl _ _) hS hc
end
end Go.Proofs.Ytkcpanpdipmmmaa.H
namespace Go.Proofs.Ytkcpanpdipmmmaa.P
open Go.RowKit Go.Proofs.YtkcpanpdipmmmaaW.PrintWords Go.Proofs.YtkcpanpdipmmmaaW.PrintLast Go.Proofs.YtkcpanpdipmmmaaW.PrintMore
attribute [local go_sem] max2_int min2_int max_two min_two max_three min_three max_four min_four
def static_Flowing_To.f (a0_0:Int) (a0_1:Bool) (l0_2:List (S74)) (l0_3:List Int) (a1_0:Int) (a1_1:Bool):Option (Int):=(static_Flowing_From.f a0_0 a0_1 l0_2 l0_3 a1_0 (!a1_1)).bind fun t386=>(some t386)
set_option maxHeartbeats 8000000 in
set_option maxRecDepth 100000 in
theorem static_Flowing_To.calls (a0_0:Int) (a0_1:Bool) (A0_2:Option Addr) (c0_2:Nat) (l0_2:List (S74)) (A0_3:Option Addr) (c0_3:Nat) (l0_3:List Int) (a1_0:Int) (a1_1:Bool) (r:Int) (w:World) (hr0_2:Kd.C k74 w A0_2 l0_2.length l0_2) (hc0_2:l0_2.length≤c0_2) (hr0_3:Kd.C (Kd.int .i64) w A0_3 l0_3.length l0_3) (hc0_3:l0_3.length≤c0_3) (h:static_Flowing_To.f a0_0 a0_1 l0_2 l0_3 a1_0 a1_1=some r):
  Calls Try.prog 105 #[.agg #[.int .i64 a0_0, .bool a0_1, .slice A0_2 l0_2.length c0_2, .slice A0_3 l0_3.length c0_3], .agg #[.int .i64 a1_0, .bool a1_1]] w fun e w'=>e= .returned (.int .i64 r)∧Below w.heap.size w w':=by
 have hu115:=Try.underlying115
 have hu38:=Try.underlying38
 have HR0_2:=Aside0.mk hr0_2
 have HC0_2:=Aside0.mk hc0_2
 clear hr0_2 hc0_2
 have HR0_3:=Aside0.mk hr0_3
 have HC0_3:=Aside0.mk hc0_3
 clear hr0_3 hc0_3
 have HB:=Aside0.mk (Below.refl w.heap.size w)
 have H:((static_Flowing_From.f a0_0 a0_1 l0_2 l0_3 a1_0 (!a1_1)).bind fun t386=>(some t386))=some r:=h
 clear h
 replace H:=Option.bind_eq_some_iff.mp H
 obtain⟨t386,A30,H⟩:=H
 replace H:(some t386)=some r:=H
 have A3:=Aside0.mk A30
 clear A30
 obtain rfl:=Option.some.inj H
 go_enter Try.func105,Try.ntmps105
 go_wp2_with (first|((with_reducible refine gate_dst (N:=2) rfl ?_);refine box_event ?hg (N:=2) ?hd (cs:= #[.int .i64 a0_0, .bool a0_1, .slice A0_2 l0_2.length c0_2, .slice A0_3 l0_3.length c0_3]) (t:=115) ?hr ?_;(case hd=>rfl);(case hg=>rfl);(case hr=>first|(go_simp;done)|(go_simp;rfl));intro gb384 hg w4 hbox hb;have n0_:=Aside0.mk (below_step (by repeat(first|(with_reducible first|exact HB.out|apply below_alloc|apply pw_below_drewN|apply below_drew1)|exact HB.out)) hb);have n1_:=Aside0.mk (hbox);have n2_:=Aside0.mk ((by rw[hg];exact(below_size (by repeat(first|(with_reducible first|exact HB.out|apply below_alloc|apply pw_below_drewN|apply below_drew1)|exact HB.out))):w.heap.size≤gb384));have n3_:=Aside0.mk ((by rw[hg];exact(below_size (by repeat(first|(with_reducible first|exact HB.out|apply below_alloc|apply pw_below_drewN|apply below_drew1)|exact HB.out))):w.heap.size≤gb384));clear HB;have HB:=n0_;have BK384:=n1_;have GW384:=n2_;have GE384:=n3_;clear n0_ n1_ n2_ n3_;clear hb hbox hg)|((with_reducible refine gate_dst (N:=3) rfl ?_);refine box_event ?hg (N:=3) ?hd (cs:= #[.int .i64 a1_0, .bool a1_1]) (t:=38) ?hr ?_;(case hd=>rfl);(case hg=>rfl);(case hr=>first|(go_simp;done)|(go_simp;rfl));intro gb385 hg w5 hbox hb;have n0_:=Aside0.mk (blk_below (g:=gb384) (o:= .cells #[.int .i64 a0_0, .bool a0_1, .slice A0_2 l0_2.length c0_2, .slice A0_3 l0_3.length c0_3] 115 (0,0)) (by(with_reducible repeat(first|refine blk_drewN ?_ _|refine blk_drew ?_|refine blk_alloc ?_ _));exact BK384.out) hb);have n1_:=Aside0.mk (below_step (by repeat(first|(with_reducible first|exact HB.out|apply below_alloc|apply pw_below_drewN|apply below_drew1|refine below_set ?_ GE384.out)|exact HB.out)) hb);have n2_:=Aside0.mk (hbox);have n3_:=Aside0.mk ((by rw[hg];exact(below_size (by repeat(first|(with_reducible first|exact HB.out|apply below_alloc|apply pw_below_drewN|apply below_drew1|refine below_set ?_ GE384.out)|exact HB.out))):w.heap.size≤gb385));have n4_:=Aside0.mk ((by rw[hg];exact(below_size (by repeat(first|(with_reducible first|exact HB.out|apply below_alloc|apply pw_below_drewN|apply below_drew1|refine below_set ?_ GE384.out)|exact HB.out))):w.heap.size≤gb385));have n5_:=Aside0.mk ((by rw[hg];exact Nat.ne_of_lt (blk_lt (g:=gb384) (o:= .cells #[.int .i64 a0_0, .bool a0_1, .slice A0_2 l0_2.length c0_2, .slice A0_3 l0_3.length c0_3] 115 (0,0)) (by(with_reducible repeat(first|refine blk_drewN ?_ _|refine blk_drew ?_|refine blk_alloc ?_ _));exact BK384.out)):gb384≠gb385));have n6_:=Aside0.mk ((by rw[hg];exact Nat.ne_of_gt (blk_lt (g:=gb384) (o:= .cells #[.int .i64 a0_0, .bool a0_1, .slice A0_2 l0_2.length c0_2, .slice A0_3 l0_3.length c0_3] 115 (0,0)) (by(with_reducible repeat(first|refine blk_drewN ?_ _|refine blk_drew ?_|refine blk_alloc ?_ _));exact BK384.out)):gb385≠gb384));clear BK384;clear HB;have BK384:=n0_;have HB:=n1_;have BK385:=n2_;have GW385:=n3_;have GE385:=n4_;have NB384_385:=n5_;have NB385_384:=n6_;clear n0_ n1_ n2_ n3_ n4_ n5_ n6_;clear hb hbox hg;have hnb6:=NB385_384.out;have hnc6:=NB384_385.out;have hcz7_0:w5.cell? ⟨gb385,0,none⟩=some (.int .i64 a1_0):=(blk_cell BK385.out 0).trans rfl;have hcz7_1:w5.cell? ⟨gb385,1,none⟩=some (.bool a1_1):=(blk_cell BK385.out 1).trans rfl;have hfz7_0:=blk_frozen BK385.out 0;have hfz7_1:=blk_frozen BK385.out 1;have hcz8_0:w5.cell? ⟨gb384,0,none⟩=some (.int .i64 a0_0):=(blk_cell BK384.out 0).trans rfl;have hcz8_1:w5.cell? ⟨gb384,1,none⟩=some (.bool a0_1):=(blk_cell BK384.out 1).trans rfl;have hcz8_2:w5.cell? ⟨gb384,2,none⟩=some (.slice A0_2 l0_2.length c0_2):=(blk_cell BK384.out 2).trans rfl;have hcz8_3:w5.cell? ⟨gb384,3,none⟩=some (.slice A0_3 l0_3.length c0_3):=(blk_cell BK384.out 3).trans rfl;have hfz8_0:=blk_frozen BK384.out 0;have hfz8_1:=blk_frozen BK384.out 1;have hfz8_2:=blk_frozen BK384.out 2;have hfz8_3:=blk_frozen BK384.out 3)|((with_reducible refine gate_callee (f:=106) rfl ?_);refine goesL_ (some 11) rfl rfl Try.func106 (by kernel_rfl) rfl #[.agg #[.int .i64 a0_0, .bool a0_1, .slice A0_2 l0_2.length c0_2, .slice A0_3 l0_3.length c0_3], .agg #[.int .i64 a1_0, .bool (!a1_1)]] rfl (by(try simp only[List.map_toArray,List.map_cons,List.map_nil]);first|done|rfl|(simp only[List.length_drop,List.length_take];rfl)) ?_;(with_reducible refine(static_Flowing_From.calls a0_0 a0_1 _ _ l0_2 _ _ l0_3 a1_0 (!a1_1) t386 _ ?side1 ?side2 ?side3 ?side4 A3.out).mono ?_);(case side1=>exact Kd.C_below HR0_2.out (by repeat(first|(with_reducible first|exact HB.out|apply below_alloc|apply pw_below_drewN|apply below_drew1|refine below_set ?_ GE384.out|refine below_set ?_ GE385.out)|exact HB.out)));(case side2=>exact HC0_2.out);(case side3=>exact Kd.C_below HR0_3.out (by repeat(first|(with_reducible first|exact HB.out|apply below_alloc|apply pw_below_drewN|apply below_drew1|refine below_set ?_ GE384.out|refine below_set ?_ GE385.out)|exact HB.out)));(case side4=>exact HC0_3.out);rintro e w9 ⟨rfl,hb⟩;refine⟨_,rfl,?_⟩;have n0_:=Aside0.mk (blk_below (g:=gb384) (o:= .cells #[.int .i64 a0_0, .bool a0_1, .slice A0_2 l0_2.length c0_2, .slice A0_3 l0_3.length c0_3] 115 (0,0)) (by(with_reducible repeat(first|refine blk_drewN ?_ _|refine blk_drew ?_|refine blk_alloc ?_ _));refine blk_far ?_ NB384_385.out _;(with_reducible repeat(first|refine blk_drewN ?_ _|refine blk_drew ?_|refine blk_alloc ?_ _));exact BK384.out) hb);have n1_:=Aside0.mk (blk_below (g:=gb385) (o:= .cells #[.int .i64 a1_0, .bool (!a1_1)] 38 (0,0)) (by(with_reducible repeat(first|refine blk_drewN ?_ _|refine blk_drew ?_|refine blk_alloc ?_ _));refine blk_put (cs:= #[.int .i64 a1_0, .bool a1_1]) ?_ 1 _ rfl;(with_reducible repeat(first|refine blk_drewN ?_ _|refine blk_drew ?_|refine blk_alloc ?_ _));exact BK385.out) hb);have n2_:=Aside0.mk (below_step (by repeat(first|(with_reducible first|exact HB.out|apply below_alloc|apply pw_below_drewN|apply below_drew1|refine below_set ?_ GE384.out|refine below_set ?_ GE385.out)|exact HB.out)) hb);clear BK384;clear BK385;clear HB;have BK384:=n0_;have BK385:=n1_;have HB:=n2_;clear n0_ n1_ n2_;(try clear hb);(try clear hb2);(try clear hk);(try clear hi)))
 go_ret
 exact⟨by first|rfl|(simp[errW_none,errW_some]<;>rfl)|(simp[*,errW_none,errW_some]<;>rfl),by repeat(first|(with_reducible first|exact HB.out|apply below_alloc|apply pw_below_drewN|apply below_drew1|refine below_set ?_ GE384.out|refine below_set ?_ GE385.out)|exact HB.out)⟩
end Go.Proofs.Ytkcpanpdipmmmaa.P
