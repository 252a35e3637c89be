/- What the law's row needs of these texts, taken out of them by wip/tool/mini.py: P129 QOpen QCheckRef QMostLaw QAwake09 QLMaxflowParts. -/
import Derived.Test.YtkcpanpdipmmmaaMockagm
import Derived.Test.YtkcpanpdipmmmaaMhlpeom
import Derived.Test.YtkcpanpdipmmmaaVllglef
import Derived.Deep.Slices
import Derived.Deep.Fields
import Derived.ChangeSame
import Derived.ChangeArms
import Derived.OpenShut
import Derived.Test.YtkcpanpdipmmmaaMpjkfmi
import Derived.Test.YtkcpanpdipmmmaaMggjfik
import Derived.Test.YtkcpanpdipmmmaaMcmjngn
import Derived.Deep.RegionHeld3
import Derived.Deep.DeepCutAuto
import Derived.Laws.Bits128
set_option linter.unusedVariables false
set_option linter.unusedSimpArgs false
namespace Go.Proofs.Ytkcpanpdipmmmaa.P
open Go.RowKit Go.Proofs.YtkcpanpdipmmmaaW.PrintWords Go.Proofs.YtkcpanpdipmmmaaW.PrintLast Go.Proofs.YtkcpanpdipmmmaaW.PrintMore
attribute [local go_sem] max2_int min2_int max_two min_two max_three min_three max_four min_four
mutual
def ebbtidelaw09_MaxflowParts.l0:Nat→Int→Int→Int→Bool→List (S74)→Int→Int→Bool→List (S74)→Option (Bool)
 |0,_,_,_,_,_,_,_,_,_=>none
 |k+1,x1,x2,x3,x9,x10,x11,x1003000,x1003001,x1003002=>if x11<(x1003002.length:Int) then(ebbtidelaw09_MaxflowParts.j1 k x1 x2 x3 x9 x10 x11 (decide ((x1003002.length:Int)≤200)) x1003000 x1003001 x1003002) else(ebbtidelaw09_MaxflowParts.j1 k x1 x2 x3 x9 x10 x11 false x1003000 x1003001 x1003002)
def ebbtidelaw09_MaxflowParts.j1:Nat→Int→Int→Int→Bool→List (S74)→Int→Bool→Int→Bool→List (S74)→Option (Bool)
 |0,_,_,_,_,_,_,_,_,_,_=>none
 |k+1,x1,x2,x3,x9,x10,x11,x32,x1003000,x1003001,x1003002=>if x32=true then(if 0≤x11 then(if x11<(x1003002.length:Int) then(if ((rd_T74 x1003002 x11).f2)>1048576 then(some x9) else(if x10.length<4398046511104 then(ebbtidelaw09_MaxflowParts.l0 k x1 x2 x3 x9 (x10 ++ [(⟨(rd_T74 x1003002 x11).f0,(rd_T74 x1003002 x11).f1,wrap64 (((rd_T74 x1003002 x11).f2) * x3),(rd_T74 x1003002 x11).f3⟩:S74)]) (wrap64 (x11+1)) x1003000 x1003001 x1003002) else(none))) else(none)) else(none)) else((maxflow_Most.f k x1003000 x1003001 x1003002 x1 x2).bind fun bt1009=>((maxflow_Most.f k x1003000 x1003001 x10 x1 x2).bind fun bt1011=>(if x9=true then(if bt1009.2=0 then(if bt1011.2=0 then(some (bt1011.1 == (wrap64 (x3 * bt1009.1)))) else(some true)) else(some true)) else(some false))))
end
def ebbtidelaw09_MaxflowParts.f (k:Nat) (a0_0:Int) (a0_1:Bool) (l0_2:List (S74)) (a1:Int) (a2:Int) (a3:Int):Option (Bool):=(ebbtidelaw09_awake.f k).bind fun t1003=>(if t1003=true then(ebbtidelaw09_MaxflowParts.l0 k a1 a2 (Go.bits .and .i64 a3 7) t1003 ([]:List (S74)) 0 a0_0 a0_1 l0_2) else(some false))
set_option maxHeartbeats 8000000 in
set_option maxRecDepth 100000 in
theorem ebbtidelaw09_MaxflowParts.calls (k:Nat) (a0_0:Int) (a0_1:Bool) (A0_2:Option Addr) (c0_2:Nat) (l0_2:List (S74)) (a1:Int) (a2:Int) (a3:Int) (r:Bool) (w:World) (hr0_2:Kd.C k74 w A0_2 l0_2.length l0_2) (hc0_2:l0_2.length≤c0_2) (h:ebbtidelaw09_MaxflowParts.f k a0_0 a0_1 l0_2 a1 a2 a3=some r) (hrT_:r=true:=by first|rfl|exact Aside0.out (by assumption)):
  Calls Try.prog 23 #[.agg #[.int .i64 a0_0, .bool a0_1, .slice A0_2 l0_2.length c0_2], .int .i64 a1, .int .i64 a2, .int .i64 a3] w fun e w'=>e= .returned (.bool r)∧Below w.heap.size w w':=by
 have HRT:=Aside0.mk hrT_
 clear hrT_
 have hu24:=Try.underlying24
 have hu74:=Try.underlying74
 have HR0_2:=Aside0.mk hr0_2
 have HC0_2:=Aside0.mk hc0_2
 clear hr0_2 hc0_2
 have HB:=Aside0.mk (Below.refl w.heap.size w)
 have H:((ebbtidelaw09_awake.f k).bind fun t1003=>(if t1003=true then(ebbtidelaw09_MaxflowParts.l0 k a1 a2 (Go.bits .and .i64 a3 7) t1003 ([]:List (S74)) 0 a0_0 a0_1 l0_2) else(some false)))=some r:=h
 clear h
 replace H:=Option.bind_eq_some_iff.mp H
 obtain⟨t1003,A50,H⟩:=H
 replace H:(if t1003=true then(ebbtidelaw09_MaxflowParts.l0 k a1 a2 (Go.bits .and .i64 a3 7) t1003 ([]:List (S74)) 0 a0_0 a0_1 l0_2) else(some false))=some r:=H
 have A5:=Aside0.mk A50
 clear A50
 by_cases c6:t1003=true
 rotate_left
 ·replace c6:=Bool.eq_false_iff.mpr c6
  subst c6
  have H1:(some false)=some r:=by rw[if_neg (show ¬ (false=true) by decide)] at H;exact H
  exact absurd (Option.some.inj H1) (by rw[HRT.out];decide)
 subst c6
 have H1:(ebbtidelaw09_MaxflowParts.l0 k a1 a2 (Go.bits .and .i64 a3 7) true ([]:List (S74)) 0 a0_0 a0_1 l0_2)=some r:=by first|(rw[if_pos rfl] at H;exact H)|(rw[if_pos trivial] at H;exact H)
 clear H
 have H:=H1
 clear H1
 have H':=Aside0.mk H
 clear H
 go_enter Try.func23,Try.ntmps23
 go_wp2_with (first|((with_reducible refine gate_dst (N:=4) rfl ?_);(try (refine gate_guard (by rfl) ?_;dsimp only));refine box_event ?hg (N:=4) ?hd (cs:= #[.int .i64 a0_0, .bool a0_1, .slice A0_2 l0_2.length c0_2]) (t:=24) ?hr ?_;(case hd=>rfl);(case hg=>rfl);(case hr=>first|(go_simp;done)|(go_simp;rfl));intro gb1002 hg w7 hbox hb;have n0_:=Aside0.mk (below_step (by repeat(first|(with_reducible first|exact HB.out|apply below_alloc|apply pw_below_drewN|apply below_drew1)|exact HB.out)) hb);have n1_:=Aside0.mk (hbox);have n2_:=Aside0.mk ((by rw[hg];exact(below_size (by repeat(first|(with_reducible first|exact HB.out|apply below_alloc|apply pw_below_drewN|apply below_drew1)|exact HB.out))):w.heap.size≤gb1002));have n3_:=Aside0.mk ((by rw[hg];exact(below_size (by repeat(first|(with_reducible first|exact HB.out|apply below_alloc|apply pw_below_drewN|apply below_drew1)|exact HB.out))):w.heap.size≤gb1002));clear HB;have HB:=n0_;have BK1002:=n1_;have GW1002:=n2_;have GE1002:=n3_;clear n0_ n1_ n2_ n3_;clear hb hbox hg)|((with_reducible refine gate_callee (f:=75) rfl ?_);refine goesL_ (some 17) rfl rfl Try.func75 (by kernel_rfl) rfl #[] rfl (by(try simp only[List.map_toArray,List.map_cons,List.map_nil]);first|done|rfl|(simp only[List.length_drop,List.length_take];rfl)) ?_;(with_reducible refine(ebbtidelaw09_awake.calls k  true _ A5.out).mono ?_);rintro e w8 ⟨rfl,hb⟩;refine⟨_,rfl,?_⟩;have n0_:=Aside0.mk (blk_below (g:=gb1002) (o:= .cells #[.int .i64 a0_0, .bool a0_1, .slice A0_2 l0_2.length c0_2] 24 (0,0)) (by(with_reducible repeat(first|refine blk_drewN ?_ _|refine blk_drew ?_|refine blk_alloc ?_ _));exact BK1002.out) hb);have n1_:=Aside0.mk (below_step (by repeat(first|(with_reducible first|exact HB.out|apply below_alloc|apply pw_below_drewN|apply below_drew1|refine below_set ?_ GE1002.out)|exact HB.out)) hb);clear BK1002;clear HB;have BK1002:=n0_;have HB:=n1_;clear n0_ n1_;(try clear hb);(try clear hb2);(try clear hk);(try clear hi)))
 go_loopg [10,11] k (fun kq v10 v11 w'=> ∃ (x10_1:List (S74)) (x11_1:Int),v11= .int .i64 x11_1∧Aside0 (ebbtidelaw09_MaxflowParts.l0 kq a1 a2 (Go.bits .and .i64 a3 7) true x10_1 x11_1 a0_0 a0_1 l0_2=some r)∧Aside0 (kq≤k)∧Aside0 (Kd.R k74 74 w' w.heap.size (fun _=>True) v10 x10_1)∧Aside0 (w'.heap[gb1002]? =some (.cells #[.int .i64 a0_0, .bool a0_1,(.slice A0_2 l0_2.length c0_2)] 24 (0,0)))∧Aside0 (Below w.heap.size w w'))
 case atStart=>exact⟨(([]:List (S74))),(0),(by first|rfl|(simp;done)|(simp[*];done)),H',⟨Nat.le_refl _⟩,⟨by first|exact Kd.R_nil _ _ _ _ _|exact Kd.N_nil _ _ _ _ _|exact Kd.V_nil _ _ _ _ _|exact Kd.Q_nil _ _ _ _ _|exact Kd.S_nil _ _ _ _ _⟩,⟨by(with_reducible repeat(first|refine blk_drewN ?_ _|refine blk_drew ?_|refine blk_alloc ?_ _));exact BK1002.out⟩,⟨by repeat(first|(with_reducible first|exact HB.out|apply below_alloc|apply pw_below_drewN|apply below_drew1|refine below_set ?_ GE1002.out)|exact HB.out)⟩⟩
 case round=>
  clear H'
  try clear c2
  try clear p2
  try clear c6
  try clear c7
  obtain⟨x10_1,x11_1,rfl,HA,HK1,HO_10,BK1002,HB⟩:=hrel
  cases gk with
  |zero=>exact absurd HA.out (by simp[ebbtidelaw09_MaxflowParts.l0])
  |succ k1=>
   have H:=HA.out
   clear HA
   simp only[ebbtidelaw09_MaxflowParts.l0] at H
   have HC9:=Aside0.mk H
   clear H
   go_upto_region 7 with (fail)
   go_cut [32] (fun v32 wc=> ∃ (kq:Nat) (x32_8:Bool),v32= .bool x32_8∧Aside0 (ebbtidelaw09_MaxflowParts.j1 kq a1 a2 (Go.bits .and .i64 a3 7) true x10_1 x11_1 x32_8 a0_0 a0_1 l0_2=some r)∧Aside0 (kq≤k1)∧Aside0 (Kd.R k74 74 wc w.heap.size (fun _=>True) u10 x10_1)∧Aside0 (wc.heap[gb1002]? =some (.cells #[.int .i64 a0_0, .bool a0_1,(.slice A0_2 l0_2.length c0_2)] 24 (0,0)))∧Aside0 (Below w.heap.size w wc))
   case first=>
    have H:=HC9.out
    clear HC9
    by_cases c10:x11_1<(l0_2.length:Int)
    rotate_left
    ·rw[if_neg c10] at H
     have c10b0:decide (x11_1<(l0_2.length:Int))=false:=decide_eq_false c10
     clear c10
     (first|rw[c10b0]|(simp only[i64_w,i32_w];rw[c10b0])|skip)
     have H':=Aside0.mk H
     clear H
     have hcz12_0:wr.cell? ⟨gb1002,0,none⟩=some (.int .i64 a0_0):=(blk_cell BK1002.out 0).trans rfl
     have hcz12_1:wr.cell? ⟨gb1002,1,none⟩=some (.bool a0_1):=(blk_cell BK1002.out 1).trans rfl
     have hcz12_2:wr.cell? ⟨gb1002,2,none⟩=some (.slice A0_2 l0_2.length c0_2):=(blk_cell BK1002.out 2).trans rfl
     have hfz12_0:=blk_frozen BK1002.out 0
     have hfz12_1:=blk_frozen BK1002.out 1
     have hfz12_2:=blk_frozen BK1002.out 2
     go_wp2
     go_meet
     case rel=>exact⟨_,(false),(by first|rfl|(simp;done)|(simp[*];done)),H',⟨by have:=HK1.out;first|omega|exact Nat.le_refl _⟩,⟨by(with_reducible repeat(first|apply Kd.R_alloc|apply Kd.R_drewN|apply Kd.R_drew));exact HO_10.out⟩,⟨by(with_reducible repeat(first|refine blk_drewN ?_ _|refine blk_drew ?_|refine blk_alloc ?_ _));exact BK1002.out⟩,⟨by repeat(first|(with_reducible first|exact HB.out|apply below_alloc|apply pw_below_drewN|apply below_drew1|refine below_set ?_ GE1002.out)|exact HB.out)⟩⟩
    rw[if_pos c10] at H
    have c10b0:decide (x11_1<(l0_2.length:Int))=true:=decide_eq_true c10
    clear c10
    (first|rw[c10b0]|(simp only[i64_w,i32_w];rw[c10b0])|skip)
    have H':=Aside0.mk H
    clear H
    have hcz11_0:wr.cell? ⟨gb1002,0,none⟩=some (.int .i64 a0_0):=(blk_cell BK1002.out 0).trans rfl
    have hcz11_1:wr.cell? ⟨gb1002,1,none⟩=some (.bool a0_1):=(blk_cell BK1002.out 1).trans rfl
    have hcz11_2:wr.cell? ⟨gb1002,2,none⟩=some (.slice A0_2 l0_2.length c0_2):=(blk_cell BK1002.out 2).trans rfl
    have hfz11_0:=blk_frozen BK1002.out 0
    have hfz11_1:=blk_frozen BK1002.out 1
    have hfz11_2:=blk_frozen BK1002.out 2
    go_wp2
    go_meet
    case rel=>exact⟨_,(decide ((l0_2.length:Int)≤200)),(by first|rfl|(simp;done)|(simp[*];done)),H',⟨by have:=HK1.out;first|omega|exact Nat.le_refl _⟩,⟨by(with_reducible repeat(first|apply Kd.R_alloc|apply Kd.R_drewN|apply Kd.R_drew));exact HO_10.out⟩,⟨by(with_reducible repeat(first|refine blk_drewN ?_ _|refine blk_drew ?_|refine blk_alloc ?_ _));exact BK1002.out⟩,⟨by repeat(first|(with_reducible first|exact HB.out|apply below_alloc|apply pw_below_drewN|apply below_drew1|refine below_set ?_ GE1002.out)|exact HB.out)⟩⟩
   case rest=>
    clear HC9
    try clear c1
    try clear c2
    try clear p2
    try clear c6
    try clear c7
    try clear c10
    try clear c10b0
    try clear hcz11_0
    try clear hcz11_1
    try clear hcz11_2
    try clear hcz12_0
    try clear hcz12_1
    try clear hcz12_2
    try clear hfz11_0
    try clear hfz11_1
    try clear hfz11_2
    try clear hfz12_0
    try clear hfz12_1
    try clear hfz12_2
    try clear p2
    obtain⟨kq,x32_8,rfl,HA,HJ8,HO_10,BK1002,HB⟩:=hcut
    cases kq with
    |zero=>exact absurd HA.out (by simp[ebbtidelaw09_MaxflowParts.j1])
    |succ kj8=>
     have H:=HA.out
     clear HA
     simp only[ebbtidelaw09_MaxflowParts.j1] at H
     by_cases c13:x32_8=true
     rotate_left
     ·replace c13:=Bool.eq_false_iff.mpr c13
      subst c13
      have H1:((maxflow_Most.f kj8 a0_0 a0_1 l0_2 a1 a2).bind fun bt1009=>((maxflow_Most.f kj8 a0_0 a0_1 x10_1 a1 a2).bind fun bt1011=>(if true=true then(if bt1009.2=0 then(if bt1011.2=0 then(some (bt1011.1 == (wrap64 ((Go.bits .and .i64 a3 7) * bt1009.1)))) else(some true)) else(some true)) else(some false))))=some r:=by rw[if_neg (show ¬ (false=true) by decide)] at H;exact H
      clear H
      have H:=H1
      clear H1
      replace H:=Option.bind_eq_some_iff.mp H
      obtain⟨⟨t1009,t1010⟩,A270,H⟩:=H
      replace H:((maxflow_Most.f kj8 a0_0 a0_1 x10_1 a1 a2).bind fun bt1011=>(if true=true then(if t1010=0 then(if bt1011.2=0 then(some (bt1011.1 == (wrap64 ((Go.bits .and .i64 a3 7) * t1009)))) else(some true)) else(some true)) else(some false)))=some r:=H
      have A27:=Aside0.mk A270
      clear A270
      replace H:=Option.bind_eq_some_iff.mp H
      obtain⟨⟨t1011,t1012⟩,A280,H⟩:=H
      replace H:(if true=true then(if t1010=0 then(if t1012=0 then(some (t1011 == (wrap64 ((Go.bits .and .i64 a3 7) * t1009)))) else(some true)) else(some true)) else(some false))=some r:=H
      have A28:=Aside0.mk A280
      clear A280
      by_cases c29:true=true
      rotate_left
      ·exact absurd rfl c29
      clear c29
      have H1:(if t1010=0 then(if t1012=0 then(some (t1011 == (wrap64 ((Go.bits .and .i64 a3 7) * t1009)))) else(some true)) else(some true))=some r:=by first|(rw[if_pos rfl] at H;exact H)|(rw[if_pos trivial] at H;exact H)
      clear H
      have H:=H1
      clear H1
      by_cases c30:t1010=0
      rotate_left
      ·rw[if_neg c30] at H
       have c30b0:(t1010 == 0)=false:=beq_eq_false_iff_ne.mpr c30
       have c30b1:(t1010 != 0)=true:=bne_iff_ne.mpr c30
       obtain rfl:=Option.some.inj H
       have hcz42_0:wc.cell? ⟨gb1002,0,none⟩=some (.int .i64 a0_0):=(blk_cell BK1002.out 0).trans rfl
       have hcz42_1:wc.cell? ⟨gb1002,1,none⟩=some (.bool a0_1):=(blk_cell BK1002.out 1).trans rfl
       have hcz42_2:wc.cell? ⟨gb1002,2,none⟩=some (.slice A0_2 l0_2.length c0_2):=(blk_cell BK1002.out 2).trans rfl
       have hfz42_0:=blk_frozen BK1002.out 0
       have hfz42_1:=blk_frozen BK1002.out 1
       have hfz42_2:=blk_frozen BK1002.out 2
       go_wp2_with (first|((with_reducible refine gate_callee (f:=73) rfl ?_);refine goesL_ (some 57) rfl rfl Try.func73 (by kernel_rfl) rfl #[.agg #[.int .i64 a0_0, .bool a0_1, .slice A0_2 l0_2.length c0_2], .int .i64 a1, .int .i64 a2] rfl (by(try simp only[List.map_toArray,List.map_cons,List.map_nil]);first|done|rfl|(simp only[List.length_drop,List.length_take];rfl)) ?_;(with_reducible refine(maxflow_Most.calls kj8 a0_0 a0_1 _ _ l0_2 a1 a2 t1009 t1010 _ ?side1 ?side2 A27.out).mono ?_);(case side1=>repeat(first|exact(Kd.C_below HR0_2.out HB.out)|(with_reducible refine Kd.C_alloc ?_ _)|(with_reducible refine Kd.C_drewN ?_ _)|(with_reducible refine Kd.C_drew ?_)));(case side2=>exact HC0_2.out);rintro e w43 ⟨rfl,hb⟩;refine⟨_,rfl,?_⟩;have n0_:=Aside0.mk (Kd.R_below (by(with_reducible repeat(first|apply Kd.R_alloc|apply Kd.R_drewN|apply Kd.R_drew));exact HO_10.out) hb);have n1_:=Aside0.mk (blk_below (g:=gb1002) (o:= .cells #[.int .i64 a0_0, .bool a0_1, .slice A0_2 l0_2.length c0_2] 24 (0,0)) (by(with_reducible repeat(first|refine blk_drewN ?_ _|refine blk_drew ?_|refine blk_alloc ?_ _));exact BK1002.out) hb);have n2_:=Aside0.mk (below_step (by repeat(first|(with_reducible first|exact HB.out|apply below_alloc|apply pw_below_drewN|apply below_drew1|refine below_set ?_ GE1002.out)|exact HB.out)) hb);clear HO_10;clear BK1002;clear HB;have HO_10:=n0_;have BK1002:=n1_;have HB:=n2_;clear n0_ n1_ n2_;(try clear hb);(try clear hb2);(try clear hk);(try clear hi);obtain⟨Ao44,co44,eo44⟩:=Kd.R_slice HO_10.out;subst eo44;have hcz45_0:w43.cell? ⟨gb1002,0,none⟩=some (.int .i64 a0_0):=(blk_cell BK1002.out 0).trans rfl;have hcz45_1:w43.cell? ⟨gb1002,1,none⟩=some (.bool a0_1):=(blk_cell BK1002.out 1).trans rfl;have hcz45_2:w43.cell? ⟨gb1002,2,none⟩=some (.slice A0_2 l0_2.length c0_2):=(blk_cell BK1002.out 2).trans rfl;have hfz45_0:=blk_frozen BK1002.out 0;have hfz45_1:=blk_frozen BK1002.out 1;have hfz45_2:=blk_frozen BK1002.out 2)|((with_reducible refine gate_callee (f:=73) rfl ?_);refine goesL_ (some 66) rfl rfl Try.func73 (by kernel_rfl) rfl #[.agg #[.int .i64 a0_0, .bool a0_1, .slice Ao44 x10_1.length co44], .int .i64 a1, .int .i64 a2] rfl (by(try simp only[List.map_toArray,List.map_cons,List.map_nil]);first|done|rfl|(simp only[List.length_drop,List.length_take];rfl)) ?_;(with_reducible refine(maxflow_Most.calls kj8 a0_0 a0_1 _ _ x10_1 a1 a2 t1011 t1012 _ ?side1 ?side2 A28.out).mono ?_);(case side1=>refine(Kd.R_reads' (e:=74) (base:=w.heap.size) (ok:=fun k_=>True) (n:=x10_1.length) (c:=co44) ?_).2.2;exact(by(with_reducible repeat(first|apply Kd.R_alloc|apply Kd.R_drewN|apply Kd.R_drew));exact(Kd.R_mono (Kd.R_far (p:=⟨gb1002,2,none⟩) (Kd.R_types HO_10.out BK1002.out (by decide)) (fun _ hk=>hk.2) (.slice Ao44 x10_1.length co44)) (fun _ h_=>h_.1))));(case side2=>exact(Kd.R_reads' HO_10.out).2.1);rintro e w46 ⟨rfl,hb⟩;refine⟨_,rfl,?_⟩;have n0_:=Aside0.mk (Kd.R_below (by(with_reducible repeat(first|apply Kd.R_alloc|apply Kd.R_drewN|apply Kd.R_drew));exact(Kd.R_mono (Kd.R_far (p:=⟨gb1002,2,none⟩) (Kd.R_types HO_10.out BK1002.out (by decide)) (fun _ hk=>hk.2) (.slice Ao44 x10_1.length co44)) (fun _ h_=>h_.1))) hb);have n1_:=Aside0.mk (blk_below (g:=gb1002) (o:= .cells #[.int .i64 a0_0, .bool a0_1, .slice Ao44 x10_1.length co44] 24 (0,0)) (by(with_reducible repeat(first|refine blk_drewN ?_ _|refine blk_drew ?_|refine blk_alloc ?_ _));refine blk_put (cs:= #[.int .i64 a0_0, .bool a0_1, .slice A0_2 l0_2.length c0_2]) ?_ 2 _ rfl;(with_reducible repeat(first|refine blk_drewN ?_ _|refine blk_drew ?_|refine blk_alloc ?_ _));exact BK1002.out) hb);have n2_:=Aside0.mk (below_step (by repeat(first|(with_reducible first|exact HB.out|apply below_alloc|apply pw_below_drewN|apply below_drew1|refine below_set ?_ GE1002.out)|exact HB.out)) hb);clear HO_10;clear BK1002;clear HB;have HO_10:=n0_;have BK1002:=n1_;have HB:=n2_;clear n0_ n1_ n2_;(try clear hb);(try clear hb2);(try clear hk);(try clear hi)))
       go_ret
       exact⟨by first|rfl|(simp[errW_none,errW_some]<;>rfl)|(simp[*,errW_none,errW_some]<;>rfl),by repeat(first|(with_reducible first|exact HB.out|apply below_alloc|apply pw_below_drewN|apply below_drew1|refine below_set ?_ GE1002.out)|exact HB.out)⟩
      rw[if_pos c30] at H
      have c30b0:(t1010 == 0)=true:=beq_iff_eq.mpr c30
      have c30b1:(t1010 != 0)=false:=bne_eq_false_iff_eq.mpr c30
      clear c30
      by_cases c31:t1012=0
      rotate_left
      ·rw[if_neg c31] at H
       have c31b0:(t1012 == 0)=false:=beq_eq_false_iff_ne.mpr c31
       have c31b1:(t1012 != 0)=true:=bne_iff_ne.mpr c31
       obtain rfl:=Option.some.inj H
       have hcz37_0:wc.cell? ⟨gb1002,0,none⟩=some (.int .i64 a0_0):=(blk_cell BK1002.out 0).trans rfl
       have hcz37_1:wc.cell? ⟨gb1002,1,none⟩=some (.bool a0_1):=(blk_cell BK1002.out 1).trans rfl
       have hcz37_2:wc.cell? ⟨gb1002,2,none⟩=some (.slice A0_2 l0_2.length c0_2):=(blk_cell BK1002.out 2).trans rfl
       have hfz37_0:=blk_frozen BK1002.out 0
       have hfz37_1:=blk_frozen BK1002.out 1
       have hfz37_2:=blk_frozen BK1002.out 2
       go_wp2_with (first|((with_reducible refine gate_callee (f:=73) rfl ?_);refine goesL_ (some 57) rfl rfl Try.func73 (by kernel_rfl) rfl #[.agg #[.int .i64 a0_0, .bool a0_1, .slice A0_2 l0_2.length c0_2], .int .i64 a1, .int .i64 a2] rfl (by(try simp only[List.map_toArray,List.map_cons,List.map_nil]);first|done|rfl|(simp only[List.length_drop,List.length_take];rfl)) ?_;(with_reducible refine(maxflow_Most.calls kj8 a0_0 a0_1 _ _ l0_2 a1 a2 t1009 t1010 _ ?side1 ?side2 A27.out).mono ?_);(case side1=>repeat(first|exact(Kd.C_below HR0_2.out HB.out)|(with_reducible refine Kd.C_alloc ?_ _)|(with_reducible refine Kd.C_drewN ?_ _)|(with_reducible refine Kd.C_drew ?_)));(case side2=>exact HC0_2.out);rintro e w38 ⟨rfl,hb⟩;refine⟨_,rfl,?_⟩;have n0_:=Aside0.mk (Kd.R_below (by(with_reducible repeat(first|apply Kd.R_alloc|apply Kd.R_drewN|apply Kd.R_drew));exact HO_10.out) hb);have n1_:=Aside0.mk (blk_below (g:=gb1002) (o:= .cells #[.int .i64 a0_0, .bool a0_1, .slice A0_2 l0_2.length c0_2] 24 (0,0)) (by(with_reducible repeat(first|refine blk_drewN ?_ _|refine blk_drew ?_|refine blk_alloc ?_ _));exact BK1002.out) hb);have n2_:=Aside0.mk (below_step (by repeat(first|(with_reducible first|exact HB.out|apply below_alloc|apply pw_below_drewN|apply below_drew1|refine below_set ?_ GE1002.out)|exact HB.out)) hb);clear HO_10;clear BK1002;clear HB;have HO_10:=n0_;have BK1002:=n1_;have HB:=n2_;clear n0_ n1_ n2_;(try clear hb);(try clear hb2);(try clear hk);(try clear hi);obtain⟨Ao39,co39,eo39⟩:=Kd.R_slice HO_10.out;subst eo39;have hcz40_0:w38.cell? ⟨gb1002,0,none⟩=some (.int .i64 a0_0):=(blk_cell BK1002.out 0).trans rfl;have hcz40_1:w38.cell? ⟨gb1002,1,none⟩=some (.bool a0_1):=(blk_cell BK1002.out 1).trans rfl;have hcz40_2:w38.cell? ⟨gb1002,2,none⟩=some (.slice A0_2 l0_2.length c0_2):=(blk_cell BK1002.out 2).trans rfl;have hfz40_0:=blk_frozen BK1002.out 0;have hfz40_1:=blk_frozen BK1002.out 1;have hfz40_2:=blk_frozen BK1002.out 2)|((with_reducible refine gate_callee (f:=73) rfl ?_);refine goesL_ (some 66) rfl rfl Try.func73 (by kernel_rfl) rfl #[.agg #[.int .i64 a0_0, .bool a0_1, .slice Ao39 x10_1.length co39], .int .i64 a1, .int .i64 a2] rfl (by(try simp only[List.map_toArray,List.map_cons,List.map_nil]);first|done|rfl|(simp only[List.length_drop,List.length_take];rfl)) ?_;(with_reducible refine(maxflow_Most.calls kj8 a0_0 a0_1 _ _ x10_1 a1 a2 t1011 t1012 _ ?side1 ?side2 A28.out).mono ?_);(case side1=>refine(Kd.R_reads' (e:=74) (base:=w.heap.size) (ok:=fun k_=>True) (n:=x10_1.length) (c:=co39) ?_).2.2;exact(by(with_reducible repeat(first|apply Kd.R_alloc|apply Kd.R_drewN|apply Kd.R_drew));exact(Kd.R_mono (Kd.R_far (p:=⟨gb1002,2,none⟩) (Kd.R_types HO_10.out BK1002.out (by decide)) (fun _ hk=>hk.2) (.slice Ao39 x10_1.length co39)) (fun _ h_=>h_.1))));(case side2=>exact(Kd.R_reads' HO_10.out).2.1);rintro e w41 ⟨rfl,hb⟩;refine⟨_,rfl,?_⟩;have n0_:=Aside0.mk (Kd.R_below (by(with_reducible repeat(first|apply Kd.R_alloc|apply Kd.R_drewN|apply Kd.R_drew));exact(Kd.R_mono (Kd.R_far (p:=⟨gb1002,2,none⟩) (Kd.R_types HO_10.out BK1002.out (by decide)) (fun _ hk=>hk.2) (.slice Ao39 x10_1.length co39)) (fun _ h_=>h_.1))) hb);have n1_:=Aside0.mk (blk_below (g:=gb1002) (o:= .cells #[.int .i64 a0_0, .bool a0_1, .slice Ao39 x10_1.length co39] 24 (0,0)) (by(with_reducible repeat(first|refine blk_drewN ?_ _|refine blk_drew ?_|refine blk_alloc ?_ _));refine blk_put (cs:= #[.int .i64 a0_0, .bool a0_1, .slice A0_2 l0_2.length c0_2]) ?_ 2 _ rfl;(with_reducible repeat(first|refine blk_drewN ?_ _|refine blk_drew ?_|refine blk_alloc ?_ _));exact BK1002.out) hb);have n2_:=Aside0.mk (below_step (by repeat(first|(with_reducible first|exact HB.out|apply below_alloc|apply pw_below_drewN|apply below_drew1|refine below_set ?_ GE1002.out)|exact HB.out)) hb);clear HO_10;clear BK1002;clear HB;have HO_10:=n0_;have BK1002:=n1_;have HB:=n2_;clear n0_ n1_ n2_;(try clear hb);(try clear hb2);(try clear hk);(try clear hi)))
       go_ret
       exact⟨by first|rfl|(simp[errW_none,errW_some]<;>rfl)|(simp[*,errW_none,errW_some]<;>rfl),by repeat(first|(with_reducible first|exact HB.out|apply below_alloc|apply pw_below_drewN|apply below_drew1|refine below_set ?_ GE1002.out)|exact HB.out)⟩
      rw[if_pos c31] at H
      have c31b0:(t1012 == 0)=true:=beq_iff_eq.mpr c31
      have c31b1:(t1012 != 0)=false:=bne_eq_false_iff_eq.mpr c31
      clear c31
      obtain rfl:=Option.some.inj H
      have hcz32_0:wc.cell? ⟨gb1002,0,none⟩=some (.int .i64 a0_0):=(blk_cell BK1002.out 0).trans rfl
      have hcz32_1:wc.cell? ⟨gb1002,1,none⟩=some (.bool a0_1):=(blk_cell BK1002.out 1).trans rfl
      have hcz32_2:wc.cell? ⟨gb1002,2,none⟩=some (.slice A0_2 l0_2.length c0_2):=(blk_cell BK1002.out 2).trans rfl
      have hfz32_0:=blk_frozen BK1002.out 0
      have hfz32_1:=blk_frozen BK1002.out 1
      have hfz32_2:=blk_frozen BK1002.out 2
      go_wp2_with (first|((with_reducible refine gate_callee (f:=73) rfl ?_);refine goesL_ (some 57) rfl rfl Try.func73 (by kernel_rfl) rfl #[.agg #[.int .i64 a0_0, .bool a0_1, .slice A0_2 l0_2.length c0_2], .int .i64 a1, .int .i64 a2] rfl (by(try simp only[List.map_toArray,List.map_cons,List.map_nil]);first|done|rfl|(simp only[List.length_drop,List.length_take];rfl)) ?_;(with_reducible refine(maxflow_Most.calls kj8 a0_0 a0_1 _ _ l0_2 a1 a2 t1009 t1010 _ ?side1 ?side2 A27.out).mono ?_);(case side1=>repeat(first|exact(Kd.C_below HR0_2.out HB.out)|(with_reducible refine Kd.C_alloc ?_ _)|(with_reducible refine Kd.C_drewN ?_ _)|(with_reducible refine Kd.C_drew ?_)));(case side2=>exact HC0_2.out);rintro e w33 ⟨rfl,hb⟩;refine⟨_,rfl,?_⟩;have n0_:=Aside0.mk (Kd.R_below (by(with_reducible repeat(first|apply Kd.R_alloc|apply Kd.R_drewN|apply Kd.R_drew));exact HO_10.out) hb);have n1_:=Aside0.mk (blk_below (g:=gb1002) (o:= .cells #[.int .i64 a0_0, .bool a0_1, .slice A0_2 l0_2.length c0_2] 24 (0,0)) (by(with_reducible repeat(first|refine blk_drewN ?_ _|refine blk_drew ?_|refine blk_alloc ?_ _));exact BK1002.out) hb);have n2_:=Aside0.mk (below_step (by repeat(first|(with_reducible first|exact HB.out|apply below_alloc|apply pw_below_drewN|apply below_drew1|refine below_set ?_ GE1002.out)|exact HB.out)) hb);clear HO_10;clear BK1002;clear HB;have HO_10:=n0_;have BK1002:=n1_;have HB:=n2_;clear n0_ n1_ n2_;(try clear hb);(try clear hb2);(try clear hk);(try clear hi);obtain⟨Ao34,co34,eo34⟩:=Kd.R_slice HO_10.out;subst eo34;have hcz35_0:w33.cell? ⟨gb1002,0,none⟩=some (.int .i64 a0_0):=(blk_cell BK1002.out 0).trans rfl;have hcz35_1:w33.cell? ⟨gb1002,1,none⟩=some (.bool a0_1):=(blk_cell BK1002.out 1).trans rfl;have hcz35_2:w33.cell? ⟨gb1002,2,none⟩=some (.slice A0_2 l0_2.length c0_2):=(blk_cell BK1002.out 2).trans rfl;have hfz35_0:=blk_frozen BK1002.out 0;have hfz35_1:=blk_frozen BK1002.out 1;have hfz35_2:=blk_frozen BK1002.out 2)|((with_reducible refine gate_callee (f:=73) rfl ?_);refine goesL_ (some 66) rfl rfl Try.func73 (by kernel_rfl) rfl #[.agg #[.int .i64 a0_0, .bool a0_1, .slice Ao34 x10_1.length co34], .int .i64 a1, .int .i64 a2] rfl (by(try simp only[List.map_toArray,List.map_cons,List.map_nil]);first|done|rfl|(simp only[List.length_drop,List.length_take];rfl)) ?_;(with_reducible refine(maxflow_Most.calls kj8 a0_0 a0_1 _ _ x10_1 a1 a2 t1011 t1012 _ ?side1 ?side2 A28.out).mono ?_);(case side1=>refine(Kd.R_reads' (e:=74) (base:=w.heap.size) (ok:=fun k_=>True) (n:=x10_1.length) (c:=co34) ?_).2.2;exact(by(with_reducible repeat(first|apply Kd.R_alloc|apply Kd.R_drewN|apply Kd.R_drew));exact(Kd.R_mono (Kd.R_far (p:=⟨gb1002,2,none⟩) (Kd.R_types HO_10.out BK1002.out (by decide)) (fun _ hk=>hk.2) (.slice Ao34 x10_1.length co34)) (fun _ h_=>h_.1))));(case side2=>exact(Kd.R_reads' HO_10.out).2.1);rintro e w36 ⟨rfl,hb⟩;refine⟨_,rfl,?_⟩;have n0_:=Aside0.mk (Kd.R_below (by(with_reducible repeat(first|apply Kd.R_alloc|apply Kd.R_drewN|apply Kd.R_drew));exact(Kd.R_mono (Kd.R_far (p:=⟨gb1002,2,none⟩) (Kd.R_types HO_10.out BK1002.out (by decide)) (fun _ hk=>hk.2) (.slice Ao34 x10_1.length co34)) (fun _ h_=>h_.1))) hb);have n1_:=Aside0.mk (blk_below (g:=gb1002) (o:= .cells #[.int .i64 a0_0, .bool a0_1, .slice Ao34 x10_1.length co34] 24 (0,0)) (by(with_reducible repeat(first|refine blk_drewN ?_ _|refine blk_drew ?_|refine blk_alloc ?_ _));refine blk_put (cs:= #[.int .i64 a0_0, .bool a0_1, .slice A0_2 l0_2.length c0_2]) ?_ 2 _ rfl;(with_reducible repeat(first|refine blk_drewN ?_ _|refine blk_drew ?_|refine blk_alloc ?_ _));exact BK1002.out) hb);have n2_:=Aside0.mk (below_step (by repeat(first|(with_reducible first|exact HB.out|apply below_alloc|apply pw_below_drewN|apply below_drew1|refine below_set ?_ GE1002.out)|exact HB.out)) hb);clear HO_10;clear BK1002;clear HB;have HO_10:=n0_;have BK1002:=n1_;have HB:=n2_;clear n0_ n1_ n2_;(try clear hb);(try clear hb2);(try clear hk);(try clear hi)))
      go_ret
      exact⟨by first|rfl|(simp[errW_none,errW_some]<;>rfl)|(simp[*,errW_none,errW_some]<;>rfl),by repeat(first|(with_reducible first|exact HB.out|apply below_alloc|apply pw_below_drewN|apply below_drew1|refine below_set ?_ GE1002.out)|exact HB.out)⟩
     subst c13
     have H1:(if 0≤x11_1 then(if x11_1<(l0_2.length:Int) then(if ((rd_T74 l0_2 x11_1).f2)>1048576 then(some true) else(if x10_1.length<4398046511104 then(ebbtidelaw09_MaxflowParts.l0 kj8 a1 a2 (Go.bits .and .i64 a3 7) true (x10_1 ++ [(⟨(rd_T74 l0_2 x11_1).f0,(rd_T74 l0_2 x11_1).f1,wrap64 (((rd_T74 l0_2 x11_1).f2) * (Go.bits .and .i64 a3 7)),(rd_T74 l0_2 x11_1).f3⟩:S74)]) (wrap64 (x11_1+1)) a0_0 a0_1 l0_2) else(none))) else(none)) else(none))=some r:=by first|(rw[if_pos rfl] at H;exact H)|(rw[if_pos trivial] at H;exact H)
     clear H
     have H:=H1
     clear H1
     by_cases c14:0≤x11_1
     rotate_left
     ·rw[if_neg c14] at H
      exact absurd H (by simp)
     rw[if_pos c14] at H
     have c14b0:decide (0≤x11_1)=true:=decide_eq_true c14
     clear c14
     by_cases c15:x11_1<(l0_2.length:Int)
     rotate_left
     ·rw[if_neg c15] at H
      exact absurd H (by simp)
     rw[if_pos c15] at H
     have c15b0:decide (x11_1<(l0_2.length:Int))=true:=decide_eq_true c15
     clear c15
     by_cases c16:((rd_T74 l0_2 x11_1).f2)>1048576
     ·rw[if_pos c16] at H
      have c16b0:decide (1048576<((rd_T74 l0_2 x11_1).f2))=true:=decide_eq_true c16
      clear c16
      obtain rfl:=Option.some.inj H
      have hcz17_0:wc.cell? ⟨gb1002,0,none⟩=some (.int .i64 a0_0):=(blk_cell BK1002.out 0).trans rfl
      have hcz17_1:wc.cell? ⟨gb1002,1,none⟩=some (.bool a0_1):=(blk_cell BK1002.out 1).trans rfl
      have hcz17_2:wc.cell? ⟨gb1002,2,none⟩=some (.slice A0_2 l0_2.length c0_2):=(blk_cell BK1002.out 2).trans rfl
      have hfz17_0:=blk_frozen BK1002.out 0
      have hfz17_1:=blk_frozen BK1002.out 1
      have hfz17_2:=blk_frozen BK1002.out 2
      have p1004:0≤(x11_1:Int):=of_decide_eq_true (by first|(with_reducible assumption)|assumption)
      have q1004:x11_1<(l0_2.length:Int):=of_decide_eq_true (by first|(with_reducible assumption)|assumption)
      obtain⟨ad1004,e1004,hx1004_0,hx1004_1,hx1004_2,hx1004_3⟩:=at_T74 HR0_2.out x11_1 p1004 q1004
      cases e1004
      replace hx1004_0:=(HB.out.cell (World.block_lt_of_cell? w _ hx1004_0)).trans hx1004_0
      replace hx1004_1:=(HB.out.cell (World.block_lt_of_cell? w _ hx1004_1)).trans hx1004_1
      replace hx1004_2:=(HB.out.cell (World.block_lt_of_cell? w _ hx1004_2)).trans hx1004_2
      replace hx1004_3:=(HB.out.cell (World.block_lt_of_cell? w _ hx1004_3)).trans hx1004_3
      replace p1004:=eq_true p1004
      replace q1004:=eq_true q1004
      go_wp2_with (first|((with_reducible refine gate_dst (N:=12) rfl ?_);(try (refine gate_guard (by rfl) ?_;dsimp only));refine box_event ?hg (N:=12) ?hd (cs:= #[.int .i64 0, .int .i64 0, .int .i64 0, .int .i64 0]) (t:=74) ?hr ?_;(case hd=>rfl);(case hg=>rfl);(case hr=>first|(go_simp;done)|(go_simp;rfl));intro gb1005 hg w18 hbox hb;have n0_:=Aside0.mk (Kd.R_below (Kd.R_elderB (by(with_reducible repeat(first|apply Kd.R_alloc|apply Kd.R_drewN|apply Kd.R_drew));exact HO_10.out) gb1005 (Nat.le_of_eq hg.symm)) hb);have n1_:=Aside0.mk (blk_below (g:=gb1002) (o:= .cells #[.int .i64 a0_0, .bool a0_1, .slice (some ad1004) l0_2.length c0_2] 24 (0,0)) (by(with_reducible repeat(first|refine blk_drewN ?_ _|refine blk_drew ?_|refine blk_alloc ?_ _));exact BK1002.out) hb);have n2_:=Aside0.mk (below_step (by repeat(first|(with_reducible first|exact HB.out|apply below_alloc|apply pw_below_drewN|apply below_drew1|refine below_set ?_ GE1002.out)|exact HB.out)) hb);have n3_:=Aside0.mk (hbox);have n4_:=Aside0.mk ((by rw[hg];exact(below_size (by repeat(first|(with_reducible first|exact HB.out|apply below_alloc|apply pw_below_drewN|apply below_drew1|refine below_set ?_ GE1002.out)|exact HB.out))):w.heap.size≤gb1005));have n5_:=Aside0.mk ((by rw[hg];exact(below_size (by repeat(first|(with_reducible first|exact HB.out|apply below_alloc|apply pw_below_drewN|apply below_drew1|refine below_set ?_ GE1002.out)|exact HB.out))):w.heap.size≤gb1005));have n6_:=Aside0.mk ((by rw[hg];exact Nat.ne_of_lt (blk_lt (g:=gb1002) (o:= .cells #[.int .i64 a0_0, .bool a0_1, .slice (some ad1004) l0_2.length c0_2] 24 (0,0)) (by(with_reducible repeat(first|refine blk_drewN ?_ _|refine blk_drew ?_|refine blk_alloc ?_ _));exact BK1002.out)):gb1002≠gb1005));have n7_:=Aside0.mk ((by rw[hg];exact Nat.ne_of_gt (blk_lt (g:=gb1002) (o:= .cells #[.int .i64 a0_0, .bool a0_1, .slice (some ad1004) l0_2.length c0_2] 24 (0,0)) (by(with_reducible repeat(first|refine blk_drewN ?_ _|refine blk_drew ?_|refine blk_alloc ?_ _));exact BK1002.out)):gb1005≠gb1002));clear HO_10;clear BK1002;clear HB;have HO_10:=n0_;have BK1002:=n1_;have HB:=n2_;have BK1005:=n3_;have GW1005:=n4_;have GE1005:=n5_;have NB1002_1005:=n6_;have NB1005_1002:=n7_;clear n0_ n1_ n2_ n3_ n4_ n5_ n6_ n7_;clear hb hbox hg;have hnb19:=NB1005_1002.out;have hnc19:=NB1002_1005.out;have hcz20_0:w18.cell? ⟨gb1005,0,none⟩=some (.int .i64 0):=(blk_cell BK1005.out 0).trans rfl;have hcz20_1:w18.cell? ⟨gb1005,1,none⟩=some (.int .i64 0):=(blk_cell BK1005.out 1).trans rfl;have hcz20_2:w18.cell? ⟨gb1005,2,none⟩=some (.int .i64 0):=(blk_cell BK1005.out 2).trans rfl;have hcz20_3:w18.cell? ⟨gb1005,3,none⟩=some (.int .i64 0):=(blk_cell BK1005.out 3).trans rfl;have hfz20_0:=blk_frozen BK1005.out 0;have hfz20_1:=blk_frozen BK1005.out 1;have hfz20_2:=blk_frozen BK1005.out 2;have hfz20_3:=blk_frozen BK1005.out 3))
      go_ret
      exact⟨by first|rfl|(simp[errW_none,errW_some]<;>rfl)|(simp[*,errW_none,errW_some]<;>rfl),by repeat(first|(with_reducible first|exact HB.out|apply below_alloc|apply pw_below_drewN|apply below_drew1|refine below_set ?_ GE1002.out|refine below_set ?_ GE1005.out)|exact HB.out)⟩
     rw[if_neg c16] at H
     have c16b0:decide (1048576<((rd_T74 l0_2 x11_1).f2))=false:=decide_eq_false c16
     clear c16
     by_cases c21:x10_1.length<4398046511104
     rotate_left
     ·rw[if_neg c21] at H
      exact absurd H (by simp)
     rw[if_pos c21] at H
     have LMc21:=Aside0.mk c21
     clear c21
     obtain⟨y1006,hy1006⟩: ∃ y_:List (S74),y_=(x10_1 ++ [(⟨(rd_T74 l0_2 x11_1).f0,(rd_T74 l0_2 x11_1).f1,wrap64 (((rd_T74 l0_2 x11_1).f2) * (Go.bits .and .i64 a3 7)),(rd_T74 l0_2 x11_1).f3⟩:S74)]):=⟨_,rfl⟩
     replace H:(ebbtidelaw09_MaxflowParts.l0 kj8 a1 a2 (Go.bits .and .i64 a3 7) true y1006 (wrap64 (x11_1+1)) a0_0 a0_1 l0_2)=some r:=by first|(rw[hy1006];with_reducible exact H)|(have H2_:=(Option.bind_some _ _).symm.trans H;rw[hy1006];with_reducible exact H2_)|(have H2_:=(Option.bind_some _ _).symm.trans H;with_reducible exact H2_)|with_reducible exact H|(rw[hy1006];exact H)|exact H
     have Ny1006:=Aside0.mk hy1006
     clear hy1006
     have H':=Aside0.mk H
     clear H
     have hcz22_0:wc.cell? ⟨gb1002,0,none⟩=some (.int .i64 a0_0):=(blk_cell BK1002.out 0).trans rfl
     have hcz22_1:wc.cell? ⟨gb1002,1,none⟩=some (.bool a0_1):=(blk_cell BK1002.out 1).trans rfl
     have hcz22_2:wc.cell? ⟨gb1002,2,none⟩=some (.slice A0_2 l0_2.length c0_2):=(blk_cell BK1002.out 2).trans rfl
     have hfz22_0:=blk_frozen BK1002.out 0
     have hfz22_1:=blk_frozen BK1002.out 1
     have hfz22_2:=blk_frozen BK1002.out 2
     have p1004:0≤(x11_1:Int):=of_decide_eq_true (by first|(with_reducible assumption)|assumption)
     have q1004:x11_1<(l0_2.length:Int):=of_decide_eq_true (by first|(with_reducible assumption)|assumption)
     obtain⟨ad1004,e1004,hx1004_0,hx1004_1,hx1004_2,hx1004_3⟩:=at_T74 HR0_2.out x11_1 p1004 q1004
     cases e1004
     replace hx1004_0:=(HB.out.cell (World.block_lt_of_cell? w _ hx1004_0)).trans hx1004_0
     replace hx1004_1:=(HB.out.cell (World.block_lt_of_cell? w _ hx1004_1)).trans hx1004_1
     replace hx1004_2:=(HB.out.cell (World.block_lt_of_cell? w _ hx1004_2)).trans hx1004_2
     replace hx1004_3:=(HB.out.cell (World.block_lt_of_cell? w _ hx1004_3)).trans hx1004_3
     replace p1004:=eq_true p1004
     replace q1004:=eq_true q1004
     go_upto_region 10 with (first|((with_reducible refine gate_dst (N:=12) rfl ?_);(try (refine gate_guard (by rfl) ?_;dsimp only));refine box_event ?hg (N:=12) ?hd (cs:= #[.int .i64 0, .int .i64 0, .int .i64 0, .int .i64 0]) (t:=74) ?hr ?_;(case hd=>rfl);(case hg=>rfl);(case hr=>first|(go_simp;done)|(go_simp;rfl));intro gb1005 hg w23 hbox hb;have n0_:=Aside0.mk (Kd.R_below (Kd.R_elderB (by(with_reducible repeat(first|apply Kd.R_alloc|apply Kd.R_drewN|apply Kd.R_drew));exact HO_10.out) gb1005 (Nat.le_of_eq hg.symm)) hb);have n1_:=Aside0.mk (blk_below (g:=gb1002) (o:= .cells #[.int .i64 a0_0, .bool a0_1, .slice (some ad1004) l0_2.length c0_2] 24 (0,0)) (by(with_reducible repeat(first|refine blk_drewN ?_ _|refine blk_drew ?_|refine blk_alloc ?_ _));exact BK1002.out) hb);have n2_:=Aside0.mk (below_step (by repeat(first|(with_reducible first|exact HB.out|apply below_alloc|apply pw_below_drewN|apply below_drew1|refine below_set ?_ GE1002.out)|exact HB.out)) hb);have n3_:=Aside0.mk (hbox);have n4_:=Aside0.mk ((by rw[hg];exact(below_size (by repeat(first|(with_reducible first|exact HB.out|apply below_alloc|apply pw_below_drewN|apply below_drew1|refine below_set ?_ GE1002.out)|exact HB.out))):w.heap.size≤gb1005));have n5_:=Aside0.mk ((by rw[hg];exact(below_size (by repeat(first|(with_reducible first|exact HB.out|apply below_alloc|apply pw_below_drewN|apply below_drew1|refine below_set ?_ GE1002.out)|exact HB.out))):w.heap.size≤gb1005));have n6_:=Aside0.mk ((by rw[hg];exact Nat.ne_of_lt (blk_lt (g:=gb1002) (o:= .cells #[.int .i64 a0_0, .bool a0_1, .slice (some ad1004) l0_2.length c0_2] 24 (0,0)) (by(with_reducible repeat(first|refine blk_drewN ?_ _|refine blk_drew ?_|refine blk_alloc ?_ _));exact BK1002.out)):gb1002≠gb1005));have n7_:=Aside0.mk ((by rw[hg];exact Nat.ne_of_gt (blk_lt (g:=gb1002) (o:= .cells #[.int .i64 a0_0, .bool a0_1, .slice (some ad1004) l0_2.length c0_2] 24 (0,0)) (by(with_reducible repeat(first|refine blk_drewN ?_ _|refine blk_drew ?_|refine blk_alloc ?_ _));exact BK1002.out)):gb1005≠gb1002));clear HO_10;clear BK1002;clear HB;have HO_10:=n0_;have BK1002:=n1_;have HB:=n2_;have BK1005:=n3_;have GW1005:=n4_;have GE1005:=n5_;have NB1002_1005:=n6_;have NB1005_1002:=n7_;clear n0_ n1_ n2_ n3_ n4_ n5_ n6_ n7_;clear hb hbox hg;have hnb24:=NB1005_1002.out;have hnc24:=NB1002_1005.out;have hcz25_0:w23.cell? ⟨gb1005,0,none⟩=some (.int .i64 0):=(blk_cell BK1005.out 0).trans rfl;have hcz25_1:w23.cell? ⟨gb1005,1,none⟩=some (.int .i64 0):=(blk_cell BK1005.out 1).trans rfl;have hcz25_2:w23.cell? ⟨gb1005,2,none⟩=some (.int .i64 0):=(blk_cell BK1005.out 2).trans rfl;have hcz25_3:w23.cell? ⟨gb1005,3,none⟩=some (.int .i64 0):=(blk_cell BK1005.out 3).trans rfl;have hfz25_0:=blk_frozen BK1005.out 0;have hfz25_1:=blk_frozen BK1005.out 1;have hfz25_2:=blk_frozen BK1005.out 2;have hfz25_3:=blk_frozen BK1005.out 3)|fail)
     have z0_:=Aside0.mk (Kd.R_far (p:=⟨gb1005,3,none⟩) (Kd.R_far (p:=⟨gb1005,2,none⟩) (Kd.R_far (p:=⟨gb1005,1,none⟩) (Kd.R_far (p:=⟨gb1005,0,none⟩) (Kd.R_mono HO_10.out (fun k_ hk=>(⟨hk,hk.2⟩:_∧k_≠gb1005))) (fun _ hk=>hk.2) (.int .i64 ((rd_T74 l0_2 x11_1).f0))) (fun _ hk=>hk.2) (.int .i64 ((rd_T74 l0_2 x11_1).f1))) (fun _ hk=>hk.2) (.int .i64 ((rd_T74 l0_2 x11_1).f2))) (fun _ hk=>hk.2) (.int .i64 ((rd_T74 l0_2 x11_1).f3)))
     have z1_:=Aside0.mk (blk_far (p:=⟨gb1005,3,none⟩) (blk_far (p:=⟨gb1005,2,none⟩) (blk_far (p:=⟨gb1005,1,none⟩) (blk_far (p:=⟨gb1005,0,none⟩) (BK1002.out) NB1002_1005.out (.int .i64 ((rd_T74 l0_2 x11_1).f0))) NB1002_1005.out (.int .i64 ((rd_T74 l0_2 x11_1).f1))) NB1002_1005.out (.int .i64 ((rd_T74 l0_2 x11_1).f2))) NB1002_1005.out (.int .i64 ((rd_T74 l0_2 x11_1).f3)))
     have z2_:Aside0 (((((w23.setCell ⟨gb1005,0,none⟩ (.int .i64 ((rd_T74 l0_2 x11_1).f0))).setCell ⟨gb1005,1,none⟩ (.int .i64 ((rd_T74 l0_2 x11_1).f1))).setCell ⟨gb1005,2,none⟩ (.int .i64 ((rd_T74 l0_2 x11_1).f2))).setCell ⟨gb1005,3,none⟩ (.int .i64 ((rd_T74 l0_2 x11_1).f3))).heap[gb1005]? =some (.cells #[.int .i64 ((rd_T74 l0_2 x11_1).f0), .int .i64 ((rd_T74 l0_2 x11_1).f1), .int .i64 ((rd_T74 l0_2 x11_1).f2), .int .i64 ((rd_T74 l0_2 x11_1).f3)] 74 (0,0))):=⟨blk_put (cs:= #[.int .i64 ((rd_T74 l0_2 x11_1).f0), .int .i64 ((rd_T74 l0_2 x11_1).f1), .int .i64 ((rd_T74 l0_2 x11_1).f2), .int .i64 0]) (blk_put (cs:= #[.int .i64 ((rd_T74 l0_2 x11_1).f0), .int .i64 ((rd_T74 l0_2 x11_1).f1), .int .i64 0, .int .i64 0]) (blk_put (cs:= #[.int .i64 ((rd_T74 l0_2 x11_1).f0), .int .i64 0, .int .i64 0, .int .i64 0]) (blk_put (cs:= #[.int .i64 0, .int .i64 0, .int .i64 0, .int .i64 0]) (BK1005.out) 0 _ rfl) 1 _ rfl) 2 _ rfl) 3 _ rfl⟩
     have z3_:Aside0 (Below w.heap.size w ((((w23.setCell ⟨gb1005,0,none⟩ (.int .i64 ((rd_T74 l0_2 x11_1).f0))).setCell ⟨gb1005,1,none⟩ (.int .i64 ((rd_T74 l0_2 x11_1).f1))).setCell ⟨gb1005,2,none⟩ (.int .i64 ((rd_T74 l0_2 x11_1).f2))).setCell ⟨gb1005,3,none⟩ (.int .i64 ((rd_T74 l0_2 x11_1).f3)))):=⟨below_set (below_set (below_set (below_set (HB.out) GW1005.out) GW1005.out) GW1005.out) GW1005.out⟩
     clear HO_10 BK1002 BK1005 HB
     try clear hcz22_0
     try clear hcz22_1
     try clear hcz22_2
     try clear hcz25_0
     try clear hcz25_1
     try clear hcz25_2
     try clear hcz25_3
     try clear hfz22_0
     try clear hfz22_1
     try clear hfz22_2
     try clear hfz25_0
     try clear hfz25_1
     try clear hfz25_2
     try clear hfz25_3
     try clear hx1004_0
     try clear hx1004_1
     try clear hx1004_2
     try clear hx1004_3
     generalize ((((w23.setCell ⟨gb1005,0,none⟩ (.int .i64 ((rd_T74 l0_2 x11_1).f0))).setCell ⟨gb1005,1,none⟩ (.int .i64 ((rd_T74 l0_2 x11_1).f1))).setCell ⟨gb1005,2,none⟩ (.int .i64 ((rd_T74 l0_2 x11_1).f2))).setCell ⟨gb1005,3,none⟩ (.int .i64 ((rd_T74 l0_2 x11_1).f3)))=wz at *
     have HO_10:=z0_
     have BK1002:=z1_
     have BK1005:=z2_
     have HB:=z3_
     clear z0_ z1_ z2_ z3_
     have hczz_0:wz.cell? ⟨gb1005,0,none⟩=some (.int .i64 ((rd_T74 l0_2 x11_1).f0)):=(blk_cell BK1005.out 0).trans rfl
     have hczz_1:wz.cell? ⟨gb1005,1,none⟩=some (.int .i64 ((rd_T74 l0_2 x11_1).f1)):=(blk_cell BK1005.out 1).trans rfl
     have hczz_2:wz.cell? ⟨gb1005,2,none⟩=some (.int .i64 ((rd_T74 l0_2 x11_1).f2)):=(blk_cell BK1005.out 2).trans rfl
     have hczz_3:wz.cell? ⟨gb1005,3,none⟩=some (.int .i64 ((rd_T74 l0_2 x11_1).f3)):=(blk_cell BK1005.out 3).trans rfl
     have hfzz_0:=blk_frozen BK1005.out 0
     have hfzz_1:=blk_frozen BK1005.out 1
     have hfzz_2:=blk_frozen BK1005.out 2
     have hfzz_3:=blk_frozen BK1005.out 3
     go_wp2_with (first|((with_reducible refine gate_builtin (b:= .append) (xs:= #[.tmp 49, .tmp 51]) rfl ?_);(try (refine gate_guard (by rfl) ?_;dsimp only));at_builtin;refine Kd.R_append k74 (w0:=w) w.heap.size rfl (.tmp 49) (.tmp 51) 22 74 (.agg #[(.int .i64 0),(.int .i64 0),(.int .i64 0),(.int .i64 0)]) 32 rfl Try.underlying22 info74 rfl (by decide) (by omega) u10 x10_1 (⟨(rd_T74 l0_2 x11_1).f0,(rd_T74 l0_2 x11_1).f1,wrap64 (((rd_T74 l0_2 x11_1).f2) * (Go.bits .and .i64 a3 7)),(rd_T74 l0_2 x11_1).f3⟩:S74) [.int .i64 ((rd_T74 l0_2 x11_1).f0), .int .i64 ((rd_T74 l0_2 x11_1).f1), .int .i64 (wrap64 (((rd_T74 l0_2 x11_1).f2) * (Go.bits .and .i64 a3 7))), .int .i64 ((rd_T74 l0_2 x11_1).f3)] (fun k_=>k_≠gb1005) (fun _=>False) rfl (by first|(go_simp;done)|(go_simp;rfl)) ?aP (fun _ hk=>hk.elim) ?aF ?aO ?aB ?aS ?aL ?_;(case aP=>exact k74_mkM _ _ _ (⟨(rd_T74 l0_2 x11_1).f0,(rd_T74 l0_2 x11_1).f1,wrap64 (((rd_T74 l0_2 x11_1).f2) * (Go.bits .and .i64 a3 7)),(rd_T74 l0_2 x11_1).f3⟩:S74));(case aB=>exact(by repeat(first|(with_reducible first|exact HB.out|apply below_alloc|apply pw_below_drewN|apply below_drew1|refine below_set ?_ GE1002.out|refine below_set ?_ GE1005.out)|exact HB.out)));(case aF=>exact(fun k_ hk=>Kd.freshB (g:=gb1005) (o:= .cells #[.int .i64 ((rd_T74 l0_2 x11_1).f0), .int .i64 ((rd_T74 l0_2 x11_1).f1), .int .i64 (wrap64 (((rd_T74 l0_2 x11_1).f2) * (Go.bits .and .i64 a3 7))), .int .i64 ((rd_T74 l0_2 x11_1).f3)] 74 (0,0)) (by(with_reducible repeat(first|refine blk_drewN ?_ _|refine blk_drew ?_|refine blk_alloc ?_ _));refine blk_put (cs:= #[.int .i64 ((rd_T74 l0_2 x11_1).f0), .int .i64 ((rd_T74 l0_2 x11_1).f1), .int .i64 ((rd_T74 l0_2 x11_1).f2), .int .i64 ((rd_T74 l0_2 x11_1).f3)]) ?_ 2 _ rfl;(with_reducible repeat(first|refine blk_drewN ?_ _|refine blk_drew ?_|refine blk_alloc ?_ _));exact BK1005.out) k_ hk));(case aO=>exact(by(with_reducible repeat(first|apply Kd.R_alloc|apply Kd.R_drewN|apply Kd.R_drew));exact Kd.R_mono (Kd.R_far (p:=⟨gb1005,2,none⟩) (HO_10.out) (fun _ hk=>hk.2) (.int .i64 (wrap64 (((rd_T74 l0_2 x11_1).f2) * (Go.bits .and .i64 a3 7))))) (fun _ hk=>hk.1.2)));(case aS=>exact(below_size (by repeat(first|(with_reducible first|exact HB.out|apply below_alloc|apply pw_below_drewN|apply below_drew1|refine below_set ?_ GE1002.out|refine below_set ?_ GE1005.out)|exact HB.out))));(case aL=>have:=LMc21.out;omega);intro v1007 w26 ho hb hg hat;rw[← Ny1006.out] at ho;have n0_:=Aside0.mk (blk_grown (g:=gb1002) (o:= .cells #[.int .i64 a0_0, .bool a0_1, .slice (some ad1004) l0_2.length c0_2] 24 (0,0)) (by(with_reducible repeat(first|refine blk_drewN ?_ _|refine blk_drew ?_|refine blk_alloc ?_ _));refine blk_far ?_ NB1002_1005.out _;(with_reducible repeat(first|refine blk_drewN ?_ _|refine blk_drew ?_|refine blk_alloc ?_ _));exact BK1002.out) hg (Kd.R_ne HO_10.out BK1002.out (by decide)));have n1_:=Aside0.mk (blk_grown (g:=gb1005) (o:= .cells #[.int .i64 ((rd_T74 l0_2 x11_1).f0), .int .i64 ((rd_T74 l0_2 x11_1).f1), .int .i64 (wrap64 (((rd_T74 l0_2 x11_1).f2) * (Go.bits .and .i64 a3 7))), .int .i64 ((rd_T74 l0_2 x11_1).f3)] 74 (0,0)) (by(with_reducible repeat(first|refine blk_drewN ?_ _|refine blk_drew ?_|refine blk_alloc ?_ _));refine blk_put (cs:= #[.int .i64 ((rd_T74 l0_2 x11_1).f0), .int .i64 ((rd_T74 l0_2 x11_1).f1), .int .i64 ((rd_T74 l0_2 x11_1).f2), .int .i64 ((rd_T74 l0_2 x11_1).f3)]) ?_ 2 _ rfl;(with_reducible repeat(first|refine blk_drewN ?_ _|refine blk_drew ?_|refine blk_alloc ?_ _));exact BK1005.out) hg (Kd.R_away HO_10.out (fun _ hk=>hk.2)));have n2_:=Aside0.mk (hb);have n3_:=Aside0.mk (ho);clear BK1002;clear BK1005;clear HB;clear HO_10;have BK1002:=n0_;have BK1005:=n1_;have HB:=n2_;have HO1008:=n3_;clear n0_ n1_ n2_ n3_;clear ho hb hg hat)|fail)
     go_roundg kj8
     case measure=>have:=HK1.out;have:=HJ8.out;omega
     case rel=>exact⟨(y1006),(wrap64 (x11_1+1)),(by first|rfl|(simp;done)|(simp[*];done)),H',⟨by have:=HK1.out;have:=HJ8.out;omega⟩,⟨by(with_reducible repeat(first|apply Kd.R_alloc|apply Kd.R_drewN|apply Kd.R_drew));exact Kd.R_mono HO1008.out (fun _ hk=>trivial)⟩,⟨by(with_reducible repeat(first|refine blk_drewN ?_ _|refine blk_drew ?_|refine blk_alloc ?_ _));exact BK1002.out⟩,⟨by repeat(first|(with_reducible first|exact HB.out|apply below_alloc|apply pw_below_drewN|apply below_drew1|refine below_set ?_ GE1002.out|refine below_set ?_ GE1005.out)|exact HB.out)⟩⟩
end Go.Proofs.Ytkcpanpdipmmmaa.P
namespace Go.Proofs.Ytkcpanpdipmmmaa.Opn
open Go.RowKit Go.ChangeShapes Go.WideShapes Go.Deep Go.Proofs.YtkcpanpdipmmmaaW.PrintWords
def Opens (P:Program) (t:TypeId) {α:Type} (d:Kd α) (ok:α→Prop):Prop:=
 ∀ (H:Type) (enc:TypeId × Value→H) (w:World) (base:Nat) (spare:Nat→Bool) (held:Bool) (fuel:Nat) (cs:List Value) (x:DataW H × List MemPlace),
  DataW.trod enc P w base spare held fuel t cs=some x→ ∃ a:α,d.K w a cs∧ok a
theorem opens_int {P:Program} {t:TypeId} {k:IntKind} (ht:P.underlying t=some (.int k)):Opens P t (Kd.int k) (fun n=>(Lit.int k n).wf=true):=by
 intro H enc w base spare held fuel cs x h
 obtain⟨n,rfl,_,hw⟩:=DataW.trod_int ht h
 exact⟨n,rfl,hw⟩
theorem opens_bool {P:Program} {t:TypeId} (ht:P.underlying t=some .bool):Opens P t Kd.bool (fun _=>True):=by
 intro H enc w base spare held fuel cs x h
 obtain⟨b,rfl,_⟩:=DataW.trod_bool ht h
 exact⟨b,rfl,trivial⟩
theorem opens_slice {P:Program} {t e:TypeId} {α:Type} {d:Kd α} {ok:α→Prop} (ht:P.underlying t=some (.slice e)) (hc:P.cellsOf e=d.sz) (h:Opens P e d ok):
  Opens P t (Kd.slice e d) (fun l=>l.length≤9223372036854775807∧ ∀ x∈l,ok x):=by
 intro H enc w base spare held fuel cs x hx
 rcases open_slice ht hx with ⟨rfl,_⟩|⟨a,len,cap,m,n,D,Pl,rfl,hb,hl,hm,hmm,_,hi⟩
 ·exact⟨[],⟨none,0,rfl,Nat.le_refl _,rfl,by simp,fun h=>absurd h (by simp)⟩,by simp,by simp⟩
 ·have hlm:len≤m:=by rw[hmm];split<;>omega
  have hel: ∀ i:Nat,i<len→ ∃ a':α,ok a'∧ ∃ c,c.length=d.sz∧d.K w a' c∧ ∀ j u,c[j]? =some u→w.cell? (a.add (i * d.sz+j))=some u:=by
   intro i hil
   obtain⟨cs',hcs,htr⟩:=hi i (by omega)
   obtain⟨a',hK,hok⟩:=h H enc w base spare held n cs' _ htr
   rw[hc] at hcs
   obtain⟨_,hcl,hat⟩:=World.cells?_some hcs
   refine⟨a',hok,cs',hcl,hK,fun j u hu=> ?_⟩
   have hj:j<d.sz:=by have:=(List.getElem?_eq_some_iff.1 hu).1;omega
   have:=hat j hj
   rw[← Go.Deep.add_add,this,hu]
  have hrow: ∀ k:Nat,k≤len→ ∃ xs:List α,xs.length=k∧(∀ x∈xs,ok x)∧ ∀ j p,xs[j]? =some p→ ∃ c,c.length=d.sz∧d.K w p c∧ ∀ i u,c[i]? =some u→w.cell? (a.add (j * d.sz+i))=some u:=by
   intro k
   induction k with
   |zero=>exact fun _=>⟨[],rfl,by simp,by simp⟩
   |succ k ih=>
    intro hk
    obtain⟨xs,h1,h2,h3⟩:=ih (by omega)
    obtain⟨a',ho,c,hcl,hK,hcell⟩:=hel k (by omega)
    refine⟨xs ++ [a'],by simp[h1],fun x hx=> ?_,fun j p hj=> ?_⟩
    ·rcases List.mem_append.1 hx with h|h
     ·exact h2 x h
     ·rw[List.mem_singleton.1 h];exact ho
    ·by_cases hjk:j<xs.length
     ·rw[List.getElem?_append_left hjk] at hj
      exact h3 j p hj
     ·have hjl:=(List.getElem?_eq_some_iff.1 hj).1
      simp at hjl
      have hje:j=k:=by omega
      subst hje
      rw[← h1,List.getElem?_concat_length] at hj
      obtain rfl:=Option.some.inj hj
      exact⟨c,hcl,hK,hcell⟩
  obtain⟨xs,h1,h2,h3⟩:=hrow len (Nat.le_refl _)
  have hmx:len≤9223372036854775807:=by unfold maxLen at hm;omega
  subst h1
  exact⟨xs,⟨some a,cap,rfl,hl,rfl,hmx,fun _=>⟨a,rfl,h3⟩⟩,hmx,h2⟩
theorem opens_iso {P:Program} {t:TypeId} {α β:Type} {d:Kd α} {ok:α→Prop} (h:Opens P t d ok) (f:β→α) (g:α→β) (hfg: ∀ x,f (g x)=x):Opens P t (Kd.iso d f) (fun y=>ok (f y)):=by
 intro H enc w base spare held fuel cs x hx
 obtain⟨a,hK,hok⟩:=h H enc w base spare held fuel cs x hx
 exact⟨g a,by show d.K w (f (g a)) cs;rw[hfg];exact hK,by show ok (f (g a));rw[hfg];exact hok⟩
def OpensFs (P:Program) (fs:List Field) (off:Nat) {α:Type} (d:Kd α) (ok:α→Prop):Prop:=
 ∀ (H:Type) (enc:TypeId × Value→H) (w:World) (base:Nat) (spare:Nat→Bool) (held:Bool) (n:Nat) (cs:List Value),cs.length=off+d.sz→
  (∀ f∈fs, ∃ y,DataW.trod enc P w base spare held n f.type ((cs.drop f.offset).take (P.cellsOf f.type))=some y)→ ∃ a:α,d.K w a (cs.drop off)∧ok a
theorem fs_one {P:Program} {f:Field} {off:Nat} {α:Type} {d:Kd α} {ok:α→Prop} (ho:f.offset=off) (hc:P.cellsOf f.type=d.sz) (h:Opens P f.type d ok):OpensFs P [f] off d ok:=by
 intro H enc w base spare held n cs hl hf
 obtain⟨y,hy⟩:=hf f (by simp)
 rw[ho,hc,List.take_of_length_le (by simp;omega)] at hy
 exact h H enc w base spare held n _ y hy
theorem fs_cons {P:Program} {f:Field} {fs:List Field} {off:Nat} {α β:Type} {d:Kd α} {d':Kd β} {ok:α→Prop} {ok':β→Prop} (ho:f.offset=off) (hc:P.cellsOf f.type=d.sz) (h:Opens P f.type d ok)
  (hr:OpensFs P fs (off+d.sz) d' ok'):OpensFs P (f::fs) off (Kd.pair d d') (fun x=>ok x.1∧ok' x.2):=by
 intro H enc w base spare held n cs hl hf
 have hsz:(Kd.pair d d').sz=d.sz+d'.sz:=rfl
 rw[hsz] at hl
 obtain⟨y,hy⟩:=hf f (by simp)
 rw[ho,hc] at hy
 obtain⟨a,hK,hok⟩:=h H enc w base spare held n _ y hy
 obtain⟨b,hKb,hokb⟩:=hr H enc w base spare held n cs (by omega) (fun f' hf'=>hf f' (List.mem_cons_of_mem _ hf'))
 refine⟨(a,b),⟨_,_,?_,hK,hKb⟩,hok,hokb⟩
 rw[← List.drop_drop]
 exact(List.take_append_drop _ _).symm
theorem opens_struct {P:Program} {t:TypeId} {fs:Array Field} {α:Type} {d:Kd α} {ok:α→Prop} (hs:P.underlying t=some (.struct fs)) (hC:P.cellsOf t=d.sz) (h:OpensFs P fs.toList 0 d ok):Opens P t d ok:=by
 intro H enc w base spare held fuel cs x hx
 obtain⟨xs,n,_,_,hl,hlen,hf⟩:=DataW.trod_struct hs hx
 obtain⟨a,hK,hok⟩:=h H enc w base spare held n cs (by rw[hl,hC,Nat.zero_add]) (fun f hfm=>by
  obtain⟨j,hj⟩:=List.getElem?_of_mem hfm
  have hj':fs[j]? =some f:=by rw[← hj];simp
  have hjl:j<xs.length:=by rw[hlen];exact(Array.getElem?_eq_some_iff.1 hj').1
  have h1:=hf j f hj'
  rw[List.getElem?_eq_getElem hjl] at h1
  exact⟨_,h1⟩)
 exact⟨a,hK,hok⟩
theorem arg_struct {H:Type} {enc:TypeId × Value→H} {P:Program} {w:World} {base b0:Nat} {spare:Nat→Bool} {held:Bool} {r:Reach} {t:TypeId} {fs:Array Field} {v:Value} {dd:DataW H} {p:List MemPlace} {α:Type} {d:Kd α} {ok:α→Prop}
  (hs:P.underlying t=some (.struct fs)) (ho:Opens P t d ok) (hv:Value.okWide P w r b0 t v) (h:DataW.Trod enc P w base spare held t v dd p): ∃ a cs,v= .agg cs∧d.K w a cs.toList∧ok a:=by
 obtain⟨cs,rfl,hsz⟩:=okWide_struct hs hv
 obtain⟨fuel,hf⟩:=h
 obtain⟨a,hK,hok⟩:=ho H enc w base spare held fuel _ _ hf
 exact⟨a,cs,rfl,by simpa [Value.cells] using hK,hok⟩
end Go.Proofs.Ytkcpanpdipmmmaa.Opn
namespace Go.Proofs.Ytkcpanpdipmmmaa.Q
open Go.RowKit Go.Proofs.YtkcpanpdipmmmaaW.PrintWords Go.Proofs.YtkcpanpdipmmmaaW.PrintLast Go.Proofs.YtkcpanpdipmmmaaW.PrintMore Go.Proofs.Ytkcpanpdipmmmaa.P
open Go.Proofs.Ytkcpanpdipmmmaa.H (endsErr Right right_of StepOf stRoom IsFlow leastR pushW stRoom_in)
theorem flowOk_of {l:List S74} {F:List Int} {n:Nat} (hr:Right l F n):FlowOk l F:=by
 refine⟨hr.len,fun i hi=> ?_⟩
 have:=hr.nums i (by rw[← hr.len];exact hi)
 rw[rd_nat]
 exact⟨this.2.2.1,this.2.2.2.1⟩
end Go.Proofs.Ytkcpanpdipmmmaa.Q
namespace Go.Proofs.Ytkcpanpdipmmmaa.Q
open Go.RowKit Go.Proofs.YtkcpanpdipmmmaaW.PrintWords Go.Proofs.YtkcpanpdipmmmaaW.PrintLast Go.Proofs.YtkcpanpdipmmmaaW.PrintMore Go.Proofs.Ytkcpanpdipmmmaa.P
open Go.Proofs.Ytkcpanpdipmmmaa.H (endsErr Right right_of StepOf stRoom IsFlow MaxF leastR pushW fillF bfP nodes netG dOf frP toP)
theorem max_fill {l:List S74} {n s t:Nat} (hr:Right l (List.replicate l.length 0) n) (hs:s<n) (ht:t<n) (hst:s≠t):MaxF l (fillF l n s t) n s t:=H.fill_max hr hs ht hst
theorem value_l0 (m:Int) (l:List S74) (f:List Int) (hn:NetOk m l) (hf:FlowOk l f) (v:Int) (d:Nat): ∀ (i:Nat) (acc:Int),i+d=l.length→ -(i * 2097152)≤acc→acc≤i * 2097152→
  Ev (fun k=>maxflow_Value.l0 k v f acc l (l.length:Int) (i:Int)) (acc+bal (l.drop i) (f.drop i) v):=by
 have hlen:=hf.len
 have hl:=hn.len
 induction d with
 |zero=>
  intro i acc hi h0 h1
  refine Ev.succ ?_;simp only[maxflow_Value.l0]
  repeat(first|exact Ev.now _|with_reducible refine Ev.pos (by first|assumption|omega) ?_|with_reducible refine Ev.neg (by first|assumption|omega) ?_|with_reducible refine Ev.let_ ?_)
  rw[List.drop_of_length_le (by omega)]
  exact Ev.done (by simp[bal])
 |succ d ih=>
  intro i acc hi h0 h1
  have hs:=hf.small hn (i:=(i:Int)) (by omega) (by omega)
  refine Ev.succ ?_;simp only[maxflow_Value.l0]
  repeat(first|exact Ev.now _|with_reducible refine Ev.pos (by first|assumption|omega) ?_|with_reducible refine Ev.neg (by first|assumption|omega) ?_|with_reducible refine Ev.let_ ?_)
  rw[wrap_succ (n:=l.length) (by omega) (by omega),drop_getD l i z74 (by omega),drop_getD f i 0 (by omega), ← rdArc_nat, ← rd_nat,bal_cons]
  refine Ev.ite (fun g=> ?_) (fun g=> ?_)
  ·rw[if_pos g]
   refine Ev.pos (by omega) ?_
   refine Ev.ite (fun g2=> ?_) (fun g2=> ?_)
   ·rw[if_pos g2,wrap_id (x:=acc+rd f (i:Int)) (by omega) (by omega),wrap_id (by omega) (by omega)]
    exact Ev.eq (ih (i+1) _ (by omega) (by omega) (by omega)) (by omega)
   ·rw[if_neg g2,wrap_id (x:=acc+rd f (i:Int)) (by omega) (by omega)]
    exact Ev.eq (ih (i+1) _ (by omega) (by omega) (by omega)) (by omega)
  ·rw[if_neg g]
   refine Ev.ite (fun g2=> ?_) (fun g2=> ?_)
   ·refine Ev.pos (by omega) ?_
    rw[if_pos g2,wrap_id (x:=acc - rd f (i:Int)) (by omega) (by omega)]
    exact Ev.eq (ih (i+1) _ (by omega) (by omega) (by omega)) (by omega)
   ·rw[if_neg g2]
    exact Ev.eq (ih (i+1) _ (by omega) (by omega) (by omega)) (by omega)
theorem value_ev (n m:Int) (b:Bool) (l:List S74) (f:List Int) (hn:NetOk m l) (hf:FlowOk l f) (v:Int):Ev (fun k=>maxflow_Value.f k n b l v f) (bal l f v):=by
 unfold maxflow_Value.f
 exact Ev.eq (value_l0 m l f hn hf v l.length 0 0 (by omega) (by omega) (by omega)) (by rw[List.drop_zero,List.drop_zero];omega)
def maxR (n:Int) (l:List S74) (s t:Int):List Int × Int × Int:=
 if endsErr n l s t=0 then(fillF l n.toNat s.toNat t.toNat,bal l (fillF l n.toNat s.toNat t.toNat) s,0) else([],0,endsErr n l s t)
def mostR (n:Int) (l:List S74) (s t:Int):Int × Int:=
 if endsErr n l s t=0 then(bal l (fillF l n.toNat s.toNat t.toNat) s,0) else(0,endsErr n l s t)
theorem fill_eq {n:Int} {l:List S74} {s t:Int} (b:Bool) (h:endsErr n l s t=0):maxflow_Fill.f n b l s t=some (fillF l n.toNat s.toNat t.toNat):=by unfold maxflow_Fill.f;rw[if_pos h]
theorem max_ev (n:Int) (b:Bool) (l:List S74) (s t:Int):Ev (fun k=>maxflow_Max.f k n b l s t) (maxR n l s t):=by
 unfold maxflow_Max.f maxR
 refine Ev.bind (ends_ev n b l s t) ?_
 by_cases h:endsErr n l s t=0
 ·rw[if_pos h]
  refine Ev.pos h ?_
  refine Ev.call (fill_eq b h) ?_
  obtain⟨n0,s0,t0,rfl,rfl,rfl,hs,ht,hst,hn,hr⟩:=ends_zero h
  simp only[Int.toNat_natCast]
  refine Ev.bind (value_ev n0 n0 b l _ hn (flowOk_of (max_fill hr hs ht hst).flow.right) s0) ?_
  exact Ev.now _
 ·rw[if_neg h]
  refine Ev.neg h ?_
  exact Ev.now _
theorem most_ev (n:Int) (b:Bool) (l:List S74) (s t:Int):Ev (fun k=>maxflow_Most.f k n b l s t) (mostR n l s t):=by
 unfold maxflow_Most.f
 refine Ev.bind (max_ev n b l s t) ?_
 refine Ev.done ?_
 unfold maxR mostR
 split<;>rfl
theorem mostR_nat {l:List S74} {n s t:Nat} (h:endsErr (n:Int) l (s:Int) (t:Int)=0):mostR n l s t=(bal l (fillF l n s t) s,0):=by
 unfold mostR;rw[if_pos h];simp only[Int.toNat_natCast]
theorem maxR_nat {l:List S74} {n s t:Nat} (h:endsErr (n:Int) l (s:Int) (t:Int)=0):maxR n l s t=(fillF l n s t,bal l (fillF l n s t) s,0):=by
 unfold maxR;rw[if_pos h];simp only[Int.toNat_natCast]
end Go.Proofs.Ytkcpanpdipmmmaa.Q
namespace Go.Proofs.Ytkcpanpdipmmmaa.Q
open Go.RowKit Go.Proofs.YtkcpanpdipmmmaaW.PrintWords Go.Proofs.YtkcpanpdipmmmaaW.PrintLast Go.Proofs.YtkcpanpdipmmmaaW.PrintMore Go.Proofs.Ytkcpanpdipmmmaa.P
open Go.Proofs.Ytkcpanpdipmmmaa.H (endsErr Right right_of IsFlow MaxF fillF capR)
def dia:List S74:=[(⟨0,1,3,0⟩:S74),(⟨0,2,2,0⟩:S74),(⟨1,3,2,0⟩:S74),(⟨2,3,3,0⟩:S74),(⟨1,2,5,0⟩:S74)]
theorem dia_right:Right dia (List.replicate dia.length 0) 4:=by
 obtain⟨n0,h1,h2⟩:=right_of (n:=4) (l:=dia) (F:=List.replicate dia.length 0) (by decide +kernel)
 obtain rfl:n0=4:=by omega
 exact h2
theorem dia_max:MaxF dia (fillF dia 4 0 3) 4 0 3:=max_fill dia_right (by decide) (by decide) (by decide)
theorem dia_back:MaxF dia (fillF dia 4 3 0) 4 3 0:=max_fill dia_right (by decide) (by decide) (by decide)
theorem dia_flow:IsFlow dia [3,2,2,3,1] 4 0 3:=by
 obtain⟨n0,h1,h2⟩:=right_of (n:=4) (l:=dia) (F:=[3,2,2,3,1]) (by decide +kernel)
 obtain rfl:n0=4:=by omega
 refine⟨h2,fun v a b c d=> ?_⟩
 rcases (show v=1∨v=2 by omega) with rfl|rfl<;>decide +kernel
theorem dia_val:bal dia (fillF dia 4 0 3) 0=5:=by
 have h1:=H.max_top (s:=0) (t:=3) dia_max (by decide) (by decide) dia_flow
 have h2:=H.value_le dia_max.flow (fun v=>decide (v=0)) (by decide) (by decide) (by decide) (by decide)
 have h3:bal dia [3,2,2,3,1] ((0:Nat):Int)=5:=by decide +kernel
 have h4:capR (fun v=>decide (v=0)) dia=5:=by decide +kernel
 rw[h3] at h1
 rw[h4] at h2
 exact Int.le_antisymm h2 h1
theorem dia_none:bal dia (fillF dia 4 3 0) 3=0:=by
 have h1:=H.max_nonneg (s:=3) (t:=0) dia_back (by decide) (by decide)
 have h2:=H.value_le dia_back.flow (fun v=>decide (v=3)) (by decide) (by decide) (by decide) (by decide)
 have h4:capR (fun v=>decide (v=3)) dia=0:=by decide +kernel
 rw[h4] at h2
 exact Int.le_antisymm h2 h1
theorem awake09_ev:Ev (fun k=>ebbtidelaw09_awake.f k) true:=by
 have e1:endsErr 4 dia 0 3=0:=by decide +kernel
 have e2:endsErr 4 dia 3 0=0:=by decide +kernel
 have e3:endsErr 4 dia 1 1=70:=by decide +kernel
 have m1:maxR 4 dia 0 3=(fillF dia 4 0 3,5,0):=by
  have h_:=maxR_nat (n:=4) (l:=dia) (s:=0) (t:=3) e1
  have h_2:maxR 4 dia 0 3=(fillF dia 4 0 3,bal dia (fillF dia 4 0 3) 0,0):=h_
  rw[h_2,dia_val]
 have m2:mostR 4 dia 3 0=(0,0):=by
  have h_:=mostR_nat (n:=4) (l:=dia) (s:=3) (t:=0) e2
  have h_2:mostR 4 dia 3 0=(bal dia (fillF dia 4 3 0) 3,0):=h_
  rw[h_2,dia_none]
 have m3:maxR 4 dia 1 1=([],0,70):=by unfold maxR;rw[e3];rfl
 have hlen:(fillF dia 4 0 3).length=5:=dia_max.flow.right.len
 unfold ebbtidelaw09_awake.f
 refine Ev.let_ ?_
 refine Ev.bind (max_ev 4 false dia 0 3) ?_
 refine Ev.bind (most_ev 4 false dia 3 0) ?_
 refine Ev.bind (max_ev 4 false dia 1 1) ?_
 rw[m1,m2,m3]
 refine Ev.pos rfl ?_
 refine Ev.pos rfl ?_
 refine Ev.pos (by show ((fillF dia 4 0 3).length:Int)=5;rw[hlen];rfl) ?_
 refine Ev.pos rfl ?_
 refine Ev.pos rfl ?_
 exact Ev.now _
theorem mostR_ok {n:Int} {l:List S74} {s t:Int} (h:(mostR n l s t).2=0):endsErr n l s t=0:=by
 unfold mostR at h
 by_cases g:endsErr n l s t=0
 ·exact g
 ·rw[if_neg g] at h;exact h
end Go.Proofs.Ytkcpanpdipmmmaa.Q
namespace Go.Proofs.Ytkcpanpdipmmmaa.Q
open Go.RowKit Go.Proofs.YtkcpanpdipmmmaaW.PrintWords Go.Proofs.YtkcpanpdipmmmaaW.PrintLast Go.Proofs.YtkcpanpdipmmmaaW.PrintMore Go.Proofs.Ytkcpanpdipmmmaa.P
open Go.Proofs.Ytkcpanpdipmmmaa.H (endsErr Right right_of IsFlow MaxF fillF timesA)
def timesW (k:Int) (l:List S74):List S74:=l.map fun a=>⟨a.f0,a.f1,wrap64 (a.f2 * k),a.f3⟩
theorem timesW_eq {n:Int} {l:List S74} {k:Int} (hn:NetOk n l) (h0:0≤k) (h1:k≤7):timesW k l=timesA k l:=by
 unfold timesW timesA
 refine List.map_congr_left fun a ha=> ?_
 have h2:=(hn.arcs a ha).f2
 have h3:=(hn.arcs a ha).h2
 have h4:=Int.mul_le_mul h3 h1 h0 (by decide)
 have h5:=Int.mul_nonneg h2 h0
 rw[wrap_id (by omega) (by omega)]
theorem parts_end (n:Int) (b:Bool) (l:List S74) (s t k:Int) (h0:0≤k) (h1:k≤7) (X:List S74) (hX:l.length≤200→X=timesW k l):
  Ev (fun m=>(maxflow_Most.f m n b l s t).bind fun bt960=>((maxflow_Most.f m n b X s t).bind fun bt962=>(if (true:Bool)=true then(if bt960.2=0 then(if bt962.2=0 then(some (bt962.1 == (wrap64 (k * bt960.1)))) else(some true)) else(some true)) else(some false)))) true:=by
 refine Ev.bind (most_ev n b l s t) ?_
 refine Ev.bind (most_ev n b X s t) ?_
 refine Ev.pos rfl ?_
 refine Ev.ite (fun g1=> ?_) (fun _=>Ev.now _)
 refine Ev.ite (fun g2=> ?_) (fun _=>Ev.now _)
 have g1:=mostR_ok g1
 have g2:=mostR_ok g2
 obtain⟨n0,s0,t0,rfl,rfl,rfl,hs,ht,hst,hn,hr⟩:=ends_zero g1
 have hX:=hX hn.len
 rw[timesW_eq hn h0 h1] at hX
 subst hX
 obtain⟨n1,s1,t1,e1,e2,e3,_,_,_,hn1,hr1⟩:=ends_zero g2
 obtain rfl:n0=n1:=by omega
 have hM:=max_fill hr hs ht hst
 have hG:=max_fill hr1 hs ht hst
 have hk:=H.max_nonneg hM hs hst
 have hk2:=H.flow_top hM.flow hs hst
 have hm:=H.max_times h0 hM hG hs hst
 have h4:=Int.mul_le_mul h1 hk2 hk (by decide)
 have h5:=Int.mul_nonneg h0 hk
 rw[mostR_nat g1,mostR_nat g2]
 refine Ev.done ?_
 show (bal (timesA k l) (fillF (timesA k l) n0 s0 t0) s0 == wrap64 (k * bal l (fillF l n0 s0 t0) s0))=true
 rw[hm,wrap_id (by omega) (by omega)]
 exact beq_self_eq_true _
theorem parts_l0 (n:Int) (b:Bool) (l:List S74) (s t k:Int) (h0:0≤k) (h1:k≤7) (hl:l.length≤200) (d:Nat): ∀ i:Nat,i+d=l.length→
  Ev (fun m=>ebbtidelaw09_MaxflowParts.l0 m s t k true (timesW k (l.take i)) (i:Int) n b l) true:=by
 induction d with
 |zero=>
  intro i hi
  refine Ev.succ ?_;simp only[ebbtidelaw09_MaxflowParts.l0]
  refine Ev.neg (by omega) ?_
  refine Ev.succ ?_;simp only[ebbtidelaw09_MaxflowParts.j1]
  refine Ev.neg (by decide) ?_
  exact parts_end n b l s t k h0 h1 _ (fun _=>by rw[List.take_of_length_le (by omega)])
 |succ d ih=>
  intro i hi
  have hd:=ih (i+1) (by omega)
  have htk:timesW k (l.take (i+1))=timesW k (l.take i) ++ [(⟨(rd_T74 l i).f0,(rd_T74 l i).f1,wrap64 ((rd_T74 l i).f2 * k),(rd_T74 l i).f3⟩:S74)]:=by
   rw[List.take_add_one,rdArc_nat,List.getD_eq_getElem?_getD,List.getElem?_eq_getElem (by omega)]
   unfold timesW
   rw[List.map_append]
   rfl
  rw[htk] at hd
  refine Ev.succ ?_;simp only[ebbtidelaw09_MaxflowParts.l0]
  refine Ev.pos (by omega) ?_
  refine Ev.succ ?_;simp only[ebbtidelaw09_MaxflowParts.j1]
  refine Ev.pos (decide_eq_true (by omega)) ?_
  refine Ev.pos (by omega) ?_
  refine Ev.pos (by omega) ?_
  refine Ev.ite (fun _=>Ev.now _) (fun _=> ?_)
  refine Ev.pos (by unfold timesW;rw[List.length_map,List.length_take];omega) ?_
  rw[wrap_succ (n:=l.length) (by omega) (by omega)]
  exact hd
theorem maxflowParts_ev (n:Int) (b:Bool) (l:List S74) (s t x:Int):Ev (fun k=>ebbtidelaw09_MaxflowParts.f k n b l s t x) true:=by
 have hb:Go.bits .and .i64 x 7=x % 8:=by
  have h7:(BitVec.ofInt 64 7).toNat=2 ^ 3 - 1:=by decide
  have key:(BitVec.ofInt 64 x &&& BitVec.ofInt 64 7).toNat=(x % ((2 ^ 64:Nat):Int)).toNat % 2 ^ 3:=by
   rw[BitVec.toNat_and,BitVec.toNat_ofInt,h7,Nat.and_two_pow_sub_one_eq_mod]
  show IntKind.i64.wrap ((BitVec.ofInt 64 x &&& BitVec.ofInt 64 7).toNat:Nat)=x % 8
  rw[key,IntKind.wrap_i64]
  omega
 unfold ebbtidelaw09_MaxflowParts.f
 refine Ev.bind awake09_ev ?_
 refine Ev.pos rfl ?_
 rw[hb]
 by_cases hl:l.length≤200
 ·exact parts_l0 n b l s t _ (by omega) (by omega) hl l.length 0 (by omega)
 ·refine Ev.succ ?_;simp only[ebbtidelaw09_MaxflowParts.l0]
  refine Ev.pos (by omega) ?_
  refine Ev.succ ?_;simp only[ebbtidelaw09_MaxflowParts.j1]
  refine Ev.neg (by rw[decide_eq_false (by omega)];decide) ?_
  exact parts_end n b l s t _ (by omega) (by omega) _ (fun h=>absurd h hl)
end Go.Proofs.Ytkcpanpdipmmmaa.Q
