/- What the law's row needs of these texts, taken out of them by wip/tool/mini.py: P0 P7 P8 P9 P12 P79 P2 P10 P11 P3 P4 P67. -/
import Derived.Test.YtkcpanpdipmmmaaProg
import Derived.Below
import Derived.Deep.Draws
import Derived.Deep.AppendLies
import Derived.Maps.AppendAt
import Derived.OwnWalk
import Derived.Laws.BytesArg
import Derived.Laws.MakeOwn
import Derived.Laws.OwnMore
import Derived.Deep.OwnRows
import Derived.Tactics
import Derived.Lib.ConvBytes
import Derived.Laws.Slices
import Derived.WalkKit
import Derived.KernelRfl
import Derived.RowKit3
import Derived.Deep.LoopGhost
import Derived.Deep.QuietTactic
import Derived.BigQuiet
import Derived.WideLaws
import Derived.Deep.DeepCutAuto
import Derived.Deep.CutBlock
import Derived.Deep.RegionHeld3
import Derived.Laws.Rows
import Derived.Lib.AppendStr
import Derived.ArgAppend
import Derived.Laws.IdiomCopy
import Derived.OrdersHeld
import Derived.Laws.BitsLemmas
import Derived.RowKit
import Derived.Test.YtkcpanpdipmmmaaVjjipkf
import Derived.Laws.StructEq
set_option linter.unusedVariables false
set_option linter.unusedSimpArgs false
namespace Go.Proofs.Ytkcpanpdipmmmaa.P
open Go.RowKit Go.Proofs.YtkcpanpdipmmmaaW.PrintWords Go.Proofs.YtkcpanpdipmmmaaW.PrintLast Go.Proofs.YtkcpanpdipmmmaaW.PrintMore
attribute [local go_sem] max2_int min2_int max_two min_two max_three min_three max_four min_four
def errW:Option Int→Value
 |none=> .nilIface
 |some c=> .iface 0 (.int .i64 c)
theorem errW_none:errW none= .nilIface:=rfl
theorem errW_some (c:Int):errW (some c)= .iface 0 (.int .i64 c):=rfl
theorem info3:(Try.prog.info? 3).map (fun i=>(i.zero,i.size,i.bytes))=some (some (.int .i64 0),1,8):=by kernel_rfl
theorem info38:(Try.prog.info? 38).map (fun i=>(i.zero,i.size,i.bytes))=some (some (.agg #[(.int .i64 0),(.bool false)]),2,16):=by kernel_rfl
structure S74 where
 f0:Int
 f1:Int
 f2:Int
 f3:Int
def z74:S74:=⟨(0:Int),(0:Int),(0:Int),(0:Int)⟩
def k74:Kd S74:=Kd.iso (Kd.pair (Kd.int .i64) (Kd.pair (Kd.int .i64) (Kd.pair (Kd.int .i64) (Kd.int .i64)))) (fun x:S74=>(x.f0,x.f1,x.f2,x.f3))
theorem k74_open {w:World} {x:S74} {cs:List Value} (h:k74.K w x cs):cs=[.int .i64 x.f0, .int .i64 x.f1, .int .i64 x.f2, .int .i64 x.f3]:=by
 obtain⟨_,_,rfl,rfl,⟨_,_,rfl,rfl,⟨_,_,rfl,rfl,rfl⟩⟩⟩:=h
 exact rfl
theorem k74_mkM (w:World) (base:Nat) (ok:Nat→Prop) (x:S74)  :k74.M w base ok x [.int .i64 x.f0, .int .i64 x.f1, .int .i64 x.f2, .int .i64 x.f3]:=⟨[.int .i64 x.f0],[.int .i64 x.f1, .int .i64 x.f2, .int .i64 x.f3],rfl,rfl,⟨[.int .i64 x.f1],[.int .i64 x.f2, .int .i64 x.f3],rfl,rfl,⟨[.int .i64 x.f2],[.int .i64 x.f3],rfl,rfl,rfl⟩⟩⟩
def rd_T74 (xs:List S74) (i:Int):S74:=xs.getD i.toNat z74
theorem at_T74 {w:World} {A:Option Addr} {n:Nat} {xs:List S74} (h:Kd.C k74 w A n xs) (i:Int) (h0:0≤i) (h1:i<n): ∃ ad ,A=some ad∧w.cell? (ad.add (i.toNat * 4))=some (.int .i64 (rd_T74 xs i).f0)∧w.cell? ⟨(ad.add (i.toNat * 4)).block,(ad.add (i.toNat * 4)).off+1,none⟩=some (.int .i64 (rd_T74 xs i).f1)∧w.cell? ⟨(ad.add (i.toNat * 4)).block,(ad.add (i.toNat * 4)).off+2,none⟩=some (.int .i64 (rd_T74 xs i).f2)∧w.cell? ⟨(ad.add (i.toNat * 4)).block,(ad.add (i.toNat * 4)).off+3,none⟩=some (.int .i64 (rd_T74 xs i).f3):=by
 obtain⟨ad,c,e,_,hK,hc0⟩:=Kd.C_get h z74 i h0 h1
 have hc: ∀ j u,c[j]? =some u→w.cell? (ad.add (i.toNat * 4+j))=some u:=hc0
 obtain rfl:=k74_open hK
 exact⟨ad,e,hc 0 _ rfl,by rw[← add_field _ _ 1 (by omega)];exact hc 1 _ rfl,by rw[← add_field _ _ 2 (by omega)];exact hc 2 _ rfl,by rw[← add_field _ _ 3 (by omega)];exact hc 3 _ rfl⟩
structure S38 where
 f0:Int
 f1:Bool
def z38:S38:=⟨(0:Int),false⟩
def k38:Kd S38:=Kd.iso (Kd.pair (Kd.int .i64) Kd.bool) (fun x:S38=>(x.f0,x.f1))
theorem k38_open {w:World} {x:S38} {cs:List Value} (h:k38.K w x cs):cs=[.int .i64 x.f0, .bool x.f1]:=by
 obtain⟨_,_,rfl,rfl,rfl⟩:=h
 exact rfl
theorem k38_openM {w:World} {base:Nat} {ok:Nat→Prop} {x:S38} {cs:List Value} (h:k38.M w base ok x cs):cs=[.int .i64 x.f0, .bool x.f1]:=by
 obtain⟨_,_,rfl,rfl,rfl⟩:=h
 exact rfl
theorem k38_mkM (w:World) (base:Nat) (ok:Nat→Prop) (x:S38)  :k38.M w base ok x [.int .i64 x.f0, .bool x.f1]:=⟨[.int .i64 x.f0],[.bool x.f1],rfl,rfl,rfl⟩
def rd_T38 (xs:List S38) (i:Int):S38:=xs.getD i.toNat z38
theorem at_T38 {w:World} {A:Option Addr} {n:Nat} {xs:List S38} (h:Kd.C k38 w A n xs) (i:Int) (h0:0≤i) (h1:i<n): ∃ ad ,A=some ad∧w.cell? (ad.add (i.toNat * 2))=some (.int .i64 (rd_T38 xs i).f0)∧w.cell? ⟨(ad.add (i.toNat * 2)).block,(ad.add (i.toNat * 2)).off+1,none⟩=some (.bool (rd_T38 xs i).f1):=by
 obtain⟨ad,c,e,_,hK,hc0⟩:=Kd.C_get h z38 i h0 h1
 have hc: ∀ j u,c[j]? =some u→w.cell? (ad.add (i.toNat * 2+j))=some u:=hc0
 obtain rfl:=k38_open hK
 exact⟨ad,e,hc 0 _ rfl,by rw[← add_field _ _ 1 (by omega)];exact hc 1 _ rfl⟩
def rd_L4 (xs:List (List S38)) (i:Int):(List S38):=xs.getD i.toNat ([]:List S38)
def rd_L7 (xs:List (List Int)) (i:Int):(List Int):=xs.getD i.toNat ([]:List Int)
theorem at_L7 {w:World} {A:Option Addr} {n:Nat} {xs:List (List Int)} (h:Kd.C (Kd.slice 3 (Kd.int .i64)) w A n xs) (i:Int) (h0:0≤i) (h1:i<n): ∃ ad A0 c0,A=some ad∧w.cell? (ad.add i.toNat)=some (.slice A0 (rd_L7 xs i).length c0)∧(rd_L7 xs i).length≤c0∧(Kd.int .i64).C w A0 (rd_L7 xs i).length (rd_L7 xs i):=by
 obtain⟨ad,c,e,_,hK,hc0⟩:=Kd.C_get h ([]:List Int) i h0 h1
 have hc: ∀ j u,c[j]? =some u→w.cell? (ad.add (i.toNat * 1+j))=some u:=hc0
 obtain⟨A0,c0,rfl,l0,g0⟩:=hK
 exact⟨ad,A0,c0,e,by have hq:=hc 0 _ rfl;rwa [Nat.mul_one,Nat.add_zero] at hq,l0,g0⟩
end Go.Proofs.Ytkcpanpdipmmmaa.P
namespace Go.Proofs.Ytkcpanpdipmmmaa.P
open Go.RowKit Go.Proofs.YtkcpanpdipmmmaaW.PrintWords Go.Proofs.YtkcpanpdipmmmaaW.PrintLast Go.Proofs.YtkcpanpdipmmmaaW.PrintMore
attribute [local go_sem] max2_int min2_int max_two min_two max_three min_three max_four min_four
def ebbtideref05_nodes.f (a0:Int):Option (Int):=if a0<1 then(some 51) else(if a0>50 then(some 2) else(some 0))
set_option maxHeartbeats 8000000 in
set_option maxRecDepth 100000 in
theorem ebbtideref05_nodes.calls (a0:Int) (r:Int) (w:World) (h:ebbtideref05_nodes.f a0=some r):
  Calls Try.prog 122 #[.int .i64 a0] w fun e w'=>e= .returned (.int .i64 r)∧Drawn0 w w':=by
 have H:(if a0<1 then(some 51) else(if a0>50 then(some 2) else(some 0)))=some r:=h
 clear h
 by_cases c2:a0<1
 ·rw[if_pos c2] at H
  have c2b0:decide (a0<1)=true:=decide_eq_true c2
  clear c2
  obtain rfl:=Option.some.inj H
  go_enter Try.func122,Try.ntmps122
  go_wp2
  go_ret
  exact⟨by first|rfl|(simp;done)|(simp[*];done),by repeat(first|exact Drawn0.refl _|apply Drawn0.step)⟩
 rw[if_neg c2] at H
 have c2b0:decide (a0<1)=false:=decide_eq_false c2
 clear c2
 by_cases c3:a0>50
 rotate_left
 ·rw[if_neg c3] at H
  have c3b0:decide (50<a0)=false:=decide_eq_false c3
  clear c3
  obtain rfl:=Option.some.inj H
  go_enter Try.func122,Try.ntmps122
  go_wp2
  go_ret
  exact⟨by first|rfl|(simp;done)|(simp[*];done),by repeat(first|exact Drawn0.refl _|apply Drawn0.step)⟩
 rw[if_pos c3] at H
 have c3b0:decide (50<a0)=true:=decide_eq_true c3
 clear c3
 obtain rfl:=Option.some.inj H
 go_enter Try.func122,Try.ntmps122
 go_wp2
 go_ret
 exact⟨by first|rfl|(simp;done)|(simp[*];done),by repeat(first|exact Drawn0.refl _|apply Drawn0.step)⟩
end Go.Proofs.Ytkcpanpdipmmmaa.P
namespace Go.Proofs.Ytkcpanpdipmmmaa.P
open Go.RowKit Go.Proofs.YtkcpanpdipmmmaaW.PrintWords Go.Proofs.YtkcpanpdipmmmaaW.PrintLast Go.Proofs.YtkcpanpdipmmmaaW.PrintMore
attribute [local go_sem] max2_int min2_int max_two min_two max_three min_three max_four min_four
def ebbtideref05_Arc.j0:Nat→Bool→Int→Int→Int→Int→Option (Int)
 |0,_,_,_,_,_=>none
 |k+1,x34,x155000,x155001,x155002,x155003=>if x34=true then(some 51) else(if x155002>1048576 then(some 2) else(if x155003>1048576 then(some 2) else(some 0)))
def ebbtideref05_Arc.f (k:Nat) (a0:Int) (a1_0:Int) (a1_1:Int) (a1_2:Int) (a1_3:Int):Option (Int):=if a1_0<0 then(ebbtideref05_Arc.j0 k true a1_0 a1_1 a1_2 a1_3) else(if a1_0≥a0 then(ebbtideref05_Arc.j0 k true a1_0 a1_1 a1_2 a1_3) else(if a1_1<0 then(ebbtideref05_Arc.j0 k true a1_0 a1_1 a1_2 a1_3) else(if a1_1≥a0 then(ebbtideref05_Arc.j0 k true a1_0 a1_1 a1_2 a1_3) else(if a1_2<0 then(ebbtideref05_Arc.j0 k true a1_0 a1_1 a1_2 a1_3) else(ebbtideref05_Arc.j0 k (decide (a1_3<0)) a1_0 a1_1 a1_2 a1_3)))))
set_option maxHeartbeats 8000000 in
set_option maxRecDepth 100000 in
theorem ebbtideref05_Arc.calls (k:Nat) (a0:Int) (a1_0:Int) (a1_1:Int) (a1_2:Int) (a1_3:Int) (r:Int) (w:World) (h:ebbtideref05_Arc.f k a0 a1_0 a1_1 a1_2 a1_3=some r):
  Calls Try.prog 123 #[.int .i64 a0, .agg #[.int .i64 a1_0, .int .i64 a1_1, .int .i64 a1_2, .int .i64 a1_3]] w fun e w'=>e= .returned (.int .i64 r)∧Below w.heap.size w w':=by
 have hu74:=Try.underlying74
 have HB:=Aside0.mk (Below.refl w.heap.size w)
 have H:(if a1_0<0 then(ebbtideref05_Arc.j0 k true a1_0 a1_1 a1_2 a1_3) else(if a1_0≥a0 then(ebbtideref05_Arc.j0 k true a1_0 a1_1 a1_2 a1_3) else(if a1_1<0 then(ebbtideref05_Arc.j0 k true a1_0 a1_1 a1_2 a1_3) else(if a1_1≥a0 then(ebbtideref05_Arc.j0 k true a1_0 a1_1 a1_2 a1_3) else(if a1_2<0 then(ebbtideref05_Arc.j0 k true a1_0 a1_1 a1_2 a1_3) else(ebbtideref05_Arc.j0 k (decide (a1_3<0)) a1_0 a1_1 a1_2 a1_3))))))=some r:=h
 clear h
 have HC3:=Aside0.mk H
 clear H
 go_enter Try.func123,Try.ntmps123
 go_upto_region 1 with (first|((with_reducible refine gate_dst (N:=3) rfl ?_);refine box_event ?hg (N:=3) ?hd (cs:= #[.int .i64 a1_0, .int .i64 a1_1, .int .i64 a1_2, .int .i64 a1_3]) (t:=74) ?hr ?_;(case hd=>rfl);(case hg=>rfl);(case hr=>first|(go_simp;done)|(go_simp;rfl));intro gb154 hg w4 hbox hb;have n0_:=Aside0.mk (below_step (by repeat(first|(with_reducible first|exact HB.out|apply below_alloc|apply pw_below_drewN|apply below_drew1)|exact HB.out)) hb);have n1_:=Aside0.mk (hbox);have n2_:=Aside0.mk ((by rw[hg];exact(below_size (by repeat(first|(with_reducible first|exact HB.out|apply below_alloc|apply pw_below_drewN|apply below_drew1)|exact HB.out))):w.heap.size≤gb154));have n3_:=Aside0.mk ((by rw[hg];exact(below_size (by repeat(first|(with_reducible first|exact HB.out|apply below_alloc|apply pw_below_drewN|apply below_drew1)|exact HB.out))):w.heap.size≤gb154));clear HB;have HB:=n0_;have BK154:=n1_;have GW154:=n2_;have GE154:=n3_;clear n0_ n1_ n2_ n3_;clear hb hbox hg))
 (try simp only[Act.put,List.setIfInBounds_toArray,List.set_cons_zero,List.set_cons_succ])
 go_cut [34] (fun v34 wc=> ∃ (kq:Nat) (x34_2:Bool),v34= .bool x34_2∧Aside0 (ebbtideref05_Arc.j0 kq x34_2 a1_0 a1_1 a1_2 a1_3=some r)∧Aside0 (kq≤k)∧Aside0 (wc.heap[gb154]? =some (.cells #[.int .i64 a1_0, .int .i64 a1_1, .int .i64 a1_2, .int .i64 a1_3] 74 (0,0)))∧Aside0 (Below w.heap.size w wc))
 case first=>
  have H:=HC3.out
  clear HC3
  by_cases c5:a1_0<0
  ·rw[if_pos c5] at H
   have c5b0:decide (a1_0<0)=true:=decide_eq_true c5
   clear c5
   (first|rw[c5b0]|(simp only[i64_w,i32_w];rw[c5b0])|skip)
   have H':=Aside0.mk H
   clear H
   have hcz6_0:w4.cell? ⟨gb154,0,none⟩=some (.int .i64 a1_0):=(blk_cell BK154.out 0).trans rfl
   have hcz6_1:w4.cell? ⟨gb154,1,none⟩=some (.int .i64 a1_1):=(blk_cell BK154.out 1).trans rfl
   have hcz6_2:w4.cell? ⟨gb154,2,none⟩=some (.int .i64 a1_2):=(blk_cell BK154.out 2).trans rfl
   have hcz6_3:w4.cell? ⟨gb154,3,none⟩=some (.int .i64 a1_3):=(blk_cell BK154.out 3).trans rfl
   have hfz6_0:=blk_frozen BK154.out 0
   have hfz6_1:=blk_frozen BK154.out 1
   have hfz6_2:=blk_frozen BK154.out 2
   have hfz6_3:=blk_frozen BK154.out 3
   go_wp2
   go_meet
   case rel=>exact⟨_,(true),(by first|rfl|(simp;done)|(simp[*];done)),H',⟨by first|omega|exact Nat.le_refl _⟩,⟨by(with_reducible repeat(first|refine blk_drewN ?_ _|refine blk_drew ?_|refine blk_alloc ?_ _));exact BK154.out⟩,⟨by repeat(first|(with_reducible first|exact HB.out|apply below_alloc|apply pw_below_drewN|apply below_drew1|refine below_set ?_ GE154.out)|exact HB.out)⟩⟩
  rw[if_neg c5] at H
  have c5b0:decide (a1_0<0)=false:=decide_eq_false c5
  clear c5
  (first|rw[c5b0]|(simp only[i64_w,i32_w];rw[c5b0])|skip)
  by_cases c7:a1_0≥a0
  ·rw[if_pos c7] at H
   have c7b0:decide (a0≤a1_0)=true:=decide_eq_true c7
   clear c7
   have H':=Aside0.mk H
   clear H
   have hcz8_0:w4.cell? ⟨gb154,0,none⟩=some (.int .i64 a1_0):=(blk_cell BK154.out 0).trans rfl
   have hcz8_1:w4.cell? ⟨gb154,1,none⟩=some (.int .i64 a1_1):=(blk_cell BK154.out 1).trans rfl
   have hcz8_2:w4.cell? ⟨gb154,2,none⟩=some (.int .i64 a1_2):=(blk_cell BK154.out 2).trans rfl
   have hcz8_3:w4.cell? ⟨gb154,3,none⟩=some (.int .i64 a1_3):=(blk_cell BK154.out 3).trans rfl
   have hfz8_0:=blk_frozen BK154.out 0
   have hfz8_1:=blk_frozen BK154.out 1
   have hfz8_2:=blk_frozen BK154.out 2
   have hfz8_3:=blk_frozen BK154.out 3
   go_wp2
   go_meet
   case rel=>exact⟨_,(true),(by first|rfl|(simp;done)|(simp[*];done)),H',⟨by first|omega|exact Nat.le_refl _⟩,⟨by(with_reducible repeat(first|refine blk_drewN ?_ _|refine blk_drew ?_|refine blk_alloc ?_ _));exact BK154.out⟩,⟨by repeat(first|(with_reducible first|exact HB.out|apply below_alloc|apply pw_below_drewN|apply below_drew1|refine below_set ?_ GE154.out)|exact HB.out)⟩⟩
  rw[if_neg c7] at H
  have c7b0:decide (a0≤a1_0)=false:=decide_eq_false c7
  clear c7
  by_cases c9:a1_1<0
  ·rw[if_pos c9] at H
   have c9b0:decide (a1_1<0)=true:=decide_eq_true c9
   clear c9
   have H':=Aside0.mk H
   clear H
   have hcz10_0:w4.cell? ⟨gb154,0,none⟩=some (.int .i64 a1_0):=(blk_cell BK154.out 0).trans rfl
   have hcz10_1:w4.cell? ⟨gb154,1,none⟩=some (.int .i64 a1_1):=(blk_cell BK154.out 1).trans rfl
   have hcz10_2:w4.cell? ⟨gb154,2,none⟩=some (.int .i64 a1_2):=(blk_cell BK154.out 2).trans rfl
   have hcz10_3:w4.cell? ⟨gb154,3,none⟩=some (.int .i64 a1_3):=(blk_cell BK154.out 3).trans rfl
   have hfz10_0:=blk_frozen BK154.out 0
   have hfz10_1:=blk_frozen BK154.out 1
   have hfz10_2:=blk_frozen BK154.out 2
   have hfz10_3:=blk_frozen BK154.out 3
   go_wp2
   go_meet
   case rel=>exact⟨_,(true),(by first|rfl|(simp;done)|(simp[*];done)),H',⟨by first|omega|exact Nat.le_refl _⟩,⟨by(with_reducible repeat(first|refine blk_drewN ?_ _|refine blk_drew ?_|refine blk_alloc ?_ _));exact BK154.out⟩,⟨by repeat(first|(with_reducible first|exact HB.out|apply below_alloc|apply pw_below_drewN|apply below_drew1|refine below_set ?_ GE154.out)|exact HB.out)⟩⟩
  rw[if_neg c9] at H
  have c9b0:decide (a1_1<0)=false:=decide_eq_false c9
  clear c9
  by_cases c11:a1_1≥a0
  ·rw[if_pos c11] at H
   have c11b0:decide (a0≤a1_1)=true:=decide_eq_true c11
   clear c11
   have H':=Aside0.mk H
   clear H
   have hcz12_0:w4.cell? ⟨gb154,0,none⟩=some (.int .i64 a1_0):=(blk_cell BK154.out 0).trans rfl
   have hcz12_1:w4.cell? ⟨gb154,1,none⟩=some (.int .i64 a1_1):=(blk_cell BK154.out 1).trans rfl
   have hcz12_2:w4.cell? ⟨gb154,2,none⟩=some (.int .i64 a1_2):=(blk_cell BK154.out 2).trans rfl
   have hcz12_3:w4.cell? ⟨gb154,3,none⟩=some (.int .i64 a1_3):=(blk_cell BK154.out 3).trans rfl
   have hfz12_0:=blk_frozen BK154.out 0
   have hfz12_1:=blk_frozen BK154.out 1
   have hfz12_2:=blk_frozen BK154.out 2
   have hfz12_3:=blk_frozen BK154.out 3
   go_wp2
   go_meet
   case rel=>exact⟨_,(true),(by first|rfl|(simp;done)|(simp[*];done)),H',⟨by first|omega|exact Nat.le_refl _⟩,⟨by(with_reducible repeat(first|refine blk_drewN ?_ _|refine blk_drew ?_|refine blk_alloc ?_ _));exact BK154.out⟩,⟨by repeat(first|(with_reducible first|exact HB.out|apply below_alloc|apply pw_below_drewN|apply below_drew1|refine below_set ?_ GE154.out)|exact HB.out)⟩⟩
  rw[if_neg c11] at H
  have c11b0:decide (a0≤a1_1)=false:=decide_eq_false c11
  clear c11
  by_cases c13:a1_2<0
  rotate_left
  ·rw[if_neg c13] at H
   have c13b0:decide (a1_2<0)=false:=decide_eq_false c13
   clear c13
   have H':=Aside0.mk H
   clear H
   have hcz15_0:w4.cell? ⟨gb154,0,none⟩=some (.int .i64 a1_0):=(blk_cell BK154.out 0).trans rfl
   have hcz15_1:w4.cell? ⟨gb154,1,none⟩=some (.int .i64 a1_1):=(blk_cell BK154.out 1).trans rfl
   have hcz15_2:w4.cell? ⟨gb154,2,none⟩=some (.int .i64 a1_2):=(blk_cell BK154.out 2).trans rfl
   have hcz15_3:w4.cell? ⟨gb154,3,none⟩=some (.int .i64 a1_3):=(blk_cell BK154.out 3).trans rfl
   have hfz15_0:=blk_frozen BK154.out 0
   have hfz15_1:=blk_frozen BK154.out 1
   have hfz15_2:=blk_frozen BK154.out 2
   have hfz15_3:=blk_frozen BK154.out 3
   go_wp2
   go_meet
   case rel=>exact⟨_,(decide (a1_3<0)),(by first|rfl|(simp;done)|(simp[*];done)),H',⟨by first|omega|exact Nat.le_refl _⟩,⟨by(with_reducible repeat(first|refine blk_drewN ?_ _|refine blk_drew ?_|refine blk_alloc ?_ _));exact BK154.out⟩,⟨by repeat(first|(with_reducible first|exact HB.out|apply below_alloc|apply pw_below_drewN|apply below_drew1|refine below_set ?_ GE154.out)|exact HB.out)⟩⟩
  rw[if_pos c13] at H
  have c13b0:decide (a1_2<0)=true:=decide_eq_true c13
  clear c13
  have H':=Aside0.mk H
  clear H
  have hcz14_0:w4.cell? ⟨gb154,0,none⟩=some (.int .i64 a1_0):=(blk_cell BK154.out 0).trans rfl
  have hcz14_1:w4.cell? ⟨gb154,1,none⟩=some (.int .i64 a1_1):=(blk_cell BK154.out 1).trans rfl
  have hcz14_2:w4.cell? ⟨gb154,2,none⟩=some (.int .i64 a1_2):=(blk_cell BK154.out 2).trans rfl
  have hcz14_3:w4.cell? ⟨gb154,3,none⟩=some (.int .i64 a1_3):=(blk_cell BK154.out 3).trans rfl
  have hfz14_0:=blk_frozen BK154.out 0
  have hfz14_1:=blk_frozen BK154.out 1
  have hfz14_2:=blk_frozen BK154.out 2
  have hfz14_3:=blk_frozen BK154.out 3
  go_wp2
  go_meet
  case rel=>exact⟨_,(true),(by first|rfl|(simp;done)|(simp[*];done)),H',⟨by first|omega|exact Nat.le_refl _⟩,⟨by(with_reducible repeat(first|refine blk_drewN ?_ _|refine blk_drew ?_|refine blk_alloc ?_ _));exact BK154.out⟩,⟨by repeat(first|(with_reducible first|exact HB.out|apply below_alloc|apply pw_below_drewN|apply below_drew1|refine below_set ?_ GE154.out)|exact HB.out)⟩⟩
 case rest=>
  clear HC3
  try clear c1
  try clear p2
  try clear c5
  try clear c5b0
  try clear c7
  try clear c7b0
  try clear c9
  try clear c9b0
  try clear c11
  try clear c11b0
  try clear c12
  try clear c13
  try clear c13b0
  try clear hcz10_0
  try clear hcz10_1
  try clear hcz10_2
  try clear hcz10_3
  try clear hcz12_0
  try clear hcz12_1
  try clear hcz12_2
  try clear hcz12_3
  try clear hcz14_0
  try clear hcz14_1
  try clear hcz14_2
  try clear hcz14_3
  try clear hcz15_0
  try clear hcz15_1
  try clear hcz15_2
  try clear hcz15_3
  try clear hcz6_0
  try clear hcz6_1
  try clear hcz6_2
  try clear hcz6_3
  try clear hcz8_0
  try clear hcz8_1
  try clear hcz8_2
  try clear hcz8_3
  try clear hfz10_0
  try clear hfz10_1
  try clear hfz10_2
  try clear hfz10_3
  try clear hfz12_0
  try clear hfz12_1
  try clear hfz12_2
  try clear hfz12_3
  try clear hfz14_0
  try clear hfz14_1
  try clear hfz14_2
  try clear hfz14_3
  try clear hfz15_0
  try clear hfz15_1
  try clear hfz15_2
  try clear hfz15_3
  try clear hfz6_0
  try clear hfz6_1
  try clear hfz6_2
  try clear hfz6_3
  try clear hfz8_0
  try clear hfz8_1
  try clear hfz8_2
  try clear hfz8_3
  obtain⟨kq,x34_2,rfl,HA,HJ2,BK154,HB⟩:=hcut
  cases kq with
  |zero=>exact absurd HA.out (by simp[ebbtideref05_Arc.j0])
  |succ kj2=>
   have H:=HA.out
   clear HA
   simp only[ebbtideref05_Arc.j0] at H
   by_cases c16:x34_2=true
   ·subst c16
    have H1:(some 51)=some r:=by first|(rw[if_pos rfl] at H;exact H)|(rw[if_pos trivial] at H;exact H)
    clear H
    have H:=H1
    clear H1
    obtain rfl:=Option.some.inj H
    go_wp2
    go_ret
    exact⟨by first|rfl|(simp[errW_none,errW_some]<;>rfl)|(simp[*,errW_none,errW_some]<;>rfl),by repeat(first|(with_reducible first|exact HB.out|apply below_alloc|apply pw_below_drewN|apply below_drew1|refine below_set ?_ GE154.out)|exact HB.out)⟩
   replace c16:=Bool.eq_false_iff.mpr c16
   subst c16
   have H1:(if a1_2>1048576 then(some 2) else(if a1_3>1048576 then(some 2) else(some 0)))=some r:=by rw[if_neg (show ¬ (false=true) by decide)] at H;exact H
   clear H
   have H:=H1
   clear H1
   by_cases c17:a1_2>1048576
   ·rw[if_pos c17] at H
    have c17b0:decide (1048576<a1_2)=true:=decide_eq_true c17
    clear c17
    obtain rfl:=Option.some.inj H
    have hcz18_0:wc.cell? ⟨gb154,0,none⟩=some (.int .i64 a1_0):=(blk_cell BK154.out 0).trans rfl
    have hcz18_1:wc.cell? ⟨gb154,1,none⟩=some (.int .i64 a1_1):=(blk_cell BK154.out 1).trans rfl
    have hcz18_2:wc.cell? ⟨gb154,2,none⟩=some (.int .i64 a1_2):=(blk_cell BK154.out 2).trans rfl
    have hcz18_3:wc.cell? ⟨gb154,3,none⟩=some (.int .i64 a1_3):=(blk_cell BK154.out 3).trans rfl
    have hfz18_0:=blk_frozen BK154.out 0
    have hfz18_1:=blk_frozen BK154.out 1
    have hfz18_2:=blk_frozen BK154.out 2
    have hfz18_3:=blk_frozen BK154.out 3
    go_wp2
    go_ret
    exact⟨by first|rfl|(simp[errW_none,errW_some]<;>rfl)|(simp[*,errW_none,errW_some]<;>rfl),by repeat(first|(with_reducible first|exact HB.out|apply below_alloc|apply pw_below_drewN|apply below_drew1|refine below_set ?_ GE154.out)|exact HB.out)⟩
   rw[if_neg c17] at H
   have c17b0:decide (1048576<a1_2)=false:=decide_eq_false c17
   clear c17
   by_cases c19:a1_3>1048576
   rotate_left
   ·rw[if_neg c19] at H
    have c19b0:decide (1048576<a1_3)=false:=decide_eq_false c19
    clear c19
    obtain rfl:=Option.some.inj H
    have hcz21_0:wc.cell? ⟨gb154,0,none⟩=some (.int .i64 a1_0):=(blk_cell BK154.out 0).trans rfl
    have hcz21_1:wc.cell? ⟨gb154,1,none⟩=some (.int .i64 a1_1):=(blk_cell BK154.out 1).trans rfl
    have hcz21_2:wc.cell? ⟨gb154,2,none⟩=some (.int .i64 a1_2):=(blk_cell BK154.out 2).trans rfl
    have hcz21_3:wc.cell? ⟨gb154,3,none⟩=some (.int .i64 a1_3):=(blk_cell BK154.out 3).trans rfl
    have hfz21_0:=blk_frozen BK154.out 0
    have hfz21_1:=blk_frozen BK154.out 1
    have hfz21_2:=blk_frozen BK154.out 2
    have hfz21_3:=blk_frozen BK154.out 3
    go_wp2
    go_ret
    exact⟨by first|rfl|(simp[errW_none,errW_some]<;>rfl)|(simp[*,errW_none,errW_some]<;>rfl),by repeat(first|(with_reducible first|exact HB.out|apply below_alloc|apply pw_below_drewN|apply below_drew1|refine below_set ?_ GE154.out)|exact HB.out)⟩
   rw[if_pos c19] at H
   have c19b0:decide (1048576<a1_3)=true:=decide_eq_true c19
   clear c19
   obtain rfl:=Option.some.inj H
   have hcz20_0:wc.cell? ⟨gb154,0,none⟩=some (.int .i64 a1_0):=(blk_cell BK154.out 0).trans rfl
   have hcz20_1:wc.cell? ⟨gb154,1,none⟩=some (.int .i64 a1_1):=(blk_cell BK154.out 1).trans rfl
   have hcz20_2:wc.cell? ⟨gb154,2,none⟩=some (.int .i64 a1_2):=(blk_cell BK154.out 2).trans rfl
   have hcz20_3:wc.cell? ⟨gb154,3,none⟩=some (.int .i64 a1_3):=(blk_cell BK154.out 3).trans rfl
   have hfz20_0:=blk_frozen BK154.out 0
   have hfz20_1:=blk_frozen BK154.out 1
   have hfz20_2:=blk_frozen BK154.out 2
   have hfz20_3:=blk_frozen BK154.out 3
   go_wp2
   go_ret
   exact⟨by first|rfl|(simp[errW_none,errW_some]<;>rfl)|(simp[*,errW_none,errW_some]<;>rfl),by repeat(first|(with_reducible first|exact HB.out|apply below_alloc|apply pw_below_drewN|apply below_drew1|refine below_set ?_ GE154.out)|exact HB.out)⟩
end Go.Proofs.Ytkcpanpdipmmmaa.P
namespace Go.Proofs.Ytkcpanpdipmmmaa.P
open Go.RowKit Go.Proofs.YtkcpanpdipmmmaaW.PrintWords Go.Proofs.YtkcpanpdipmmmaaW.PrintLast Go.Proofs.YtkcpanpdipmmmaaW.PrintMore
attribute [local go_sem] max2_int min2_int max_two min_two max_three min_three max_four min_four
def ebbtideref05_Check.l0:Nat→Int→Int→Bool→List (S74)→Option (Int)
 |0,_,_,_,_=>none
 |k+1,x4,x156000,x156001,x156002=>if x4<(x156002.length:Int) then(if 0≤x4 then((ebbtideref05_Arc.f k x156000 ((rd_T74 x156002 x4).f0) ((rd_T74 x156002 x4).f1) ((rd_T74 x156002 x4).f2) ((rd_T74 x156002 x4).f3)).bind fun t158=>(if t158=0 then(ebbtideref05_Check.l0 k (wrap64 (x4+1)) x156000 x156001 x156002) else(some t158))) else(none)) else(some 0)
def ebbtideref05_Check.f (k:Nat) (a0_0:Int) (a0_1:Bool) (l0_2:List (S74)):Option (Int):=(ebbtideref05_nodes.f a0_0).bind fun t156=>(if t156=0 then(if (l0_2.length:Int)>200 then(some 2) else(ebbtideref05_Check.l0 k 0 a0_0 a0_1 l0_2)) else(some t156))
def ebbtideref05_Check.T9:Bool × List (List Nat × List Nat):=(true,[([],[]),([0],[0]),([],[]),([2],[2]),([],[]),([3,4],[3,4]),([5],[5]),([1,6],[1,6]),([7,7,0,1,2,3,4,5,6,7],[7])])
def ebbtideref05_Check.B9:List Nat:=[0,1,0,4,0,28,60,127,255]
theorem ebbtideref05_Check.tab9:rtab .any (opsOf Try.f78 9)=ebbtideref05_Check.T9:=by kernel_rfl
theorem ebbtideref05_Check.bits9:waitsOk ebbtideref05_Check.T9.2 ebbtideref05_Check.B9=true:=by kernel_rfl
set_option maxHeartbeats 8000000 in
set_option maxRecDepth 100000 in
theorem ebbtideref05_Check.calls (k:Nat) (a0_0:Int) (a0_1:Bool) (A0_2:Option Addr) (c0_2:Nat) (l0_2:List (S74)) (r:Int) (w:World) (hr0_2:Kd.C k74 w A0_2 l0_2.length l0_2) (hc0_2:l0_2.length≤c0_2) (h:ebbtideref05_Check.f k a0_0 a0_1 l0_2=some r):
  Calls Try.prog 78 #[.agg #[.int .i64 a0_0, .bool a0_1, .slice A0_2 l0_2.length c0_2]] w fun e w'=>e= .returned (.int .i64 r)∧Below w.heap.size w w':=by
 have hu24:=Try.underlying24
 have hu74:=Try.underlying74
 have HR0_2:=Aside0.mk hr0_2
 have HC0_2:=Aside0.mk hc0_2
 clear hr0_2 hc0_2
 have HB:=Aside0.mk (Below.refl w.heap.size w)
 have H:((ebbtideref05_nodes.f a0_0).bind fun t156=>(if t156=0 then(if (l0_2.length:Int)>200 then(some 2) else(ebbtideref05_Check.l0 k 0 a0_0 a0_1 l0_2)) else(some t156)))=some r:=h
 clear h
 replace H:=Option.bind_eq_some_iff.mp H
 obtain⟨t156,A20,H⟩:=H
 replace H:(if t156=0 then(if (l0_2.length:Int)>200 then(some 2) else(ebbtideref05_Check.l0 k 0 a0_0 a0_1 l0_2)) else(some t156))=some r:=H
 have A2:=Aside0.mk A20
 clear A20
 by_cases c3:t156=0
 rotate_left
 ·rw[if_neg c3] at H
  have c3b0:(t156 == 0)=false:=beq_eq_false_iff_ne.mpr c3
  have c3b1:(t156 != 0)=true:=bne_iff_ne.mpr c3
  obtain rfl:=Option.some.inj H
  go_enter Try.func78,Try.ntmps78
  go_wp2_with (first|((with_reducible refine gate_dst (N:=1) rfl ?_);refine box_event ?hg (N:=1) ?hd (cs:= #[.int .i64 a0_0, .bool a0_1, .slice A0_2 l0_2.length c0_2]) (t:=24) ?hr ?_;(case hd=>rfl);(case hg=>rfl);(case hr=>first|(go_simp;done)|(go_simp;rfl));intro gb155 hg w20 hbox hb;have n0_:=Aside0.mk (below_step HB.out hb);have n1_:=Aside0.mk (hbox);have n2_:=Aside0.mk ((by rw[hg];exact(below_size HB.out):w.heap.size≤gb155));have n3_:=Aside0.mk ((by rw[hg];exact(below_size HB.out):w.heap.size≤gb155));clear HB;have HB:=n0_;have BK155:=n1_;have GW155:=n2_;have GE155:=n3_;clear n0_ n1_ n2_ n3_;clear hb hbox hg;have hcz21_0:w20.cell? ⟨gb155,0,none⟩=some (.int .i64 a0_0):=(blk_cell BK155.out 0).trans rfl;have hcz21_1:w20.cell? ⟨gb155,1,none⟩=some (.bool a0_1):=(blk_cell BK155.out 1).trans rfl;have hcz21_2:w20.cell? ⟨gb155,2,none⟩=some (.slice A0_2 l0_2.length c0_2):=(blk_cell BK155.out 2).trans rfl;have hfz21_0:=blk_frozen BK155.out 0;have hfz21_1:=blk_frozen BK155.out 1;have hfz21_2:=blk_frozen BK155.out 2)|((with_reducible refine gate_callee (f:=122) rfl ?_);refine goesL_ (some 8) rfl rfl Try.func122 (by kernel_rfl) rfl #[.int .i64 a0_0] rfl (by(try simp only[List.map_toArray,List.map_cons,List.map_nil]);first|done|rfl|(simp only[List.length_drop,List.length_take];rfl)) ?_;(with_reducible refine(ebbtideref05_nodes.calls a0_0 t156 _ A2.out).mono ?_);rintro e w' ⟨rfl,⟨nd,rfl⟩⟩;refine⟨_,rfl,?_⟩))
  go_ret
  exact⟨by first|rfl|(simp[errW_none,errW_some]<;>rfl)|(simp[*,errW_none,errW_some]<;>rfl),by repeat(first|(with_reducible first|exact HB.out|apply below_alloc|apply pw_below_drewN|apply below_drew1|refine below_set ?_ GE155.out)|exact HB.out)⟩
 rw[if_pos c3] at H
 have c3b0:(t156 == 0)=true:=beq_iff_eq.mpr c3
 have c3b1:(t156 != 0)=false:=bne_eq_false_iff_eq.mpr c3
 clear c3
 by_cases c4:(l0_2.length:Int)>200
 ·rw[if_pos c4] at H
  have c4b0:decide (200<(l0_2.length:Int))=true:=decide_eq_true c4
  have c4b1:decide (200<l0_2.length)=true:=decide_eq_true (by omega)
  clear c4
  obtain rfl:=Option.some.inj H
  go_enter Try.func78,Try.ntmps78
  go_wp2_with (first|((with_reducible refine gate_dst (N:=1) rfl ?_);refine box_event ?hg (N:=1) ?hd (cs:= #[.int .i64 a0_0, .bool a0_1, .slice A0_2 l0_2.length c0_2]) (t:=24) ?hr ?_;(case hd=>rfl);(case hg=>rfl);(case hr=>first|(go_simp;done)|(go_simp;rfl));intro gb155 hg w5 hbox hb;have n0_:=Aside0.mk (below_step HB.out hb);have n1_:=Aside0.mk (hbox);have n2_:=Aside0.mk ((by rw[hg];exact(below_size HB.out):w.heap.size≤gb155));have n3_:=Aside0.mk ((by rw[hg];exact(below_size HB.out):w.heap.size≤gb155));clear HB;have HB:=n0_;have BK155:=n1_;have GW155:=n2_;have GE155:=n3_;clear n0_ n1_ n2_ n3_;clear hb hbox hg;have hcz6_0:w5.cell? ⟨gb155,0,none⟩=some (.int .i64 a0_0):=(blk_cell BK155.out 0).trans rfl;have hcz6_1:w5.cell? ⟨gb155,1,none⟩=some (.bool a0_1):=(blk_cell BK155.out 1).trans rfl;have hcz6_2:w5.cell? ⟨gb155,2,none⟩=some (.slice A0_2 l0_2.length c0_2):=(blk_cell BK155.out 2).trans rfl;have hfz6_0:=blk_frozen BK155.out 0;have hfz6_1:=blk_frozen BK155.out 1;have hfz6_2:=blk_frozen BK155.out 2)|((with_reducible refine gate_callee (f:=122) rfl ?_);refine goesL_ (some 8) rfl rfl Try.func122 (by kernel_rfl) rfl #[.int .i64 a0_0] rfl (by(try simp only[List.map_toArray,List.map_cons,List.map_nil]);first|done|rfl|(simp only[List.length_drop,List.length_take];rfl)) ?_;(with_reducible refine(ebbtideref05_nodes.calls a0_0 t156 _ A2.out).mono ?_);rintro e w' ⟨rfl,⟨nd,rfl⟩⟩;refine⟨_,rfl,?_⟩))
  go_ret
  exact⟨by first|rfl|(simp[errW_none,errW_some]<;>rfl)|(simp[*,errW_none,errW_some]<;>rfl),by repeat(first|(with_reducible first|exact HB.out|apply below_alloc|apply pw_below_drewN|apply below_drew1|refine below_set ?_ GE155.out)|exact HB.out)⟩
 rw[if_neg c4] at H
 have c4b0:decide (200<(l0_2.length:Int))=false:=decide_eq_false c4
 have c4b1:decide (200<l0_2.length)=false:=decide_eq_false (by omega)
 clear c4
 have H':=Aside0.mk H
 clear H
 go_enter Try.func78,Try.ntmps78
 go_wp2_with (first|((with_reducible refine gate_dst (N:=1) rfl ?_);refine box_event ?hg (N:=1) ?hd (cs:= #[.int .i64 a0_0, .bool a0_1, .slice A0_2 l0_2.length c0_2]) (t:=24) ?hr ?_;(case hd=>rfl);(case hg=>rfl);(case hr=>first|(go_simp;done)|(go_simp;rfl));intro gb155 hg w7 hbox hb;have n0_:=Aside0.mk (below_step HB.out hb);have n1_:=Aside0.mk (hbox);have n2_:=Aside0.mk ((by rw[hg];exact(below_size HB.out):w.heap.size≤gb155));have n3_:=Aside0.mk ((by rw[hg];exact(below_size HB.out):w.heap.size≤gb155));clear HB;have HB:=n0_;have BK155:=n1_;have GW155:=n2_;have GE155:=n3_;clear n0_ n1_ n2_ n3_;clear hb hbox hg;have hcz8_0:w7.cell? ⟨gb155,0,none⟩=some (.int .i64 a0_0):=(blk_cell BK155.out 0).trans rfl;have hcz8_1:w7.cell? ⟨gb155,1,none⟩=some (.bool a0_1):=(blk_cell BK155.out 1).trans rfl;have hcz8_2:w7.cell? ⟨gb155,2,none⟩=some (.slice A0_2 l0_2.length c0_2):=(blk_cell BK155.out 2).trans rfl;have hfz8_0:=blk_frozen BK155.out 0;have hfz8_1:=blk_frozen BK155.out 1;have hfz8_2:=blk_frozen BK155.out 2)|((with_reducible refine gate_callee (f:=122) rfl ?_);refine goesL_ (some 8) rfl rfl Try.func122 (by kernel_rfl) rfl #[.int .i64 a0_0] rfl (by(try simp only[List.map_toArray,List.map_cons,List.map_nil]);first|done|rfl|(simp only[List.length_drop,List.length_take];rfl)) ?_;(with_reducible refine(ebbtideref05_nodes.calls a0_0 t156 _ A2.out).mono ?_);rintro e w' ⟨rfl,⟨nd,rfl⟩⟩;refine⟨_,rfl,?_⟩))
 go_loopg [4] k (fun kq v4 w'=> ∃ (x4_1:Int),v4= .int .i64 x4_1∧Aside0 (ebbtideref05_Check.l0 kq x4_1 a0_0 a0_1 l0_2=some r)∧Aside0 (kq≤k)∧Aside0 (w'.heap[gb155]? =some (.cells #[.int .i64 a0_0, .bool a0_1,(.slice A0_2 l0_2.length c0_2)] 24 (0,0)))∧Aside0 (Below w.heap.size w w'))
 case atStart=>exact⟨(0),(by first|rfl|(simp;done)|(simp[*];done)),H',⟨Nat.le_refl _⟩,⟨by(with_reducible repeat(first|refine blk_drewN ?_ _|refine blk_drew ?_|refine blk_alloc ?_ _));exact BK155.out⟩,⟨by repeat(first|(with_reducible first|exact HB.out|apply below_alloc|apply pw_below_drewN|apply below_drew1|refine below_set ?_ GE155.out)|exact HB.out)⟩⟩
 case round=>
  clear H'
  try clear c1
  try clear p2
  try clear c3
  try clear c3b0
  try clear c3b1
  try clear c4
  try clear c4b0
  try clear c4b1
  try clear c7
  try clear hcz6_0
  try clear hcz6_1
  try clear hcz6_2
  try clear hcz8_0
  try clear hcz8_1
  try clear hcz8_2
  try clear hfz6_0
  try clear hfz6_1
  try clear hfz6_2
  try clear hfz8_0
  try clear hfz8_1
  try clear hfz8_2
  obtain⟨x4_1,rfl,HA,HK1,BK155,HB⟩:=hrel
  cases gk with
  |zero=>exact absurd HA.out (by simp[ebbtideref05_Check.l0])
  |succ k1=>
   have H:=HA.out
   clear HA
   simp only[ebbtideref05_Check.l0] at H
   by_cases c9:x4_1<(l0_2.length:Int)
   rotate_left
   ·rw[if_neg c9] at H
    have c9b0:decide (x4_1<(l0_2.length:Int))=false:=decide_eq_false c9
    clear c9
    obtain rfl:=Option.some.inj H
    have hcz19_0:wr.cell? ⟨gb155,0,none⟩=some (.int .i64 a0_0):=(blk_cell BK155.out 0).trans rfl
    have hcz19_1:wr.cell? ⟨gb155,1,none⟩=some (.bool a0_1):=(blk_cell BK155.out 1).trans rfl
    have hcz19_2:wr.cell? ⟨gb155,2,none⟩=some (.slice A0_2 l0_2.length c0_2):=(blk_cell BK155.out 2).trans rfl
    have hfz19_0:=blk_frozen BK155.out 0
    have hfz19_1:=blk_frozen BK155.out 1
    have hfz19_2:=blk_frozen BK155.out 2
    go_wp2
    go_ret
    exact⟨by first|rfl|(simp[errW_none,errW_some]<;>rfl)|(simp[*,errW_none,errW_some]<;>rfl),HB.out⟩
   rw[if_pos c9] at H
   have c9b0:decide (x4_1<(l0_2.length:Int))=true:=decide_eq_true c9
   clear c9
   by_cases c10:0≤x4_1
   rotate_left
   ·rw[if_neg c10] at H
    exact absurd H (by simp)
   rw[if_pos c10] at H
   have c10b0:decide (0≤x4_1)=true:=decide_eq_true c10
   clear c10
   replace H:=Option.bind_eq_some_iff.mp H
   obtain⟨t158,A110,H⟩:=H
   replace H:(if t158=0 then(ebbtideref05_Check.l0 k1 (wrap64 (x4_1+1)) a0_0 a0_1 l0_2) else(some t158))=some r:=H
   have A11:=Aside0.mk A110
   clear A110
   by_cases c12:t158=0
   rotate_left
   ·rw[if_neg c12] at H
    have c12b0:(t158 == 0)=false:=beq_eq_false_iff_ne.mpr c12
    have c12b1:(t158 != 0)=true:=bne_iff_ne.mpr c12
    obtain rfl:=Option.some.inj H
    have hcz16_0:wr.cell? ⟨gb155,0,none⟩=some (.int .i64 a0_0):=(blk_cell BK155.out 0).trans rfl
    have hcz16_1:wr.cell? ⟨gb155,1,none⟩=some (.bool a0_1):=(blk_cell BK155.out 1).trans rfl
    have hcz16_2:wr.cell? ⟨gb155,2,none⟩=some (.slice A0_2 l0_2.length c0_2):=(blk_cell BK155.out 2).trans rfl
    have hfz16_0:=blk_frozen BK155.out 0
    have hfz16_1:=blk_frozen BK155.out 1
    have hfz16_2:=blk_frozen BK155.out 2
    try go_wp2
    have n0_:=Aside0.mk (blk_drew BK155.out)
    have n1_:=Aside0.mk (below_drew1 HB.out)
    clear BK155
    clear HB
    have BK155:=n0_
    have HB:=n1_
    clear n0_ n1_
    have p157:0≤(x4_1:Int):=of_decide_eq_true (by first|(with_reducible assumption)|assumption)
    have q157:x4_1<(l0_2.length:Int):=of_decide_eq_true (by first|(with_reducible assumption)|assumption)
    obtain⟨ad157,e157,hx157_0,hx157_1,hx157_2,hx157_3⟩:=at_T74 HR0_2.out x4_1 p157 q157
    have hw157_3:=hx157_3
    have hw157_2:=hx157_2
    have hw157_1:=hx157_1
    have hw157_0:=hx157_0
    cases e157
    replace hx157_0:=(HB.out.cell (World.block_lt_of_cell? w _ hx157_0)).trans hx157_0
    replace hx157_1:=(HB.out.cell (World.block_lt_of_cell? w _ hx157_1)).trans hx157_1
    replace hx157_2:=(HB.out.cell (World.block_lt_of_cell? w _ hx157_2)).trans hx157_2
    replace hx157_3:=(HB.out.cell (World.block_lt_of_cell? w _ hx157_3)).trans hx157_3
    replace p157:=eq_true p157
    replace q157:=eq_true q157
    refine start_ (n:=9) (S:=fun w'=>w'.cell? ⟨gb155,0,none⟩=some (.int .i64 a0_0)∧w'.cell? ⟨gb155,1,none⟩=some (.bool a0_1)∧w'.cell? ⟨gb155,2,none⟩=some (.slice (some ad157) l0_2.length c0_2)∧w'.cell? (ad157.add ((x4_1).toNat * 4))=some (.int .i64 ((rd_T74 l0_2 x4_1).f0))∧w'.cell? ⟨(ad157.add ((x4_1).toNat * 4)).block,(ad157.add ((x4_1).toNat * 4)).off+1,none⟩=some (.int .i64 ((rd_T74 l0_2 x4_1).f1))∧w'.cell? ⟨(ad157.add ((x4_1).toNat * 4)).block,(ad157.add ((x4_1).toNat * 4)).off+2,none⟩=some (.int .i64 ((rd_T74 l0_2 x4_1).f2))∧w'.cell? ⟨(ad157.add ((x4_1).toNat * 4)).block,(ad157.add ((x4_1).toNat * 4)).off+3,none⟩=some (.int .i64 ((rd_T74 l0_2 x4_1).f3))) (ds:=[]) #[false,false,false,false,false,false,false,false,false] (by kernel_rfl) rfl rfl ⟨(blk_cell BK155.out 0).trans rfl,(blk_cell BK155.out 1).trans rfl,(blk_cell BK155.out 2).trans rfl,((HB.out.cell (World.block_lt_of_cell? w _ hw157_0)).trans hw157_0),((HB.out.cell (World.block_lt_of_cell? w _ hw157_1)).trans hw157_1),((HB.out.cell (World.block_lt_of_cell? w _ hw157_2)).trans hw157_2),((HB.out.cell (World.block_lt_of_cell? w _ hw157_3)).trans hw157_3)⟩ (fun hHeld=> ?_);refine with_tabW ebbtideref05_Check.tab9 ebbtideref05_Check.bits9 (fun HT_ HW_=> ?_)
    generalize wr.drew=w17 at BK155 HB hx157_0 hx157_1 hx157_2 hx157_3 hHeld ⊢
    refine pure_ (i:=0) (N:=some 23) (v:= ?_) (a':= ?_) #[true,false,false,false,false,false,false,false,false] rfl rfl (any_of HT_.out (by kernel_rfl)) (fun _ _ _ h=>h) (Or.inl ⟨by rfl,?_⟩) ?_ ?_
    rotate_left
    ·intro w'
     go_simp
     with_reducible rfl
    rotate_left
    ·simp only[Act.put,List.setIfInBounds_toArray,List.set_cons_zero,List.set_cons_succ,i64_w,i32_w]
     rfl
    refine pure_ (i:=2) (N:=some 25) (v:= ?_) (a':= ?_) #[true,false,true,false,false,false,false,false,false] rfl rfl (any_of HT_.out (by kernel_rfl)) (fun _ _ _ h=>h) (Or.inl ⟨by rfl,?_⟩) ?_ ?_
    rotate_left
    ·intro w'
     go_simp
     with_reducible rfl
    rotate_left
    ·simp only[Act.put,List.setIfInBounds_toArray,List.set_cons_zero,List.set_cons_succ,i64_w,i32_w]
     rfl
    refine pure_ (i:=4) (N:=some 27) (v:= ?_) (a':= ?_) #[true,false,true,false,true,false,false,false,false] rfl rfl (any_of HT_.out (by kernel_rfl)) (fun _ _ _ h=>h) (Or.inl ⟨by rfl,?_⟩) ?_ ?_
    rotate_left
    ·intro w'
     go_simp
     with_reducible rfl
    rotate_left
    ·simp only[Act.put,List.setIfInBounds_toArray,List.set_cons_zero,List.set_cons_succ,i64_w,i32_w]
     rfl
    refine take_ (i:=1) (N:=some 24) (v:= ?_) (a':= ?_) #[true,true,true,false,true,false,false,false,false] rfl rfl (take_ofW HT_.out HW_.out (by kernel_rfl)) (fun _ _ _ h=>h) (Or.inl ⟨by rfl,?_⟩) hHeld ?_ ?_
    rotate_left
    ·rintro w' ⟨s0,s1,s2,s3,s4,s5,s6⟩
     go_simp
     with_reducible rfl
    rotate_left
    ·simp only[Act.put,List.setIfInBounds_toArray,List.set_cons_zero,List.set_cons_succ,i64_w,i32_w]
     rfl
    refine take_ (i:=3) (N:=some 26) (v:= ?_) (a':= ?_) #[true,true,true,true,true,false,false,false,false] rfl rfl (take_ofW HT_.out HW_.out (by kernel_rfl)) (fun _ _ _ h=>h) (Or.inl ⟨by rfl,?_⟩) hHeld ?_ ?_
    rotate_left
    ·rintro w' ⟨s0,s1,s2,s3,s4,s5,s6⟩
     go_simp
     with_reducible rfl
    rotate_left
    ·simp only[Act.put,List.setIfInBounds_toArray,List.set_cons_zero,List.set_cons_succ,i64_w,i32_w]
     rfl
    refine pure_ (i:=5) (N:=some 28) (v:= ?_) (a':= ?_) #[true,true,true,true,true,true,false,false,false] rfl rfl (any_of HT_.out (by kernel_rfl)) (fun _ _ _ h=>h) (Or.inl ⟨by rfl,?_⟩) ?_ ?_
    rotate_left
    ·intro w'
     go_simp
     with_reducible rfl
    rotate_left
    ·simp only[Act.put,List.setIfInBounds_toArray,List.set_cons_zero,List.set_cons_succ,i64_w,i32_w]
     rfl
    refine take_ (i:=6) (N:=some 29) (v:= ?_) (a':= ?_) #[true,true,true,true,true,true,true,false,false] rfl rfl (take_ofW HT_.out HW_.out (by kernel_rfl)) (fun _ _ _ h=>h) (Or.inl ⟨by rfl,?_⟩) hHeld ?_ ?_
    rotate_left
    ·rintro w' ⟨s0,s1,s2,s3,s4,s5,s6⟩
     go_simp
     with_reducible rfl
    rotate_left
    ·simp only[Act.put,List.setIfInBounds_toArray,List.set_cons_zero,List.set_cons_succ,i64_w,i32_w]
     rfl
    refine one_ (i:=7) (N:=some 30) #[true,true,true,true,true,true,true,true,false] rfl rfl (one_of HT_.out (by kernel_rfl)) (by decide) (fun K hK=> ?_)
    refine goes_ Try.func123 (by kernel_rfl) rfl #[.int .i64 a0_0, .agg #[.int .i64 ((rd_T74 l0_2 x4_1).f0), .int .i64 ((rd_T74 l0_2 x4_1).f1), .int .i64 ((rd_T74 l0_2 x4_1).f2), .int .i64 ((rd_T74 l0_2 x4_1).f3)]] (by rfl) rfl rfl (by(try simp only[List.map_toArray,List.map_cons,List.map_nil]);first|done|rfl|(simp only[List.length_drop,List.length_take];rfl)) ?_
    with_reducible refine(ebbtideref05_Arc.calls k1 a0_0 ((rd_T74 l0_2 x4_1).f0) ((rd_T74 l0_2 x4_1).f1) ((rd_T74 l0_2 x4_1).f2) ((rd_T74 l0_2 x4_1).f3) t158 _ A11.out).mono ?_
    rintro e w18 ⟨rfl,hb⟩
    refine⟨_,rfl,?_⟩
    have n0_:=Aside0.mk (blk_below BK155.out hb)
    have n1_:=Aside0.mk (below_step HB.out hb)
    clear BK155
    clear HB
    have BK155:=n0_
    have HB:=n1_
    clear n0_ n1_
    (try clear hb)
    (try clear hb2)
    (try clear hk)
    (try clear hi)
    refine hK.out _ _ ⟨(blk_cell BK155.out 0).trans rfl,(blk_cell BK155.out 1).trans rfl,(blk_cell BK155.out 2).trans rfl,((HB.out.cell (World.block_lt_of_cell? w _ hw157_0)).trans hw157_0),((HB.out.cell (World.block_lt_of_cell? w _ hw157_1)).trans hw157_1),((HB.out.cell (World.block_lt_of_cell? w _ hw157_2)).trans hw157_2),((HB.out.cell (World.block_lt_of_cell? w _ hw157_3)).trans hw157_3)⟩ (fun hHeld=> ?_)
    clear hK K
    refine norm_ (a':= ?_) ?_ ?_
    rotate_left
    ·show Act.put _ (some 30) _=_
     simp only[Act.put,List.setIfInBounds_toArray,List.set_cons_zero,List.set_cons_succ,i64_w,i32_w]
     rfl
    refine pure_ (i:=8) (N:=some 5) (v:= ?_) (a':= ?_) #[true,true,true,true,true,true,true,true,true] rfl rfl (any_of HT_.out (by kernel_rfl)) (fun _ _ _ h=>h) (Or.inl ⟨by rfl,?_⟩) ?_ ?_
    rotate_left
    ·intro w'
     go_simp
     with_reducible rfl
    rotate_left
    ·simp only[Act.put,List.setIfInBounds_toArray,List.set_cons_zero,List.set_cons_succ,i64_w,i32_w]
     rfl
    refine done_ (done_of HT_.out (by kernel_rfl)) ?_
    try go_wp2
    go_ret
    exact⟨by first|rfl|(simp[errW_none,errW_some]<;>rfl)|(simp[*,errW_none,errW_some]<;>rfl),HB.out⟩
   rw[if_pos c12] at H
   have c12b0:(t158 == 0)=true:=beq_iff_eq.mpr c12
   have c12b1:(t158 != 0)=false:=bne_eq_false_iff_eq.mpr c12
   clear c12
   have H':=Aside0.mk H
   clear H
   have hcz13_0:wr.cell? ⟨gb155,0,none⟩=some (.int .i64 a0_0):=(blk_cell BK155.out 0).trans rfl
   have hcz13_1:wr.cell? ⟨gb155,1,none⟩=some (.bool a0_1):=(blk_cell BK155.out 1).trans rfl
   have hcz13_2:wr.cell? ⟨gb155,2,none⟩=some (.slice A0_2 l0_2.length c0_2):=(blk_cell BK155.out 2).trans rfl
   have hfz13_0:=blk_frozen BK155.out 0
   have hfz13_1:=blk_frozen BK155.out 1
   have hfz13_2:=blk_frozen BK155.out 2
   try go_wp2
   have n0_:=Aside0.mk (blk_drew BK155.out)
   have n1_:=Aside0.mk (below_drew1 HB.out)
   clear BK155
   clear HB
   have BK155:=n0_
   have HB:=n1_
   clear n0_ n1_
   have p157:0≤(x4_1:Int):=of_decide_eq_true (by first|(with_reducible assumption)|assumption)
   have q157:x4_1<(l0_2.length:Int):=of_decide_eq_true (by first|(with_reducible assumption)|assumption)
   obtain⟨ad157,e157,hx157_0,hx157_1,hx157_2,hx157_3⟩:=at_T74 HR0_2.out x4_1 p157 q157
   have hw157_3:=hx157_3
   have hw157_2:=hx157_2
   have hw157_1:=hx157_1
   have hw157_0:=hx157_0
   cases e157
   replace hx157_0:=(HB.out.cell (World.block_lt_of_cell? w _ hx157_0)).trans hx157_0
   replace hx157_1:=(HB.out.cell (World.block_lt_of_cell? w _ hx157_1)).trans hx157_1
   replace hx157_2:=(HB.out.cell (World.block_lt_of_cell? w _ hx157_2)).trans hx157_2
   replace hx157_3:=(HB.out.cell (World.block_lt_of_cell? w _ hx157_3)).trans hx157_3
   replace p157:=eq_true p157
   replace q157:=eq_true q157
   refine start_ (n:=9) (S:=fun w'=>w'.cell? ⟨gb155,0,none⟩=some (.int .i64 a0_0)∧w'.cell? ⟨gb155,1,none⟩=some (.bool a0_1)∧w'.cell? ⟨gb155,2,none⟩=some (.slice (some ad157) l0_2.length c0_2)∧w'.cell? (ad157.add ((x4_1).toNat * 4))=some (.int .i64 ((rd_T74 l0_2 x4_1).f0))∧w'.cell? ⟨(ad157.add ((x4_1).toNat * 4)).block,(ad157.add ((x4_1).toNat * 4)).off+1,none⟩=some (.int .i64 ((rd_T74 l0_2 x4_1).f1))∧w'.cell? ⟨(ad157.add ((x4_1).toNat * 4)).block,(ad157.add ((x4_1).toNat * 4)).off+2,none⟩=some (.int .i64 ((rd_T74 l0_2 x4_1).f2))∧w'.cell? ⟨(ad157.add ((x4_1).toNat * 4)).block,(ad157.add ((x4_1).toNat * 4)).off+3,none⟩=some (.int .i64 ((rd_T74 l0_2 x4_1).f3))) (ds:=[]) #[false,false,false,false,false,false,false,false,false] (by kernel_rfl) rfl rfl ⟨(blk_cell BK155.out 0).trans rfl,(blk_cell BK155.out 1).trans rfl,(blk_cell BK155.out 2).trans rfl,((HB.out.cell (World.block_lt_of_cell? w _ hw157_0)).trans hw157_0),((HB.out.cell (World.block_lt_of_cell? w _ hw157_1)).trans hw157_1),((HB.out.cell (World.block_lt_of_cell? w _ hw157_2)).trans hw157_2),((HB.out.cell (World.block_lt_of_cell? w _ hw157_3)).trans hw157_3)⟩ (fun hHeld=> ?_);refine with_tabW ebbtideref05_Check.tab9 ebbtideref05_Check.bits9 (fun HT_ HW_=> ?_)
   generalize wr.drew=w14 at BK155 HB hx157_0 hx157_1 hx157_2 hx157_3 hHeld ⊢
   refine pure_ (i:=0) (N:=some 23) (v:= ?_) (a':= ?_) #[true,false,false,false,false,false,false,false,false] rfl rfl (any_of HT_.out (by kernel_rfl)) (fun _ _ _ h=>h) (Or.inl ⟨by rfl,?_⟩) ?_ ?_
   rotate_left
   ·intro w'
    go_simp
    with_reducible rfl
   rotate_left
   ·simp only[Act.put,List.setIfInBounds_toArray,List.set_cons_zero,List.set_cons_succ,i64_w,i32_w]
    rfl
   refine pure_ (i:=2) (N:=some 25) (v:= ?_) (a':= ?_) #[true,false,true,false,false,false,false,false,false] rfl rfl (any_of HT_.out (by kernel_rfl)) (fun _ _ _ h=>h) (Or.inl ⟨by rfl,?_⟩) ?_ ?_
   rotate_left
   ·intro w'
    go_simp
    with_reducible rfl
   rotate_left
   ·simp only[Act.put,List.setIfInBounds_toArray,List.set_cons_zero,List.set_cons_succ,i64_w,i32_w]
    rfl
   refine pure_ (i:=4) (N:=some 27) (v:= ?_) (a':= ?_) #[true,false,true,false,true,false,false,false,false] rfl rfl (any_of HT_.out (by kernel_rfl)) (fun _ _ _ h=>h) (Or.inl ⟨by rfl,?_⟩) ?_ ?_
   rotate_left
   ·intro w'
    go_simp
    with_reducible rfl
   rotate_left
   ·simp only[Act.put,List.setIfInBounds_toArray,List.set_cons_zero,List.set_cons_succ,i64_w,i32_w]
    rfl
   refine take_ (i:=1) (N:=some 24) (v:= ?_) (a':= ?_) #[true,true,true,false,true,false,false,false,false] rfl rfl (take_ofW HT_.out HW_.out (by kernel_rfl)) (fun _ _ _ h=>h) (Or.inl ⟨by rfl,?_⟩) hHeld ?_ ?_
   rotate_left
   ·rintro w' ⟨s0,s1,s2,s3,s4,s5,s6⟩
    go_simp
    with_reducible rfl
   rotate_left
   ·simp only[Act.put,List.setIfInBounds_toArray,List.set_cons_zero,List.set_cons_succ,i64_w,i32_w]
    rfl
   refine take_ (i:=3) (N:=some 26) (v:= ?_) (a':= ?_) #[true,true,true,true,true,false,false,false,false] rfl rfl (take_ofW HT_.out HW_.out (by kernel_rfl)) (fun _ _ _ h=>h) (Or.inl ⟨by rfl,?_⟩) hHeld ?_ ?_
   rotate_left
   ·rintro w' ⟨s0,s1,s2,s3,s4,s5,s6⟩
    go_simp
    with_reducible rfl
   rotate_left
   ·simp only[Act.put,List.setIfInBounds_toArray,List.set_cons_zero,List.set_cons_succ,i64_w,i32_w]
    rfl
   refine pure_ (i:=5) (N:=some 28) (v:= ?_) (a':= ?_) #[true,true,true,true,true,true,false,false,false] rfl rfl (any_of HT_.out (by kernel_rfl)) (fun _ _ _ h=>h) (Or.inl ⟨by rfl,?_⟩) ?_ ?_
   rotate_left
   ·intro w'
    go_simp
    with_reducible rfl
   rotate_left
   ·simp only[Act.put,List.setIfInBounds_toArray,List.set_cons_zero,List.set_cons_succ,i64_w,i32_w]
    rfl
   refine take_ (i:=6) (N:=some 29) (v:= ?_) (a':= ?_) #[true,true,true,true,true,true,true,false,false] rfl rfl (take_ofW HT_.out HW_.out (by kernel_rfl)) (fun _ _ _ h=>h) (Or.inl ⟨by rfl,?_⟩) hHeld ?_ ?_
   rotate_left
   ·rintro w' ⟨s0,s1,s2,s3,s4,s5,s6⟩
    go_simp
    with_reducible rfl
   rotate_left
   ·simp only[Act.put,List.setIfInBounds_toArray,List.set_cons_zero,List.set_cons_succ,i64_w,i32_w]
    rfl
   refine one_ (i:=7) (N:=some 30) #[true,true,true,true,true,true,true,true,false] rfl rfl (one_of HT_.out (by kernel_rfl)) (by decide) (fun K hK=> ?_)
   refine goes_ Try.func123 (by kernel_rfl) rfl #[.int .i64 a0_0, .agg #[.int .i64 ((rd_T74 l0_2 x4_1).f0), .int .i64 ((rd_T74 l0_2 x4_1).f1), .int .i64 ((rd_T74 l0_2 x4_1).f2), .int .i64 ((rd_T74 l0_2 x4_1).f3)]] (by rfl) rfl rfl (by(try simp only[List.map_toArray,List.map_cons,List.map_nil]);first|done|rfl|(simp only[List.length_drop,List.length_take];rfl)) ?_
   with_reducible refine(ebbtideref05_Arc.calls k1 a0_0 ((rd_T74 l0_2 x4_1).f0) ((rd_T74 l0_2 x4_1).f1) ((rd_T74 l0_2 x4_1).f2) ((rd_T74 l0_2 x4_1).f3) t158 _ A11.out).mono ?_
   rintro e w15 ⟨rfl,hb⟩
   refine⟨_,rfl,?_⟩
   have n0_:=Aside0.mk (blk_below BK155.out hb)
   have n1_:=Aside0.mk (below_step HB.out hb)
   clear BK155
   clear HB
   have BK155:=n0_
   have HB:=n1_
   clear n0_ n1_
   (try clear hb)
   (try clear hb2)
   (try clear hk)
   (try clear hi)
   refine hK.out _ _ ⟨(blk_cell BK155.out 0).trans rfl,(blk_cell BK155.out 1).trans rfl,(blk_cell BK155.out 2).trans rfl,((HB.out.cell (World.block_lt_of_cell? w _ hw157_0)).trans hw157_0),((HB.out.cell (World.block_lt_of_cell? w _ hw157_1)).trans hw157_1),((HB.out.cell (World.block_lt_of_cell? w _ hw157_2)).trans hw157_2),((HB.out.cell (World.block_lt_of_cell? w _ hw157_3)).trans hw157_3)⟩ (fun hHeld=> ?_)
   clear hK K
   refine norm_ (a':= ?_) ?_ ?_
   rotate_left
   ·show Act.put _ (some 30) _=_
    simp only[Act.put,List.setIfInBounds_toArray,List.set_cons_zero,List.set_cons_succ,i64_w,i32_w]
    rfl
   refine pure_ (i:=8) (N:=some 5) (v:= ?_) (a':= ?_) #[true,true,true,true,true,true,true,true,true] rfl rfl (any_of HT_.out (by kernel_rfl)) (fun _ _ _ h=>h) (Or.inl ⟨by rfl,?_⟩) ?_ ?_
   rotate_left
   ·intro w'
    go_simp
    with_reducible rfl
   rotate_left
   ·simp only[Act.put,List.setIfInBounds_toArray,List.set_cons_zero,List.set_cons_succ,i64_w,i32_w]
    rfl
   refine done_ (done_of HT_.out (by kernel_rfl)) ?_
   try go_wp2
   go_roundg k1
   case measure=>have:=HK1.out;omega
   case rel=>exact⟨(wrap64 (x4_1+1)),(by first|rfl|(simp;done)|(simp[*];done)),H',⟨by have:=HK1.out;omega⟩,⟨BK155.out⟩,⟨HB.out⟩⟩
end Go.Proofs.Ytkcpanpdipmmmaa.P
namespace Go.Proofs.Ytkcpanpdipmmmaa.P
open Go.RowKit Go.Proofs.YtkcpanpdipmmmaaW.PrintWords Go.Proofs.YtkcpanpdipmmmaaW.PrintLast Go.Proofs.YtkcpanpdipmmmaaW.PrintMore
attribute [local go_sem] max2_int min2_int max_two min_two max_three min_three max_four min_four
def ebbtideref06_Node.f (a0_0:Int) (a0_1:Bool) (l0_2:List (S74)) (a1:Int):Option (Bool):=if a1≥0 then(some (decide (a1<a0_0))) else(some false)
set_option maxHeartbeats 8000000 in
set_option maxRecDepth 100000 in
theorem ebbtideref06_Node.calls (a0_0:Int) (a0_1:Bool) (A0_2:Option Addr) (c0_2:Nat) (l0_2:List (S74)) (a1:Int) (r:Bool) (w:World) (hr0_2:Kd.C k74 w A0_2 l0_2.length l0_2) (hc0_2:l0_2.length≤c0_2) (h:ebbtideref06_Node.f a0_0 a0_1 l0_2 a1=some r):
  Calls Try.prog 99 #[.agg #[.int .i64 a0_0, .bool a0_1, .slice A0_2 l0_2.length c0_2], .int .i64 a1] w fun e w'=>e= .returned (.bool r)∧Below w.heap.size w w':=by
 have hu24:=Try.underlying24
 have HR0_2:=Aside0.mk hr0_2
 have HC0_2:=Aside0.mk hc0_2
 clear hr0_2 hc0_2
 have HB:=Aside0.mk (Below.refl w.heap.size w)
 have H:(if a1≥0 then(some (decide (a1<a0_0))) else(some false))=some r:=h
 clear h
 by_cases c3:a1≥0
 rotate_left
 ·rw[if_neg c3] at H
  have c3b0:decide (0≤a1)=false:=decide_eq_false c3
  clear c3
  obtain rfl:=Option.some.inj H
  go_enter Try.func99,Try.ntmps99
  go_wp2_with (first|((with_reducible refine gate_dst (N:=2) rfl ?_);refine box_event ?hg (N:=2) ?hd (cs:= #[.int .i64 a0_0, .bool a0_1, .slice A0_2 l0_2.length c0_2]) (t:=24) ?hr ?_;(case hd=>rfl);(case hg=>rfl);(case hr=>first|(go_simp;done)|(go_simp;rfl));intro gb166 hg w6 hbox hb;have n0_:=Aside0.mk (below_step (by repeat(first|(with_reducible first|exact HB.out|apply below_alloc|apply pw_below_drewN|apply below_drew1)|exact HB.out)) hb);have n1_:=Aside0.mk (hbox);have n2_:=Aside0.mk ((by rw[hg];exact(below_size (by repeat(first|(with_reducible first|exact HB.out|apply below_alloc|apply pw_below_drewN|apply below_drew1)|exact HB.out))):w.heap.size≤gb166));have n3_:=Aside0.mk ((by rw[hg];exact(below_size (by repeat(first|(with_reducible first|exact HB.out|apply below_alloc|apply pw_below_drewN|apply below_drew1)|exact HB.out))):w.heap.size≤gb166));clear HB;have HB:=n0_;have BK166:=n1_;have GW166:=n2_;have GE166:=n3_;clear n0_ n1_ n2_ n3_;clear hb hbox hg))
  go_ret
  exact⟨by first|rfl|(simp[errW_none,errW_some]<;>rfl)|(simp[*,errW_none,errW_some]<;>rfl),by repeat(first|(with_reducible first|exact HB.out|apply below_alloc|apply pw_below_drewN|apply below_drew1|refine below_set ?_ GE166.out)|exact HB.out)⟩
 rw[if_pos c3] at H
 have c3b0:decide (0≤a1)=true:=decide_eq_true c3
 clear c3
 obtain rfl:=Option.some.inj H
 go_enter Try.func99,Try.ntmps99
 go_wp2_with (first|((with_reducible refine gate_dst (N:=2) rfl ?_);refine box_event ?hg (N:=2) ?hd (cs:= #[.int .i64 a0_0, .bool a0_1, .slice A0_2 l0_2.length c0_2]) (t:=24) ?hr ?_;(case hd=>rfl);(case hg=>rfl);(case hr=>first|(go_simp;done)|(go_simp;rfl));intro gb166 hg w4 hbox hb;have n0_:=Aside0.mk (below_step (by repeat(first|(with_reducible first|exact HB.out|apply below_alloc|apply pw_below_drewN|apply below_drew1)|exact HB.out)) hb);have n1_:=Aside0.mk (hbox);have n2_:=Aside0.mk ((by rw[hg];exact(below_size (by repeat(first|(with_reducible first|exact HB.out|apply below_alloc|apply pw_below_drewN|apply below_drew1)|exact HB.out))):w.heap.size≤gb166));have n3_:=Aside0.mk ((by rw[hg];exact(below_size (by repeat(first|(with_reducible first|exact HB.out|apply below_alloc|apply pw_below_drewN|apply below_drew1)|exact HB.out))):w.heap.size≤gb166));clear HB;have HB:=n0_;have BK166:=n1_;have GW166:=n2_;have GE166:=n3_;clear n0_ n1_ n2_ n3_;clear hb hbox hg;have hcz5_0:w4.cell? ⟨gb166,0,none⟩=some (.int .i64 a0_0):=(blk_cell BK166.out 0).trans rfl;have hcz5_1:w4.cell? ⟨gb166,1,none⟩=some (.bool a0_1):=(blk_cell BK166.out 1).trans rfl;have hcz5_2:w4.cell? ⟨gb166,2,none⟩=some (.slice A0_2 l0_2.length c0_2):=(blk_cell BK166.out 2).trans rfl;have hfz5_0:=blk_frozen BK166.out 0;have hfz5_1:=blk_frozen BK166.out 1;have hfz5_2:=blk_frozen BK166.out 2))
 go_ret
 exact⟨by first|rfl|(simp[errW_none,errW_some]<;>rfl)|(simp[*,errW_none,errW_some]<;>rfl),by repeat(first|(with_reducible first|exact HB.out|apply below_alloc|apply pw_below_drewN|apply below_drew1|refine below_set ?_ GE166.out)|exact HB.out)⟩
end Go.Proofs.Ytkcpanpdipmmmaa.P
namespace Go.Proofs.Ytkcpanpdipmmmaa.P
open Go.RowKit Go.Proofs.YtkcpanpdipmmmaaW.PrintWords Go.Proofs.YtkcpanpdipmmmaaW.PrintLast Go.Proofs.YtkcpanpdipmmmaaW.PrintMore
attribute [local go_sem] max2_int min2_int max_two min_two max_three min_three max_four min_four
def ebbtideref07_Ends.f (k:Nat) (a0_0:Int) (a0_1:Bool) (l0_2:List (S74)) (a1:Int) (a2:Int):Option (Int):=(ebbtideref05_Check.f k a0_0 a0_1 l0_2).bind fun t562=>(if t562=0 then((ebbtideref06_Node.f a0_0 a0_1 l0_2 a1).bind fun t563=>(if t563=true then((ebbtideref06_Node.f a0_0 a0_1 l0_2 a2).bind fun t564=>(if t564=true then(if a1=a2 then(some 70) else(some 0)) else(some 70))) else(some 70))) else(some t562))
set_option maxHeartbeats 8000000 in
set_option maxRecDepth 100000 in
theorem ebbtideref07_Ends.calls (k:Nat) (a0_0:Int) (a0_1:Bool) (A0_2:Option Addr) (c0_2:Nat) (l0_2:List (S74)) (a1:Int) (a2:Int) (r:Int) (w:World) (hr0_2:Kd.C k74 w A0_2 l0_2.length l0_2) (hc0_2:l0_2.length≤c0_2) (h:ebbtideref07_Ends.f k a0_0 a0_1 l0_2 a1 a2=some r):
  Calls Try.prog 77 #[.agg #[.int .i64 a0_0, .bool a0_1, .slice A0_2 l0_2.length c0_2], .int .i64 a1, .int .i64 a2] w fun e w'=>e= .returned (.int .i64 r)∧Below w.heap.size w w':=by
 have hu24:=Try.underlying24
 have HR0_2:=Aside0.mk hr0_2
 have HC0_2:=Aside0.mk hc0_2
 clear hr0_2 hc0_2
 have HB:=Aside0.mk (Below.refl w.heap.size w)
 have H:((ebbtideref05_Check.f k a0_0 a0_1 l0_2).bind fun t562=>(if t562=0 then((ebbtideref06_Node.f a0_0 a0_1 l0_2 a1).bind fun t563=>(if t563=true then((ebbtideref06_Node.f a0_0 a0_1 l0_2 a2).bind fun t564=>(if t564=true then(if a1=a2 then(some 70) else(some 0)) else(some 70))) else(some 70))) else(some t562)))=some r:=h
 clear h
 replace H:=Option.bind_eq_some_iff.mp H
 obtain⟨t562,A40,H⟩:=H
 replace H:(if t562=0 then((ebbtideref06_Node.f a0_0 a0_1 l0_2 a1).bind fun t563=>(if t563=true then((ebbtideref06_Node.f a0_0 a0_1 l0_2 a2).bind fun t564=>(if t564=true then(if a1=a2 then(some 70) else(some 0)) else(some 70))) else(some 70))) else(some t562))=some r:=H
 have A4:=Aside0.mk A40
 clear A40
 by_cases c5:t562=0
 rotate_left
 ·rw[if_neg c5] at H
  have c5b0:(t562 == 0)=false:=beq_eq_false_iff_ne.mpr c5
  have c5b1:(t562 != 0)=true:=bne_iff_ne.mpr c5
  obtain rfl:=Option.some.inj H
  go_enter Try.func77,Try.ntmps77
  go_wp2_with (first|((with_reducible refine gate_dst (N:=3) rfl ?_);refine box_event ?hg (N:=3) ?hd (cs:= #[.int .i64 a0_0, .bool a0_1, .slice A0_2 l0_2.length c0_2]) (t:=24) ?hr ?_;(case hd=>rfl);(case hg=>rfl);(case hr=>first|(go_simp;done)|(go_simp;rfl));intro gb561 hg w37 hbox hb;have n0_:=Aside0.mk (below_step HB.out hb);have n1_:=Aside0.mk (hbox);have n2_:=Aside0.mk ((by rw[hg];exact(below_size HB.out):w.heap.size≤gb561));have n3_:=Aside0.mk ((by rw[hg];exact(below_size HB.out):w.heap.size≤gb561));clear HB;have HB:=n0_;have BK561:=n1_;have GW561:=n2_;have GE561:=n3_;clear n0_ n1_ n2_ n3_;clear hb hbox hg;have hcz38_0:w37.cell? ⟨gb561,0,none⟩=some (.int .i64 a0_0):=(blk_cell BK561.out 0).trans rfl;have hcz38_1:w37.cell? ⟨gb561,1,none⟩=some (.bool a0_1):=(blk_cell BK561.out 1).trans rfl;have hcz38_2:w37.cell? ⟨gb561,2,none⟩=some (.slice A0_2 l0_2.length c0_2):=(blk_cell BK561.out 2).trans rfl;have hfz38_0:=blk_frozen BK561.out 0;have hfz38_1:=blk_frozen BK561.out 1;have hfz38_2:=blk_frozen BK561.out 2)|((with_reducible refine gate_callee (f:=78) rfl ?_);refine goesL_ (some 9) rfl rfl Try.func78 (by kernel_rfl) rfl #[.agg #[.int .i64 a0_0, .bool a0_1, .slice A0_2 l0_2.length c0_2]] rfl (by(try simp only[List.map_toArray,List.map_cons,List.map_nil]);first|done|rfl|(simp only[List.length_drop,List.length_take];rfl)) ?_;(with_reducible refine(ebbtideref05_Check.calls k a0_0 a0_1 _ _ l0_2 t562 _ ?side1 ?side2 A4.out).mono ?_);(case side1=>repeat(first|exact(Kd.C_below HR0_2.out HB.out)|(with_reducible refine Kd.C_alloc ?_ _)|(with_reducible refine Kd.C_drewN ?_ _)|(with_reducible refine Kd.C_drew ?_)));(case side2=>exact HC0_2.out);rintro e w39 ⟨rfl,hb⟩;refine⟨_,rfl,?_⟩;have n0_:=Aside0.mk (blk_below BK561.out hb);have n1_:=Aside0.mk (below_step HB.out hb);clear BK561;clear HB;have BK561:=n0_;have HB:=n1_;clear n0_ n1_;(try clear hb);(try clear hb2);(try clear hk);(try clear hi)))
  go_ret
  exact⟨by first|rfl|(simp[errW_none,errW_some]<;>rfl)|(simp[*,errW_none,errW_some]<;>rfl),HB.out⟩
 rw[if_pos c5] at H
 have c5b0:(t562 == 0)=true:=beq_iff_eq.mpr c5
 have c5b1:(t562 != 0)=false:=bne_eq_false_iff_eq.mpr c5
 clear c5
 replace H:=Option.bind_eq_some_iff.mp H
 obtain⟨t563,A60,H⟩:=H
 replace H:(if t563=true then((ebbtideref06_Node.f a0_0 a0_1 l0_2 a2).bind fun t564=>(if t564=true then(if a1=a2 then(some 70) else(some 0)) else(some 70))) else(some 70))=some r:=H
 have A6:=Aside0.mk A60
 clear A60
 by_cases c7:t563=true
 rotate_left
 ·replace c7:=Bool.eq_false_iff.mpr c7
  subst c7
  have H1:(some 70)=some r:=by rw[if_neg (show ¬ (false=true) by decide)] at H;exact H
  clear H
  have H:=H1
  clear H1
  obtain rfl:=Option.some.inj H
  go_enter Try.func77,Try.ntmps77
  go_wp2_with (first|((with_reducible refine gate_dst (N:=3) rfl ?_);refine box_event ?hg (N:=3) ?hd (cs:= #[.int .i64 a0_0, .bool a0_1, .slice A0_2 l0_2.length c0_2]) (t:=24) ?hr ?_;(case hd=>rfl);(case hg=>rfl);(case hr=>first|(go_simp;done)|(go_simp;rfl));intro gb561 hg w32 hbox hb;have n0_:=Aside0.mk (below_step HB.out hb);have n1_:=Aside0.mk (hbox);have n2_:=Aside0.mk ((by rw[hg];exact(below_size HB.out):w.heap.size≤gb561));have n3_:=Aside0.mk ((by rw[hg];exact(below_size HB.out):w.heap.size≤gb561));clear HB;have HB:=n0_;have BK561:=n1_;have GW561:=n2_;have GE561:=n3_;clear n0_ n1_ n2_ n3_;clear hb hbox hg;have hcz33_0:w32.cell? ⟨gb561,0,none⟩=some (.int .i64 a0_0):=(blk_cell BK561.out 0).trans rfl;have hcz33_1:w32.cell? ⟨gb561,1,none⟩=some (.bool a0_1):=(blk_cell BK561.out 1).trans rfl;have hcz33_2:w32.cell? ⟨gb561,2,none⟩=some (.slice A0_2 l0_2.length c0_2):=(blk_cell BK561.out 2).trans rfl;have hfz33_0:=blk_frozen BK561.out 0;have hfz33_1:=blk_frozen BK561.out 1;have hfz33_2:=blk_frozen BK561.out 2)|((with_reducible refine gate_callee (f:=78) rfl ?_);refine goesL_ (some 9) rfl rfl Try.func78 (by kernel_rfl) rfl #[.agg #[.int .i64 a0_0, .bool a0_1, .slice A0_2 l0_2.length c0_2]] rfl (by(try simp only[List.map_toArray,List.map_cons,List.map_nil]);first|done|rfl|(simp only[List.length_drop,List.length_take];rfl)) ?_;(with_reducible refine(ebbtideref05_Check.calls k a0_0 a0_1 _ _ l0_2 t562 _ ?side1 ?side2 A4.out).mono ?_);(case side1=>repeat(first|exact(Kd.C_below HR0_2.out HB.out)|(with_reducible refine Kd.C_alloc ?_ _)|(with_reducible refine Kd.C_drewN ?_ _)|(with_reducible refine Kd.C_drew ?_)));(case side2=>exact HC0_2.out);rintro e w34 ⟨rfl,hb⟩;refine⟨_,rfl,?_⟩;have n0_:=Aside0.mk (blk_below BK561.out hb);have n1_:=Aside0.mk (below_step HB.out hb);clear BK561;clear HB;have BK561:=n0_;have HB:=n1_;clear n0_ n1_;(try clear hb);(try clear hb2);(try clear hk);(try clear hi);have hcz35_0:w34.cell? ⟨gb561,0,none⟩=some (.int .i64 a0_0):=(blk_cell BK561.out 0).trans rfl;have hcz35_1:w34.cell? ⟨gb561,1,none⟩=some (.bool a0_1):=(blk_cell BK561.out 1).trans rfl;have hcz35_2:w34.cell? ⟨gb561,2,none⟩=some (.slice A0_2 l0_2.length c0_2):=(blk_cell BK561.out 2).trans rfl;have hfz35_0:=blk_frozen BK561.out 0;have hfz35_1:=blk_frozen BK561.out 1;have hfz35_2:=blk_frozen BK561.out 2)|((with_reducible refine gate_callee (f:=99) rfl ?_);refine goesL_ (some 15) rfl rfl Try.func99 (by kernel_rfl) rfl #[.agg #[.int .i64 a0_0, .bool a0_1, .slice A0_2 l0_2.length c0_2], .int .i64 a1] rfl (by(try simp only[List.map_toArray,List.map_cons,List.map_nil]);first|done|rfl|(simp only[List.length_drop,List.length_take];rfl)) ?_;(with_reducible refine(ebbtideref06_Node.calls a0_0 a0_1 _ _ l0_2 a1 false _ ?side1 ?side2 A6.out).mono ?_);(case side1=>repeat(first|exact(Kd.C_below HR0_2.out HB.out)|(with_reducible refine Kd.C_alloc ?_ _)|(with_reducible refine Kd.C_drewN ?_ _)|(with_reducible refine Kd.C_drew ?_)));(case side2=>exact HC0_2.out);rintro e w36 ⟨rfl,hb⟩;refine⟨_,rfl,?_⟩;have n0_:=Aside0.mk (blk_below BK561.out hb);have n1_:=Aside0.mk (below_step HB.out hb);clear BK561;clear HB;have BK561:=n0_;have HB:=n1_;clear n0_ n1_;(try clear hb);(try clear hb2);(try clear hk);(try clear hi)))
  go_ret
  exact⟨by first|rfl|(simp[errW_none,errW_some]<;>rfl)|(simp[*,errW_none,errW_some]<;>rfl),HB.out⟩
 subst c7
 have H1:((ebbtideref06_Node.f a0_0 a0_1 l0_2 a2).bind fun t564=>(if t564=true then(if a1=a2 then(some 70) else(some 0)) else(some 70)))=some r:=by first|(rw[if_pos rfl] at H;exact H)|(rw[if_pos trivial] at H;exact H)
 clear H
 have H:=H1
 clear H1
 replace H:=Option.bind_eq_some_iff.mp H
 obtain⟨t564,A80,H⟩:=H
 replace H:(if t564=true then(if a1=a2 then(some 70) else(some 0)) else(some 70))=some r:=H
 have A8:=Aside0.mk A80
 clear A80
 by_cases c9:t564=true
 rotate_left
 ·replace c9:=Bool.eq_false_iff.mpr c9
  subst c9
  have H1:(some 70)=some r:=by rw[if_neg (show ¬ (false=true) by decide)] at H;exact H
  clear H
  have H:=H1
  clear H1
  obtain rfl:=Option.some.inj H
  go_enter Try.func77,Try.ntmps77
  go_wp2_with (first|((with_reducible refine gate_dst (N:=3) rfl ?_);refine box_event ?hg (N:=3) ?hd (cs:= #[.int .i64 a0_0, .bool a0_1, .slice A0_2 l0_2.length c0_2]) (t:=24) ?hr ?_;(case hd=>rfl);(case hg=>rfl);(case hr=>first|(go_simp;done)|(go_simp;rfl));intro gb561 hg w25 hbox hb;have n0_:=Aside0.mk (below_step HB.out hb);have n1_:=Aside0.mk (hbox);have n2_:=Aside0.mk ((by rw[hg];exact(below_size HB.out):w.heap.size≤gb561));have n3_:=Aside0.mk ((by rw[hg];exact(below_size HB.out):w.heap.size≤gb561));clear HB;have HB:=n0_;have BK561:=n1_;have GW561:=n2_;have GE561:=n3_;clear n0_ n1_ n2_ n3_;clear hb hbox hg;have hcz26_0:w25.cell? ⟨gb561,0,none⟩=some (.int .i64 a0_0):=(blk_cell BK561.out 0).trans rfl;have hcz26_1:w25.cell? ⟨gb561,1,none⟩=some (.bool a0_1):=(blk_cell BK561.out 1).trans rfl;have hcz26_2:w25.cell? ⟨gb561,2,none⟩=some (.slice A0_2 l0_2.length c0_2):=(blk_cell BK561.out 2).trans rfl;have hfz26_0:=blk_frozen BK561.out 0;have hfz26_1:=blk_frozen BK561.out 1;have hfz26_2:=blk_frozen BK561.out 2)|((with_reducible refine gate_callee (f:=78) rfl ?_);refine goesL_ (some 9) rfl rfl Try.func78 (by kernel_rfl) rfl #[.agg #[.int .i64 a0_0, .bool a0_1, .slice A0_2 l0_2.length c0_2]] rfl (by(try simp only[List.map_toArray,List.map_cons,List.map_nil]);first|done|rfl|(simp only[List.length_drop,List.length_take];rfl)) ?_;(with_reducible refine(ebbtideref05_Check.calls k a0_0 a0_1 _ _ l0_2 t562 _ ?side1 ?side2 A4.out).mono ?_);(case side1=>repeat(first|exact(Kd.C_below HR0_2.out HB.out)|(with_reducible refine Kd.C_alloc ?_ _)|(with_reducible refine Kd.C_drewN ?_ _)|(with_reducible refine Kd.C_drew ?_)));(case side2=>exact HC0_2.out);rintro e w27 ⟨rfl,hb⟩;refine⟨_,rfl,?_⟩;have n0_:=Aside0.mk (blk_below BK561.out hb);have n1_:=Aside0.mk (below_step HB.out hb);clear BK561;clear HB;have BK561:=n0_;have HB:=n1_;clear n0_ n1_;(try clear hb);(try clear hb2);(try clear hk);(try clear hi);have hcz28_0:w27.cell? ⟨gb561,0,none⟩=some (.int .i64 a0_0):=(blk_cell BK561.out 0).trans rfl;have hcz28_1:w27.cell? ⟨gb561,1,none⟩=some (.bool a0_1):=(blk_cell BK561.out 1).trans rfl;have hcz28_2:w27.cell? ⟨gb561,2,none⟩=some (.slice A0_2 l0_2.length c0_2):=(blk_cell BK561.out 2).trans rfl;have hfz28_0:=blk_frozen BK561.out 0;have hfz28_1:=blk_frozen BK561.out 1;have hfz28_2:=blk_frozen BK561.out 2)|((with_reducible refine gate_callee (f:=99) rfl ?_);refine goesL_ (some 15) rfl rfl Try.func99 (by kernel_rfl) rfl #[.agg #[.int .i64 a0_0, .bool a0_1, .slice A0_2 l0_2.length c0_2], .int .i64 a1] rfl (by(try simp only[List.map_toArray,List.map_cons,List.map_nil]);first|done|rfl|(simp only[List.length_drop,List.length_take];rfl)) ?_;(with_reducible refine(ebbtideref06_Node.calls a0_0 a0_1 _ _ l0_2 a1 true _ ?side1 ?side2 A6.out).mono ?_);(case side1=>repeat(first|exact(Kd.C_below HR0_2.out HB.out)|(with_reducible refine Kd.C_alloc ?_ _)|(with_reducible refine Kd.C_drewN ?_ _)|(with_reducible refine Kd.C_drew ?_)));(case side2=>exact HC0_2.out);rintro e w29 ⟨rfl,hb⟩;refine⟨_,rfl,?_⟩;have n0_:=Aside0.mk (blk_below BK561.out hb);have n1_:=Aside0.mk (below_step HB.out hb);clear BK561;clear HB;have BK561:=n0_;have HB:=n1_;clear n0_ n1_;(try clear hb);(try clear hb2);(try clear hk);(try clear hi);have hcz30_0:w29.cell? ⟨gb561,0,none⟩=some (.int .i64 a0_0):=(blk_cell BK561.out 0).trans rfl;have hcz30_1:w29.cell? ⟨gb561,1,none⟩=some (.bool a0_1):=(blk_cell BK561.out 1).trans rfl;have hcz30_2:w29.cell? ⟨gb561,2,none⟩=some (.slice A0_2 l0_2.length c0_2):=(blk_cell BK561.out 2).trans rfl;have hfz30_0:=blk_frozen BK561.out 0;have hfz30_1:=blk_frozen BK561.out 1;have hfz30_2:=blk_frozen BK561.out 2)|(go_at_call 99;(with_reducible refine(ebbtideref06_Node.calls a0_0 a0_1 _ _ l0_2 a2 false _ ?side1 ?side2 A8.out).mono ?_);(case side1=>repeat(first|exact(Kd.C_below HR0_2.out HB.out)|(with_reducible refine Kd.C_alloc ?_ _)|(with_reducible refine Kd.C_drewN ?_ _)|(with_reducible refine Kd.C_drew ?_)));(case side2=>exact HC0_2.out);rintro e w31 ⟨rfl,hb⟩;have n0_:=Aside0.mk (blk_below BK561.out hb);have n1_:=Aside0.mk (below_step HB.out hb);clear BK561;clear HB;have BK561:=n0_;have HB:=n1_;clear n0_ n1_;(try clear hb);(try clear hb2);(try clear hk);(try clear hi)))
  go_ret
  exact⟨by first|rfl|(simp[errW_none,errW_some]<;>rfl)|(simp[*,errW_none,errW_some]<;>rfl),HB.out⟩
 subst c9
 have H1:(if a1=a2 then(some 70) else(some 0))=some r:=by first|(rw[if_pos rfl] at H;exact H)|(rw[if_pos trivial] at H;exact H)
 clear H
 have H:=H1
 clear H1
 by_cases c10:a1=a2
 rotate_left
 ·rw[if_neg c10] at H
  have c10b0:(a1 == a2)=false:=beq_eq_false_iff_ne.mpr c10
  have c10b1:(a1 != a2)=true:=bne_iff_ne.mpr c10
  obtain rfl:=Option.some.inj H
  go_enter Try.func77,Try.ntmps77
  go_wp2_with (first|((with_reducible refine gate_dst (N:=3) rfl ?_);refine box_event ?hg (N:=3) ?hd (cs:= #[.int .i64 a0_0, .bool a0_1, .slice A0_2 l0_2.length c0_2]) (t:=24) ?hr ?_;(case hd=>rfl);(case hg=>rfl);(case hr=>first|(go_simp;done)|(go_simp;rfl));intro gb561 hg w18 hbox hb;have n0_:=Aside0.mk (below_step HB.out hb);have n1_:=Aside0.mk (hbox);have n2_:=Aside0.mk ((by rw[hg];exact(below_size HB.out):w.heap.size≤gb561));have n3_:=Aside0.mk ((by rw[hg];exact(below_size HB.out):w.heap.size≤gb561));clear HB;have HB:=n0_;have BK561:=n1_;have GW561:=n2_;have GE561:=n3_;clear n0_ n1_ n2_ n3_;clear hb hbox hg;have hcz19_0:w18.cell? ⟨gb561,0,none⟩=some (.int .i64 a0_0):=(blk_cell BK561.out 0).trans rfl;have hcz19_1:w18.cell? ⟨gb561,1,none⟩=some (.bool a0_1):=(blk_cell BK561.out 1).trans rfl;have hcz19_2:w18.cell? ⟨gb561,2,none⟩=some (.slice A0_2 l0_2.length c0_2):=(blk_cell BK561.out 2).trans rfl;have hfz19_0:=blk_frozen BK561.out 0;have hfz19_1:=blk_frozen BK561.out 1;have hfz19_2:=blk_frozen BK561.out 2)|((with_reducible refine gate_callee (f:=78) rfl ?_);refine goesL_ (some 9) rfl rfl Try.func78 (by kernel_rfl) rfl #[.agg #[.int .i64 a0_0, .bool a0_1, .slice A0_2 l0_2.length c0_2]] rfl (by(try simp only[List.map_toArray,List.map_cons,List.map_nil]);first|done|rfl|(simp only[List.length_drop,List.length_take];rfl)) ?_;(with_reducible refine(ebbtideref05_Check.calls k a0_0 a0_1 _ _ l0_2 t562 _ ?side1 ?side2 A4.out).mono ?_);(case side1=>repeat(first|exact(Kd.C_below HR0_2.out HB.out)|(with_reducible refine Kd.C_alloc ?_ _)|(with_reducible refine Kd.C_drewN ?_ _)|(with_reducible refine Kd.C_drew ?_)));(case side2=>exact HC0_2.out);rintro e w20 ⟨rfl,hb⟩;refine⟨_,rfl,?_⟩;have n0_:=Aside0.mk (blk_below BK561.out hb);have n1_:=Aside0.mk (below_step HB.out hb);clear BK561;clear HB;have BK561:=n0_;have HB:=n1_;clear n0_ n1_;(try clear hb);(try clear hb2);(try clear hk);(try clear hi);have hcz21_0:w20.cell? ⟨gb561,0,none⟩=some (.int .i64 a0_0):=(blk_cell BK561.out 0).trans rfl;have hcz21_1:w20.cell? ⟨gb561,1,none⟩=some (.bool a0_1):=(blk_cell BK561.out 1).trans rfl;have hcz21_2:w20.cell? ⟨gb561,2,none⟩=some (.slice A0_2 l0_2.length c0_2):=(blk_cell BK561.out 2).trans rfl;have hfz21_0:=blk_frozen BK561.out 0;have hfz21_1:=blk_frozen BK561.out 1;have hfz21_2:=blk_frozen BK561.out 2)|((with_reducible refine gate_callee (f:=99) rfl ?_);refine goesL_ (some 15) rfl rfl Try.func99 (by kernel_rfl) rfl #[.agg #[.int .i64 a0_0, .bool a0_1, .slice A0_2 l0_2.length c0_2], .int .i64 a1] rfl (by(try simp only[List.map_toArray,List.map_cons,List.map_nil]);first|done|rfl|(simp only[List.length_drop,List.length_take];rfl)) ?_;(with_reducible refine(ebbtideref06_Node.calls a0_0 a0_1 _ _ l0_2 a1 true _ ?side1 ?side2 A6.out).mono ?_);(case side1=>repeat(first|exact(Kd.C_below HR0_2.out HB.out)|(with_reducible refine Kd.C_alloc ?_ _)|(with_reducible refine Kd.C_drewN ?_ _)|(with_reducible refine Kd.C_drew ?_)));(case side2=>exact HC0_2.out);rintro e w22 ⟨rfl,hb⟩;refine⟨_,rfl,?_⟩;have n0_:=Aside0.mk (blk_below BK561.out hb);have n1_:=Aside0.mk (below_step HB.out hb);clear BK561;clear HB;have BK561:=n0_;have HB:=n1_;clear n0_ n1_;(try clear hb);(try clear hb2);(try clear hk);(try clear hi);have hcz23_0:w22.cell? ⟨gb561,0,none⟩=some (.int .i64 a0_0):=(blk_cell BK561.out 0).trans rfl;have hcz23_1:w22.cell? ⟨gb561,1,none⟩=some (.bool a0_1):=(blk_cell BK561.out 1).trans rfl;have hcz23_2:w22.cell? ⟨gb561,2,none⟩=some (.slice A0_2 l0_2.length c0_2):=(blk_cell BK561.out 2).trans rfl;have hfz23_0:=blk_frozen BK561.out 0;have hfz23_1:=blk_frozen BK561.out 1;have hfz23_2:=blk_frozen BK561.out 2)|(go_at_call 99;(with_reducible refine(ebbtideref06_Node.calls a0_0 a0_1 _ _ l0_2 a2 true _ ?side1 ?side2 A8.out).mono ?_);(case side1=>repeat(first|exact(Kd.C_below HR0_2.out HB.out)|(with_reducible refine Kd.C_alloc ?_ _)|(with_reducible refine Kd.C_drewN ?_ _)|(with_reducible refine Kd.C_drew ?_)));(case side2=>exact HC0_2.out);rintro e w24 ⟨rfl,hb⟩;have n0_:=Aside0.mk (blk_below BK561.out hb);have n1_:=Aside0.mk (below_step HB.out hb);clear BK561;clear HB;have BK561:=n0_;have HB:=n1_;clear n0_ n1_;(try clear hb);(try clear hb2);(try clear hk);(try clear hi)))
  go_ret
  exact⟨by first|rfl|(simp[errW_none,errW_some]<;>rfl)|(simp[*,errW_none,errW_some]<;>rfl),HB.out⟩
 rw[if_pos c10] at H
 have c10b0:(a1 == a2)=true:=beq_iff_eq.mpr c10
 have c10b1:(a1 != a2)=false:=bne_eq_false_iff_eq.mpr c10
 clear c10
 obtain rfl:=Option.some.inj H
 go_enter Try.func77,Try.ntmps77
 go_wp2_with (first|((with_reducible refine gate_dst (N:=3) rfl ?_);refine box_event ?hg (N:=3) ?hd (cs:= #[.int .i64 a0_0, .bool a0_1, .slice A0_2 l0_2.length c0_2]) (t:=24) ?hr ?_;(case hd=>rfl);(case hg=>rfl);(case hr=>first|(go_simp;done)|(go_simp;rfl));intro gb561 hg w11 hbox hb;have n0_:=Aside0.mk (below_step HB.out hb);have n1_:=Aside0.mk (hbox);have n2_:=Aside0.mk ((by rw[hg];exact(below_size HB.out):w.heap.size≤gb561));have n3_:=Aside0.mk ((by rw[hg];exact(below_size HB.out):w.heap.size≤gb561));clear HB;have HB:=n0_;have BK561:=n1_;have GW561:=n2_;have GE561:=n3_;clear n0_ n1_ n2_ n3_;clear hb hbox hg;have hcz12_0:w11.cell? ⟨gb561,0,none⟩=some (.int .i64 a0_0):=(blk_cell BK561.out 0).trans rfl;have hcz12_1:w11.cell? ⟨gb561,1,none⟩=some (.bool a0_1):=(blk_cell BK561.out 1).trans rfl;have hcz12_2:w11.cell? ⟨gb561,2,none⟩=some (.slice A0_2 l0_2.length c0_2):=(blk_cell BK561.out 2).trans rfl;have hfz12_0:=blk_frozen BK561.out 0;have hfz12_1:=blk_frozen BK561.out 1;have hfz12_2:=blk_frozen BK561.out 2)|((with_reducible refine gate_callee (f:=78) rfl ?_);refine goesL_ (some 9) rfl rfl Try.func78 (by kernel_rfl) rfl #[.agg #[.int .i64 a0_0, .bool a0_1, .slice A0_2 l0_2.length c0_2]] rfl (by(try simp only[List.map_toArray,List.map_cons,List.map_nil]);first|done|rfl|(simp only[List.length_drop,List.length_take];rfl)) ?_;(with_reducible refine(ebbtideref05_Check.calls k a0_0 a0_1 _ _ l0_2 t562 _ ?side1 ?side2 A4.out).mono ?_);(case side1=>repeat(first|exact(Kd.C_below HR0_2.out HB.out)|(with_reducible refine Kd.C_alloc ?_ _)|(with_reducible refine Kd.C_drewN ?_ _)|(with_reducible refine Kd.C_drew ?_)));(case side2=>exact HC0_2.out);rintro e w13 ⟨rfl,hb⟩;refine⟨_,rfl,?_⟩;have n0_:=Aside0.mk (blk_below BK561.out hb);have n1_:=Aside0.mk (below_step HB.out hb);clear BK561;clear HB;have BK561:=n0_;have HB:=n1_;clear n0_ n1_;(try clear hb);(try clear hb2);(try clear hk);(try clear hi);have hcz14_0:w13.cell? ⟨gb561,0,none⟩=some (.int .i64 a0_0):=(blk_cell BK561.out 0).trans rfl;have hcz14_1:w13.cell? ⟨gb561,1,none⟩=some (.bool a0_1):=(blk_cell BK561.out 1).trans rfl;have hcz14_2:w13.cell? ⟨gb561,2,none⟩=some (.slice A0_2 l0_2.length c0_2):=(blk_cell BK561.out 2).trans rfl;have hfz14_0:=blk_frozen BK561.out 0;have hfz14_1:=blk_frozen BK561.out 1;have hfz14_2:=blk_frozen BK561.out 2)|((with_reducible refine gate_callee (f:=99) rfl ?_);refine goesL_ (some 15) rfl rfl Try.func99 (by kernel_rfl) rfl #[.agg #[.int .i64 a0_0, .bool a0_1, .slice A0_2 l0_2.length c0_2], .int .i64 a1] rfl (by(try simp only[List.map_toArray,List.map_cons,List.map_nil]);first|done|rfl|(simp only[List.length_drop,List.length_take];rfl)) ?_;(with_reducible refine(ebbtideref06_Node.calls a0_0 a0_1 _ _ l0_2 a1 true _ ?side1 ?side2 A6.out).mono ?_);(case side1=>repeat(first|exact(Kd.C_below HR0_2.out HB.out)|(with_reducible refine Kd.C_alloc ?_ _)|(with_reducible refine Kd.C_drewN ?_ _)|(with_reducible refine Kd.C_drew ?_)));(case side2=>exact HC0_2.out);rintro e w15 ⟨rfl,hb⟩;refine⟨_,rfl,?_⟩;have n0_:=Aside0.mk (blk_below BK561.out hb);have n1_:=Aside0.mk (below_step HB.out hb);clear BK561;clear HB;have BK561:=n0_;have HB:=n1_;clear n0_ n1_;(try clear hb);(try clear hb2);(try clear hk);(try clear hi);have hcz16_0:w15.cell? ⟨gb561,0,none⟩=some (.int .i64 a0_0):=(blk_cell BK561.out 0).trans rfl;have hcz16_1:w15.cell? ⟨gb561,1,none⟩=some (.bool a0_1):=(blk_cell BK561.out 1).trans rfl;have hcz16_2:w15.cell? ⟨gb561,2,none⟩=some (.slice A0_2 l0_2.length c0_2):=(blk_cell BK561.out 2).trans rfl;have hfz16_0:=blk_frozen BK561.out 0;have hfz16_1:=blk_frozen BK561.out 1;have hfz16_2:=blk_frozen BK561.out 2)|(go_at_call 99;(with_reducible refine(ebbtideref06_Node.calls a0_0 a0_1 _ _ l0_2 a2 true _ ?side1 ?side2 A8.out).mono ?_);(case side1=>repeat(first|exact(Kd.C_below HR0_2.out HB.out)|(with_reducible refine Kd.C_alloc ?_ _)|(with_reducible refine Kd.C_drewN ?_ _)|(with_reducible refine Kd.C_drew ?_)));(case side2=>exact HC0_2.out);rintro e w17 ⟨rfl,hb⟩;have n0_:=Aside0.mk (blk_below BK561.out hb);have n1_:=Aside0.mk (below_step HB.out hb);clear BK561;clear HB;have BK561:=n0_;have HB:=n1_;clear n0_ n1_;(try clear hb);(try clear hb2);(try clear hk);(try clear hi)))
 go_ret
 exact⟨by first|rfl|(simp[errW_none,errW_some]<;>rfl)|(simp[*,errW_none,errW_some]<;>rfl),HB.out⟩
end Go.Proofs.Ytkcpanpdipmmmaa.P
namespace Go.Proofs.Ytkcpanpdipmmmaa.P
open Go.RowKit Go.Proofs.YtkcpanpdipmmmaaW.PrintWords Go.Proofs.YtkcpanpdipmmmaaW.PrintLast Go.Proofs.YtkcpanpdipmmmaaW.PrintMore
attribute [local go_sem] max2_int min2_int max_two min_two max_three min_three max_four min_four
def ebbtideref07_Steps.l0:Nat→List Int→List (S38)→Int→Int→Bool→List (S74)→Option ((List (S38)))
 |0,_,_,_,_,_,_=>none
 |k+1,x1,x5,x6,x102000,x102001,x102002=>if x6<(x1.length:Int) then(if 0≤x6 then(if x6<(x102002.length:Int) then(if ((rd_T74 x102002 x6).f2)>(rd x1 x6) then(if x5.length<8796093022208 then((some (x5 ++ [(⟨x6,false⟩:S38)]:List (S38))).bind fun y104=>(if (rd x1 x6)>0 then(if y104.length<8796093022208 then(ebbtideref07_Steps.l0 k x1 (y104 ++ [(⟨x6,true⟩:S38)]) (wrap64 (x6+1)) x102000 x102001 x102002) else(none)) else(ebbtideref07_Steps.l0 k x1 y104 (wrap64 (x6+1)) x102000 x102001 x102002))) else(none)) else(if (rd x1 x6)>0 then(if x5.length<8796093022208 then(ebbtideref07_Steps.l0 k x1 (x5 ++ [(⟨x6,true⟩:S38)]) (wrap64 (x6+1)) x102000 x102001 x102002) else(none)) else(ebbtideref07_Steps.l0 k x1 x5 (wrap64 (x6+1)) x102000 x102001 x102002))) else(none)) else(none)) else(some x5)
def ebbtideref07_Steps.f (k:Nat) (a0_0:Int) (a0_1:Bool) (l0_2:List (S74)) (l1:List Int):Option ((List (S38))):=ebbtideref07_Steps.l0 k l1 ([]:List (S38)) 0 a0_0 a0_1 l0_2
set_option maxHeartbeats 8000000 in
set_option maxRecDepth 100000 in
theorem ebbtideref07_Steps.calls (k:Nat) (a0_0:Int) (a0_1:Bool) (A0_2:Option Addr) (c0_2:Nat) (l0_2:List (S74)) (A1:Option Addr) (c1:Nat) (l1:List Int) (r:List (S38)) (w:World) (hr0_2:Kd.C k74 w A0_2 l0_2.length l0_2) (hc0_2:l0_2.length≤c0_2) (hr1:Kd.C (Kd.int .i64) w A1 l1.length l1) (hc1:l1.length≤c1) (h:ebbtideref07_Steps.f k a0_0 a0_1 l0_2 l1=some r):
  Calls Try.prog 43 #[.agg #[.int .i64 a0_0, .bool a0_1, .slice A0_2 l0_2.length c0_2], .slice A1 l1.length c1] w fun e w'=> ∃ v0_:Value,e= .returned (v0_)∧Kd.R k38 38 w' w.heap.size (fun _=>True) v0_ r∧Below w.heap.size w w':=by
 have hu24:=Try.underlying24
 have hu38:=Try.underlying38
 have HR0_2:=Aside0.mk hr0_2
 have HC0_2:=Aside0.mk hc0_2
 clear hr0_2 hc0_2
 have HR1:=Aside0.mk hr1
 have HC1:=Aside0.mk hc1
 clear hr1 hc1
 have HB:=Aside0.mk (Below.refl w.heap.size w)
 have H:(ebbtideref07_Steps.l0 k l1 ([]:List (S38)) 0 a0_0 a0_1 l0_2)=some r:=h
 clear h
 have H':=Aside0.mk H
 clear H
 go_enter Try.func43,Try.ntmps43
 go_wp2_with (first|((with_reducible refine gate_dst (N:=2) rfl ?_);refine box_event ?hg (N:=2) ?hd (cs:= #[.int .i64 a0_0, .bool a0_1, .slice A0_2 l0_2.length c0_2]) (t:=24) ?hr ?_;(case hd=>rfl);(case hg=>rfl);(case hr=>first|(go_simp;done)|(go_simp;rfl));intro gb101 hg w3 hbox hb;have n0_:=Aside0.mk (below_step HB.out hb);have n1_:=Aside0.mk (hbox);have n2_:=Aside0.mk ((by rw[hg];exact(below_size HB.out):w.heap.size≤gb101));have n3_:=Aside0.mk ((by rw[hg];exact(below_size HB.out):w.heap.size≤gb101));clear HB;have HB:=n0_;have BK101:=n1_;have GW101:=n2_;have GE101:=n3_;clear n0_ n1_ n2_ n3_;clear hb hbox hg))
 repeat(go_quiet (first|((with_reducible refine gate_dst (N:=2) rfl ?_);refine box_event ?hg (N:=2) ?hd (cs:= #[.int .i64 a0_0, .bool a0_1, .slice A0_2 l0_2.length c0_2]) (t:=24) ?hr ?_;(case hd=>rfl);(case hg=>rfl);(case hr=>first|(go_simp;done)|(go_simp;rfl));intro gb101 hg w3 hbox hb;have n0_:=Aside0.mk (below_step HB.out hb);have n1_:=Aside0.mk (hbox);have n2_:=Aside0.mk ((by rw[hg];exact(below_size HB.out):w.heap.size≤gb101));have n3_:=Aside0.mk ((by rw[hg];exact(below_size HB.out):w.heap.size≤gb101));clear HB;have HB:=n0_;have BK101:=n1_;have GW101:=n2_;have GE101:=n3_;clear n0_ n1_ n2_ n3_;clear hb hbox hg));try go_wp2_with (first|((with_reducible refine gate_dst (N:=2) rfl ?_);refine box_event ?hg (N:=2) ?hd (cs:= #[.int .i64 a0_0, .bool a0_1, .slice A0_2 l0_2.length c0_2]) (t:=24) ?hr ?_;(case hd=>rfl);(case hg=>rfl);(case hr=>first|(go_simp;done)|(go_simp;rfl));intro gb101 hg w3 hbox hb;have n0_:=Aside0.mk (below_step HB.out hb);have n1_:=Aside0.mk (hbox);have n2_:=Aside0.mk ((by rw[hg];exact(below_size HB.out):w.heap.size≤gb101));have n3_:=Aside0.mk ((by rw[hg];exact(below_size HB.out):w.heap.size≤gb101));clear HB;have HB:=n0_;have BK101:=n1_;have GW101:=n2_;have GE101:=n3_;clear n0_ n1_ n2_ n3_;clear hb hbox hg)))
 go_loopg [5,6] k (fun kq v5 v6 w'=> ∃ (x5_1:List (S38)) (x6_1:Int),v6= .int .i64 x6_1∧Aside0 (ebbtideref07_Steps.l0 kq l1 x5_1 x6_1 a0_0 a0_1 l0_2=some r)∧Aside0 (kq≤k)∧Aside0 (Kd.R k38 38 w' w.heap.size (fun _=>True) v5 x5_1)∧Aside0 (w'.heap[gb101]? =some (.cells #[.int .i64 a0_0, .bool a0_1,(.slice A0_2 l0_2.length c0_2)] 24 (0,0)))∧Aside0 (Below w.heap.size w w'))
 case atStart=>exact⟨(([]:List (S38))),(0),(by first|rfl|(simp;done)|(simp[*];done)),H',⟨Nat.le_refl _⟩,⟨by first|exact Kd.R_nil _ _ _ _ _|exact Kd.N_nil _ _ _ _ _|exact Kd.V_nil _ _ _ _ _|exact Kd.Q_nil _ _ _ _ _|exact Kd.S_nil _ _ _ _ _⟩,⟨BK101.out⟩,⟨HB.out⟩⟩
 case round=>
  clear H'
  try clear c1
  try clear p2
  obtain⟨x5_1,x6_1,rfl,HA,HK1,HO_5,BK101,HB⟩:=hrel
  cases gk with
  |zero=>exact absurd HA.out (by simp[ebbtideref07_Steps.l0])
  |succ k1=>
   have H:=HA.out
   clear HA
   simp only[ebbtideref07_Steps.l0] at H
   by_cases c4:x6_1<(l1.length:Int)
   rotate_left
   ·rw[if_neg c4] at H
    have c4b0:decide (x6_1<(l1.length:Int))=false:=decide_eq_false c4
    clear c4
    obtain rfl:=Option.some.inj H
    go_wp2
    repeat(go_quiet (fail);try go_wp2)
    go_ret
    exact⟨_,by first|rfl|(simp[errW_none,errW_some]<;>rfl)|(simp[*,errW_none,errW_some]<;>rfl),by(with_reducible repeat(first|apply Kd.R_alloc|apply Kd.R_drewN|apply Kd.R_drew));exact HO_5.out,HB.out⟩
   rw[if_pos c4] at H
   have c4b0:decide (x6_1<(l1.length:Int))=true:=decide_eq_true c4
   clear c4
   by_cases c5:0≤x6_1
   rotate_left
   ·rw[if_neg c5] at H
    exact absurd H (by simp)
   rw[if_pos c5] at H
   have c5b0:decide (0≤x6_1)=true:=decide_eq_true c5
   clear c5
   by_cases c6:x6_1<(l0_2.length:Int)
   rotate_left
   ·rw[if_neg c6] at H
    exact absurd H (by simp)
   rw[if_pos c6] at H
   have c6b0:decide (x6_1<(l0_2.length:Int))=true:=decide_eq_true c6
   clear c6
   by_cases c7:((rd_T74 l0_2 x6_1).f2)>(rd l1 x6_1)
   ·rw[if_pos c7] at H
    have c7b0:decide ((rd l1 x6_1)<((rd_T74 l0_2 x6_1).f2))=true:=decide_eq_true c7
    clear c7
    by_cases c8:x5_1.length<8796093022208
    rotate_left
    ·rw[if_neg c8] at H
     exact absurd H (by simp)
    rw[if_pos c8] at H
    have LMc8:=Aside0.mk c8
    clear c8
    obtain⟨y104,hy104⟩: ∃ y_:List (S38),y_=(x5_1 ++ [(⟨x6_1,false⟩:S38)]):=⟨_,rfl⟩
    replace H:(if (rd l1 x6_1)>0 then(if y104.length<8796093022208 then(ebbtideref07_Steps.l0 k1 l1 (y104 ++ [(⟨x6_1,true⟩:S38)]) (wrap64 (x6_1+1)) a0_0 a0_1 l0_2) else(none)) else(ebbtideref07_Steps.l0 k1 l1 y104 (wrap64 (x6_1+1)) a0_0 a0_1 l0_2))=some r:=by first|(rw[hy104];with_reducible exact H)|(have H2_:=(Option.bind_some _ _).symm.trans H;rw[hy104];with_reducible exact H2_)|(have H2_:=(Option.bind_some _ _).symm.trans H;with_reducible exact H2_)|with_reducible exact H|(rw[hy104];exact H)|exact H
    have Ny104:=Aside0.mk hy104
    clear hy104
    by_cases c9:(rd l1 x6_1)>0
    rotate_left
    ·rw[if_neg c9] at H
     have c9b0:decide (0<(rd l1 x6_1))=false:=decide_eq_false c9
     clear c9
     have H':=Aside0.mk H
     clear H
     have hcz14_0:wr.cell? ⟨gb101,0,none⟩=some (.int .i64 a0_0):=(blk_cell BK101.out 0).trans rfl
     have hcz14_1:wr.cell? ⟨gb101,1,none⟩=some (.bool a0_1):=(blk_cell BK101.out 1).trans rfl
     have hcz14_2:wr.cell? ⟨gb101,2,none⟩=some (.slice A0_2 l0_2.length c0_2):=(blk_cell BK101.out 2).trans rfl
     have hfz14_0:=blk_frozen BK101.out 0
     have hfz14_1:=blk_frozen BK101.out 1
     have hfz14_2:=blk_frozen BK101.out 2
     have p102:0≤(x6_1:Int):=of_decide_eq_true (by first|(with_reducible assumption)|assumption)
     have q102:x6_1<(l0_2.length:Int):=of_decide_eq_true (by first|(with_reducible assumption)|assumption)
     obtain⟨ad102,e102,hx102_0,hx102_1,hx102_2,hx102_3⟩:=at_T74 HR0_2.out x6_1 p102 q102
     cases e102
     replace hx102_0:=(HB.out.cell (World.block_lt_of_cell? w _ hx102_0)).trans hx102_0
     replace hx102_1:=(HB.out.cell (World.block_lt_of_cell? w _ hx102_1)).trans hx102_1
     replace hx102_2:=(HB.out.cell (World.block_lt_of_cell? w _ hx102_2)).trans hx102_2
     replace hx102_3:=(HB.out.cell (World.block_lt_of_cell? w _ hx102_3)).trans hx102_3
     replace p102:=eq_true p102
     replace q102:=eq_true q102
     have p103:0≤(x6_1:Int):=of_decide_eq_true (by first|(with_reducible assumption)|assumption)
     have q103:x6_1<(l1.length:Int):=of_decide_eq_true (by first|(with_reducible assumption)|assumption)
     obtain⟨ad103,e103,hx103_0⟩:=Kd.at_int HR1.out x6_1 p103 q103
     cases e103
     replace hx103_0:=(HB.out.cell (World.block_lt_of_cell? w _ hx103_0)).trans hx103_0
     replace p103:=eq_true p103
     replace q103:=eq_true q103
     go_wp2_with (first|((with_reducible refine gate_builtin (b:= .append) (xs:= #[.tmp 24, .tmp 27]) rfl ?_);at_builtin;refine Kd.R_append k38 (w0:=w) w.heap.size rfl (.tmp 24) (.tmp 27) 34 38 (.agg #[(.int .i64 0),(.bool false)]) 16 rfl Try.underlying34 info38 rfl (by decide) (by omega) u5 x5_1 (⟨x6_1,false⟩:S38) [.int .i64 x6_1, .bool false] (fun _=>True) (fun _=>False) rfl rfl ?aP (fun _ hk=>hk.elim) ?aF ?aO ?aB ?aS ?aL ?_;(case aP=>exact k38_mkM _ _ _ (⟨x6_1,false⟩:S38));(case aB=>exact HB.out);(case aF=>exact(fun _ _=>trivial));(case aO=>exact HO_5.out);(case aS=>exact(below_size HB.out));(case aL=>have:=LMc8.out;omega);intro v105 w15 ho hb hg hat;rw[← Ny104.out] at ho;have n0_:=Aside0.mk (blk_grown BK101.out hg (Kd.R_ne HO_5.out BK101.out (by decide)));have n1_:=Aside0.mk (hb);have n2_:=Aside0.mk (ho);clear BK101;clear HB;clear HO_5;have BK101:=n0_;have HB:=n1_;have HO106:=n2_;clear n0_ n1_ n2_;clear ho hb hg hat;have p107:0≤(x6_1:Int):=of_decide_eq_true (by first|(with_reducible assumption)|assumption);have q107:x6_1<(l1.length:Int):=of_decide_eq_true (by first|(with_reducible assumption)|assumption);obtain⟨ad107,e107,hx107_0⟩:=Kd.at_int HR1.out x6_1 p107 q107;obtain rfl:ad103=ad107:=(by injection e107);replace hx107_0:=(HB.out.cell (World.block_lt_of_cell? w _ hx107_0)).trans hx107_0;replace p107:=eq_true p107;replace q107:=eq_true q107))
     repeat(go_quiet (first|((with_reducible refine gate_builtin (b:= .append) (xs:= #[.tmp 24, .tmp 27]) rfl ?_);at_builtin;refine Kd.R_append k38 (w0:=w) w.heap.size rfl (.tmp 24) (.tmp 27) 34 38 (.agg #[(.int .i64 0),(.bool false)]) 16 rfl Try.underlying34 info38 rfl (by decide) (by omega) u5 x5_1 (⟨x6_1,false⟩:S38) [.int .i64 x6_1, .bool false] (fun _=>True) (fun _=>False) rfl rfl ?aP (fun _ hk=>hk.elim) ?aF ?aO ?aB ?aS ?aL ?_;(case aP=>exact k38_mkM _ _ _ (⟨x6_1,false⟩:S38));(case aB=>exact(by repeat(first|(with_reducible first|exact HB.out|apply below_alloc|apply pw_below_drewN|apply below_drew1|refine below_set ?_ GE101.out)|exact HB.out)));(case aF=>exact(fun _ _=>trivial));(case aO=>exact(by(with_reducible repeat(first|apply Kd.R_alloc|apply Kd.R_drewN|apply Kd.R_drew));exact HO_5.out));(case aS=>exact(below_size (by repeat(first|(with_reducible first|exact HB.out|apply below_alloc|apply pw_below_drewN|apply below_drew1|refine below_set ?_ GE101.out)|exact HB.out))));(case aL=>have:=LMc8.out;omega);intro v105 w15 ho hb hg hat;rw[← Ny104.out] at ho;have n0_:=Aside0.mk (blk_grown (g:=gb101) (o:= .cells #[.int .i64 a0_0, .bool a0_1, .slice (some ad102) l0_2.length c0_2] 24 (0,0)) (by(with_reducible repeat(first|refine blk_drewN ?_ _|refine blk_drew ?_|refine blk_alloc ?_ _));exact BK101.out) hg (Kd.R_ne HO_5.out BK101.out (by decide)));have n1_:=Aside0.mk (hb);have n2_:=Aside0.mk (ho);clear BK101;clear HB;clear HO_5;have BK101:=n0_;have HB:=n1_;have HO106:=n2_;clear n0_ n1_ n2_;clear ho hb hg hat;have p107:0≤(x6_1:Int):=of_decide_eq_true (by first|(with_reducible assumption)|assumption);have q107:x6_1<(l1.length:Int):=of_decide_eq_true (by first|(with_reducible assumption)|assumption);obtain⟨ad107,e107,hx107_0⟩:=Kd.at_int HR1.out x6_1 p107 q107;obtain rfl:ad103=ad107:=(by injection e107);replace hx107_0:=(HB.out.cell (World.block_lt_of_cell? w _ hx107_0)).trans hx107_0;replace p107:=eq_true p107;replace q107:=eq_true q107));try go_wp2_with (first|((with_reducible refine gate_builtin (b:= .append) (xs:= #[.tmp 24, .tmp 27]) rfl ?_);at_builtin;refine Kd.R_append k38 (w0:=w) w.heap.size rfl (.tmp 24) (.tmp 27) 34 38 (.agg #[(.int .i64 0),(.bool false)]) 16 rfl Try.underlying34 info38 rfl (by decide) (by omega) u5 x5_1 (⟨x6_1,false⟩:S38) [.int .i64 x6_1, .bool false] (fun _=>True) (fun _=>False) rfl rfl ?aP (fun _ hk=>hk.elim) ?aF ?aO ?aB ?aS ?aL ?_;(case aP=>exact k38_mkM _ _ _ (⟨x6_1,false⟩:S38));(case aB=>exact(by repeat(first|(with_reducible first|exact HB.out|apply below_alloc|apply pw_below_drewN|apply below_drew1|refine below_set ?_ GE101.out)|exact HB.out)));(case aF=>exact(fun _ _=>trivial));(case aO=>exact(by(with_reducible repeat(first|apply Kd.R_alloc|apply Kd.R_drewN|apply Kd.R_drew));exact HO_5.out));(case aS=>exact(below_size (by repeat(first|(with_reducible first|exact HB.out|apply below_alloc|apply pw_below_drewN|apply below_drew1|refine below_set ?_ GE101.out)|exact HB.out))));(case aL=>have:=LMc8.out;omega);intro v105 w15 ho hb hg hat;rw[← Ny104.out] at ho;have n0_:=Aside0.mk (blk_grown (g:=gb101) (o:= .cells #[.int .i64 a0_0, .bool a0_1, .slice (some ad102) l0_2.length c0_2] 24 (0,0)) (by(with_reducible repeat(first|refine blk_drewN ?_ _|refine blk_drew ?_|refine blk_alloc ?_ _));exact BK101.out) hg (Kd.R_ne HO_5.out BK101.out (by decide)));have n1_:=Aside0.mk (hb);have n2_:=Aside0.mk (ho);clear BK101;clear HB;clear HO_5;have BK101:=n0_;have HB:=n1_;have HO106:=n2_;clear n0_ n1_ n2_;clear ho hb hg hat;have p107:0≤(x6_1:Int):=of_decide_eq_true (by first|(with_reducible assumption)|assumption);have q107:x6_1<(l1.length:Int):=of_decide_eq_true (by first|(with_reducible assumption)|assumption);obtain⟨ad107,e107,hx107_0⟩:=Kd.at_int HR1.out x6_1 p107 q107;obtain rfl:ad103=ad107:=(by injection e107);replace hx107_0:=(HB.out.cell (World.block_lt_of_cell? w _ hx107_0)).trans hx107_0;replace p107:=eq_true p107;replace q107:=eq_true q107)))
     go_roundg k1
     case measure=>have:=HK1.out;omega
     case rel=>exact⟨(y104),(wrap64 (x6_1+1)),(by first|rfl|(simp;done)|(simp[*];done)),H',⟨by have:=HK1.out;omega⟩,⟨HO106.out⟩,⟨BK101.out⟩,⟨HB.out⟩⟩
    rw[if_pos c9] at H
    have c9b0:decide (0<(rd l1 x6_1))=true:=decide_eq_true c9
    clear c9
    by_cases c10:y104.length<8796093022208
    rotate_left
    ·rw[if_neg c10] at H
     exact absurd H (by simp)
    rw[if_pos c10] at H
    have LMc10:=Aside0.mk c10
    clear c10
    obtain⟨y108,hy108⟩: ∃ y_:List (S38),y_=(y104 ++ [(⟨x6_1,true⟩:S38)]):=⟨_,rfl⟩
    replace H:(ebbtideref07_Steps.l0 k1 l1 y108 (wrap64 (x6_1+1)) a0_0 a0_1 l0_2)=some r:=by first|(rw[hy108];with_reducible exact H)|(have H2_:=(Option.bind_some _ _).symm.trans H;rw[hy108];with_reducible exact H2_)|(have H2_:=(Option.bind_some _ _).symm.trans H;with_reducible exact H2_)|with_reducible exact H|(rw[hy108];exact H)|exact H
    have Ny108:=Aside0.mk hy108
    clear hy108
    have H':=Aside0.mk H
    clear H
    have hcz11_0:wr.cell? ⟨gb101,0,none⟩=some (.int .i64 a0_0):=(blk_cell BK101.out 0).trans rfl
    have hcz11_1:wr.cell? ⟨gb101,1,none⟩=some (.bool a0_1):=(blk_cell BK101.out 1).trans rfl
    have hcz11_2:wr.cell? ⟨gb101,2,none⟩=some (.slice A0_2 l0_2.length c0_2):=(blk_cell BK101.out 2).trans rfl
    have hfz11_0:=blk_frozen BK101.out 0
    have hfz11_1:=blk_frozen BK101.out 1
    have hfz11_2:=blk_frozen BK101.out 2
    have p102:0≤(x6_1:Int):=of_decide_eq_true (by first|(with_reducible assumption)|assumption)
    have q102:x6_1<(l0_2.length:Int):=of_decide_eq_true (by first|(with_reducible assumption)|assumption)
    obtain⟨ad102,e102,hx102_0,hx102_1,hx102_2,hx102_3⟩:=at_T74 HR0_2.out x6_1 p102 q102
    cases e102
    replace hx102_0:=(HB.out.cell (World.block_lt_of_cell? w _ hx102_0)).trans hx102_0
    replace hx102_1:=(HB.out.cell (World.block_lt_of_cell? w _ hx102_1)).trans hx102_1
    replace hx102_2:=(HB.out.cell (World.block_lt_of_cell? w _ hx102_2)).trans hx102_2
    replace hx102_3:=(HB.out.cell (World.block_lt_of_cell? w _ hx102_3)).trans hx102_3
    replace p102:=eq_true p102
    replace q102:=eq_true q102
    have p103:0≤(x6_1:Int):=of_decide_eq_true (by first|(with_reducible assumption)|assumption)
    have q103:x6_1<(l1.length:Int):=of_decide_eq_true (by first|(with_reducible assumption)|assumption)
    obtain⟨ad103,e103,hx103_0⟩:=Kd.at_int HR1.out x6_1 p103 q103
    cases e103
    replace hx103_0:=(HB.out.cell (World.block_lt_of_cell? w _ hx103_0)).trans hx103_0
    replace p103:=eq_true p103
    replace q103:=eq_true q103
    go_wp2_with (first|((with_reducible refine gate_builtin (b:= .append) (xs:= #[.tmp 24, .tmp 27]) rfl ?_);at_builtin;refine Kd.R_append k38 (w0:=w) w.heap.size rfl (.tmp 24) (.tmp 27) 34 38 (.agg #[(.int .i64 0),(.bool false)]) 16 rfl Try.underlying34 info38 rfl (by decide) (by omega) u5 x5_1 (⟨x6_1,false⟩:S38) [.int .i64 x6_1, .bool false] (fun _=>True) (fun _=>False) rfl rfl ?aP (fun _ hk=>hk.elim) ?aF ?aO ?aB ?aS ?aL ?_;(case aP=>exact k38_mkM _ _ _ (⟨x6_1,false⟩:S38));(case aB=>exact HB.out);(case aF=>exact(fun _ _=>trivial));(case aO=>exact HO_5.out);(case aS=>exact(below_size HB.out));(case aL=>have:=LMc8.out;omega);intro v105 w12 ho hb hg hat;rw[← Ny104.out] at ho;have n0_:=Aside0.mk (blk_grown BK101.out hg (Kd.R_ne HO_5.out BK101.out (by decide)));have n1_:=Aside0.mk (hb);have n2_:=Aside0.mk (ho);clear BK101;clear HB;clear HO_5;have BK101:=n0_;have HB:=n1_;have HO106:=n2_;clear n0_ n1_ n2_;clear ho hb hg hat;have p107:0≤(x6_1:Int):=of_decide_eq_true (by first|(with_reducible assumption)|assumption);have q107:x6_1<(l1.length:Int):=of_decide_eq_true (by first|(with_reducible assumption)|assumption);obtain⟨ad107,e107,hx107_0⟩:=Kd.at_int HR1.out x6_1 p107 q107;obtain rfl:ad103=ad107:=(by injection e107);replace hx107_0:=(HB.out.cell (World.block_lt_of_cell? w _ hx107_0)).trans hx107_0;replace p107:=eq_true p107;replace q107:=eq_true q107)|((with_reducible refine gate_builtin (b:= .append) (xs:= #[.tmp 34, .tmp 37]) rfl ?_);at_builtin;refine Kd.R_append k38 (w0:=w) w.heap.size rfl (.tmp 34) (.tmp 37) 34 38 (.agg #[(.int .i64 0),(.bool false)]) 16 rfl Try.underlying34 info38 rfl (by decide) (by omega) v105 y104 (⟨x6_1,true⟩:S38) [.int .i64 x6_1, .bool true] (fun _=>True) (fun _=>False) rfl rfl ?aP (fun _ hk=>hk.elim) ?aF ?aO ?aB ?aS ?aL ?_;(case aP=>exact k38_mkM _ _ _ (⟨x6_1,true⟩:S38));(case aB=>exact HB.out);(case aF=>exact(fun _ _=>trivial));(case aO=>exact HO106.out);(case aS=>exact(below_size HB.out));(case aL=>have:=LMc10.out;omega);intro v109 w13 ho hb hg hat;rw[← Ny108.out] at ho;have n0_:=Aside0.mk (blk_grown BK101.out hg (Kd.R_ne HO106.out BK101.out (by decide)));have n1_:=Aside0.mk (hb);have n2_:=Aside0.mk (ho);clear BK101;clear HB;clear HO106;have BK101:=n0_;have HB:=n1_;have HO110:=n2_;clear n0_ n1_ n2_;clear ho hb hg hat))
    repeat(go_quiet (first|((with_reducible refine gate_builtin (b:= .append) (xs:= #[.tmp 24, .tmp 27]) rfl ?_);at_builtin;refine Kd.R_append k38 (w0:=w) w.heap.size rfl (.tmp 24) (.tmp 27) 34 38 (.agg #[(.int .i64 0),(.bool false)]) 16 rfl Try.underlying34 info38 rfl (by decide) (by omega) u5 x5_1 (⟨x6_1,false⟩:S38) [.int .i64 x6_1, .bool false] (fun _=>True) (fun _=>False) rfl rfl ?aP (fun _ hk=>hk.elim) ?aF ?aO ?aB ?aS ?aL ?_;(case aP=>exact k38_mkM _ _ _ (⟨x6_1,false⟩:S38));(case aB=>exact(by repeat(first|(with_reducible first|exact HB.out|apply below_alloc|apply pw_below_drewN|apply below_drew1|refine below_set ?_ GE101.out)|exact HB.out)));(case aF=>exact(fun _ _=>trivial));(case aO=>exact(by(with_reducible repeat(first|apply Kd.R_alloc|apply Kd.R_drewN|apply Kd.R_drew));exact HO_5.out));(case aS=>exact(below_size (by repeat(first|(with_reducible first|exact HB.out|apply below_alloc|apply pw_below_drewN|apply below_drew1|refine below_set ?_ GE101.out)|exact HB.out))));(case aL=>have:=LMc8.out;omega);intro v105 w12 ho hb hg hat;rw[← Ny104.out] at ho;have n0_:=Aside0.mk (blk_grown (g:=gb101) (o:= .cells #[.int .i64 a0_0, .bool a0_1, .slice (some ad102) l0_2.length c0_2] 24 (0,0)) (by(with_reducible repeat(first|refine blk_drewN ?_ _|refine blk_drew ?_|refine blk_alloc ?_ _));exact BK101.out) hg (Kd.R_ne HO_5.out BK101.out (by decide)));have n1_:=Aside0.mk (hb);have n2_:=Aside0.mk (ho);clear BK101;clear HB;clear HO_5;have BK101:=n0_;have HB:=n1_;have HO106:=n2_;clear n0_ n1_ n2_;clear ho hb hg hat;have p107:0≤(x6_1:Int):=of_decide_eq_true (by first|(with_reducible assumption)|assumption);have q107:x6_1<(l1.length:Int):=of_decide_eq_true (by first|(with_reducible assumption)|assumption);obtain⟨ad107,e107,hx107_0⟩:=Kd.at_int HR1.out x6_1 p107 q107;obtain rfl:ad103=ad107:=(by injection e107);replace hx107_0:=(HB.out.cell (World.block_lt_of_cell? w _ hx107_0)).trans hx107_0;replace p107:=eq_true p107;replace q107:=eq_true q107)|((with_reducible refine gate_builtin (b:= .append) (xs:= #[.tmp 34, .tmp 37]) rfl ?_);at_builtin;refine Kd.R_append k38 (w0:=w) w.heap.size rfl (.tmp 34) (.tmp 37) 34 38 (.agg #[(.int .i64 0),(.bool false)]) 16 rfl Try.underlying34 info38 rfl (by decide) (by omega) v105 y104 (⟨x6_1,true⟩:S38) [.int .i64 x6_1, .bool true] (fun _=>True) (fun _=>False) rfl rfl ?aP (fun _ hk=>hk.elim) ?aF ?aO ?aB ?aS ?aL ?_;(case aP=>exact k38_mkM _ _ _ (⟨x6_1,true⟩:S38));(case aB=>exact(by repeat(first|(with_reducible first|exact HB.out|apply below_alloc|apply pw_below_drewN|apply below_drew1|refine below_set ?_ GE101.out)|exact HB.out)));(case aF=>exact(fun _ _=>trivial));(case aO=>exact(by(with_reducible repeat(first|apply Kd.R_alloc|apply Kd.R_drewN|apply Kd.R_drew));exact HO106.out));(case aS=>exact(below_size (by repeat(first|(with_reducible first|exact HB.out|apply below_alloc|apply pw_below_drewN|apply below_drew1|refine below_set ?_ GE101.out)|exact HB.out))));(case aL=>have:=LMc10.out;omega);intro v109 w13 ho hb hg hat;rw[← Ny108.out] at ho;have n0_:=Aside0.mk (blk_grown (g:=gb101) (o:= .cells #[.int .i64 a0_0, .bool a0_1, .slice (some ad102) l0_2.length c0_2] 24 (0,0)) (by(with_reducible repeat(first|refine blk_drewN ?_ _|refine blk_drew ?_|refine blk_alloc ?_ _));exact BK101.out) hg (Kd.R_ne HO106.out BK101.out (by decide)));have n1_:=Aside0.mk (hb);have n2_:=Aside0.mk (ho);clear BK101;clear HB;clear HO106;have BK101:=n0_;have HB:=n1_;have HO110:=n2_;clear n0_ n1_ n2_;clear ho hb hg hat));try go_wp2_with (first|((with_reducible refine gate_builtin (b:= .append) (xs:= #[.tmp 24, .tmp 27]) rfl ?_);at_builtin;refine Kd.R_append k38 (w0:=w) w.heap.size rfl (.tmp 24) (.tmp 27) 34 38 (.agg #[(.int .i64 0),(.bool false)]) 16 rfl Try.underlying34 info38 rfl (by decide) (by omega) u5 x5_1 (⟨x6_1,false⟩:S38) [.int .i64 x6_1, .bool false] (fun _=>True) (fun _=>False) rfl rfl ?aP (fun _ hk=>hk.elim) ?aF ?aO ?aB ?aS ?aL ?_;(case aP=>exact k38_mkM _ _ _ (⟨x6_1,false⟩:S38));(case aB=>exact(by repeat(first|(with_reducible first|exact HB.out|apply below_alloc|apply pw_below_drewN|apply below_drew1|refine below_set ?_ GE101.out)|exact HB.out)));(case aF=>exact(fun _ _=>trivial));(case aO=>exact(by(with_reducible repeat(first|apply Kd.R_alloc|apply Kd.R_drewN|apply Kd.R_drew));exact HO_5.out));(case aS=>exact(below_size (by repeat(first|(with_reducible first|exact HB.out|apply below_alloc|apply pw_below_drewN|apply below_drew1|refine below_set ?_ GE101.out)|exact HB.out))));(case aL=>have:=LMc8.out;omega);intro v105 w12 ho hb hg hat;rw[← Ny104.out] at ho;have n0_:=Aside0.mk (blk_grown (g:=gb101) (o:= .cells #[.int .i64 a0_0, .bool a0_1, .slice (some ad102) l0_2.length c0_2] 24 (0,0)) (by(with_reducible repeat(first|refine blk_drewN ?_ _|refine blk_drew ?_|refine blk_alloc ?_ _));exact BK101.out) hg (Kd.R_ne HO_5.out BK101.out (by decide)));have n1_:=Aside0.mk (hb);have n2_:=Aside0.mk (ho);clear BK101;clear HB;clear HO_5;have BK101:=n0_;have HB:=n1_;have HO106:=n2_;clear n0_ n1_ n2_;clear ho hb hg hat;have p107:0≤(x6_1:Int):=of_decide_eq_true (by first|(with_reducible assumption)|assumption);have q107:x6_1<(l1.length:Int):=of_decide_eq_true (by first|(with_reducible assumption)|assumption);obtain⟨ad107,e107,hx107_0⟩:=Kd.at_int HR1.out x6_1 p107 q107;obtain rfl:ad103=ad107:=(by injection e107);replace hx107_0:=(HB.out.cell (World.block_lt_of_cell? w _ hx107_0)).trans hx107_0;replace p107:=eq_true p107;replace q107:=eq_true q107)|((with_reducible refine gate_builtin (b:= .append) (xs:= #[.tmp 34, .tmp 37]) rfl ?_);at_builtin;refine Kd.R_append k38 (w0:=w) w.heap.size rfl (.tmp 34) (.tmp 37) 34 38 (.agg #[(.int .i64 0),(.bool false)]) 16 rfl Try.underlying34 info38 rfl (by decide) (by omega) v105 y104 (⟨x6_1,true⟩:S38) [.int .i64 x6_1, .bool true] (fun _=>True) (fun _=>False) rfl rfl ?aP (fun _ hk=>hk.elim) ?aF ?aO ?aB ?aS ?aL ?_;(case aP=>exact k38_mkM _ _ _ (⟨x6_1,true⟩:S38));(case aB=>exact(by repeat(first|(with_reducible first|exact HB.out|apply below_alloc|apply pw_below_drewN|apply below_drew1|refine below_set ?_ GE101.out)|exact HB.out)));(case aF=>exact(fun _ _=>trivial));(case aO=>exact(by(with_reducible repeat(first|apply Kd.R_alloc|apply Kd.R_drewN|apply Kd.R_drew));exact HO106.out));(case aS=>exact(below_size (by repeat(first|(with_reducible first|exact HB.out|apply below_alloc|apply pw_below_drewN|apply below_drew1|refine below_set ?_ GE101.out)|exact HB.out))));(case aL=>have:=LMc10.out;omega);intro v109 w13 ho hb hg hat;rw[← Ny108.out] at ho;have n0_:=Aside0.mk (blk_grown (g:=gb101) (o:= .cells #[.int .i64 a0_0, .bool a0_1, .slice (some ad102) l0_2.length c0_2] 24 (0,0)) (by(with_reducible repeat(first|refine blk_drewN ?_ _|refine blk_drew ?_|refine blk_alloc ?_ _));exact BK101.out) hg (Kd.R_ne HO106.out BK101.out (by decide)));have n1_:=Aside0.mk (hb);have n2_:=Aside0.mk (ho);clear BK101;clear HB;clear HO106;have BK101:=n0_;have HB:=n1_;have HO110:=n2_;clear n0_ n1_ n2_;clear ho hb hg hat)))
    go_roundg k1
    case measure=>have:=HK1.out;omega
    case rel=>exact⟨(y108),(wrap64 (x6_1+1)),(by first|rfl|(simp;done)|(simp[*];done)),H',⟨by have:=HK1.out;omega⟩,⟨HO110.out⟩,⟨BK101.out⟩,⟨HB.out⟩⟩
   rw[if_neg c7] at H
   have c7b0:decide ((rd l1 x6_1)<((rd_T74 l0_2 x6_1).f2))=false:=decide_eq_false c7
   clear c7
   by_cases c16:(rd l1 x6_1)>0
   rotate_left
   ·rw[if_neg c16] at H
    have c16b0:decide (0<(rd l1 x6_1))=false:=decide_eq_false c16
    clear c16
    have H':=Aside0.mk H
    clear H
    have hcz20_0:wr.cell? ⟨gb101,0,none⟩=some (.int .i64 a0_0):=(blk_cell BK101.out 0).trans rfl
    have hcz20_1:wr.cell? ⟨gb101,1,none⟩=some (.bool a0_1):=(blk_cell BK101.out 1).trans rfl
    have hcz20_2:wr.cell? ⟨gb101,2,none⟩=some (.slice A0_2 l0_2.length c0_2):=(blk_cell BK101.out 2).trans rfl
    have hfz20_0:=blk_frozen BK101.out 0
    have hfz20_1:=blk_frozen BK101.out 1
    have hfz20_2:=blk_frozen BK101.out 2
    have p102:0≤(x6_1:Int):=of_decide_eq_true (by first|(with_reducible assumption)|assumption)
    have q102:x6_1<(l0_2.length:Int):=of_decide_eq_true (by first|(with_reducible assumption)|assumption)
    obtain⟨ad102,e102,hx102_0,hx102_1,hx102_2,hx102_3⟩:=at_T74 HR0_2.out x6_1 p102 q102
    cases e102
    replace hx102_0:=(HB.out.cell (World.block_lt_of_cell? w _ hx102_0)).trans hx102_0
    replace hx102_1:=(HB.out.cell (World.block_lt_of_cell? w _ hx102_1)).trans hx102_1
    replace hx102_2:=(HB.out.cell (World.block_lt_of_cell? w _ hx102_2)).trans hx102_2
    replace hx102_3:=(HB.out.cell (World.block_lt_of_cell? w _ hx102_3)).trans hx102_3
    replace p102:=eq_true p102
    replace q102:=eq_true q102
    have p103:0≤(x6_1:Int):=of_decide_eq_true (by first|(with_reducible assumption)|assumption)
    have q103:x6_1<(l1.length:Int):=of_decide_eq_true (by first|(with_reducible assumption)|assumption)
    obtain⟨ad103,e103,hx103_0⟩:=Kd.at_int HR1.out x6_1 p103 q103
    cases e103
    replace hx103_0:=(HB.out.cell (World.block_lt_of_cell? w _ hx103_0)).trans hx103_0
    replace p103:=eq_true p103
    replace q103:=eq_true q103
    have p111:0≤(x6_1:Int):=of_decide_eq_true (by first|(with_reducible assumption)|assumption)
    have q111:x6_1<(l1.length:Int):=of_decide_eq_true (by first|(with_reducible assumption)|assumption)
    obtain⟨ad111,e111,hx111_0⟩:=Kd.at_int HR1.out x6_1 p111 q111
    obtain rfl:ad103=ad111:=(by injection e111)
    replace hx111_0:=(HB.out.cell (World.block_lt_of_cell? w _ hx111_0)).trans hx111_0
    replace p111:=eq_true p111
    replace q111:=eq_true q111
    go_wp2
    repeat(go_quiet (fail);try go_wp2)
    go_roundg k1
    case measure=>have:=HK1.out;omega
    case rel=>exact⟨(x5_1),(wrap64 (x6_1+1)),(by first|rfl|(simp;done)|(simp[*];done)),H',⟨by have:=HK1.out;omega⟩,⟨by(with_reducible repeat(first|apply Kd.R_alloc|apply Kd.R_drewN|apply Kd.R_drew));exact HO_5.out⟩,⟨by(with_reducible repeat(first|refine blk_drewN ?_ _|refine blk_drew ?_|refine blk_alloc ?_ _));exact BK101.out⟩,⟨by repeat(first|(with_reducible first|exact HB.out|apply below_alloc|apply pw_below_drewN|apply below_drew1|refine below_set ?_ GE101.out)|exact HB.out)⟩⟩
   rw[if_pos c16] at H
   have c16b0:decide (0<(rd l1 x6_1))=true:=decide_eq_true c16
   clear c16
   by_cases c17:x5_1.length<8796093022208
   rotate_left
   ·rw[if_neg c17] at H
    exact absurd H (by simp)
   rw[if_pos c17] at H
   have LMc17:=Aside0.mk c17
   clear c17
   obtain⟨y112,hy112⟩: ∃ y_:List (S38),y_=(x5_1 ++ [(⟨x6_1,true⟩:S38)]):=⟨_,rfl⟩
   replace H:(ebbtideref07_Steps.l0 k1 l1 y112 (wrap64 (x6_1+1)) a0_0 a0_1 l0_2)=some r:=by first|(rw[hy112];with_reducible exact H)|(have H2_:=(Option.bind_some _ _).symm.trans H;rw[hy112];with_reducible exact H2_)|(have H2_:=(Option.bind_some _ _).symm.trans H;with_reducible exact H2_)|with_reducible exact H|(rw[hy112];exact H)|exact H
   have Ny112:=Aside0.mk hy112
   clear hy112
   have H':=Aside0.mk H
   clear H
   have hcz18_0:wr.cell? ⟨gb101,0,none⟩=some (.int .i64 a0_0):=(blk_cell BK101.out 0).trans rfl
   have hcz18_1:wr.cell? ⟨gb101,1,none⟩=some (.bool a0_1):=(blk_cell BK101.out 1).trans rfl
   have hcz18_2:wr.cell? ⟨gb101,2,none⟩=some (.slice A0_2 l0_2.length c0_2):=(blk_cell BK101.out 2).trans rfl
   have hfz18_0:=blk_frozen BK101.out 0
   have hfz18_1:=blk_frozen BK101.out 1
   have hfz18_2:=blk_frozen BK101.out 2
   have p102:0≤(x6_1:Int):=of_decide_eq_true (by first|(with_reducible assumption)|assumption)
   have q102:x6_1<(l0_2.length:Int):=of_decide_eq_true (by first|(with_reducible assumption)|assumption)
   obtain⟨ad102,e102,hx102_0,hx102_1,hx102_2,hx102_3⟩:=at_T74 HR0_2.out x6_1 p102 q102
   cases e102
   replace hx102_0:=(HB.out.cell (World.block_lt_of_cell? w _ hx102_0)).trans hx102_0
   replace hx102_1:=(HB.out.cell (World.block_lt_of_cell? w _ hx102_1)).trans hx102_1
   replace hx102_2:=(HB.out.cell (World.block_lt_of_cell? w _ hx102_2)).trans hx102_2
   replace hx102_3:=(HB.out.cell (World.block_lt_of_cell? w _ hx102_3)).trans hx102_3
   replace p102:=eq_true p102
   replace q102:=eq_true q102
   have p103:0≤(x6_1:Int):=of_decide_eq_true (by first|(with_reducible assumption)|assumption)
   have q103:x6_1<(l1.length:Int):=of_decide_eq_true (by first|(with_reducible assumption)|assumption)
   obtain⟨ad103,e103,hx103_0⟩:=Kd.at_int HR1.out x6_1 p103 q103
   cases e103
   replace hx103_0:=(HB.out.cell (World.block_lt_of_cell? w _ hx103_0)).trans hx103_0
   replace p103:=eq_true p103
   replace q103:=eq_true q103
   have p111:0≤(x6_1:Int):=of_decide_eq_true (by first|(with_reducible assumption)|assumption)
   have q111:x6_1<(l1.length:Int):=of_decide_eq_true (by first|(with_reducible assumption)|assumption)
   obtain⟨ad111,e111,hx111_0⟩:=Kd.at_int HR1.out x6_1 p111 q111
   obtain rfl:ad103=ad111:=(by injection e111)
   replace hx111_0:=(HB.out.cell (World.block_lt_of_cell? w _ hx111_0)).trans hx111_0
   replace p111:=eq_true p111
   replace q111:=eq_true q111
   go_wp2_with (first|((with_reducible refine gate_builtin (b:= .append) (xs:= #[.tmp 34, .tmp 37]) rfl ?_);at_builtin;refine Kd.R_append k38 (w0:=w) w.heap.size rfl (.tmp 34) (.tmp 37) 34 38 (.agg #[(.int .i64 0),(.bool false)]) 16 rfl Try.underlying34 info38 rfl (by decide) (by omega) u5 x5_1 (⟨x6_1,true⟩:S38) [.int .i64 x6_1, .bool true] (fun _=>True) (fun _=>False) rfl rfl ?aP (fun _ hk=>hk.elim) ?aF ?aO ?aB ?aS ?aL ?_;(case aP=>exact k38_mkM _ _ _ (⟨x6_1,true⟩:S38));(case aB=>exact HB.out);(case aF=>exact(fun _ _=>trivial));(case aO=>exact HO_5.out);(case aS=>exact(below_size HB.out));(case aL=>have:=LMc17.out;omega);intro v113 w19 ho hb hg hat;rw[← Ny112.out] at ho;have n0_:=Aside0.mk (blk_grown BK101.out hg (Kd.R_ne HO_5.out BK101.out (by decide)));have n1_:=Aside0.mk (hb);have n2_:=Aside0.mk (ho);clear BK101;clear HB;clear HO_5;have BK101:=n0_;have HB:=n1_;have HO114:=n2_;clear n0_ n1_ n2_;clear ho hb hg hat))
   repeat(go_quiet (first|((with_reducible refine gate_builtin (b:= .append) (xs:= #[.tmp 34, .tmp 37]) rfl ?_);at_builtin;refine Kd.R_append k38 (w0:=w) w.heap.size rfl (.tmp 34) (.tmp 37) 34 38 (.agg #[(.int .i64 0),(.bool false)]) 16 rfl Try.underlying34 info38 rfl (by decide) (by omega) u5 x5_1 (⟨x6_1,true⟩:S38) [.int .i64 x6_1, .bool true] (fun _=>True) (fun _=>False) rfl rfl ?aP (fun _ hk=>hk.elim) ?aF ?aO ?aB ?aS ?aL ?_;(case aP=>exact k38_mkM _ _ _ (⟨x6_1,true⟩:S38));(case aB=>exact(by repeat(first|(with_reducible first|exact HB.out|apply below_alloc|apply pw_below_drewN|apply below_drew1|refine below_set ?_ GE101.out)|exact HB.out)));(case aF=>exact(fun _ _=>trivial));(case aO=>exact(by(with_reducible repeat(first|apply Kd.R_alloc|apply Kd.R_drewN|apply Kd.R_drew));exact HO_5.out));(case aS=>exact(below_size (by repeat(first|(with_reducible first|exact HB.out|apply below_alloc|apply pw_below_drewN|apply below_drew1|refine below_set ?_ GE101.out)|exact HB.out))));(case aL=>have:=LMc17.out;omega);intro v113 w19 ho hb hg hat;rw[← Ny112.out] at ho;have n0_:=Aside0.mk (blk_grown (g:=gb101) (o:= .cells #[.int .i64 a0_0, .bool a0_1, .slice (some ad102) l0_2.length c0_2] 24 (0,0)) (by(with_reducible repeat(first|refine blk_drewN ?_ _|refine blk_drew ?_|refine blk_alloc ?_ _));exact BK101.out) hg (Kd.R_ne HO_5.out BK101.out (by decide)));have n1_:=Aside0.mk (hb);have n2_:=Aside0.mk (ho);clear BK101;clear HB;clear HO_5;have BK101:=n0_;have HB:=n1_;have HO114:=n2_;clear n0_ n1_ n2_;clear ho hb hg hat));try go_wp2_with (first|((with_reducible refine gate_builtin (b:= .append) (xs:= #[.tmp 34, .tmp 37]) rfl ?_);at_builtin;refine Kd.R_append k38 (w0:=w) w.heap.size rfl (.tmp 34) (.tmp 37) 34 38 (.agg #[(.int .i64 0),(.bool false)]) 16 rfl Try.underlying34 info38 rfl (by decide) (by omega) u5 x5_1 (⟨x6_1,true⟩:S38) [.int .i64 x6_1, .bool true] (fun _=>True) (fun _=>False) rfl rfl ?aP (fun _ hk=>hk.elim) ?aF ?aO ?aB ?aS ?aL ?_;(case aP=>exact k38_mkM _ _ _ (⟨x6_1,true⟩:S38));(case aB=>exact(by repeat(first|(with_reducible first|exact HB.out|apply below_alloc|apply pw_below_drewN|apply below_drew1|refine below_set ?_ GE101.out)|exact HB.out)));(case aF=>exact(fun _ _=>trivial));(case aO=>exact(by(with_reducible repeat(first|apply Kd.R_alloc|apply Kd.R_drewN|apply Kd.R_drew));exact HO_5.out));(case aS=>exact(below_size (by repeat(first|(with_reducible first|exact HB.out|apply below_alloc|apply pw_below_drewN|apply below_drew1|refine below_set ?_ GE101.out)|exact HB.out))));(case aL=>have:=LMc17.out;omega);intro v113 w19 ho hb hg hat;rw[← Ny112.out] at ho;have n0_:=Aside0.mk (blk_grown (g:=gb101) (o:= .cells #[.int .i64 a0_0, .bool a0_1, .slice (some ad102) l0_2.length c0_2] 24 (0,0)) (by(with_reducible repeat(first|refine blk_drewN ?_ _|refine blk_drew ?_|refine blk_alloc ?_ _));exact BK101.out) hg (Kd.R_ne HO_5.out BK101.out (by decide)));have n1_:=Aside0.mk (hb);have n2_:=Aside0.mk (ho);clear BK101;clear HB;clear HO_5;have BK101:=n0_;have HB:=n1_;have HO114:=n2_;clear n0_ n1_ n2_;clear ho hb hg hat)))
   go_roundg k1
   case measure=>have:=HK1.out;omega
   case rel=>exact⟨(y112),(wrap64 (x6_1+1)),(by first|rfl|(simp;done)|(simp[*];done)),H',⟨by have:=HK1.out;omega⟩,⟨HO114.out⟩,⟨BK101.out⟩,⟨HB.out⟩⟩
end Go.Proofs.Ytkcpanpdipmmmaa.P
namespace Go.Proofs.Ytkcpanpdipmmmaa.P
open Go.RowKit Go.Proofs.YtkcpanpdipmmmaaW.PrintWords Go.Proofs.YtkcpanpdipmmmaaW.PrintLast Go.Proofs.YtkcpanpdipmmmaaW.PrintMore
attribute [local go_sem] max2_int min2_int max_two min_two max_three min_three max_four min_four
def ebbtideref07_Within.l0:Nat→List Int→Int→Int→Bool→List (S74)→Option (Bool)
 |0,_,_,_,_,_=>none
 |k+1,x1,x5,x160000,x160001,x160002=>if x5<(x1.length:Int) then(if 0≤x5 then(if (rd x1 x5)<0 then(some false) else(if x5<(x160002.length:Int) then(if (rd x1 x5)>((rd_T74 x160002 x5).f2) then(some false) else(ebbtideref07_Within.l0 k x1 (wrap64 (x5+1)) x160000 x160001 x160002)) else(none))) else(none)) else(some true)
def ebbtideref07_Within.f (k:Nat) (a0_0:Int) (a0_1:Bool) (l0_2:List (S74)) (l1:List Int):Option (Bool):=if (l1.length:Int)=(l0_2.length:Int) then(ebbtideref07_Within.l0 k l1 0 a0_0 a0_1 l0_2) else(some false)
set_option maxHeartbeats 8000000 in
set_option maxRecDepth 100000 in
theorem ebbtideref07_Within.calls (k:Nat) (a0_0:Int) (a0_1:Bool) (A0_2:Option Addr) (c0_2:Nat) (l0_2:List (S74)) (A1:Option Addr) (c1:Nat) (l1:List Int) (r:Bool) (w:World) (hr0_2:Kd.C k74 w A0_2 l0_2.length l0_2) (hc0_2:l0_2.length≤c0_2) (hr1:Kd.C (Kd.int .i64) w A1 l1.length l1) (hc1:l1.length≤c1) (h:ebbtideref07_Within.f k a0_0 a0_1 l0_2 l1=some r):
  Calls Try.prog 102 #[.agg #[.int .i64 a0_0, .bool a0_1, .slice A0_2 l0_2.length c0_2], .slice A1 l1.length c1] w fun e w'=>e= .returned (.bool r)∧Below w.heap.size w w':=by
 have hu24:=Try.underlying24
 have HR0_2:=Aside0.mk hr0_2
 have HC0_2:=Aside0.mk hc0_2
 clear hr0_2 hc0_2
 have HR1:=Aside0.mk hr1
 have HC1:=Aside0.mk hc1
 clear hr1 hc1
 have HB:=Aside0.mk (Below.refl w.heap.size w)
 have H:(if (l1.length:Int)=(l0_2.length:Int) then(ebbtideref07_Within.l0 k l1 0 a0_0 a0_1 l0_2) else(some false))=some r:=h
 clear h
 by_cases c3:(l1.length:Int)=(l0_2.length:Int)
 rotate_left
 ·rw[if_neg c3] at H
  have c3b0:((l1.length:Int) == (l0_2.length:Int))=false:=beq_eq_false_iff_ne.mpr c3
  have c3b1:((l1.length:Int) != (l0_2.length:Int))=true:=bne_iff_ne.mpr c3
  have c3b2:(l1.length == l0_2.length)=false:=by first|simpa using c3|(simp at c3 ⊢;omega)
  obtain rfl:=Option.some.inj H
  go_enter Try.func102,Try.ntmps102
  go_wp2_with (first|((with_reducible refine gate_dst (N:=2) rfl ?_);refine box_event ?hg (N:=2) ?hd (cs:= #[.int .i64 a0_0, .bool a0_1, .slice A0_2 l0_2.length c0_2]) (t:=24) ?hr ?_;(case hd=>rfl);(case hg=>rfl);(case hr=>first|(go_simp;done)|(go_simp;rfl));intro gb159 hg w13 hbox hb;have n0_:=Aside0.mk (below_step (by repeat(first|(with_reducible first|exact HB.out|apply below_alloc|apply pw_below_drewN|apply below_drew1)|exact HB.out)) hb);have n1_:=Aside0.mk (hbox);have n2_:=Aside0.mk ((by rw[hg];exact(below_size (by repeat(first|(with_reducible first|exact HB.out|apply below_alloc|apply pw_below_drewN|apply below_drew1)|exact HB.out))):w.heap.size≤gb159));have n3_:=Aside0.mk ((by rw[hg];exact(below_size (by repeat(first|(with_reducible first|exact HB.out|apply below_alloc|apply pw_below_drewN|apply below_drew1)|exact HB.out))):w.heap.size≤gb159));clear HB;have HB:=n0_;have BK159:=n1_;have GW159:=n2_;have GE159:=n3_;clear n0_ n1_ n2_ n3_;clear hb hbox hg;have hcz14_0:w13.cell? ⟨gb159,0,none⟩=some (.int .i64 a0_0):=(blk_cell BK159.out 0).trans rfl;have hcz14_1:w13.cell? ⟨gb159,1,none⟩=some (.bool a0_1):=(blk_cell BK159.out 1).trans rfl;have hcz14_2:w13.cell? ⟨gb159,2,none⟩=some (.slice A0_2 l0_2.length c0_2):=(blk_cell BK159.out 2).trans rfl;have hfz14_0:=blk_frozen BK159.out 0;have hfz14_1:=blk_frozen BK159.out 1;have hfz14_2:=blk_frozen BK159.out 2))
  repeat(go_quiet (first|((with_reducible refine gate_dst (N:=2) rfl ?_);refine box_event ?hg (N:=2) ?hd (cs:= #[.int .i64 a0_0, .bool a0_1, .slice A0_2 l0_2.length c0_2]) (t:=24) ?hr ?_;(case hd=>rfl);(case hg=>rfl);(case hr=>first|(go_simp;done)|(go_simp;rfl));intro gb159 hg w13 hbox hb;have n0_:=Aside0.mk (below_step (by repeat(first|(with_reducible first|exact HB.out|apply below_alloc|apply pw_below_drewN|apply below_drew1)|exact HB.out)) hb);have n1_:=Aside0.mk (hbox);have n2_:=Aside0.mk ((by rw[hg];exact(below_size (by repeat(first|(with_reducible first|exact HB.out|apply below_alloc|apply pw_below_drewN|apply below_drew1)|exact HB.out))):w.heap.size≤gb159));have n3_:=Aside0.mk ((by rw[hg];exact(below_size (by repeat(first|(with_reducible first|exact HB.out|apply below_alloc|apply pw_below_drewN|apply below_drew1)|exact HB.out))):w.heap.size≤gb159));clear HB;have HB:=n0_;have BK159:=n1_;have GW159:=n2_;have GE159:=n3_;clear n0_ n1_ n2_ n3_;clear hb hbox hg;have hcz14_0:w13.cell? ⟨gb159,0,none⟩=some (.int .i64 a0_0):=(blk_cell BK159.out 0).trans rfl;have hcz14_1:w13.cell? ⟨gb159,1,none⟩=some (.bool a0_1):=(blk_cell BK159.out 1).trans rfl;have hcz14_2:w13.cell? ⟨gb159,2,none⟩=some (.slice A0_2 l0_2.length c0_2):=(blk_cell BK159.out 2).trans rfl;have hfz14_0:=blk_frozen BK159.out 0;have hfz14_1:=blk_frozen BK159.out 1;have hfz14_2:=blk_frozen BK159.out 2));try go_wp2_with (first|((with_reducible refine gate_dst (N:=2) rfl ?_);refine box_event ?hg (N:=2) ?hd (cs:= #[.int .i64 a0_0, .bool a0_1, .slice A0_2 l0_2.length c0_2]) (t:=24) ?hr ?_;(case hd=>rfl);(case hg=>rfl);(case hr=>first|(go_simp;done)|(go_simp;rfl));intro gb159 hg w13 hbox hb;have n0_:=Aside0.mk (below_step (by repeat(first|(with_reducible first|exact HB.out|apply below_alloc|apply pw_below_drewN|apply below_drew1)|exact HB.out)) hb);have n1_:=Aside0.mk (hbox);have n2_:=Aside0.mk ((by rw[hg];exact(below_size (by repeat(first|(with_reducible first|exact HB.out|apply below_alloc|apply pw_below_drewN|apply below_drew1)|exact HB.out))):w.heap.size≤gb159));have n3_:=Aside0.mk ((by rw[hg];exact(below_size (by repeat(first|(with_reducible first|exact HB.out|apply below_alloc|apply pw_below_drewN|apply below_drew1)|exact HB.out))):w.heap.size≤gb159));clear HB;have HB:=n0_;have BK159:=n1_;have GW159:=n2_;have GE159:=n3_;clear n0_ n1_ n2_ n3_;clear hb hbox hg;have hcz14_0:w13.cell? ⟨gb159,0,none⟩=some (.int .i64 a0_0):=(blk_cell BK159.out 0).trans rfl;have hcz14_1:w13.cell? ⟨gb159,1,none⟩=some (.bool a0_1):=(blk_cell BK159.out 1).trans rfl;have hcz14_2:w13.cell? ⟨gb159,2,none⟩=some (.slice A0_2 l0_2.length c0_2):=(blk_cell BK159.out 2).trans rfl;have hfz14_0:=blk_frozen BK159.out 0;have hfz14_1:=blk_frozen BK159.out 1;have hfz14_2:=blk_frozen BK159.out 2)))
  go_ret
  exact⟨by first|rfl|(simp[errW_none,errW_some]<;>rfl)|(simp[*,errW_none,errW_some]<;>rfl),by repeat(first|(with_reducible first|exact HB.out|apply below_alloc|apply pw_below_drewN|apply below_drew1|refine below_set ?_ GE159.out)|exact HB.out)⟩
 rw[if_pos c3] at H
 have c3b0:((l1.length:Int) == (l0_2.length:Int))=true:=beq_iff_eq.mpr c3
 have c3b1:((l1.length:Int) != (l0_2.length:Int))=false:=bne_eq_false_iff_eq.mpr c3
 have c3b2:(l1.length == l0_2.length)=true:=by first|simpa using c3|(simp at c3 ⊢;omega)
 clear c3
 have H':=Aside0.mk H
 clear H
 go_enter Try.func102,Try.ntmps102
 go_wp2_with (first|((with_reducible refine gate_dst (N:=2) rfl ?_);refine box_event ?hg (N:=2) ?hd (cs:= #[.int .i64 a0_0, .bool a0_1, .slice A0_2 l0_2.length c0_2]) (t:=24) ?hr ?_;(case hd=>rfl);(case hg=>rfl);(case hr=>first|(go_simp;done)|(go_simp;rfl));intro gb159 hg w4 hbox hb;have n0_:=Aside0.mk (below_step (by repeat(first|(with_reducible first|exact HB.out|apply below_alloc|apply pw_below_drewN|apply below_drew1)|exact HB.out)) hb);have n1_:=Aside0.mk (hbox);have n2_:=Aside0.mk ((by rw[hg];exact(below_size (by repeat(first|(with_reducible first|exact HB.out|apply below_alloc|apply pw_below_drewN|apply below_drew1)|exact HB.out))):w.heap.size≤gb159));have n3_:=Aside0.mk ((by rw[hg];exact(below_size (by repeat(first|(with_reducible first|exact HB.out|apply below_alloc|apply pw_below_drewN|apply below_drew1)|exact HB.out))):w.heap.size≤gb159));clear HB;have HB:=n0_;have BK159:=n1_;have GW159:=n2_;have GE159:=n3_;clear n0_ n1_ n2_ n3_;clear hb hbox hg;have hcz5_0:w4.cell? ⟨gb159,0,none⟩=some (.int .i64 a0_0):=(blk_cell BK159.out 0).trans rfl;have hcz5_1:w4.cell? ⟨gb159,1,none⟩=some (.bool a0_1):=(blk_cell BK159.out 1).trans rfl;have hcz5_2:w4.cell? ⟨gb159,2,none⟩=some (.slice A0_2 l0_2.length c0_2):=(blk_cell BK159.out 2).trans rfl;have hfz5_0:=blk_frozen BK159.out 0;have hfz5_1:=blk_frozen BK159.out 1;have hfz5_2:=blk_frozen BK159.out 2))
 repeat(go_quiet (first|((with_reducible refine gate_dst (N:=2) rfl ?_);refine box_event ?hg (N:=2) ?hd (cs:= #[.int .i64 a0_0, .bool a0_1, .slice A0_2 l0_2.length c0_2]) (t:=24) ?hr ?_;(case hd=>rfl);(case hg=>rfl);(case hr=>first|(go_simp;done)|(go_simp;rfl));intro gb159 hg w4 hbox hb;have n0_:=Aside0.mk (below_step (by repeat(first|(with_reducible first|exact HB.out|apply below_alloc|apply pw_below_drewN|apply below_drew1)|exact HB.out)) hb);have n1_:=Aside0.mk (hbox);have n2_:=Aside0.mk ((by rw[hg];exact(below_size (by repeat(first|(with_reducible first|exact HB.out|apply below_alloc|apply pw_below_drewN|apply below_drew1)|exact HB.out))):w.heap.size≤gb159));have n3_:=Aside0.mk ((by rw[hg];exact(below_size (by repeat(first|(with_reducible first|exact HB.out|apply below_alloc|apply pw_below_drewN|apply below_drew1)|exact HB.out))):w.heap.size≤gb159));clear HB;have HB:=n0_;have BK159:=n1_;have GW159:=n2_;have GE159:=n3_;clear n0_ n1_ n2_ n3_;clear hb hbox hg;have hcz5_0:w4.cell? ⟨gb159,0,none⟩=some (.int .i64 a0_0):=(blk_cell BK159.out 0).trans rfl;have hcz5_1:w4.cell? ⟨gb159,1,none⟩=some (.bool a0_1):=(blk_cell BK159.out 1).trans rfl;have hcz5_2:w4.cell? ⟨gb159,2,none⟩=some (.slice A0_2 l0_2.length c0_2):=(blk_cell BK159.out 2).trans rfl;have hfz5_0:=blk_frozen BK159.out 0;have hfz5_1:=blk_frozen BK159.out 1;have hfz5_2:=blk_frozen BK159.out 2));try go_wp2_with (first|((with_reducible refine gate_dst (N:=2) rfl ?_);refine box_event ?hg (N:=2) ?hd (cs:= #[.int .i64 a0_0, .bool a0_1, .slice A0_2 l0_2.length c0_2]) (t:=24) ?hr ?_;(case hd=>rfl);(case hg=>rfl);(case hr=>first|(go_simp;done)|(go_simp;rfl));intro gb159 hg w4 hbox hb;have n0_:=Aside0.mk (below_step (by repeat(first|(with_reducible first|exact HB.out|apply below_alloc|apply pw_below_drewN|apply below_drew1)|exact HB.out)) hb);have n1_:=Aside0.mk (hbox);have n2_:=Aside0.mk ((by rw[hg];exact(below_size (by repeat(first|(with_reducible first|exact HB.out|apply below_alloc|apply pw_below_drewN|apply below_drew1)|exact HB.out))):w.heap.size≤gb159));have n3_:=Aside0.mk ((by rw[hg];exact(below_size (by repeat(first|(with_reducible first|exact HB.out|apply below_alloc|apply pw_below_drewN|apply below_drew1)|exact HB.out))):w.heap.size≤gb159));clear HB;have HB:=n0_;have BK159:=n1_;have GW159:=n2_;have GE159:=n3_;clear n0_ n1_ n2_ n3_;clear hb hbox hg;have hcz5_0:w4.cell? ⟨gb159,0,none⟩=some (.int .i64 a0_0):=(blk_cell BK159.out 0).trans rfl;have hcz5_1:w4.cell? ⟨gb159,1,none⟩=some (.bool a0_1):=(blk_cell BK159.out 1).trans rfl;have hcz5_2:w4.cell? ⟨gb159,2,none⟩=some (.slice A0_2 l0_2.length c0_2):=(blk_cell BK159.out 2).trans rfl;have hfz5_0:=blk_frozen BK159.out 0;have hfz5_1:=blk_frozen BK159.out 1;have hfz5_2:=blk_frozen BK159.out 2)))
 go_loopg [5] k (fun kq v5 w'=> ∃ (x5_1:Int),v5= .int .i64 x5_1∧Aside0 (ebbtideref07_Within.l0 kq l1 x5_1 a0_0 a0_1 l0_2=some r)∧Aside0 (kq≤k)∧Aside0 (w'.heap[gb159]? =some (.cells #[.int .i64 a0_0, .bool a0_1,(.slice A0_2 l0_2.length c0_2)] 24 (0,0)))∧Aside0 (Below w.heap.size w w'))
 case atStart=>exact⟨(0),(by first|rfl|(simp;done)|(simp[*];done)),H',⟨Nat.le_refl _⟩,⟨by(with_reducible repeat(first|refine blk_drewN ?_ _|refine blk_drew ?_|refine blk_alloc ?_ _));exact BK159.out⟩,⟨by repeat(first|(with_reducible first|exact HB.out|apply below_alloc|apply pw_below_drewN|apply below_drew1|refine below_set ?_ GE159.out)|exact HB.out)⟩⟩
 case round=>
  clear H'
  try clear c1
  try clear p2
  try clear c3
  try clear c3b0
  try clear c3b1
  try clear c3b2
  try clear hcz5_0
  try clear hcz5_1
  try clear hcz5_2
  try clear hfz5_0
  try clear hfz5_1
  try clear hfz5_2
  obtain⟨x5_1,rfl,HA,HK1,BK159,HB⟩:=hrel
  cases gk with
  |zero=>exact absurd HA.out (by simp[ebbtideref07_Within.l0])
  |succ k1=>
   have H:=HA.out
   clear HA
   simp only[ebbtideref07_Within.l0] at H
   by_cases c6:x5_1<(l1.length:Int)
   rotate_left
   ·rw[if_neg c6] at H
    have c6b0:decide (x5_1<(l1.length:Int))=false:=decide_eq_false c6
    clear c6
    obtain rfl:=Option.some.inj H
    go_wp2
    repeat(go_quiet (fail);try go_wp2)
    go_ret
    exact⟨by first|rfl|(simp[errW_none,errW_some]<;>rfl)|(simp[*,errW_none,errW_some]<;>rfl),by repeat(first|(with_reducible first|exact HB.out|apply below_alloc|apply pw_below_drewN|apply below_drew1|refine below_set ?_ GE159.out)|exact HB.out)⟩
   rw[if_pos c6] at H
   have c6b0:decide (x5_1<(l1.length:Int))=true:=decide_eq_true c6
   clear c6
   by_cases c7:0≤x5_1
   rotate_left
   ·rw[if_neg c7] at H
    exact absurd H (by simp)
   rw[if_pos c7] at H
   have c7b0:decide (0≤x5_1)=true:=decide_eq_true c7
   clear c7
   by_cases c8:(rd l1 x5_1)<0
   ·rw[if_pos c8] at H
    have c8b0:decide ((rd l1 x5_1)<0)=true:=decide_eq_true c8
    clear c8
    obtain rfl:=Option.some.inj H
    have p160:0≤(x5_1:Int):=of_decide_eq_true (by first|(with_reducible assumption)|assumption)
    have q160:x5_1<(l1.length:Int):=of_decide_eq_true (by first|(with_reducible assumption)|assumption)
    obtain⟨ad160,e160,hx160_0⟩:=Kd.at_int HR1.out x5_1 p160 q160
    cases e160
    replace hx160_0:=(HB.out.cell (World.block_lt_of_cell? w _ hx160_0)).trans hx160_0
    replace p160:=eq_true p160
    replace q160:=eq_true q160
    go_wp2
    repeat(go_quiet (fail);try go_wp2)
    go_ret
    exact⟨by first|rfl|(simp[errW_none,errW_some]<;>rfl)|(simp[*,errW_none,errW_some]<;>rfl),by repeat(first|(with_reducible first|exact HB.out|apply below_alloc|apply pw_below_drewN|apply below_drew1|refine below_set ?_ GE159.out)|exact HB.out)⟩
   rw[if_neg c8] at H
   have c8b0:decide ((rd l1 x5_1)<0)=false:=decide_eq_false c8
   clear c8
   by_cases c9:x5_1<(l0_2.length:Int)
   rotate_left
   ·rw[if_neg c9] at H
    exact absurd H (by simp)
   rw[if_pos c9] at H
   have c9b0:decide (x5_1<(l0_2.length:Int))=true:=decide_eq_true c9
   clear c9
   by_cases c10:(rd l1 x5_1)>((rd_T74 l0_2 x5_1).f2)
   ·rw[if_pos c10] at H
    have c10b0:decide (((rd_T74 l0_2 x5_1).f2)<(rd l1 x5_1))=true:=decide_eq_true c10
    clear c10
    obtain rfl:=Option.some.inj H
    have p160:0≤(x5_1:Int):=of_decide_eq_true (by first|(with_reducible assumption)|assumption)
    have q160:x5_1<(l1.length:Int):=of_decide_eq_true (by first|(with_reducible assumption)|assumption)
    obtain⟨ad160,e160,hx160_0⟩:=Kd.at_int HR1.out x5_1 p160 q160
    cases e160
    replace hx160_0:=(HB.out.cell (World.block_lt_of_cell? w _ hx160_0)).trans hx160_0
    replace p160:=eq_true p160
    replace q160:=eq_true q160
    have p161:0≤(x5_1:Int):=of_decide_eq_true (by first|(with_reducible assumption)|assumption)
    have q161:x5_1<(l1.length:Int):=of_decide_eq_true (by first|(with_reducible assumption)|assumption)
    obtain⟨ad161,e161,hx161_0⟩:=Kd.at_int HR1.out x5_1 p161 q161
    obtain rfl:ad160=ad161:=(by injection e161)
    replace hx161_0:=(HB.out.cell (World.block_lt_of_cell? w _ hx161_0)).trans hx161_0
    replace p161:=eq_true p161
    replace q161:=eq_true q161
    have hcz11_0:wr.cell? ⟨gb159,0,none⟩=some (.int .i64 a0_0):=(blk_cell BK159.out 0).trans rfl
    have hcz11_1:wr.cell? ⟨gb159,1,none⟩=some (.bool a0_1):=(blk_cell BK159.out 1).trans rfl
    have hcz11_2:wr.cell? ⟨gb159,2,none⟩=some (.slice A0_2 l0_2.length c0_2):=(blk_cell BK159.out 2).trans rfl
    have hfz11_0:=blk_frozen BK159.out 0
    have hfz11_1:=blk_frozen BK159.out 1
    have hfz11_2:=blk_frozen BK159.out 2
    have p162:0≤(x5_1:Int):=of_decide_eq_true (by first|(with_reducible assumption)|assumption)
    have q162:x5_1<(l0_2.length:Int):=of_decide_eq_true (by first|(with_reducible assumption)|assumption)
    obtain⟨ad162,e162,hx162_0,hx162_1,hx162_2,hx162_3⟩:=at_T74 HR0_2.out x5_1 p162 q162
    cases e162
    replace hx162_0:=(HB.out.cell (World.block_lt_of_cell? w _ hx162_0)).trans hx162_0
    replace hx162_1:=(HB.out.cell (World.block_lt_of_cell? w _ hx162_1)).trans hx162_1
    replace hx162_2:=(HB.out.cell (World.block_lt_of_cell? w _ hx162_2)).trans hx162_2
    replace hx162_3:=(HB.out.cell (World.block_lt_of_cell? w _ hx162_3)).trans hx162_3
    replace p162:=eq_true p162
    replace q162:=eq_true q162
    go_wp2
    repeat(go_quiet (fail);try go_wp2)
    go_ret
    exact⟨by first|rfl|(simp[errW_none,errW_some]<;>rfl)|(simp[*,errW_none,errW_some]<;>rfl),by repeat(first|(with_reducible first|exact HB.out|apply below_alloc|apply pw_below_drewN|apply below_drew1|refine below_set ?_ GE159.out)|exact HB.out)⟩
   rw[if_neg c10] at H
   have c10b0:decide (((rd_T74 l0_2 x5_1).f2)<(rd l1 x5_1))=false:=decide_eq_false c10
   clear c10
   have H':=Aside0.mk H
   clear H
   have p160:0≤(x5_1:Int):=of_decide_eq_true (by first|(with_reducible assumption)|assumption)
   have q160:x5_1<(l1.length:Int):=of_decide_eq_true (by first|(with_reducible assumption)|assumption)
   obtain⟨ad160,e160,hx160_0⟩:=Kd.at_int HR1.out x5_1 p160 q160
   cases e160
   replace hx160_0:=(HB.out.cell (World.block_lt_of_cell? w _ hx160_0)).trans hx160_0
   replace p160:=eq_true p160
   replace q160:=eq_true q160
   have p161:0≤(x5_1:Int):=of_decide_eq_true (by first|(with_reducible assumption)|assumption)
   have q161:x5_1<(l1.length:Int):=of_decide_eq_true (by first|(with_reducible assumption)|assumption)
   obtain⟨ad161,e161,hx161_0⟩:=Kd.at_int HR1.out x5_1 p161 q161
   obtain rfl:ad160=ad161:=(by injection e161)
   replace hx161_0:=(HB.out.cell (World.block_lt_of_cell? w _ hx161_0)).trans hx161_0
   replace p161:=eq_true p161
   replace q161:=eq_true q161
   have hcz12_0:wr.cell? ⟨gb159,0,none⟩=some (.int .i64 a0_0):=(blk_cell BK159.out 0).trans rfl
   have hcz12_1:wr.cell? ⟨gb159,1,none⟩=some (.bool a0_1):=(blk_cell BK159.out 1).trans rfl
   have hcz12_2:wr.cell? ⟨gb159,2,none⟩=some (.slice A0_2 l0_2.length c0_2):=(blk_cell BK159.out 2).trans rfl
   have hfz12_0:=blk_frozen BK159.out 0
   have hfz12_1:=blk_frozen BK159.out 1
   have hfz12_2:=blk_frozen BK159.out 2
   have p162:0≤(x5_1:Int):=of_decide_eq_true (by first|(with_reducible assumption)|assumption)
   have q162:x5_1<(l0_2.length:Int):=of_decide_eq_true (by first|(with_reducible assumption)|assumption)
   obtain⟨ad162,e162,hx162_0,hx162_1,hx162_2,hx162_3⟩:=at_T74 HR0_2.out x5_1 p162 q162
   cases e162
   replace hx162_0:=(HB.out.cell (World.block_lt_of_cell? w _ hx162_0)).trans hx162_0
   replace hx162_1:=(HB.out.cell (World.block_lt_of_cell? w _ hx162_1)).trans hx162_1
   replace hx162_2:=(HB.out.cell (World.block_lt_of_cell? w _ hx162_2)).trans hx162_2
   replace hx162_3:=(HB.out.cell (World.block_lt_of_cell? w _ hx162_3)).trans hx162_3
   replace p162:=eq_true p162
   replace q162:=eq_true q162
   go_wp2
   repeat(go_quiet (fail);try go_wp2)
   go_roundg k1
   case measure=>have:=HK1.out;omega
   case rel=>exact⟨(wrap64 (x5_1+1)),(by first|rfl|(simp;done)|(simp[*];done)),H',⟨by have:=HK1.out;omega⟩,⟨by(with_reducible repeat(first|refine blk_drewN ?_ _|refine blk_drew ?_|refine blk_alloc ?_ _));exact BK159.out⟩,⟨by repeat(first|(with_reducible first|exact HB.out|apply below_alloc|apply pw_below_drewN|apply below_drew1|refine below_set ?_ GE159.out)|exact HB.out)⟩⟩
end Go.Proofs.Ytkcpanpdipmmmaa.P
namespace Go.Proofs.Ytkcpanpdipmmmaa.P
open Go.RowKit Go.Proofs.YtkcpanpdipmmmaaW.PrintWords Go.Proofs.YtkcpanpdipmmmaaW.PrintLast Go.Proofs.YtkcpanpdipmmmaaW.PrintMore
attribute [local go_sem] max2_int min2_int max_two min_two max_three min_three max_four min_four
def ebbtideref07_Asked.f (k:Nat) (a0_0:Int) (a0_1:Bool) (l0_2:List (S74)) (l1:List Int):Option (Int):=(ebbtideref05_Check.f k a0_0 a0_1 l0_2).bind fun t164=>(if t164=0 then((ebbtideref07_Within.f k a0_0 a0_1 l0_2 l1).bind fun t165=>(if t165=true then(some 0) else(some 71))) else(some t164))
set_option maxHeartbeats 8000000 in
set_option maxRecDepth 100000 in
theorem ebbtideref07_Asked.calls (k:Nat) (a0_0:Int) (a0_1:Bool) (A0_2:Option Addr) (c0_2:Nat) (l0_2:List (S74)) (A1:Option Addr) (c1:Nat) (l1:List Int) (r:Int) (w:World) (hr0_2:Kd.C k74 w A0_2 l0_2.length l0_2) (hc0_2:l0_2.length≤c0_2) (hr1:Kd.C (Kd.int .i64) w A1 l1.length l1) (hc1:l1.length≤c1) (h:ebbtideref07_Asked.f k a0_0 a0_1 l0_2 l1=some r):
  Calls Try.prog 98 #[.agg #[.int .i64 a0_0, .bool a0_1, .slice A0_2 l0_2.length c0_2], .slice A1 l1.length c1] w fun e w'=>e= .returned (.int .i64 r)∧Below w.heap.size w w':=by
 have hu24:=Try.underlying24
 have HR0_2:=Aside0.mk hr0_2
 have HC0_2:=Aside0.mk hc0_2
 clear hr0_2 hc0_2
 have HR1:=Aside0.mk hr1
 have HC1:=Aside0.mk hc1
 clear hr1 hc1
 have HB:=Aside0.mk (Below.refl w.heap.size w)
 have H:((ebbtideref05_Check.f k a0_0 a0_1 l0_2).bind fun t164=>(if t164=0 then((ebbtideref07_Within.f k a0_0 a0_1 l0_2 l1).bind fun t165=>(if t165=true then(some 0) else(some 71))) else(some t164)))=some r:=h
 clear h
 replace H:=Option.bind_eq_some_iff.mp H
 obtain⟨t164,A30,H⟩:=H
 replace H:(if t164=0 then((ebbtideref07_Within.f k a0_0 a0_1 l0_2 l1).bind fun t165=>(if t165=true then(some 0) else(some 71))) else(some t164))=some r:=H
 have A3:=Aside0.mk A30
 clear A30
 by_cases c4:t164=0
 rotate_left
 ·rw[if_neg c4] at H
  have c4b0:(t164 == 0)=false:=beq_eq_false_iff_ne.mpr c4
  have c4b1:(t164 != 0)=true:=bne_iff_ne.mpr c4
  obtain rfl:=Option.some.inj H
  go_enter Try.func98,Try.ntmps98
  go_wp2_with (first|((with_reducible refine gate_dst (N:=2) rfl ?_);refine box_event ?hg (N:=2) ?hd (cs:= #[.int .i64 a0_0, .bool a0_1, .slice A0_2 l0_2.length c0_2]) (t:=24) ?hr ?_;(case hd=>rfl);(case hg=>rfl);(case hr=>first|(go_simp;done)|(go_simp;rfl));intro gb163 hg w17 hbox hb;have n0_:=Aside0.mk (below_step (by repeat(first|(with_reducible first|exact HB.out|apply below_alloc|apply pw_below_drewN|apply below_drew1)|exact HB.out)) hb);have n1_:=Aside0.mk (hbox);have n2_:=Aside0.mk ((by rw[hg];exact(below_size (by repeat(first|(with_reducible first|exact HB.out|apply below_alloc|apply pw_below_drewN|apply below_drew1)|exact HB.out))):w.heap.size≤gb163));have n3_:=Aside0.mk ((by rw[hg];exact(below_size (by repeat(first|(with_reducible first|exact HB.out|apply below_alloc|apply pw_below_drewN|apply below_drew1)|exact HB.out))):w.heap.size≤gb163));clear HB;have HB:=n0_;have BK163:=n1_;have GW163:=n2_;have GE163:=n3_;clear n0_ n1_ n2_ n3_;clear hb hbox hg;have hcz18_0:w17.cell? ⟨gb163,0,none⟩=some (.int .i64 a0_0):=(blk_cell BK163.out 0).trans rfl;have hcz18_1:w17.cell? ⟨gb163,1,none⟩=some (.bool a0_1):=(blk_cell BK163.out 1).trans rfl;have hcz18_2:w17.cell? ⟨gb163,2,none⟩=some (.slice A0_2 l0_2.length c0_2):=(blk_cell BK163.out 2).trans rfl;have hfz18_0:=blk_frozen BK163.out 0;have hfz18_1:=blk_frozen BK163.out 1;have hfz18_2:=blk_frozen BK163.out 2)|((with_reducible refine gate_callee (f:=78) rfl ?_);refine goesL_ (some 7) rfl rfl Try.func78 (by kernel_rfl) rfl #[.agg #[.int .i64 a0_0, .bool a0_1, .slice A0_2 l0_2.length c0_2]] rfl (by(try simp only[List.map_toArray,List.map_cons,List.map_nil]);first|done|rfl|(simp only[List.length_drop,List.length_take];rfl)) ?_;(with_reducible refine(ebbtideref05_Check.calls k a0_0 a0_1 _ _ l0_2 t164 _ ?side1 ?side2 A3.out).mono ?_);(case side1=>repeat(first|exact(Kd.C_below HR0_2.out HB.out)|(with_reducible refine Kd.C_alloc ?_ _)|(with_reducible refine Kd.C_drewN ?_ _)|(with_reducible refine Kd.C_drew ?_)));(case side2=>exact HC0_2.out);rintro e w19 ⟨rfl,hb⟩;refine⟨_,rfl,?_⟩;have n0_:=Aside0.mk (blk_below (g:=gb163) (o:= .cells #[.int .i64 a0_0, .bool a0_1, .slice A0_2 l0_2.length c0_2] 24 (0,0)) (by(with_reducible repeat(first|refine blk_drewN ?_ _|refine blk_drew ?_|refine blk_alloc ?_ _));exact BK163.out) hb);have n1_:=Aside0.mk (below_step (by repeat(first|(with_reducible first|exact HB.out|apply below_alloc|apply pw_below_drewN|apply below_drew1|refine below_set ?_ GE163.out)|exact HB.out)) hb);clear BK163;clear HB;have BK163:=n0_;have HB:=n1_;clear n0_ n1_;(try clear hb);(try clear hb2);(try clear hk);(try clear hi)))
  go_ret
  exact⟨by first|rfl|(simp[errW_none,errW_some]<;>rfl)|(simp[*,errW_none,errW_some]<;>rfl),by repeat(first|(with_reducible first|exact HB.out|apply below_alloc|apply pw_below_drewN|apply below_drew1|refine below_set ?_ GE163.out)|exact HB.out)⟩
 rw[if_pos c4] at H
 have c4b0:(t164 == 0)=true:=beq_iff_eq.mpr c4
 have c4b1:(t164 != 0)=false:=bne_eq_false_iff_eq.mpr c4
 clear c4
 replace H:=Option.bind_eq_some_iff.mp H
 obtain⟨t165,A50,H⟩:=H
 replace H:(if t165=true then(some 0) else(some 71))=some r:=H
 have A5:=Aside0.mk A50
 clear A50
 by_cases c6:t165=true
 ·subst c6
  have H1:(some 0)=some r:=by first|(rw[if_pos rfl] at H;exact H)|(rw[if_pos trivial] at H;exact H)
  clear H
  have H:=H1
  clear H1
  obtain rfl:=Option.some.inj H
  go_enter Try.func98,Try.ntmps98
  go_wp2_with (first|((with_reducible refine gate_dst (N:=2) rfl ?_);refine box_event ?hg (N:=2) ?hd (cs:= #[.int .i64 a0_0, .bool a0_1, .slice A0_2 l0_2.length c0_2]) (t:=24) ?hr ?_;(case hd=>rfl);(case hg=>rfl);(case hr=>first|(go_simp;done)|(go_simp;rfl));intro gb163 hg w7 hbox hb;have n0_:=Aside0.mk (below_step (by repeat(first|(with_reducible first|exact HB.out|apply below_alloc|apply pw_below_drewN|apply below_drew1)|exact HB.out)) hb);have n1_:=Aside0.mk (hbox);have n2_:=Aside0.mk ((by rw[hg];exact(below_size (by repeat(first|(with_reducible first|exact HB.out|apply below_alloc|apply pw_below_drewN|apply below_drew1)|exact HB.out))):w.heap.size≤gb163));have n3_:=Aside0.mk ((by rw[hg];exact(below_size (by repeat(first|(with_reducible first|exact HB.out|apply below_alloc|apply pw_below_drewN|apply below_drew1)|exact HB.out))):w.heap.size≤gb163));clear HB;have HB:=n0_;have BK163:=n1_;have GW163:=n2_;have GE163:=n3_;clear n0_ n1_ n2_ n3_;clear hb hbox hg;have hcz8_0:w7.cell? ⟨gb163,0,none⟩=some (.int .i64 a0_0):=(blk_cell BK163.out 0).trans rfl;have hcz8_1:w7.cell? ⟨gb163,1,none⟩=some (.bool a0_1):=(blk_cell BK163.out 1).trans rfl;have hcz8_2:w7.cell? ⟨gb163,2,none⟩=some (.slice A0_2 l0_2.length c0_2):=(blk_cell BK163.out 2).trans rfl;have hfz8_0:=blk_frozen BK163.out 0;have hfz8_1:=blk_frozen BK163.out 1;have hfz8_2:=blk_frozen BK163.out 2)|((with_reducible refine gate_callee (f:=78) rfl ?_);refine goesL_ (some 7) rfl rfl Try.func78 (by kernel_rfl) rfl #[.agg #[.int .i64 a0_0, .bool a0_1, .slice A0_2 l0_2.length c0_2]] rfl (by(try simp only[List.map_toArray,List.map_cons,List.map_nil]);first|done|rfl|(simp only[List.length_drop,List.length_take];rfl)) ?_;(with_reducible refine(ebbtideref05_Check.calls k a0_0 a0_1 _ _ l0_2 t164 _ ?side1 ?side2 A3.out).mono ?_);(case side1=>repeat(first|exact(Kd.C_below HR0_2.out HB.out)|(with_reducible refine Kd.C_alloc ?_ _)|(with_reducible refine Kd.C_drewN ?_ _)|(with_reducible refine Kd.C_drew ?_)));(case side2=>exact HC0_2.out);rintro e w9 ⟨rfl,hb⟩;refine⟨_,rfl,?_⟩;have n0_:=Aside0.mk (blk_below (g:=gb163) (o:= .cells #[.int .i64 a0_0, .bool a0_1, .slice A0_2 l0_2.length c0_2] 24 (0,0)) (by(with_reducible repeat(first|refine blk_drewN ?_ _|refine blk_drew ?_|refine blk_alloc ?_ _));exact BK163.out) hb);have n1_:=Aside0.mk (below_step (by repeat(first|(with_reducible first|exact HB.out|apply below_alloc|apply pw_below_drewN|apply below_drew1|refine below_set ?_ GE163.out)|exact HB.out)) hb);clear BK163;clear HB;have BK163:=n0_;have HB:=n1_;clear n0_ n1_;(try clear hb);(try clear hb2);(try clear hk);(try clear hi);have hcz10_0:w9.cell? ⟨gb163,0,none⟩=some (.int .i64 a0_0):=(blk_cell BK163.out 0).trans rfl;have hcz10_1:w9.cell? ⟨gb163,1,none⟩=some (.bool a0_1):=(blk_cell BK163.out 1).trans rfl;have hcz10_2:w9.cell? ⟨gb163,2,none⟩=some (.slice A0_2 l0_2.length c0_2):=(blk_cell BK163.out 2).trans rfl;have hfz10_0:=blk_frozen BK163.out 0;have hfz10_1:=blk_frozen BK163.out 1;have hfz10_2:=blk_frozen BK163.out 2)|((with_reducible refine gate_callee (f:=102) rfl ?_);refine goesL_ (some 13) rfl rfl Try.func102 (by kernel_rfl) rfl #[.agg #[.int .i64 a0_0, .bool a0_1, .slice A0_2 l0_2.length c0_2], .slice A1 l1.length c1] rfl (by(try simp only[List.map_toArray,List.map_cons,List.map_nil]);first|done|rfl|(simp only[List.length_drop,List.length_take];rfl)) ?_;(with_reducible refine(ebbtideref07_Within.calls k a0_0 a0_1 _ _ l0_2 _ _ l1 true _ ?side1 ?side2 ?side3 ?side4 A5.out).mono ?_);(case side1=>repeat(first|exact(Kd.C_below HR0_2.out HB.out)|(with_reducible refine Kd.C_alloc ?_ _)|(with_reducible refine Kd.C_drewN ?_ _)|(with_reducible refine Kd.C_drew ?_)));(case side2=>exact HC0_2.out);(case side3=>repeat(first|exact(Kd.C_below HR1.out HB.out)|(with_reducible refine Kd.C_alloc ?_ _)|(with_reducible refine Kd.C_drewN ?_ _)|(with_reducible refine Kd.C_drew ?_)));(case side4=>exact HC1.out);rintro e w11 ⟨rfl,hb⟩;refine⟨_,rfl,?_⟩;have n0_:=Aside0.mk (blk_below (g:=gb163) (o:= .cells #[.int .i64 a0_0, .bool a0_1, .slice A0_2 l0_2.length c0_2] 24 (0,0)) (by(with_reducible repeat(first|refine blk_drewN ?_ _|refine blk_drew ?_|refine blk_alloc ?_ _));exact BK163.out) hb);have n1_:=Aside0.mk (below_step (by repeat(first|(with_reducible first|exact HB.out|apply below_alloc|apply pw_below_drewN|apply below_drew1|refine below_set ?_ GE163.out)|exact HB.out)) hb);clear BK163;clear HB;have BK163:=n0_;have HB:=n1_;clear n0_ n1_;(try clear hb);(try clear hb2);(try clear hk);(try clear hi)))
  go_ret
  exact⟨by first|rfl|(simp[errW_none,errW_some]<;>rfl)|(simp[*,errW_none,errW_some]<;>rfl),by repeat(first|(with_reducible first|exact HB.out|apply below_alloc|apply pw_below_drewN|apply below_drew1|refine below_set ?_ GE163.out)|exact HB.out)⟩
 replace c6:=Bool.eq_false_iff.mpr c6
 subst c6
 have H1:(some 71)=some r:=by rw[if_neg (show ¬ (false=true) by decide)] at H;exact H
 clear H
 have H:=H1
 clear H1
 obtain rfl:=Option.some.inj H
 go_enter Try.func98,Try.ntmps98
 go_wp2_with (first|((with_reducible refine gate_dst (N:=2) rfl ?_);refine box_event ?hg (N:=2) ?hd (cs:= #[.int .i64 a0_0, .bool a0_1, .slice A0_2 l0_2.length c0_2]) (t:=24) ?hr ?_;(case hd=>rfl);(case hg=>rfl);(case hr=>first|(go_simp;done)|(go_simp;rfl));intro gb163 hg w12 hbox hb;have n0_:=Aside0.mk (below_step (by repeat(first|(with_reducible first|exact HB.out|apply below_alloc|apply pw_below_drewN|apply below_drew1)|exact HB.out)) hb);have n1_:=Aside0.mk (hbox);have n2_:=Aside0.mk ((by rw[hg];exact(below_size (by repeat(first|(with_reducible first|exact HB.out|apply below_alloc|apply pw_below_drewN|apply below_drew1)|exact HB.out))):w.heap.size≤gb163));have n3_:=Aside0.mk ((by rw[hg];exact(below_size (by repeat(first|(with_reducible first|exact HB.out|apply below_alloc|apply pw_below_drewN|apply below_drew1)|exact HB.out))):w.heap.size≤gb163));clear HB;have HB:=n0_;have BK163:=n1_;have GW163:=n2_;have GE163:=n3_;clear n0_ n1_ n2_ n3_;clear hb hbox hg;have hcz13_0:w12.cell? ⟨gb163,0,none⟩=some (.int .i64 a0_0):=(blk_cell BK163.out 0).trans rfl;have hcz13_1:w12.cell? ⟨gb163,1,none⟩=some (.bool a0_1):=(blk_cell BK163.out 1).trans rfl;have hcz13_2:w12.cell? ⟨gb163,2,none⟩=some (.slice A0_2 l0_2.length c0_2):=(blk_cell BK163.out 2).trans rfl;have hfz13_0:=blk_frozen BK163.out 0;have hfz13_1:=blk_frozen BK163.out 1;have hfz13_2:=blk_frozen BK163.out 2)|((with_reducible refine gate_callee (f:=78) rfl ?_);refine goesL_ (some 7) rfl rfl Try.func78 (by kernel_rfl) rfl #[.agg #[.int .i64 a0_0, .bool a0_1, .slice A0_2 l0_2.length c0_2]] rfl (by(try simp only[List.map_toArray,List.map_cons,List.map_nil]);first|done|rfl|(simp only[List.length_drop,List.length_take];rfl)) ?_;(with_reducible refine(ebbtideref05_Check.calls k a0_0 a0_1 _ _ l0_2 t164 _ ?side1 ?side2 A3.out).mono ?_);(case side1=>repeat(first|exact(Kd.C_below HR0_2.out HB.out)|(with_reducible refine Kd.C_alloc ?_ _)|(with_reducible refine Kd.C_drewN ?_ _)|(with_reducible refine Kd.C_drew ?_)));(case side2=>exact HC0_2.out);rintro e w14 ⟨rfl,hb⟩;refine⟨_,rfl,?_⟩;have n0_:=Aside0.mk (blk_below (g:=gb163) (o:= .cells #[.int .i64 a0_0, .bool a0_1, .slice A0_2 l0_2.length c0_2] 24 (0,0)) (by(with_reducible repeat(first|refine blk_drewN ?_ _|refine blk_drew ?_|refine blk_alloc ?_ _));exact BK163.out) hb);have n1_:=Aside0.mk (below_step (by repeat(first|(with_reducible first|exact HB.out|apply below_alloc|apply pw_below_drewN|apply below_drew1|refine below_set ?_ GE163.out)|exact HB.out)) hb);clear BK163;clear HB;have BK163:=n0_;have HB:=n1_;clear n0_ n1_;(try clear hb);(try clear hb2);(try clear hk);(try clear hi);have hcz15_0:w14.cell? ⟨gb163,0,none⟩=some (.int .i64 a0_0):=(blk_cell BK163.out 0).trans rfl;have hcz15_1:w14.cell? ⟨gb163,1,none⟩=some (.bool a0_1):=(blk_cell BK163.out 1).trans rfl;have hcz15_2:w14.cell? ⟨gb163,2,none⟩=some (.slice A0_2 l0_2.length c0_2):=(blk_cell BK163.out 2).trans rfl;have hfz15_0:=blk_frozen BK163.out 0;have hfz15_1:=blk_frozen BK163.out 1;have hfz15_2:=blk_frozen BK163.out 2)|((with_reducible refine gate_callee (f:=102) rfl ?_);refine goesL_ (some 13) rfl rfl Try.func102 (by kernel_rfl) rfl #[.agg #[.int .i64 a0_0, .bool a0_1, .slice A0_2 l0_2.length c0_2], .slice A1 l1.length c1] rfl (by(try simp only[List.map_toArray,List.map_cons,List.map_nil]);first|done|rfl|(simp only[List.length_drop,List.length_take];rfl)) ?_;(with_reducible refine(ebbtideref07_Within.calls k a0_0 a0_1 _ _ l0_2 _ _ l1 false _ ?side1 ?side2 ?side3 ?side4 A5.out).mono ?_);(case side1=>repeat(first|exact(Kd.C_below HR0_2.out HB.out)|(with_reducible refine Kd.C_alloc ?_ _)|(with_reducible refine Kd.C_drewN ?_ _)|(with_reducible refine Kd.C_drew ?_)));(case side2=>exact HC0_2.out);(case side3=>repeat(first|exact(Kd.C_below HR1.out HB.out)|(with_reducible refine Kd.C_alloc ?_ _)|(with_reducible refine Kd.C_drewN ?_ _)|(with_reducible refine Kd.C_drew ?_)));(case side4=>exact HC1.out);rintro e w16 ⟨rfl,hb⟩;refine⟨_,rfl,?_⟩;have n0_:=Aside0.mk (blk_below (g:=gb163) (o:= .cells #[.int .i64 a0_0, .bool a0_1, .slice A0_2 l0_2.length c0_2] 24 (0,0)) (by(with_reducible repeat(first|refine blk_drewN ?_ _|refine blk_drew ?_|refine blk_alloc ?_ _));exact BK163.out) hb);have n1_:=Aside0.mk (below_step (by repeat(first|(with_reducible first|exact HB.out|apply below_alloc|apply pw_below_drewN|apply below_drew1|refine below_set ?_ GE163.out)|exact HB.out)) hb);clear BK163;clear HB;have BK163:=n0_;have HB:=n1_;clear n0_ n1_;(try clear hb);(try clear hb2);(try clear hk);(try clear hi)))
 go_ret
 exact⟨by first|rfl|(simp[errW_none,errW_some]<;>rfl)|(simp[*,errW_none,errW_some]<;>rfl),by repeat(first|(with_reducible first|exact HB.out|apply below_alloc|apply pw_below_drewN|apply below_drew1|refine below_set ?_ GE163.out)|exact HB.out)⟩
end Go.Proofs.Ytkcpanpdipmmmaa.P
namespace Go.Proofs.Ytkcpanpdipmmmaa.P
open Go.RowKit Go.Proofs.YtkcpanpdipmmmaaW.PrintWords Go.Proofs.YtkcpanpdipmmmaaW.PrintLast Go.Proofs.YtkcpanpdipmmmaaW.PrintMore
attribute [local go_sem] max2_int min2_int max_two min_two max_three min_three max_four min_four
def ebbtideref07_From.f (a0_0:Int) (a0_1:Bool) (l0_2:List (S74)) (a1_0:Int) (a1_1:Bool):Option (Int):=if a1_1=true then(if 0≤a1_0 then(if a1_0<(l0_2.length:Int) then(some ((rd_T74 l0_2 a1_0).f1)) else(none)) else(none)) else(if 0≤a1_0 then(if a1_0<(l0_2.length:Int) then(some ((rd_T74 l0_2 a1_0).f0)) else(none)) else(none))
set_option maxHeartbeats 8000000 in
set_option maxRecDepth 100000 in
theorem ebbtideref07_From.calls (a0_0:Int) (a0_1:Bool) (A0_2:Option Addr) (c0_2:Nat) (l0_2:List (S74)) (a1_0:Int) (a1_1:Bool) (r:Int) (w:World) (hr0_2:Kd.C k74 w A0_2 l0_2.length l0_2) (hc0_2:l0_2.length≤c0_2) (h:ebbtideref07_From.f a0_0 a0_1 l0_2 a1_0 a1_1=some r):
  Calls Try.prog 44 #[.agg #[.int .i64 a0_0, .bool a0_1, .slice A0_2 l0_2.length c0_2], .agg #[.int .i64 a1_0, .bool a1_1]] w fun e w'=>e= .returned (.int .i64 r)∧Below w.heap.size w w':=by
 have hu24:=Try.underlying24
 have hu38:=Try.underlying38
 have HR0_2:=Aside0.mk hr0_2
 have HC0_2:=Aside0.mk hc0_2
 clear hr0_2 hc0_2
 have HB:=Aside0.mk (Below.refl w.heap.size w)
 have H:(if a1_1=true then(if 0≤a1_0 then(if a1_0<(l0_2.length:Int) then(some ((rd_T74 l0_2 a1_0).f1)) else(none)) else(none)) else(if 0≤a1_0 then(if a1_0<(l0_2.length:Int) then(some ((rd_T74 l0_2 a1_0).f0)) else(none)) else(none)))=some r:=h
 clear h
 by_cases c3:a1_1=true
 ·subst c3
  have H1:(if 0≤a1_0 then(if a1_0<(l0_2.length:Int) then(some ((rd_T74 l0_2 a1_0).f1)) else(none)) else(none))=some r:=by first|(rw[if_pos rfl] at H;exact H)|(rw[if_pos trivial] at H;exact H)
  clear H
  have H:=H1
  clear H1
  by_cases c4:0≤a1_0
  rotate_left
  ·rw[if_neg c4] at H
   exact absurd H (by simp)
  rw[if_pos c4] at H
  have c4b0:decide (0≤a1_0)=true:=decide_eq_true c4
  clear c4
  by_cases c5:a1_0<(l0_2.length:Int)
  rotate_left
  ·rw[if_neg c5] at H
   exact absurd H (by simp)
  rw[if_pos c5] at H
  have c5b0:decide (a1_0<(l0_2.length:Int))=true:=decide_eq_true c5
  clear c5
  obtain rfl:=Option.some.inj H
  go_enter Try.func44,Try.ntmps44
  go_wp2_with (first|((with_reducible refine gate_dst (N:=2) rfl ?_);refine box_event ?hg (N:=2) ?hd (cs:= #[.int .i64 a0_0, .bool a0_1, .slice A0_2 l0_2.length c0_2]) (t:=24) ?hr ?_;(case hd=>rfl);(case hg=>rfl);(case hr=>first|(go_simp;done)|(go_simp;rfl));intro gb115 hg w6 hbox hb;have n0_:=Aside0.mk (below_step (by repeat(first|(with_reducible first|exact HB.out|apply below_alloc|apply pw_below_drewN|apply below_drew1)|exact HB.out)) hb);have n1_:=Aside0.mk (hbox);have n2_:=Aside0.mk ((by rw[hg];exact(below_size (by repeat(first|(with_reducible first|exact HB.out|apply below_alloc|apply pw_below_drewN|apply below_drew1)|exact HB.out))):w.heap.size≤gb115));have n3_:=Aside0.mk ((by rw[hg];exact(below_size (by repeat(first|(with_reducible first|exact HB.out|apply below_alloc|apply pw_below_drewN|apply below_drew1)|exact HB.out))):w.heap.size≤gb115));clear HB;have HB:=n0_;have BK115:=n1_;have GW115:=n2_;have GE115:=n3_;clear n0_ n1_ n2_ n3_;clear hb hbox hg)|((with_reducible refine gate_dst (N:=3) rfl ?_);refine box_event ?hg (N:=3) ?hd (cs:= #[.int .i64 a1_0, .bool true]) (t:=38) ?hr ?_;(case hd=>rfl);(case hg=>rfl);(case hr=>first|(go_simp;done)|(go_simp;rfl));intro gb116 hg w7 hbox hb;have n0_:=Aside0.mk (blk_below (g:=gb115) (o:= .cells #[.int .i64 a0_0, .bool a0_1, .slice A0_2 l0_2.length c0_2] 24 (0,0)) (by(with_reducible repeat(first|refine blk_drewN ?_ _|refine blk_drew ?_|refine blk_alloc ?_ _));exact BK115.out) hb);have n1_:=Aside0.mk (below_step (by repeat(first|(with_reducible first|exact HB.out|apply below_alloc|apply pw_below_drewN|apply below_drew1|refine below_set ?_ GE115.out)|exact HB.out)) hb);have n2_:=Aside0.mk (hbox);have n3_:=Aside0.mk ((by rw[hg];exact(below_size (by repeat(first|(with_reducible first|exact HB.out|apply below_alloc|apply pw_below_drewN|apply below_drew1|refine below_set ?_ GE115.out)|exact HB.out))):w.heap.size≤gb116));have n4_:=Aside0.mk ((by rw[hg];exact(below_size (by repeat(first|(with_reducible first|exact HB.out|apply below_alloc|apply pw_below_drewN|apply below_drew1|refine below_set ?_ GE115.out)|exact HB.out))):w.heap.size≤gb116));have n5_:=Aside0.mk ((by rw[hg];exact Nat.ne_of_lt (blk_lt (g:=gb115) (o:= .cells #[.int .i64 a0_0, .bool a0_1, .slice A0_2 l0_2.length c0_2] 24 (0,0)) (by(with_reducible repeat(first|refine blk_drewN ?_ _|refine blk_drew ?_|refine blk_alloc ?_ _));exact BK115.out)):gb115≠gb116));have n6_:=Aside0.mk ((by rw[hg];exact Nat.ne_of_gt (blk_lt (g:=gb115) (o:= .cells #[.int .i64 a0_0, .bool a0_1, .slice A0_2 l0_2.length c0_2] 24 (0,0)) (by(with_reducible repeat(first|refine blk_drewN ?_ _|refine blk_drew ?_|refine blk_alloc ?_ _));exact BK115.out)):gb116≠gb115));clear BK115;clear HB;have BK115:=n0_;have HB:=n1_;have BK116:=n2_;have GW116:=n3_;have GE116:=n4_;have NB115_116:=n5_;have NB116_115:=n6_;clear n0_ n1_ n2_ n3_ n4_ n5_ n6_;clear hb hbox hg;have hnb8:=NB116_115.out;have hnc8:=NB115_116.out;have hcz9_0:w7.cell? ⟨gb116,0,none⟩=some (.int .i64 a1_0):=(blk_cell BK116.out 0).trans rfl;have hcz9_1:w7.cell? ⟨gb116,1,none⟩=some (.bool true):=(blk_cell BK116.out 1).trans rfl;have hfz9_0:=blk_frozen BK116.out 0;have hfz9_1:=blk_frozen BK116.out 1;have hcz10_0:w7.cell? ⟨gb115,0,none⟩=some (.int .i64 a0_0):=(blk_cell BK115.out 0).trans rfl;have hcz10_1:w7.cell? ⟨gb115,1,none⟩=some (.bool a0_1):=(blk_cell BK115.out 1).trans rfl;have hcz10_2:w7.cell? ⟨gb115,2,none⟩=some (.slice A0_2 l0_2.length c0_2):=(blk_cell BK115.out 2).trans rfl;have hfz10_0:=blk_frozen BK115.out 0;have hfz10_1:=blk_frozen BK115.out 1;have hfz10_2:=blk_frozen BK115.out 2;have p117:0≤(a1_0:Int):=of_decide_eq_true (by first|(with_reducible assumption)|assumption);have q117:a1_0<(l0_2.length:Int):=of_decide_eq_true (by first|(with_reducible assumption)|assumption);obtain⟨ad117,e117,hx117_0,hx117_1,hx117_2,hx117_3⟩:=at_T74 HR0_2.out a1_0 p117 q117;cases e117;replace hx117_0:=(HB.out.cell (World.block_lt_of_cell? w _ hx117_0)).trans hx117_0;replace hx117_1:=(HB.out.cell (World.block_lt_of_cell? w _ hx117_1)).trans hx117_1;replace hx117_2:=(HB.out.cell (World.block_lt_of_cell? w _ hx117_2)).trans hx117_2;replace hx117_3:=(HB.out.cell (World.block_lt_of_cell? w _ hx117_3)).trans hx117_3;replace p117:=eq_true p117;replace q117:=eq_true q117))
  go_ret
  exact⟨by first|rfl|(simp[errW_none,errW_some]<;>rfl)|(simp[*,errW_none,errW_some]<;>rfl),by repeat(first|(with_reducible first|exact HB.out|apply below_alloc|apply pw_below_drewN|apply below_drew1|refine below_set ?_ GE115.out|refine below_set ?_ GE116.out)|exact HB.out)⟩
 replace c3:=Bool.eq_false_iff.mpr c3
 subst c3
 have H1:(if 0≤a1_0 then(if a1_0<(l0_2.length:Int) then(some ((rd_T74 l0_2 a1_0).f0)) else(none)) else(none))=some r:=by rw[if_neg (show ¬ (false=true) by decide)] at H;exact H
 clear H
 have H:=H1
 clear H1
 by_cases c11:0≤a1_0
 rotate_left
 ·rw[if_neg c11] at H
  exact absurd H (by simp)
 rw[if_pos c11] at H
 have c11b0:decide (0≤a1_0)=true:=decide_eq_true c11
 clear c11
 by_cases c12:a1_0<(l0_2.length:Int)
 rotate_left
 ·rw[if_neg c12] at H
  exact absurd H (by simp)
 rw[if_pos c12] at H
 have c12b0:decide (a1_0<(l0_2.length:Int))=true:=decide_eq_true c12
 clear c12
 obtain rfl:=Option.some.inj H
 go_enter Try.func44,Try.ntmps44
 go_wp2_with (first|((with_reducible refine gate_dst (N:=2) rfl ?_);refine box_event ?hg (N:=2) ?hd (cs:= #[.int .i64 a0_0, .bool a0_1, .slice A0_2 l0_2.length c0_2]) (t:=24) ?hr ?_;(case hd=>rfl);(case hg=>rfl);(case hr=>first|(go_simp;done)|(go_simp;rfl));intro gb115 hg w13 hbox hb;have n0_:=Aside0.mk (below_step (by repeat(first|(with_reducible first|exact HB.out|apply below_alloc|apply pw_below_drewN|apply below_drew1)|exact HB.out)) hb);have n1_:=Aside0.mk (hbox);have n2_:=Aside0.mk ((by rw[hg];exact(below_size (by repeat(first|(with_reducible first|exact HB.out|apply below_alloc|apply pw_below_drewN|apply below_drew1)|exact HB.out))):w.heap.size≤gb115));have n3_:=Aside0.mk ((by rw[hg];exact(below_size (by repeat(first|(with_reducible first|exact HB.out|apply below_alloc|apply pw_below_drewN|apply below_drew1)|exact HB.out))):w.heap.size≤gb115));clear HB;have HB:=n0_;have BK115:=n1_;have GW115:=n2_;have GE115:=n3_;clear n0_ n1_ n2_ n3_;clear hb hbox hg)|((with_reducible refine gate_dst (N:=3) rfl ?_);refine box_event ?hg (N:=3) ?hd (cs:= #[.int .i64 a1_0, .bool false]) (t:=38) ?hr ?_;(case hd=>rfl);(case hg=>rfl);(case hr=>first|(go_simp;done)|(go_simp;rfl));intro gb116 hg w14 hbox hb;have n0_:=Aside0.mk (blk_below (g:=gb115) (o:= .cells #[.int .i64 a0_0, .bool a0_1, .slice A0_2 l0_2.length c0_2] 24 (0,0)) (by(with_reducible repeat(first|refine blk_drewN ?_ _|refine blk_drew ?_|refine blk_alloc ?_ _));exact BK115.out) hb);have n1_:=Aside0.mk (below_step (by repeat(first|(with_reducible first|exact HB.out|apply below_alloc|apply pw_below_drewN|apply below_drew1|refine below_set ?_ GE115.out)|exact HB.out)) hb);have n2_:=Aside0.mk (hbox);have n3_:=Aside0.mk ((by rw[hg];exact(below_size (by repeat(first|(with_reducible first|exact HB.out|apply below_alloc|apply pw_below_drewN|apply below_drew1|refine below_set ?_ GE115.out)|exact HB.out))):w.heap.size≤gb116));have n4_:=Aside0.mk ((by rw[hg];exact(below_size (by repeat(first|(with_reducible first|exact HB.out|apply below_alloc|apply pw_below_drewN|apply below_drew1|refine below_set ?_ GE115.out)|exact HB.out))):w.heap.size≤gb116));have n5_:=Aside0.mk ((by rw[hg];exact Nat.ne_of_lt (blk_lt (g:=gb115) (o:= .cells #[.int .i64 a0_0, .bool a0_1, .slice A0_2 l0_2.length c0_2] 24 (0,0)) (by(with_reducible repeat(first|refine blk_drewN ?_ _|refine blk_drew ?_|refine blk_alloc ?_ _));exact BK115.out)):gb115≠gb116));have n6_:=Aside0.mk ((by rw[hg];exact Nat.ne_of_gt (blk_lt (g:=gb115) (o:= .cells #[.int .i64 a0_0, .bool a0_1, .slice A0_2 l0_2.length c0_2] 24 (0,0)) (by(with_reducible repeat(first|refine blk_drewN ?_ _|refine blk_drew ?_|refine blk_alloc ?_ _));exact BK115.out)):gb116≠gb115));clear BK115;clear HB;have BK115:=n0_;have HB:=n1_;have BK116:=n2_;have GW116:=n3_;have GE116:=n4_;have NB115_116:=n5_;have NB116_115:=n6_;clear n0_ n1_ n2_ n3_ n4_ n5_ n6_;clear hb hbox hg;have hnb15:=NB116_115.out;have hnc15:=NB115_116.out;have hcz16_0:w14.cell? ⟨gb116,0,none⟩=some (.int .i64 a1_0):=(blk_cell BK116.out 0).trans rfl;have hcz16_1:w14.cell? ⟨gb116,1,none⟩=some (.bool false):=(blk_cell BK116.out 1).trans rfl;have hfz16_0:=blk_frozen BK116.out 0;have hfz16_1:=blk_frozen BK116.out 1;have hcz17_0:w14.cell? ⟨gb115,0,none⟩=some (.int .i64 a0_0):=(blk_cell BK115.out 0).trans rfl;have hcz17_1:w14.cell? ⟨gb115,1,none⟩=some (.bool a0_1):=(blk_cell BK115.out 1).trans rfl;have hcz17_2:w14.cell? ⟨gb115,2,none⟩=some (.slice A0_2 l0_2.length c0_2):=(blk_cell BK115.out 2).trans rfl;have hfz17_0:=blk_frozen BK115.out 0;have hfz17_1:=blk_frozen BK115.out 1;have hfz17_2:=blk_frozen BK115.out 2;have p118:0≤(a1_0:Int):=of_decide_eq_true (by first|(with_reducible assumption)|assumption);have q118:a1_0<(l0_2.length:Int):=of_decide_eq_true (by first|(with_reducible assumption)|assumption);obtain⟨ad118,e118,hx118_0,hx118_1,hx118_2,hx118_3⟩:=at_T74 HR0_2.out a1_0 p118 q118;cases e118;replace hx118_0:=(HB.out.cell (World.block_lt_of_cell? w _ hx118_0)).trans hx118_0;replace hx118_1:=(HB.out.cell (World.block_lt_of_cell? w _ hx118_1)).trans hx118_1;replace hx118_2:=(HB.out.cell (World.block_lt_of_cell? w _ hx118_2)).trans hx118_2;replace hx118_3:=(HB.out.cell (World.block_lt_of_cell? w _ hx118_3)).trans hx118_3;replace p118:=eq_true p118;replace q118:=eq_true q118))
 go_ret
 exact⟨by first|rfl|(simp[errW_none,errW_some]<;>rfl)|(simp[*,errW_none,errW_some]<;>rfl),by repeat(first|(with_reducible first|exact HB.out|apply below_alloc|apply pw_below_drewN|apply below_drew1|refine below_set ?_ GE115.out|refine below_set ?_ GE116.out)|exact HB.out)⟩
end Go.Proofs.Ytkcpanpdipmmmaa.P
namespace Go.Proofs.Ytkcpanpdipmmmaa.P
open Go.RowKit Go.Proofs.YtkcpanpdipmmmaaW.PrintWords Go.Proofs.YtkcpanpdipmmmaaW.PrintLast Go.Proofs.YtkcpanpdipmmmaaW.PrintMore
attribute [local go_sem] max2_int min2_int max_two min_two max_three min_three max_four min_four
def ebbtideref07_To.f (a0_0:Int) (a0_1:Bool) (l0_2:List (S74)) (a1_0:Int) (a1_1:Bool):Option (Int):=if a1_1=true then(if 0≤a1_0 then(if a1_0<(l0_2.length:Int) then(some ((rd_T74 l0_2 a1_0).f0)) else(none)) else(none)) else(if 0≤a1_0 then(if a1_0<(l0_2.length:Int) then(some ((rd_T74 l0_2 a1_0).f1)) else(none)) else(none))
set_option maxHeartbeats 8000000 in
set_option maxRecDepth 100000 in
theorem ebbtideref07_To.calls (a0_0:Int) (a0_1:Bool) (A0_2:Option Addr) (c0_2:Nat) (l0_2:List (S74)) (a1_0:Int) (a1_1:Bool) (r:Int) (w:World) (hr0_2:Kd.C k74 w A0_2 l0_2.length l0_2) (hc0_2:l0_2.length≤c0_2) (h:ebbtideref07_To.f a0_0 a0_1 l0_2 a1_0 a1_1=some r):
  Calls Try.prog 45 #[.agg #[.int .i64 a0_0, .bool a0_1, .slice A0_2 l0_2.length c0_2], .agg #[.int .i64 a1_0, .bool a1_1]] w fun e w'=>e= .returned (.int .i64 r)∧Below w.heap.size w w':=by
 have hu24:=Try.underlying24
 have hu38:=Try.underlying38
 have HR0_2:=Aside0.mk hr0_2
 have HC0_2:=Aside0.mk hc0_2
 clear hr0_2 hc0_2
 have HB:=Aside0.mk (Below.refl w.heap.size w)
 have H:(if a1_1=true then(if 0≤a1_0 then(if a1_0<(l0_2.length:Int) then(some ((rd_T74 l0_2 a1_0).f0)) else(none)) else(none)) else(if 0≤a1_0 then(if a1_0<(l0_2.length:Int) then(some ((rd_T74 l0_2 a1_0).f1)) else(none)) else(none)))=some r:=h
 clear h
 by_cases c3:a1_1=true
 ·subst c3
  have H1:(if 0≤a1_0 then(if a1_0<(l0_2.length:Int) then(some ((rd_T74 l0_2 a1_0).f0)) else(none)) else(none))=some r:=by first|(rw[if_pos rfl] at H;exact H)|(rw[if_pos trivial] at H;exact H)
  clear H
  have H:=H1
  clear H1
  by_cases c4:0≤a1_0
  rotate_left
  ·rw[if_neg c4] at H
   exact absurd H (by simp)
  rw[if_pos c4] at H
  have c4b0:decide (0≤a1_0)=true:=decide_eq_true c4
  clear c4
  by_cases c5:a1_0<(l0_2.length:Int)
  rotate_left
  ·rw[if_neg c5] at H
   exact absurd H (by simp)
  rw[if_pos c5] at H
  have c5b0:decide (a1_0<(l0_2.length:Int))=true:=decide_eq_true c5
  clear c5
  obtain rfl:=Option.some.inj H
  go_enter Try.func45,Try.ntmps45
  go_wp2_with (first|((with_reducible refine gate_dst (N:=2) rfl ?_);refine box_event ?hg (N:=2) ?hd (cs:= #[.int .i64 a0_0, .bool a0_1, .slice A0_2 l0_2.length c0_2]) (t:=24) ?hr ?_;(case hd=>rfl);(case hg=>rfl);(case hr=>first|(go_simp;done)|(go_simp;rfl));intro gb119 hg w6 hbox hb;have n0_:=Aside0.mk (below_step (by repeat(first|(with_reducible first|exact HB.out|apply below_alloc|apply pw_below_drewN|apply below_drew1)|exact HB.out)) hb);have n1_:=Aside0.mk (hbox);have n2_:=Aside0.mk ((by rw[hg];exact(below_size (by repeat(first|(with_reducible first|exact HB.out|apply below_alloc|apply pw_below_drewN|apply below_drew1)|exact HB.out))):w.heap.size≤gb119));have n3_:=Aside0.mk ((by rw[hg];exact(below_size (by repeat(first|(with_reducible first|exact HB.out|apply below_alloc|apply pw_below_drewN|apply below_drew1)|exact HB.out))):w.heap.size≤gb119));clear HB;have HB:=n0_;have BK119:=n1_;have GW119:=n2_;have GE119:=n3_;clear n0_ n1_ n2_ n3_;clear hb hbox hg)|((with_reducible refine gate_dst (N:=3) rfl ?_);refine box_event ?hg (N:=3) ?hd (cs:= #[.int .i64 a1_0, .bool true]) (t:=38) ?hr ?_;(case hd=>rfl);(case hg=>rfl);(case hr=>first|(go_simp;done)|(go_simp;rfl));intro gb120 hg w7 hbox hb;have n0_:=Aside0.mk (blk_below (g:=gb119) (o:= .cells #[.int .i64 a0_0, .bool a0_1, .slice A0_2 l0_2.length c0_2] 24 (0,0)) (by(with_reducible repeat(first|refine blk_drewN ?_ _|refine blk_drew ?_|refine blk_alloc ?_ _));exact BK119.out) hb);have n1_:=Aside0.mk (below_step (by repeat(first|(with_reducible first|exact HB.out|apply below_alloc|apply pw_below_drewN|apply below_drew1|refine below_set ?_ GE119.out)|exact HB.out)) hb);have n2_:=Aside0.mk (hbox);have n3_:=Aside0.mk ((by rw[hg];exact(below_size (by repeat(first|(with_reducible first|exact HB.out|apply below_alloc|apply pw_below_drewN|apply below_drew1|refine below_set ?_ GE119.out)|exact HB.out))):w.heap.size≤gb120));have n4_:=Aside0.mk ((by rw[hg];exact(below_size (by repeat(first|(with_reducible first|exact HB.out|apply below_alloc|apply pw_below_drewN|apply below_drew1|refine below_set ?_ GE119.out)|exact HB.out))):w.heap.size≤gb120));have n5_:=Aside0.mk ((by rw[hg];exact Nat.ne_of_lt (blk_lt (g:=gb119) (o:= .cells #[.int .i64 a0_0, .bool a0_1, .slice A0_2 l0_2.length c0_2] 24 (0,0)) (by(with_reducible repeat(first|refine blk_drewN ?_ _|refine blk_drew ?_|refine blk_alloc ?_ _));exact BK119.out)):gb119≠gb120));have n6_:=Aside0.mk ((by rw[hg];exact Nat.ne_of_gt (blk_lt (g:=gb119) (o:= .cells #[.int .i64 a0_0, .bool a0_1, .slice A0_2 l0_2.length c0_2] 24 (0,0)) (by(with_reducible repeat(first|refine blk_drewN ?_ _|refine blk_drew ?_|refine blk_alloc ?_ _));exact BK119.out)):gb120≠gb119));clear BK119;clear HB;have BK119:=n0_;have HB:=n1_;have BK120:=n2_;have GW120:=n3_;have GE120:=n4_;have NB119_120:=n5_;have NB120_119:=n6_;clear n0_ n1_ n2_ n3_ n4_ n5_ n6_;clear hb hbox hg;have hnb8:=NB120_119.out;have hnc8:=NB119_120.out;have hcz9_0:w7.cell? ⟨gb120,0,none⟩=some (.int .i64 a1_0):=(blk_cell BK120.out 0).trans rfl;have hcz9_1:w7.cell? ⟨gb120,1,none⟩=some (.bool true):=(blk_cell BK120.out 1).trans rfl;have hfz9_0:=blk_frozen BK120.out 0;have hfz9_1:=blk_frozen BK120.out 1;have hcz10_0:w7.cell? ⟨gb119,0,none⟩=some (.int .i64 a0_0):=(blk_cell BK119.out 0).trans rfl;have hcz10_1:w7.cell? ⟨gb119,1,none⟩=some (.bool a0_1):=(blk_cell BK119.out 1).trans rfl;have hcz10_2:w7.cell? ⟨gb119,2,none⟩=some (.slice A0_2 l0_2.length c0_2):=(blk_cell BK119.out 2).trans rfl;have hfz10_0:=blk_frozen BK119.out 0;have hfz10_1:=blk_frozen BK119.out 1;have hfz10_2:=blk_frozen BK119.out 2;have p121:0≤(a1_0:Int):=of_decide_eq_true (by first|(with_reducible assumption)|assumption);have q121:a1_0<(l0_2.length:Int):=of_decide_eq_true (by first|(with_reducible assumption)|assumption);obtain⟨ad121,e121,hx121_0,hx121_1,hx121_2,hx121_3⟩:=at_T74 HR0_2.out a1_0 p121 q121;cases e121;replace hx121_0:=(HB.out.cell (World.block_lt_of_cell? w _ hx121_0)).trans hx121_0;replace hx121_1:=(HB.out.cell (World.block_lt_of_cell? w _ hx121_1)).trans hx121_1;replace hx121_2:=(HB.out.cell (World.block_lt_of_cell? w _ hx121_2)).trans hx121_2;replace hx121_3:=(HB.out.cell (World.block_lt_of_cell? w _ hx121_3)).trans hx121_3;replace p121:=eq_true p121;replace q121:=eq_true q121))
  go_ret
  exact⟨by first|rfl|(simp[errW_none,errW_some]<;>rfl)|(simp[*,errW_none,errW_some]<;>rfl),by repeat(first|(with_reducible first|exact HB.out|apply below_alloc|apply pw_below_drewN|apply below_drew1|refine below_set ?_ GE119.out|refine below_set ?_ GE120.out)|exact HB.out)⟩
 replace c3:=Bool.eq_false_iff.mpr c3
 subst c3
 have H1:(if 0≤a1_0 then(if a1_0<(l0_2.length:Int) then(some ((rd_T74 l0_2 a1_0).f1)) else(none)) else(none))=some r:=by rw[if_neg (show ¬ (false=true) by decide)] at H;exact H
 clear H
 have H:=H1
 clear H1
 by_cases c11:0≤a1_0
 rotate_left
 ·rw[if_neg c11] at H
  exact absurd H (by simp)
 rw[if_pos c11] at H
 have c11b0:decide (0≤a1_0)=true:=decide_eq_true c11
 clear c11
 by_cases c12:a1_0<(l0_2.length:Int)
 rotate_left
 ·rw[if_neg c12] at H
  exact absurd H (by simp)
 rw[if_pos c12] at H
 have c12b0:decide (a1_0<(l0_2.length:Int))=true:=decide_eq_true c12
 clear c12
 obtain rfl:=Option.some.inj H
 go_enter Try.func45,Try.ntmps45
 go_wp2_with (first|((with_reducible refine gate_dst (N:=2) rfl ?_);refine box_event ?hg (N:=2) ?hd (cs:= #[.int .i64 a0_0, .bool a0_1, .slice A0_2 l0_2.length c0_2]) (t:=24) ?hr ?_;(case hd=>rfl);(case hg=>rfl);(case hr=>first|(go_simp;done)|(go_simp;rfl));intro gb119 hg w13 hbox hb;have n0_:=Aside0.mk (below_step (by repeat(first|(with_reducible first|exact HB.out|apply below_alloc|apply pw_below_drewN|apply below_drew1)|exact HB.out)) hb);have n1_:=Aside0.mk (hbox);have n2_:=Aside0.mk ((by rw[hg];exact(below_size (by repeat(first|(with_reducible first|exact HB.out|apply below_alloc|apply pw_below_drewN|apply below_drew1)|exact HB.out))):w.heap.size≤gb119));have n3_:=Aside0.mk ((by rw[hg];exact(below_size (by repeat(first|(with_reducible first|exact HB.out|apply below_alloc|apply pw_below_drewN|apply below_drew1)|exact HB.out))):w.heap.size≤gb119));clear HB;have HB:=n0_;have BK119:=n1_;have GW119:=n2_;have GE119:=n3_;clear n0_ n1_ n2_ n3_;clear hb hbox hg)|((with_reducible refine gate_dst (N:=3) rfl ?_);refine box_event ?hg (N:=3) ?hd (cs:= #[.int .i64 a1_0, .bool false]) (t:=38) ?hr ?_;(case hd=>rfl);(case hg=>rfl);(case hr=>first|(go_simp;done)|(go_simp;rfl));intro gb120 hg w14 hbox hb;have n0_:=Aside0.mk (blk_below (g:=gb119) (o:= .cells #[.int .i64 a0_0, .bool a0_1, .slice A0_2 l0_2.length c0_2] 24 (0,0)) (by(with_reducible repeat(first|refine blk_drewN ?_ _|refine blk_drew ?_|refine blk_alloc ?_ _));exact BK119.out) hb);have n1_:=Aside0.mk (below_step (by repeat(first|(with_reducible first|exact HB.out|apply below_alloc|apply pw_below_drewN|apply below_drew1|refine below_set ?_ GE119.out)|exact HB.out)) hb);have n2_:=Aside0.mk (hbox);have n3_:=Aside0.mk ((by rw[hg];exact(below_size (by repeat(first|(with_reducible first|exact HB.out|apply below_alloc|apply pw_below_drewN|apply below_drew1|refine below_set ?_ GE119.out)|exact HB.out))):w.heap.size≤gb120));have n4_:=Aside0.mk ((by rw[hg];exact(below_size (by repeat(first|(with_reducible first|exact HB.out|apply below_alloc|apply pw_below_drewN|apply below_drew1|refine below_set ?_ GE119.out)|exact HB.out))):w.heap.size≤gb120));have n5_:=Aside0.mk ((by rw[hg];exact Nat.ne_of_lt (blk_lt (g:=gb119) (o:= .cells #[.int .i64 a0_0, .bool a0_1, .slice A0_2 l0_2.length c0_2] 24 (0,0)) (by(with_reducible repeat(first|refine blk_drewN ?_ _|refine blk_drew ?_|refine blk_alloc ?_ _));exact BK119.out)):gb119≠gb120));have n6_:=Aside0.mk ((by rw[hg];exact Nat.ne_of_gt (blk_lt (g:=gb119) (o:= .cells #[.int .i64 a0_0, .bool a0_1, .slice A0_2 l0_2.length c0_2] 24 (0,0)) (by(with_reducible repeat(first|refine blk_drewN ?_ _|refine blk_drew ?_|refine blk_alloc ?_ _));exact BK119.out)):gb120≠gb119));clear BK119;clear HB;have BK119:=n0_;have HB:=n1_;have BK120:=n2_;have GW120:=n3_;have GE120:=n4_;have NB119_120:=n5_;have NB120_119:=n6_;clear n0_ n1_ n2_ n3_ n4_ n5_ n6_;clear hb hbox hg;have hnb15:=NB120_119.out;have hnc15:=NB119_120.out;have hcz16_0:w14.cell? ⟨gb120,0,none⟩=some (.int .i64 a1_0):=(blk_cell BK120.out 0).trans rfl;have hcz16_1:w14.cell? ⟨gb120,1,none⟩=some (.bool false):=(blk_cell BK120.out 1).trans rfl;have hfz16_0:=blk_frozen BK120.out 0;have hfz16_1:=blk_frozen BK120.out 1;have hcz17_0:w14.cell? ⟨gb119,0,none⟩=some (.int .i64 a0_0):=(blk_cell BK119.out 0).trans rfl;have hcz17_1:w14.cell? ⟨gb119,1,none⟩=some (.bool a0_1):=(blk_cell BK119.out 1).trans rfl;have hcz17_2:w14.cell? ⟨gb119,2,none⟩=some (.slice A0_2 l0_2.length c0_2):=(blk_cell BK119.out 2).trans rfl;have hfz17_0:=blk_frozen BK119.out 0;have hfz17_1:=blk_frozen BK119.out 1;have hfz17_2:=blk_frozen BK119.out 2;have p122:0≤(a1_0:Int):=of_decide_eq_true (by first|(with_reducible assumption)|assumption);have q122:a1_0<(l0_2.length:Int):=of_decide_eq_true (by first|(with_reducible assumption)|assumption);obtain⟨ad122,e122,hx122_0,hx122_1,hx122_2,hx122_3⟩:=at_T74 HR0_2.out a1_0 p122 q122;cases e122;replace hx122_0:=(HB.out.cell (World.block_lt_of_cell? w _ hx122_0)).trans hx122_0;replace hx122_1:=(HB.out.cell (World.block_lt_of_cell? w _ hx122_1)).trans hx122_1;replace hx122_2:=(HB.out.cell (World.block_lt_of_cell? w _ hx122_2)).trans hx122_2;replace hx122_3:=(HB.out.cell (World.block_lt_of_cell? w _ hx122_3)).trans hx122_3;replace p122:=eq_true p122;replace q122:=eq_true q122))
 go_ret
 exact⟨by first|rfl|(simp[errW_none,errW_some]<;>rfl)|(simp[*,errW_none,errW_some]<;>rfl),by repeat(first|(with_reducible first|exact HB.out|apply below_alloc|apply pw_below_drewN|apply below_drew1|refine below_set ?_ GE119.out|refine below_set ?_ GE120.out)|exact HB.out)⟩
end Go.Proofs.Ytkcpanpdipmmmaa.P
namespace Go.Proofs.Ytkcpanpdipmmmaa.P
open Go.RowKit Go.Proofs.YtkcpanpdipmmmaaW.PrintWords Go.Proofs.YtkcpanpdipmmmaaW.PrintLast Go.Proofs.YtkcpanpdipmmmaaW.PrintMore
attribute [local go_sem] max2_int min2_int max_two min_two max_three min_three max_four min_four
def ebbtideref08_found_has.l0:Nat→Int→Int→List Int→List (S38)→Option (Int)
 |0,_,_,_,_=>none
 |k+1,x1,x5,x448000,x448001=>if x5<(x448000.length:Int) then(if 0≤x5 then(if (rd x448000 x5)=x1 then(some x5) else(ebbtideref08_found_has.l0 k x1 (wrap64 (x5+1)) x448000 x448001)) else(none)) else(some (-1))
def ebbtideref08_found_has.f (k:Nat) (l0_0:List Int) (l0_1:List (S38)) (a1:Int):Option (Int):=ebbtideref08_found_has.l0 k a1 0 l0_0 l0_1
set_option maxHeartbeats 8000000 in
set_option maxRecDepth 100000 in
theorem ebbtideref08_found_has.calls (k:Nat) (A0_0:Option Addr) (c0_0:Nat) (l0_0:List Int) (A0_1:Option Addr) (c0_1:Nat) (l0_1:List (S38)) (a1:Int) (r:Int) (w:World) (hr0_0:Kd.C (Kd.int .i64) w A0_0 l0_0.length l0_0) (hc0_0:l0_0.length≤c0_0) (hr0_1:Kd.C k38 w A0_1 l0_1.length l0_1) (hc0_1:l0_1.length≤c0_1) (h:ebbtideref08_found_has.f k l0_0 l0_1 a1=some r):
  Calls Try.prog 147 #[.agg #[.slice A0_0 l0_0.length c0_0, .slice A0_1 l0_1.length c0_1], .int .i64 a1] w fun e w'=>e= .returned (.int .i64 r)∧Below w.heap.size w w':=by
 have hu161:=Try.underlying161
 have HR0_0:=Aside0.mk hr0_0
 have HC0_0:=Aside0.mk hc0_0
 clear hr0_0 hc0_0
 have HR0_1:=Aside0.mk hr0_1
 have HC0_1:=Aside0.mk hc0_1
 clear hr0_1 hc0_1
 have HB:=Aside0.mk (Below.refl w.heap.size w)
 have H:(ebbtideref08_found_has.l0 k a1 0 l0_0 l0_1)=some r:=h
 clear h
 have H':=Aside0.mk H
 clear H
 go_enter Try.func147,Try.ntmps147
 go_wp2_with (first|((with_reducible refine gate_dst (N:=2) rfl ?_);refine box_event ?hg (N:=2) ?hd (cs:= #[.slice A0_0 l0_0.length c0_0, .slice A0_1 l0_1.length c0_1]) (t:=161) ?hr ?_;(case hd=>rfl);(case hg=>rfl);(case hr=>first|(go_simp;done)|(go_simp;rfl));intro gb447 hg w3 hbox hb;have n0_:=Aside0.mk (below_step (by repeat(first|(with_reducible first|exact HB.out|apply below_alloc|apply pw_below_drewN|apply below_drew1)|exact HB.out)) hb);have n1_:=Aside0.mk (hbox);have n2_:=Aside0.mk ((by rw[hg];exact(below_size (by repeat(first|(with_reducible first|exact HB.out|apply below_alloc|apply pw_below_drewN|apply below_drew1)|exact HB.out))):w.heap.size≤gb447));have n3_:=Aside0.mk ((by rw[hg];exact(below_size (by repeat(first|(with_reducible first|exact HB.out|apply below_alloc|apply pw_below_drewN|apply below_drew1)|exact HB.out))):w.heap.size≤gb447));clear HB;have HB:=n0_;have BK447:=n1_;have GW447:=n2_;have GE447:=n3_;clear n0_ n1_ n2_ n3_;clear hb hbox hg))
 go_loopg [5] k (fun kq v5 w'=> ∃ (x5_1:Int),v5= .int .i64 x5_1∧Aside0 (ebbtideref08_found_has.l0 kq a1 x5_1 l0_0 l0_1=some r)∧Aside0 (kq≤k)∧Aside0 (w'.heap[gb447]? =some (.cells #[(.slice A0_0 l0_0.length c0_0),(.slice A0_1 l0_1.length c0_1)] 161 (0,0)))∧Aside0 (Below w.heap.size w w'))
 case atStart=>exact⟨(0),(by first|rfl|(simp;done)|(simp[*];done)),H',⟨Nat.le_refl _⟩,⟨by(with_reducible repeat(first|refine blk_drewN ?_ _|refine blk_drew ?_|refine blk_alloc ?_ _));exact BK447.out⟩,⟨by repeat(first|(with_reducible first|exact HB.out|apply below_alloc|apply pw_below_drewN|apply below_drew1|refine below_set ?_ GE447.out)|exact HB.out)⟩⟩
 case round=>
  clear H'
  try clear c1
  try clear p2
  obtain⟨x5_1,rfl,HA,HK1,BK447,HB⟩:=hrel
  cases gk with
  |zero=>exact absurd HA.out (by simp[ebbtideref08_found_has.l0])
  |succ k1=>
   have H:=HA.out
   clear HA
   simp only[ebbtideref08_found_has.l0] at H
   by_cases c4:x5_1<(l0_0.length:Int)
   rotate_left
   ·rw[if_neg c4] at H
    have c4b0:decide (x5_1<(l0_0.length:Int))=false:=decide_eq_false c4
    clear c4
    obtain rfl:=Option.some.inj H
    have hcz9_0:wr.cell? ⟨gb447,0,none⟩=some (.slice A0_0 l0_0.length c0_0):=(blk_cell BK447.out 0).trans rfl
    have hcz9_1:wr.cell? ⟨gb447,1,none⟩=some (.slice A0_1 l0_1.length c0_1):=(blk_cell BK447.out 1).trans rfl
    have hfz9_0:=blk_frozen BK447.out 0
    have hfz9_1:=blk_frozen BK447.out 1
    go_wp2
    go_ret
    exact⟨by first|rfl|(simp[errW_none,errW_some]<;>rfl)|(simp[*,errW_none,errW_some]<;>rfl),by repeat(first|(with_reducible first|exact HB.out|apply below_alloc|apply pw_below_drewN|apply below_drew1|refine below_set ?_ GE447.out)|exact HB.out)⟩
   rw[if_pos c4] at H
   have c4b0:decide (x5_1<(l0_0.length:Int))=true:=decide_eq_true c4
   clear c4
   by_cases c5:0≤x5_1
   rotate_left
   ·rw[if_neg c5] at H
    exact absurd H (by simp)
   rw[if_pos c5] at H
   have c5b0:decide (0≤x5_1)=true:=decide_eq_true c5
   clear c5
   by_cases c6:(rd l0_0 x5_1)=a1
   ·rw[if_pos c6] at H
    have c6b0:((rd l0_0 x5_1) == a1)=true:=beq_iff_eq.mpr c6
    have c6b1:((rd l0_0 x5_1) != a1)=false:=bne_eq_false_iff_eq.mpr c6
    clear c6
    obtain rfl:=Option.some.inj H
    have hcz7_0:wr.cell? ⟨gb447,0,none⟩=some (.slice A0_0 l0_0.length c0_0):=(blk_cell BK447.out 0).trans rfl
    have hcz7_1:wr.cell? ⟨gb447,1,none⟩=some (.slice A0_1 l0_1.length c0_1):=(blk_cell BK447.out 1).trans rfl
    have hfz7_0:=blk_frozen BK447.out 0
    have hfz7_1:=blk_frozen BK447.out 1
    have p448:0≤(x5_1:Int):=of_decide_eq_true (by first|(with_reducible assumption)|assumption)
    have q448:x5_1<(l0_0.length:Int):=of_decide_eq_true (by first|(with_reducible assumption)|assumption)
    obtain⟨ad448,e448,hx448_0⟩:=Kd.at_int HR0_0.out x5_1 p448 q448
    cases e448
    replace hx448_0:=(HB.out.cell (World.block_lt_of_cell? w _ hx448_0)).trans hx448_0
    replace p448:=eq_true p448
    replace q448:=eq_true q448
    go_wp2
    go_ret
    exact⟨by first|rfl|(simp[errW_none,errW_some]<;>rfl)|(simp[*,errW_none,errW_some]<;>rfl),by repeat(first|(with_reducible first|exact HB.out|apply below_alloc|apply pw_below_drewN|apply below_drew1|refine below_set ?_ GE447.out)|exact HB.out)⟩
   rw[if_neg c6] at H
   have c6b0:((rd l0_0 x5_1) == a1)=false:=beq_eq_false_iff_ne.mpr c6
   have c6b1:((rd l0_0 x5_1) != a1)=true:=bne_iff_ne.mpr c6
   have H':=Aside0.mk H
   clear H
   have hcz8_0:wr.cell? ⟨gb447,0,none⟩=some (.slice A0_0 l0_0.length c0_0):=(blk_cell BK447.out 0).trans rfl
   have hcz8_1:wr.cell? ⟨gb447,1,none⟩=some (.slice A0_1 l0_1.length c0_1):=(blk_cell BK447.out 1).trans rfl
   have hfz8_0:=blk_frozen BK447.out 0
   have hfz8_1:=blk_frozen BK447.out 1
   have p448:0≤(x5_1:Int):=of_decide_eq_true (by first|(with_reducible assumption)|assumption)
   have q448:x5_1<(l0_0.length:Int):=of_decide_eq_true (by first|(with_reducible assumption)|assumption)
   obtain⟨ad448,e448,hx448_0⟩:=Kd.at_int HR0_0.out x5_1 p448 q448
   cases e448
   replace hx448_0:=(HB.out.cell (World.block_lt_of_cell? w _ hx448_0)).trans hx448_0
   replace p448:=eq_true p448
   replace q448:=eq_true q448
   go_wp2
   go_roundg k1
   case measure=>have:=HK1.out;omega
   case rel=>exact⟨(wrap64 (x5_1+1)),(by first|rfl|(simp;done)|(simp[*];done)),H',⟨by have:=HK1.out;omega⟩,⟨by(with_reducible repeat(first|refine blk_drewN ?_ _|refine blk_drew ?_|refine blk_alloc ?_ _));exact BK447.out⟩,⟨by repeat(first|(with_reducible first|exact HB.out|apply below_alloc|apply pw_below_drewN|apply below_drew1|refine below_set ?_ GE447.out)|exact HB.out)⟩⟩
end Go.Proofs.Ytkcpanpdipmmmaa.P
