/- What the law's row needs of these texts, taken out of them by wip/tool/mini.py: P0 P14 P15 P16 P71 P90 P91 P17 P92 P93 P94 P95 P7 P8. -/
import Derived.Test.YtkcpanpdipmmmaaProg
import Derived.Below
import Derived.Deep.Draws
import Derived.Deep.AppendLies
import Derived.Maps.AppendAt
import Derived.OwnWalk
import Derived.Laws.BytesArg
import Derived.Laws.MakeOwn
import Derived.Laws.OwnMore
import Derived.Deep.OwnRows
import Derived.Tactics
import Derived.Lib.ConvBytes
import Derived.Laws.Slices
import Derived.WalkKit
import Derived.KernelRfl
import Derived.RowKit3
import Derived.Deep.LoopGhost
import Derived.Deep.QuietTactic
import Derived.BigQuiet
import Derived.WideLaws
import Derived.Deep.DeepCutAuto
import Derived.Deep.CutBlock
import Derived.Deep.RegionHeld3
import Derived.Laws.Rows
import Derived.Lib.AppendStr
import Derived.ArgAppend
import Derived.Laws.IdiomCopy
import Derived.OrdersHeld
import Derived.Laws.BitsLemmas
import Derived.RowKit
import Derived.Test.YtkcpanpdipmmmaaVjmefen
import Derived.Laws.StructEq
set_option linter.unusedVariables false
set_option linter.unusedSimpArgs false
namespace Go.Proofs.Ytkcpanpdipmmmaa.P
open Go.RowKit Go.Proofs.YtkcpanpdipmmmaaW.PrintWords Go.Proofs.YtkcpanpdipmmmaaW.PrintLast Go.Proofs.YtkcpanpdipmmmaaW.PrintMore
attribute [local go_sem] max2_int min2_int max_two min_two max_three min_three max_four min_four
def errW:Option Int→Value
 |none=> .nilIface
 |some c=> .iface 0 (.int .i64 c)
theorem errW_none:errW none= .nilIface:=rfl
theorem errW_some (c:Int):errW (some c)= .iface 0 (.int .i64 c):=rfl
theorem info3:(Try.prog.info? 3).map (fun i=>(i.zero,i.size,i.bytes))=some (some (.int .i64 0),1,8):=by kernel_rfl
theorem info4:(Try.prog.info? 4).map (fun i=>(i.zero,i.size,i.bytes))=some (some (.bool false),1,1):=by kernel_rfl
theorem info38:(Try.prog.info? 38).map (fun i=>(i.zero,i.size,i.bytes))=some (some (.agg #[(.int .i64 0),(.bool false)]),2,16):=by kernel_rfl
structure S74 where
 f0:Int
 f1:Int
 f2:Int
 f3:Int
def z74:S74:=⟨(0:Int),(0:Int),(0:Int),(0:Int)⟩
def k74:Kd S74:=Kd.iso (Kd.pair (Kd.int .i64) (Kd.pair (Kd.int .i64) (Kd.pair (Kd.int .i64) (Kd.int .i64)))) (fun x:S74=>(x.f0,x.f1,x.f2,x.f3))
theorem k74_open {w:World} {x:S74} {cs:List Value} (h:k74.K w x cs):cs=[.int .i64 x.f0, .int .i64 x.f1, .int .i64 x.f2, .int .i64 x.f3]:=by
 obtain⟨_,_,rfl,rfl,⟨_,_,rfl,rfl,⟨_,_,rfl,rfl,rfl⟩⟩⟩:=h
 exact rfl
theorem k74_mkM (w:World) (base:Nat) (ok:Nat→Prop) (x:S74)  :k74.M w base ok x [.int .i64 x.f0, .int .i64 x.f1, .int .i64 x.f2, .int .i64 x.f3]:=⟨[.int .i64 x.f0],[.int .i64 x.f1, .int .i64 x.f2, .int .i64 x.f3],rfl,rfl,⟨[.int .i64 x.f1],[.int .i64 x.f2, .int .i64 x.f3],rfl,rfl,⟨[.int .i64 x.f2],[.int .i64 x.f3],rfl,rfl,rfl⟩⟩⟩
def rd_T74 (xs:List S74) (i:Int):S74:=xs.getD i.toNat z74
theorem at_T74 {w:World} {A:Option Addr} {n:Nat} {xs:List S74} (h:Kd.C k74 w A n xs) (i:Int) (h0:0≤i) (h1:i<n): ∃ ad ,A=some ad∧w.cell? (ad.add (i.toNat * 4))=some (.int .i64 (rd_T74 xs i).f0)∧w.cell? ⟨(ad.add (i.toNat * 4)).block,(ad.add (i.toNat * 4)).off+1,none⟩=some (.int .i64 (rd_T74 xs i).f1)∧w.cell? ⟨(ad.add (i.toNat * 4)).block,(ad.add (i.toNat * 4)).off+2,none⟩=some (.int .i64 (rd_T74 xs i).f2)∧w.cell? ⟨(ad.add (i.toNat * 4)).block,(ad.add (i.toNat * 4)).off+3,none⟩=some (.int .i64 (rd_T74 xs i).f3):=by
 obtain⟨ad,c,e,_,hK,hc0⟩:=Kd.C_get h z74 i h0 h1
 have hc: ∀ j u,c[j]? =some u→w.cell? (ad.add (i.toNat * 4+j))=some u:=hc0
 obtain rfl:=k74_open hK
 exact⟨ad,e,hc 0 _ rfl,by rw[← add_field _ _ 1 (by omega)];exact hc 1 _ rfl,by rw[← add_field _ _ 2 (by omega)];exact hc 2 _ rfl,by rw[← add_field _ _ 3 (by omega)];exact hc 3 _ rfl⟩
structure S38 where
 f0:Int
 f1:Bool
def z38:S38:=⟨(0:Int),false⟩
def k38:Kd S38:=Kd.iso (Kd.pair (Kd.int .i64) Kd.bool) (fun x:S38=>(x.f0,x.f1))
theorem k38_open {w:World} {x:S38} {cs:List Value} (h:k38.K w x cs):cs=[.int .i64 x.f0, .bool x.f1]:=by
 obtain⟨_,_,rfl,rfl,rfl⟩:=h
 exact rfl
theorem k38_mkM (w:World) (base:Nat) (ok:Nat→Prop) (x:S38)  :k38.M w base ok x [.int .i64 x.f0, .bool x.f1]:=⟨[.int .i64 x.f0],[.bool x.f1],rfl,rfl,rfl⟩
def rd_T38 (xs:List S38) (i:Int):S38:=xs.getD i.toNat z38
theorem at_T38 {w:World} {A:Option Addr} {n:Nat} {xs:List S38} (h:Kd.C k38 w A n xs) (i:Int) (h0:0≤i) (h1:i<n): ∃ ad ,A=some ad∧w.cell? (ad.add (i.toNat * 2))=some (.int .i64 (rd_T38 xs i).f0)∧w.cell? ⟨(ad.add (i.toNat * 2)).block,(ad.add (i.toNat * 2)).off+1,none⟩=some (.bool (rd_T38 xs i).f1):=by
 obtain⟨ad,c,e,_,hK,hc0⟩:=Kd.C_get h z38 i h0 h1
 have hc: ∀ j u,c[j]? =some u→w.cell? (ad.add (i.toNat * 2+j))=some u:=hc0
 obtain rfl:=k38_open hK
 exact⟨ad,e,hc 0 _ rfl,by rw[← add_field _ _ 1 (by omega)];exact hc 1 _ rfl⟩
def rd_L4 (xs:List (List S38)) (i:Int):(List S38):=xs.getD i.toNat ([]:List S38)
theorem at_L4 {w:World} {A:Option Addr} {n:Nat} {xs:List (List S38)} (h:Kd.C (Kd.slice 38 k38) w A n xs) (i:Int) (h0:0≤i) (h1:i<n): ∃ ad A0 c0,A=some ad∧w.cell? (ad.add i.toNat)=some (.slice A0 (rd_L4 xs i).length c0)∧(rd_L4 xs i).length≤c0∧k38.C w A0 (rd_L4 xs i).length (rd_L4 xs i):=by
 obtain⟨ad,c,e,_,hK,hc0⟩:=Kd.C_get h ([]:List S38) i h0 h1
 have hc: ∀ j u,c[j]? =some u→w.cell? (ad.add (i.toNat * 1+j))=some u:=hc0
 obtain⟨A0,c0,rfl,l0,g0⟩:=hK
 exact⟨ad,A0,c0,e,by have hq:=hc 0 _ rfl;rwa [Nat.mul_one,Nat.add_zero] at hq,l0,g0⟩
def rd_L7 (xs:List (List Int)) (i:Int):(List Int):=xs.getD i.toNat ([]:List Int)
theorem at_L7 {w:World} {A:Option Addr} {n:Nat} {xs:List (List Int)} (h:Kd.C (Kd.slice 3 (Kd.int .i64)) w A n xs) (i:Int) (h0:0≤i) (h1:i<n): ∃ ad A0 c0,A=some ad∧w.cell? (ad.add i.toNat)=some (.slice A0 (rd_L7 xs i).length c0)∧(rd_L7 xs i).length≤c0∧(Kd.int .i64).C w A0 (rd_L7 xs i).length (rd_L7 xs i):=by
 obtain⟨ad,c,e,_,hK,hc0⟩:=Kd.C_get h ([]:List Int) i h0 h1
 have hc: ∀ j u,c[j]? =some u→w.cell? (ad.add (i.toNat * 1+j))=some u:=hc0
 obtain⟨A0,c0,rfl,l0,g0⟩:=hK
 exact⟨ad,A0,c0,e,by have hq:=hc 0 _ rfl;rwa [Nat.mul_one,Nat.add_zero] at hq,l0,g0⟩
end Go.Proofs.Ytkcpanpdipmmmaa.P
namespace Go.Proofs.Ytkcpanpdipmmmaa.P
open Go.RowKit Go.Proofs.YtkcpanpdipmmmaaW.PrintWords Go.Proofs.YtkcpanpdipmmmaaW.PrintLast Go.Proofs.YtkcpanpdipmmmaaW.PrintMore
attribute [local go_sem] max2_int min2_int max_two min_two max_three min_three max_four min_four
def netfmt_nodes.f (a0:Int):Option (Int):=if a0<1 then(some 51) else(if a0>50 then(some 2) else(some 0))
set_option maxHeartbeats 8000000 in
set_option maxRecDepth 100000 in
theorem netfmt_nodes.calls (a0:Int) (r:Int) (w:World) (h:netfmt_nodes.f a0=some r):
  Calls Try.prog 156 #[.int .i64 a0] w fun e w'=>e= .returned (.int .i64 r)∧Drawn0 w w':=by
 have H:(if a0<1 then(some 51) else(if a0>50 then(some 2) else(some 0)))=some r:=h
 clear h
 by_cases c2:a0<1
 ·rw[if_pos c2] at H
  have c2b0:decide (a0<1)=true:=decide_eq_true c2
  clear c2
  obtain rfl:=Option.some.inj H
  go_enter Try.func156,Try.ntmps156
  go_wp2
  go_ret
  exact⟨by first|rfl|(simp;done)|(simp[*];done),by repeat(first|exact Drawn0.refl _|apply Drawn0.step)⟩
 rw[if_neg c2] at H
 have c2b0:decide (a0<1)=false:=decide_eq_false c2
 clear c2
 by_cases c3:a0>50
 rotate_left
 ·rw[if_neg c3] at H
  have c3b0:decide (50<a0)=false:=decide_eq_false c3
  clear c3
  obtain rfl:=Option.some.inj H
  go_enter Try.func156,Try.ntmps156
  go_wp2
  go_ret
  exact⟨by first|rfl|(simp;done)|(simp[*];done),by repeat(first|exact Drawn0.refl _|apply Drawn0.step)⟩
 rw[if_pos c3] at H
 have c3b0:decide (50<a0)=true:=decide_eq_true c3
 clear c3
 obtain rfl:=Option.some.inj H
 go_enter Try.func156,Try.ntmps156
 go_wp2
 go_ret
 exact⟨by first|rfl|(simp;done)|(simp[*];done),by repeat(first|exact Drawn0.refl _|apply Drawn0.step)⟩
end Go.Proofs.Ytkcpanpdipmmmaa.P
namespace Go.Proofs.Ytkcpanpdipmmmaa.P
open Go.RowKit Go.Proofs.YtkcpanpdipmmmaaW.PrintWords Go.Proofs.YtkcpanpdipmmmaaW.PrintLast Go.Proofs.YtkcpanpdipmmmaaW.PrintMore
attribute [local go_sem] max2_int min2_int max_two min_two max_three min_three max_four min_four
def netfmt_arc.j0:Nat→Bool→Int→Int→Int→Int→Option (Int)
 |0,_,_,_,_,_=>none
 |k+1,x5,x179000,x179001,x179002,x179003=>if x5=true then(some 51) else(if x179002>1048576 then(some 2) else(if x179003>1048576 then(some 2) else(some 0)))
def netfmt_arc.f (k:Nat) (a0:Int) (a1_0:Int) (a1_1:Int) (a1_2:Int) (a1_3:Int):Option (Int):=if (mn (mn (mn a1_0 a1_1) a1_2) a1_3)<0 then(netfmt_arc.j0 k true a1_0 a1_1 a1_2 a1_3) else(netfmt_arc.j0 k (decide ((mx a1_0 a1_1)≥a0)) a1_0 a1_1 a1_2 a1_3)
set_option maxHeartbeats 8000000 in
set_option maxRecDepth 100000 in
theorem netfmt_arc.calls (k:Nat) (a0:Int) (a1_0:Int) (a1_1:Int) (a1_2:Int) (a1_3:Int) (r:Int) (w:World) (h:netfmt_arc.f k a0 a1_0 a1_1 a1_2 a1_3=some r):
  Calls Try.prog 157 #[.int .i64 a0, .agg #[.int .i64 a1_0, .int .i64 a1_1, .int .i64 a1_2, .int .i64 a1_3]] w fun e w'=>e= .returned (.int .i64 r)∧Below w.heap.size w w':=by
 have hu74:=Try.underlying74
 have HB:=Aside0.mk (Below.refl w.heap.size w)
 have H:(if (mn (mn (mn a1_0 a1_1) a1_2) a1_3)<0 then(netfmt_arc.j0 k true a1_0 a1_1 a1_2 a1_3) else(netfmt_arc.j0 k (decide ((mx a1_0 a1_1)≥a0)) a1_0 a1_1 a1_2 a1_3))=some r:=h
 clear h
 have HC3:=Aside0.mk H
 clear H
 go_enter Try.func157,Try.ntmps157
 go_upto_region 1 with (first|((with_reducible refine gate_dst (N:=3) rfl ?_);(try (refine gate_guard (by rfl) ?_;dsimp only));refine box_event ?hg (N:=3) ?hd (cs:= #[.int .i64 a1_0, .int .i64 a1_1, .int .i64 a1_2, .int .i64 a1_3]) (t:=74) ?hr ?_;(case hd=>rfl);(case hg=>rfl);(case hr=>first|(go_simp;done)|(go_simp;rfl));intro gb178 hg w4 hbox hb;have n0_:=Aside0.mk (below_step (by repeat(first|(with_reducible first|exact HB.out|apply below_alloc|apply pw_below_drewN|apply below_drew1)|exact HB.out)) hb);have n1_:=Aside0.mk (hbox);have n2_:=Aside0.mk ((by rw[hg];exact(below_size (by repeat(first|(with_reducible first|exact HB.out|apply below_alloc|apply pw_below_drewN|apply below_drew1)|exact HB.out))):w.heap.size≤gb178));have n3_:=Aside0.mk ((by rw[hg];exact(below_size (by repeat(first|(with_reducible first|exact HB.out|apply below_alloc|apply pw_below_drewN|apply below_drew1)|exact HB.out))):w.heap.size≤gb178));clear HB;have HB:=n0_;have BK178:=n1_;have GW178:=n2_;have GE178:=n3_;clear n0_ n1_ n2_ n3_;clear hb hbox hg))
 (try simp only[Act.put,List.setIfInBounds_toArray,List.set_cons_zero,List.set_cons_succ])
 go_cut [5] (fun v5 wc=> ∃ (kq:Nat) (x5_2:Bool),v5= .bool x5_2∧Aside0 (netfmt_arc.j0 kq x5_2 a1_0 a1_1 a1_2 a1_3=some r)∧Aside0 (kq≤k)∧Aside0 (wc.heap[gb178]? =some (.cells #[.int .i64 a1_0, .int .i64 a1_1, .int .i64 a1_2, .int .i64 a1_3] 74 (0,0)))∧Aside0 (Below w.heap.size w wc))
 case first=>
  have H:=HC3.out
  clear HC3
  obtain⟨ji5,hji5⟩: ∃ j_:Int,(mn a1_0 a1_1)=j_:=⟨_,rfl⟩
  replace H:(if (mn (mn (ji5) a1_2) a1_3)<0 then(netfmt_arc.j0 k true a1_0 a1_1 a1_2 a1_3) else(netfmt_arc.j0 k (decide ((mx a1_0 a1_1)≥a0)) a1_0 a1_1 a1_2 a1_3))=some r:=by first|(rw[hji5] at H;exact H)|(simp only[hji5] at H ⊢;exact H)
  have hji5_:(if a1_1<a1_0 then a1_1 else a1_0)=ji5:=hji5
  obtain⟨ji6,hji6⟩: ∃ j_:Int,(mn (ji5) a1_2)=j_:=⟨_,rfl⟩
  replace H:(if (mn (ji6) a1_3)<0 then(netfmt_arc.j0 k true a1_0 a1_1 a1_2 a1_3) else(netfmt_arc.j0 k (decide ((mx a1_0 a1_1)≥a0)) a1_0 a1_1 a1_2 a1_3))=some r:=by first|(rw[hji6] at H;exact H)|(simp only[hji6] at H ⊢;exact H)
  have hji6_:(if a1_2<(ji5) then a1_2 else(ji5))=ji6:=hji6
  obtain⟨ji7,hji7⟩: ∃ j_:Int,(mn (ji6) a1_3)=j_:=⟨_,rfl⟩
  replace H:(if (ji7)<0 then(netfmt_arc.j0 k true a1_0 a1_1 a1_2 a1_3) else(netfmt_arc.j0 k (decide ((mx a1_0 a1_1)≥a0)) a1_0 a1_1 a1_2 a1_3))=some r:=by first|(rw[hji7] at H;exact H)|(simp only[hji7] at H ⊢;exact H)
  have hji7_:(if a1_3<(ji6) then a1_3 else(ji6))=ji7:=hji7
  by_cases c8:(ji7)<0
  ·rw[if_pos c8] at H
   have c8b0:decide ((ji7)<0)=true:=decide_eq_true c8
   clear c8
   (first|rw[c8b0]|(simp only[i64_w,i32_w];rw[c8b0])|skip)
   have H':=Aside0.mk H
   clear H
   have hcz9_0:w4.cell? ⟨gb178,0,none⟩=some (.int .i64 a1_0):=(blk_cell BK178.out 0).trans rfl
   have hcz9_1:w4.cell? ⟨gb178,1,none⟩=some (.int .i64 a1_1):=(blk_cell BK178.out 1).trans rfl
   have hcz9_2:w4.cell? ⟨gb178,2,none⟩=some (.int .i64 a1_2):=(blk_cell BK178.out 2).trans rfl
   have hcz9_3:w4.cell? ⟨gb178,3,none⟩=some (.int .i64 a1_3):=(blk_cell BK178.out 3).trans rfl
   have hfz9_0:=blk_frozen BK178.out 0
   have hfz9_1:=blk_frozen BK178.out 1
   have hfz9_2:=blk_frozen BK178.out 2
   have hfz9_3:=blk_frozen BK178.out 3
   go_wp2
   go_meet
   case rel=>exact⟨_,(true),(by first|rfl|(simp;done)|(simp[*];done)),H',⟨by first|omega|exact Nat.le_refl _⟩,⟨by(with_reducible repeat(first|refine blk_drewN ?_ _|refine blk_drew ?_|refine blk_alloc ?_ _));exact BK178.out⟩,⟨by repeat(first|(with_reducible first|exact HB.out|apply below_alloc|apply pw_below_drewN|apply below_drew1|refine below_set ?_ GE178.out)|exact HB.out)⟩⟩
  rw[if_neg c8] at H
  have c8b0:decide ((ji7)<0)=false:=decide_eq_false c8
  clear c8
  (first|rw[c8b0]|(simp only[i64_w,i32_w];rw[c8b0])|skip)
  obtain⟨ji10,hji10⟩: ∃ j_:Int,(mx a1_0 a1_1)=j_:=⟨_,rfl⟩
  replace H:(netfmt_arc.j0 k (decide ((ji10)≥a0)) a1_0 a1_1 a1_2 a1_3)=some r:=by first|(rw[hji10] at H;exact H)|(simp only[hji10] at H ⊢;exact H)
  have hji10_:(if a1_0<a1_1 then a1_1 else a1_0)=ji10:=hji10
  have H':=Aside0.mk H
  clear H
  have hcz11_0:w4.cell? ⟨gb178,0,none⟩=some (.int .i64 a1_0):=(blk_cell BK178.out 0).trans rfl
  have hcz11_1:w4.cell? ⟨gb178,1,none⟩=some (.int .i64 a1_1):=(blk_cell BK178.out 1).trans rfl
  have hcz11_2:w4.cell? ⟨gb178,2,none⟩=some (.int .i64 a1_2):=(blk_cell BK178.out 2).trans rfl
  have hcz11_3:w4.cell? ⟨gb178,3,none⟩=some (.int .i64 a1_3):=(blk_cell BK178.out 3).trans rfl
  have hfz11_0:=blk_frozen BK178.out 0
  have hfz11_1:=blk_frozen BK178.out 1
  have hfz11_2:=blk_frozen BK178.out 2
  have hfz11_3:=blk_frozen BK178.out 3
  go_wp2
  go_meet
  case rel=>exact⟨_,(decide ((ji10)≥a0)),(by first|rfl|(simp;done)|(simp only[← hji10]<;>(first|rfl|simp))|(simp[*];done)),H',⟨by first|omega|exact Nat.le_refl _⟩,⟨by(with_reducible repeat(first|refine blk_drewN ?_ _|refine blk_drew ?_|refine blk_alloc ?_ _));exact BK178.out⟩,⟨by repeat(first|(with_reducible first|exact HB.out|apply below_alloc|apply pw_below_drewN|apply below_drew1|refine below_set ?_ GE178.out)|exact HB.out)⟩⟩
 case rest=>
  clear HC3
  try clear c1
  try clear p2
  try clear c8
  try clear c8b0
  try clear hcz11_0
  try clear hcz11_1
  try clear hcz11_2
  try clear hcz11_3
  try clear hcz9_0
  try clear hcz9_1
  try clear hcz9_2
  try clear hcz9_3
  try clear hfz11_0
  try clear hfz11_1
  try clear hfz11_2
  try clear hfz11_3
  try clear hfz9_0
  try clear hfz9_1
  try clear hfz9_2
  try clear hfz9_3
  obtain⟨kq,x5_2,rfl,HA,HJ2,BK178,HB⟩:=hcut
  cases kq with
  |zero=>exact absurd HA.out (by simp[netfmt_arc.j0])
  |succ kj2=>
   have H:=HA.out
   clear HA
   simp only[netfmt_arc.j0] at H
   by_cases c12:x5_2=true
   ·subst c12
    have H1:(some 51)=some r:=by first|(rw[if_pos rfl] at H;exact H)|(rw[if_pos trivial] at H;exact H)
    clear H
    have H:=H1
    clear H1
    obtain rfl:=Option.some.inj H
    go_wp2
    go_ret
    exact⟨by first|rfl|(simp[errW_none,errW_some]<;>rfl)|(simp[*,errW_none,errW_some]<;>rfl),by repeat(first|(with_reducible first|exact HB.out|apply below_alloc|apply pw_below_drewN|apply below_drew1|refine below_set ?_ GE178.out)|exact HB.out)⟩
   replace c12:=Bool.eq_false_iff.mpr c12
   subst c12
   have H1:(if a1_2>1048576 then(some 2) else(if a1_3>1048576 then(some 2) else(some 0)))=some r:=by rw[if_neg (show ¬ (false=true) by decide)] at H;exact H
   clear H
   have H:=H1
   clear H1
   by_cases c13:a1_2>1048576
   ·rw[if_pos c13] at H
    have c13b0:decide (1048576<a1_2)=true:=decide_eq_true c13
    clear c13
    obtain rfl:=Option.some.inj H
    have hcz14_0:wc.cell? ⟨gb178,0,none⟩=some (.int .i64 a1_0):=(blk_cell BK178.out 0).trans rfl
    have hcz14_1:wc.cell? ⟨gb178,1,none⟩=some (.int .i64 a1_1):=(blk_cell BK178.out 1).trans rfl
    have hcz14_2:wc.cell? ⟨gb178,2,none⟩=some (.int .i64 a1_2):=(blk_cell BK178.out 2).trans rfl
    have hcz14_3:wc.cell? ⟨gb178,3,none⟩=some (.int .i64 a1_3):=(blk_cell BK178.out 3).trans rfl
    have hfz14_0:=blk_frozen BK178.out 0
    have hfz14_1:=blk_frozen BK178.out 1
    have hfz14_2:=blk_frozen BK178.out 2
    have hfz14_3:=blk_frozen BK178.out 3
    go_wp2
    go_ret
    exact⟨by first|rfl|(simp[errW_none,errW_some]<;>rfl)|(simp[*,errW_none,errW_some]<;>rfl),by repeat(first|(with_reducible first|exact HB.out|apply below_alloc|apply pw_below_drewN|apply below_drew1|refine below_set ?_ GE178.out)|exact HB.out)⟩
   rw[if_neg c13] at H
   have c13b0:decide (1048576<a1_2)=false:=decide_eq_false c13
   clear c13
   by_cases c15:a1_3>1048576
   rotate_left
   ·rw[if_neg c15] at H
    have c15b0:decide (1048576<a1_3)=false:=decide_eq_false c15
    clear c15
    obtain rfl:=Option.some.inj H
    have hcz17_0:wc.cell? ⟨gb178,0,none⟩=some (.int .i64 a1_0):=(blk_cell BK178.out 0).trans rfl
    have hcz17_1:wc.cell? ⟨gb178,1,none⟩=some (.int .i64 a1_1):=(blk_cell BK178.out 1).trans rfl
    have hcz17_2:wc.cell? ⟨gb178,2,none⟩=some (.int .i64 a1_2):=(blk_cell BK178.out 2).trans rfl
    have hcz17_3:wc.cell? ⟨gb178,3,none⟩=some (.int .i64 a1_3):=(blk_cell BK178.out 3).trans rfl
    have hfz17_0:=blk_frozen BK178.out 0
    have hfz17_1:=blk_frozen BK178.out 1
    have hfz17_2:=blk_frozen BK178.out 2
    have hfz17_3:=blk_frozen BK178.out 3
    go_wp2
    go_ret
    exact⟨by first|rfl|(simp[errW_none,errW_some]<;>rfl)|(simp[*,errW_none,errW_some]<;>rfl),by repeat(first|(with_reducible first|exact HB.out|apply below_alloc|apply pw_below_drewN|apply below_drew1|refine below_set ?_ GE178.out)|exact HB.out)⟩
   rw[if_pos c15] at H
   have c15b0:decide (1048576<a1_3)=true:=decide_eq_true c15
   clear c15
   obtain rfl:=Option.some.inj H
   have hcz16_0:wc.cell? ⟨gb178,0,none⟩=some (.int .i64 a1_0):=(blk_cell BK178.out 0).trans rfl
   have hcz16_1:wc.cell? ⟨gb178,1,none⟩=some (.int .i64 a1_1):=(blk_cell BK178.out 1).trans rfl
   have hcz16_2:wc.cell? ⟨gb178,2,none⟩=some (.int .i64 a1_2):=(blk_cell BK178.out 2).trans rfl
   have hcz16_3:wc.cell? ⟨gb178,3,none⟩=some (.int .i64 a1_3):=(blk_cell BK178.out 3).trans rfl
   have hfz16_0:=blk_frozen BK178.out 0
   have hfz16_1:=blk_frozen BK178.out 1
   have hfz16_2:=blk_frozen BK178.out 2
   have hfz16_3:=blk_frozen BK178.out 3
   go_wp2
   go_ret
   exact⟨by first|rfl|(simp[errW_none,errW_some]<;>rfl)|(simp[*,errW_none,errW_some]<;>rfl),by repeat(first|(with_reducible first|exact HB.out|apply below_alloc|apply pw_below_drewN|apply below_drew1|refine below_set ?_ GE178.out)|exact HB.out)⟩
end Go.Proofs.Ytkcpanpdipmmmaa.P
namespace Go.Proofs.Ytkcpanpdipmmmaa.P
open Go.RowKit Go.Proofs.YtkcpanpdipmmmaaW.PrintWords Go.Proofs.YtkcpanpdipmmmaaW.PrintLast Go.Proofs.YtkcpanpdipmmmaaW.PrintMore
attribute [local go_sem] max2_int min2_int max_two min_two max_three min_three max_four min_four
def netfmt_Check.l0:Nat→List (S74)→Int→Int→Int→Bool→List (S74)→Option (Int)
 |0,_,_,_,_,_,_=>none
 |k+1,x18,x19,x20,x180000,x180001,x180002=>if x20<x19 then(if 0≤x20 then(if x20<(x18.length:Int) then((netfmt_arc.f k x180000 ((rd_T74 x18 x20).f0) ((rd_T74 x18 x20).f1) ((rd_T74 x18 x20).f2) ((rd_T74 x18 x20).f3)).bind fun t183=>(if t183=0 then(netfmt_Check.l0 k x18 x19 (wrap64 (x20+1)) x180000 x180001 x180002) else(some t183))) else(none)) else(none)) else(some 0)
def netfmt_Check.f (k:Nat) (a0_0:Int) (a0_1:Bool) (l0_2:List (S74)):Option (Int):=(netfmt_nodes.f a0_0).bind fun t180=>(if t180=0 then(if (l0_2.length:Int)>200 then(some 2) else(netfmt_Check.l0 k l0_2 (l0_2.length:Int) 0 a0_0 a0_1 l0_2)) else(some t180))
set_option maxHeartbeats 8000000 in
set_option maxRecDepth 100000 in
theorem netfmt_Check.calls (k:Nat) (a0_0:Int) (a0_1:Bool) (A0_2:Option Addr) (c0_2:Nat) (l0_2:List (S74)) (r:Int) (w:World) (hr0_2:Kd.C k74 w A0_2 l0_2.length l0_2) (hc0_2:l0_2.length≤c0_2) (h:netfmt_Check.f k a0_0 a0_1 l0_2=some r):
  Calls Try.prog 127 #[.agg #[.int .i64 a0_0, .bool a0_1, .slice A0_2 l0_2.length c0_2]] w fun e w'=>e= .returned (.int .i64 r)∧Below w.heap.size w w':=by
 have hu24:=Try.underlying24
 have hu74:=Try.underlying74
 have HR0_2:=Aside0.mk hr0_2
 have HC0_2:=Aside0.mk hc0_2
 clear hr0_2 hc0_2
 have HB:=Aside0.mk (Below.refl w.heap.size w)
 have H:((netfmt_nodes.f a0_0).bind fun t180=>(if t180=0 then(if (l0_2.length:Int)>200 then(some 2) else(netfmt_Check.l0 k l0_2 (l0_2.length:Int) 0 a0_0 a0_1 l0_2)) else(some t180)))=some r:=h
 clear h
 replace H:=Option.bind_eq_some_iff.mp H
 obtain⟨t180,A20,H⟩:=H
 replace H:(if t180=0 then(if (l0_2.length:Int)>200 then(some 2) else(netfmt_Check.l0 k l0_2 (l0_2.length:Int) 0 a0_0 a0_1 l0_2)) else(some t180))=some r:=H
 have A2:=Aside0.mk A20
 clear A20
 by_cases c3:t180=0
 rotate_left
 ·rw[if_neg c3] at H
  have c3b0:(t180 == 0)=false:=beq_eq_false_iff_ne.mpr c3
  have c3b1:(t180 != 0)=true:=bne_iff_ne.mpr c3
  obtain rfl:=Option.some.inj H
  go_enter Try.func127,Try.ntmps127
  go_wp2_with (first|((with_reducible refine gate_dst (N:=1) rfl ?_);refine box_event ?hg (N:=1) ?hd (cs:= #[.int .i64 a0_0, .bool a0_1, .slice A0_2 l0_2.length c0_2]) (t:=24) ?hr ?_;(case hd=>rfl);(case hg=>rfl);(case hr=>first|(go_simp;done)|(go_simp;rfl));intro gb179 hg w24 hbox hb;have n0_:=Aside0.mk (below_step HB.out hb);have n1_:=Aside0.mk (hbox);have n2_:=Aside0.mk ((by rw[hg];exact(below_size HB.out):w.heap.size≤gb179));have n3_:=Aside0.mk ((by rw[hg];exact(below_size HB.out):w.heap.size≤gb179));clear HB;have HB:=n0_;have BK179:=n1_;have GW179:=n2_;have GE179:=n3_;clear n0_ n1_ n2_ n3_;clear hb hbox hg;have hcz25_0:w24.cell? ⟨gb179,0,none⟩=some (.int .i64 a0_0):=(blk_cell BK179.out 0).trans rfl;have hcz25_1:w24.cell? ⟨gb179,1,none⟩=some (.bool a0_1):=(blk_cell BK179.out 1).trans rfl;have hcz25_2:w24.cell? ⟨gb179,2,none⟩=some (.slice A0_2 l0_2.length c0_2):=(blk_cell BK179.out 2).trans rfl;have hfz25_0:=blk_frozen BK179.out 0;have hfz25_1:=blk_frozen BK179.out 1;have hfz25_2:=blk_frozen BK179.out 2)|((with_reducible refine gate_callee (f:=156) rfl ?_);refine goesL_ (some 9) rfl rfl Try.func156 (by kernel_rfl) rfl #[.int .i64 a0_0] rfl (by(try simp only[List.map_toArray,List.map_cons,List.map_nil]);first|done|rfl|(simp only[List.length_drop,List.length_take];rfl)) ?_;(with_reducible refine(netfmt_nodes.calls a0_0 t180 _ A2.out).mono ?_);rintro e w' ⟨rfl,⟨nd,rfl⟩⟩;refine⟨_,rfl,?_⟩))
  go_ret
  exact⟨by first|rfl|(simp[errW_none,errW_some]<;>rfl)|(simp[*,errW_none,errW_some]<;>rfl),by repeat(first|(with_reducible first|exact HB.out|apply below_alloc|apply pw_below_drewN|apply below_drew1|refine below_set ?_ GE179.out)|exact HB.out)⟩
 rw[if_pos c3] at H
 have c3b0:(t180 == 0)=true:=beq_iff_eq.mpr c3
 have c3b1:(t180 != 0)=false:=bne_eq_false_iff_eq.mpr c3
 clear c3
 by_cases c4:(l0_2.length:Int)>200
 ·rw[if_pos c4] at H
  have c4b0:decide (200<(l0_2.length:Int))=true:=decide_eq_true c4
  have c4b1:decide (200<l0_2.length)=true:=decide_eq_true (by omega)
  clear c4
  obtain rfl:=Option.some.inj H
  go_enter Try.func127,Try.ntmps127
  go_wp2_with (first|((with_reducible refine gate_dst (N:=1) rfl ?_);refine box_event ?hg (N:=1) ?hd (cs:= #[.int .i64 a0_0, .bool a0_1, .slice A0_2 l0_2.length c0_2]) (t:=24) ?hr ?_;(case hd=>rfl);(case hg=>rfl);(case hr=>first|(go_simp;done)|(go_simp;rfl));intro gb179 hg w5 hbox hb;have n0_:=Aside0.mk (below_step HB.out hb);have n1_:=Aside0.mk (hbox);have n2_:=Aside0.mk ((by rw[hg];exact(below_size HB.out):w.heap.size≤gb179));have n3_:=Aside0.mk ((by rw[hg];exact(below_size HB.out):w.heap.size≤gb179));clear HB;have HB:=n0_;have BK179:=n1_;have GW179:=n2_;have GE179:=n3_;clear n0_ n1_ n2_ n3_;clear hb hbox hg;have hcz6_0:w5.cell? ⟨gb179,0,none⟩=some (.int .i64 a0_0):=(blk_cell BK179.out 0).trans rfl;have hcz6_1:w5.cell? ⟨gb179,1,none⟩=some (.bool a0_1):=(blk_cell BK179.out 1).trans rfl;have hcz6_2:w5.cell? ⟨gb179,2,none⟩=some (.slice A0_2 l0_2.length c0_2):=(blk_cell BK179.out 2).trans rfl;have hfz6_0:=blk_frozen BK179.out 0;have hfz6_1:=blk_frozen BK179.out 1;have hfz6_2:=blk_frozen BK179.out 2)|((with_reducible refine gate_callee (f:=156) rfl ?_);refine goesL_ (some 9) rfl rfl Try.func156 (by kernel_rfl) rfl #[.int .i64 a0_0] rfl (by(try simp only[List.map_toArray,List.map_cons,List.map_nil]);first|done|rfl|(simp only[List.length_drop,List.length_take];rfl)) ?_;(with_reducible refine(netfmt_nodes.calls a0_0 t180 _ A2.out).mono ?_);rintro e w' ⟨rfl,⟨nd,rfl⟩⟩;refine⟨_,rfl,?_⟩))
  go_ret
  exact⟨by first|rfl|(simp[errW_none,errW_some]<;>rfl)|(simp[*,errW_none,errW_some]<;>rfl),by repeat(first|(with_reducible first|exact HB.out|apply below_alloc|apply pw_below_drewN|apply below_drew1|refine below_set ?_ GE179.out)|exact HB.out)⟩
 rw[if_neg c4] at H
 have c4b0:decide (200<(l0_2.length:Int))=false:=decide_eq_false c4
 have c4b1:decide (200<l0_2.length)=false:=decide_eq_false (by omega)
 clear c4
 have H':=Aside0.mk H
 clear H
 go_enter Try.func127,Try.ntmps127
 go_wp2_with (first|((with_reducible refine gate_dst (N:=1) rfl ?_);refine box_event ?hg (N:=1) ?hd (cs:= #[.int .i64 a0_0, .bool a0_1, .slice A0_2 l0_2.length c0_2]) (t:=24) ?hr ?_;(case hd=>rfl);(case hg=>rfl);(case hr=>first|(go_simp;done)|(go_simp;rfl));intro gb179 hg w7 hbox hb;have n0_:=Aside0.mk (below_step HB.out hb);have n1_:=Aside0.mk (hbox);have n2_:=Aside0.mk ((by rw[hg];exact(below_size HB.out):w.heap.size≤gb179));have n3_:=Aside0.mk ((by rw[hg];exact(below_size HB.out):w.heap.size≤gb179));clear HB;have HB:=n0_;have BK179:=n1_;have GW179:=n2_;have GE179:=n3_;clear n0_ n1_ n2_ n3_;clear hb hbox hg;have hcz8_0:w7.cell? ⟨gb179,0,none⟩=some (.int .i64 a0_0):=(blk_cell BK179.out 0).trans rfl;have hcz8_1:w7.cell? ⟨gb179,1,none⟩=some (.bool a0_1):=(blk_cell BK179.out 1).trans rfl;have hcz8_2:w7.cell? ⟨gb179,2,none⟩=some (.slice A0_2 l0_2.length c0_2):=(blk_cell BK179.out 2).trans rfl;have hfz8_0:=blk_frozen BK179.out 0;have hfz8_1:=blk_frozen BK179.out 1;have hfz8_2:=blk_frozen BK179.out 2)|((with_reducible refine gate_callee (f:=156) rfl ?_);refine goesL_ (some 9) rfl rfl Try.func156 (by kernel_rfl) rfl #[.int .i64 a0_0] rfl (by(try simp only[List.map_toArray,List.map_cons,List.map_nil]);first|done|rfl|(simp only[List.length_drop,List.length_take];rfl)) ?_;(with_reducible refine(netfmt_nodes.calls a0_0 t180 _ A2.out).mono ?_);rintro e w' ⟨rfl,⟨nd,rfl⟩⟩;refine⟨_,rfl,?_⟩))
 go_loopg [20] k (fun kq v20 w'=> ∃ (x20_1:Int),v20= .int .i64 x20_1∧Aside0 (netfmt_Check.l0 kq l0_2 (l0_2.length:Int) x20_1 a0_0 a0_1 l0_2=some r)∧Aside0 (kq≤k)∧Aside0 (w'.heap[gb179]? =some (.cells #[.int .i64 a0_0, .bool a0_1,(.slice A0_2 l0_2.length c0_2)] 24 (0,0)))∧Aside0 (Below w.heap.size w w'))
 case atStart=>exact⟨(0),(by first|rfl|(simp;done)|(simp[*];done)),H',⟨Nat.le_refl _⟩,⟨by(with_reducible repeat(first|refine blk_drewN ?_ _|refine blk_drew ?_|refine blk_alloc ?_ _));exact BK179.out⟩,⟨by repeat(first|(with_reducible first|exact HB.out|apply below_alloc|apply pw_below_drewN|apply below_drew1|refine below_set ?_ GE179.out)|exact HB.out)⟩⟩
 case round=>
  clear H'
  try clear c1
  try clear p2
  try clear c3
  try clear c3b0
  try clear c3b1
  try clear c4
  try clear c4b0
  try clear c4b1
  try clear hcz6_0
  try clear hcz6_1
  try clear hcz6_2
  try clear hcz8_0
  try clear hcz8_1
  try clear hcz8_2
  try clear hfz6_0
  try clear hfz6_1
  try clear hfz6_2
  try clear hfz8_0
  try clear hfz8_1
  try clear hfz8_2
  obtain⟨x20_1,rfl,HA,HK1,BK179,HB⟩:=hrel
  cases gk with
  |zero=>exact absurd HA.out (by simp[netfmt_Check.l0])
  |succ k1=>
   have H:=HA.out
   clear HA
   simp only[netfmt_Check.l0] at H
   by_cases c9:x20_1<(l0_2.length:Int)
   rotate_left
   ·rw[if_neg c9] at H
    have c9b0:decide (x20_1<(l0_2.length:Int))=false:=decide_eq_false c9
    clear c9
    obtain rfl:=Option.some.inj H
    go_wp2
    go_ret
    exact⟨by first|rfl|(simp[errW_none,errW_some]<;>rfl)|(simp[*,errW_none,errW_some]<;>rfl),HB.out⟩
   rw[if_pos c9] at H
   have c9b0:decide (x20_1<(l0_2.length:Int))=true:=decide_eq_true c9
   clear c9
   by_cases c10:0≤x20_1
   rotate_left
   ·rw[if_neg c10] at H
    exact absurd H (by simp)
   rw[if_pos c10] at H
   have c10b0:decide (0≤x20_1)=true:=decide_eq_true c10
   clear c10
   by_cases c11:x20_1<(l0_2.length:Int)
   rotate_left
   ·rw[if_neg c11] at H
    exact absurd H (by simp)
   rw[if_pos c11] at H
   have c11b0:decide (x20_1<(l0_2.length:Int))=true:=decide_eq_true c11
   clear c11
   replace H:=Option.bind_eq_some_iff.mp H
   obtain⟨t183,A120,H⟩:=H
   replace H:(if t183=0 then(netfmt_Check.l0 k1 l0_2 (l0_2.length:Int) (wrap64 (x20_1+1)) a0_0 a0_1 l0_2) else(some t183))=some r:=H
   have A12:=Aside0.mk A120
   clear A120
   by_cases c13:t183=0
   rotate_left
   ·rw[if_neg c13] at H
    have c13b0:(t183 == 0)=false:=beq_eq_false_iff_ne.mpr c13
    have c13b1:(t183 != 0)=true:=bne_iff_ne.mpr c13
    obtain rfl:=Option.some.inj H
    have p181:0≤(x20_1:Int):=of_decide_eq_true (by first|(with_reducible assumption)|assumption)
    have q181:x20_1<(l0_2.length:Int):=of_decide_eq_true (by first|(with_reducible assumption)|assumption)
    obtain⟨ad181,e181,hx181_0,hx181_1,hx181_2,hx181_3⟩:=at_T74 HR0_2.out x20_1 p181 q181
    cases e181
    replace hx181_0:=(HB.out.cell (World.block_lt_of_cell? w _ hx181_0)).trans hx181_0
    replace hx181_1:=(HB.out.cell (World.block_lt_of_cell? w _ hx181_1)).trans hx181_1
    replace hx181_2:=(HB.out.cell (World.block_lt_of_cell? w _ hx181_2)).trans hx181_2
    replace hx181_3:=(HB.out.cell (World.block_lt_of_cell? w _ hx181_3)).trans hx181_3
    replace p181:=eq_true p181
    replace q181:=eq_true q181
    go_wp2_with (first|((with_reducible refine gate_dst (N:=5) rfl ?_);refine box_event ?hg (N:=5) ?hd (cs:= #[.int .i64 0, .int .i64 0, .int .i64 0, .int .i64 0]) (t:=74) ?hr ?_;(case hd=>rfl);(case hg=>rfl);(case hr=>first|(go_simp;done)|(go_simp;rfl));intro gb182 hg w19 hbox hb;have n0_:=Aside0.mk (blk_below (g:=gb179) (o:= .cells #[.int .i64 a0_0, .bool a0_1, .slice (some ad181) l0_2.length c0_2] 24 (0,0)) (by(with_reducible repeat(first|refine blk_drewN ?_ _|refine blk_drew ?_|refine blk_alloc ?_ _));exact BK179.out) hb);have n1_:=Aside0.mk (below_step (by repeat(first|(with_reducible first|exact HB.out|apply below_alloc|apply pw_below_drewN|apply below_drew1|refine below_set ?_ GE179.out)|exact HB.out)) hb);have n2_:=Aside0.mk (hbox);have n3_:=Aside0.mk ((by rw[hg];exact(below_size (by repeat(first|(with_reducible first|exact HB.out|apply below_alloc|apply pw_below_drewN|apply below_drew1|refine below_set ?_ GE179.out)|exact HB.out))):w.heap.size≤gb182));have n4_:=Aside0.mk ((by rw[hg];exact(below_size (by repeat(first|(with_reducible first|exact HB.out|apply below_alloc|apply pw_below_drewN|apply below_drew1|refine below_set ?_ GE179.out)|exact HB.out))):w.heap.size≤gb182));have n5_:=Aside0.mk ((by rw[hg];exact Nat.ne_of_lt (blk_lt (g:=gb179) (o:= .cells #[.int .i64 a0_0, .bool a0_1, .slice (some ad181) l0_2.length c0_2] 24 (0,0)) (by(with_reducible repeat(first|refine blk_drewN ?_ _|refine blk_drew ?_|refine blk_alloc ?_ _));exact BK179.out)):gb179≠gb182));have n6_:=Aside0.mk ((by rw[hg];exact Nat.ne_of_gt (blk_lt (g:=gb179) (o:= .cells #[.int .i64 a0_0, .bool a0_1, .slice (some ad181) l0_2.length c0_2] 24 (0,0)) (by(with_reducible repeat(first|refine blk_drewN ?_ _|refine blk_drew ?_|refine blk_alloc ?_ _));exact BK179.out)):gb182≠gb179));clear BK179;clear HB;have BK179:=n0_;have HB:=n1_;have BK182:=n2_;have GW182:=n3_;have GE182:=n4_;have NB179_182:=n5_;have NB182_179:=n6_;clear n0_ n1_ n2_ n3_ n4_ n5_ n6_;clear hb hbox hg;have hnb20:=NB182_179.out;have hnc20:=NB179_182.out;have hcz21_0:w19.cell? ⟨gb182,0,none⟩=some (.int .i64 0):=(blk_cell BK182.out 0).trans rfl;have hcz21_1:w19.cell? ⟨gb182,1,none⟩=some (.int .i64 0):=(blk_cell BK182.out 1).trans rfl;have hcz21_2:w19.cell? ⟨gb182,2,none⟩=some (.int .i64 0):=(blk_cell BK182.out 2).trans rfl;have hcz21_3:w19.cell? ⟨gb182,3,none⟩=some (.int .i64 0):=(blk_cell BK182.out 3).trans rfl;have hfz21_0:=blk_frozen BK182.out 0;have hfz21_1:=blk_frozen BK182.out 1;have hfz21_2:=blk_frozen BK182.out 2;have hfz21_3:=blk_frozen BK182.out 3;have hcz22_0:w19.cell? ⟨gb179,0,none⟩=some (.int .i64 a0_0):=(blk_cell BK179.out 0).trans rfl;have hcz22_1:w19.cell? ⟨gb179,1,none⟩=some (.bool a0_1):=(blk_cell BK179.out 1).trans rfl;have hcz22_2:w19.cell? ⟨gb179,2,none⟩=some (.slice (some ad181) l0_2.length c0_2):=(blk_cell BK179.out 2).trans rfl;have hfz22_0:=blk_frozen BK179.out 0;have hfz22_1:=blk_frozen BK179.out 1;have hfz22_2:=blk_frozen BK179.out 2)|((with_reducible refine gate_callee (f:=157) rfl ?_);refine goesL_ (some 27) rfl rfl Try.func157 (by kernel_rfl) rfl #[.int .i64 a0_0, .agg #[.int .i64 ((rd_T74 l0_2 x20_1).f0), .int .i64 ((rd_T74 l0_2 x20_1).f1), .int .i64 ((rd_T74 l0_2 x20_1).f2), .int .i64 ((rd_T74 l0_2 x20_1).f3)]] rfl (by(try simp only[List.map_toArray,List.map_cons,List.map_nil]);first|done|rfl|(simp only[List.length_drop,List.length_take];rfl)) ?_;(with_reducible refine(netfmt_arc.calls k1 a0_0 ((rd_T74 l0_2 x20_1).f0) ((rd_T74 l0_2 x20_1).f1) ((rd_T74 l0_2 x20_1).f2) ((rd_T74 l0_2 x20_1).f3) t183 _ A12.out).mono ?_);rintro e w23 ⟨rfl,hb⟩;refine⟨_,rfl,?_⟩;have n0_:=Aside0.mk (blk_below (g:=gb179) (o:= .cells #[.int .i64 a0_0, .bool a0_1, .slice (some ad181) l0_2.length c0_2] 24 (0,0)) (by(with_reducible repeat(first|refine blk_drewN ?_ _|refine blk_drew ?_|refine blk_alloc ?_ _));refine blk_far ?_ NB179_182.out _;(with_reducible repeat(first|refine blk_drewN ?_ _|refine blk_drew ?_|refine blk_alloc ?_ _));refine blk_far ?_ NB179_182.out _;(with_reducible repeat(first|refine blk_drewN ?_ _|refine blk_drew ?_|refine blk_alloc ?_ _));refine blk_far ?_ NB179_182.out _;(with_reducible repeat(first|refine blk_drewN ?_ _|refine blk_drew ?_|refine blk_alloc ?_ _));refine blk_far ?_ NB179_182.out _;(with_reducible repeat(first|refine blk_drewN ?_ _|refine blk_drew ?_|refine blk_alloc ?_ _));exact BK179.out) hb);have n1_:=Aside0.mk (blk_below (g:=gb182) (o:= .cells #[.int .i64 ((rd_T74 l0_2 x20_1).f0), .int .i64 ((rd_T74 l0_2 x20_1).f1), .int .i64 ((rd_T74 l0_2 x20_1).f2), .int .i64 ((rd_T74 l0_2 x20_1).f3)] 74 (0,0)) (by(with_reducible repeat(first|refine blk_drewN ?_ _|refine blk_drew ?_|refine blk_alloc ?_ _));refine blk_put (cs:= #[.int .i64 ((rd_T74 l0_2 x20_1).f0), .int .i64 ((rd_T74 l0_2 x20_1).f1), .int .i64 ((rd_T74 l0_2 x20_1).f2), .int .i64 0]) ?_ 3 _ rfl;(with_reducible repeat(first|refine blk_drewN ?_ _|refine blk_drew ?_|refine blk_alloc ?_ _));refine blk_put (cs:= #[.int .i64 ((rd_T74 l0_2 x20_1).f0), .int .i64 ((rd_T74 l0_2 x20_1).f1), .int .i64 0, .int .i64 0]) ?_ 2 _ rfl;(with_reducible repeat(first|refine blk_drewN ?_ _|refine blk_drew ?_|refine blk_alloc ?_ _));refine blk_put (cs:= #[.int .i64 ((rd_T74 l0_2 x20_1).f0), .int .i64 0, .int .i64 0, .int .i64 0]) ?_ 1 _ rfl;(with_reducible repeat(first|refine blk_drewN ?_ _|refine blk_drew ?_|refine blk_alloc ?_ _));refine blk_put (cs:= #[.int .i64 0, .int .i64 0, .int .i64 0, .int .i64 0]) ?_ 0 _ rfl;(with_reducible repeat(first|refine blk_drewN ?_ _|refine blk_drew ?_|refine blk_alloc ?_ _));exact BK182.out) hb);have n2_:=Aside0.mk (below_step (by repeat(first|(with_reducible first|exact HB.out|apply below_alloc|apply pw_below_drewN|apply below_drew1|refine below_set ?_ GE179.out|refine below_set ?_ GE182.out)|exact HB.out)) hb);clear BK179;clear BK182;clear HB;have BK179:=n0_;have BK182:=n1_;have HB:=n2_;clear n0_ n1_ n2_;(try clear hb);(try clear hb2);(try clear hk);(try clear hi)))
    go_ret
    exact⟨by first|rfl|(simp[errW_none,errW_some]<;>rfl)|(simp[*,errW_none,errW_some]<;>rfl),HB.out⟩
   rw[if_pos c13] at H
   have c13b0:(t183 == 0)=true:=beq_iff_eq.mpr c13
   have c13b1:(t183 != 0)=false:=bne_eq_false_iff_eq.mpr c13
   clear c13
   have H':=Aside0.mk H
   clear H
   have p181:0≤(x20_1:Int):=of_decide_eq_true (by first|(with_reducible assumption)|assumption)
   have q181:x20_1<(l0_2.length:Int):=of_decide_eq_true (by first|(with_reducible assumption)|assumption)
   obtain⟨ad181,e181,hx181_0,hx181_1,hx181_2,hx181_3⟩:=at_T74 HR0_2.out x20_1 p181 q181
   cases e181
   replace hx181_0:=(HB.out.cell (World.block_lt_of_cell? w _ hx181_0)).trans hx181_0
   replace hx181_1:=(HB.out.cell (World.block_lt_of_cell? w _ hx181_1)).trans hx181_1
   replace hx181_2:=(HB.out.cell (World.block_lt_of_cell? w _ hx181_2)).trans hx181_2
   replace hx181_3:=(HB.out.cell (World.block_lt_of_cell? w _ hx181_3)).trans hx181_3
   replace p181:=eq_true p181
   replace q181:=eq_true q181
   go_wp2_with (first|((with_reducible refine gate_dst (N:=5) rfl ?_);refine box_event ?hg (N:=5) ?hd (cs:= #[.int .i64 0, .int .i64 0, .int .i64 0, .int .i64 0]) (t:=74) ?hr ?_;(case hd=>rfl);(case hg=>rfl);(case hr=>first|(go_simp;done)|(go_simp;rfl));intro gb182 hg w14 hbox hb;have n0_:=Aside0.mk (blk_below (g:=gb179) (o:= .cells #[.int .i64 a0_0, .bool a0_1, .slice (some ad181) l0_2.length c0_2] 24 (0,0)) (by(with_reducible repeat(first|refine blk_drewN ?_ _|refine blk_drew ?_|refine blk_alloc ?_ _));exact BK179.out) hb);have n1_:=Aside0.mk (below_step (by repeat(first|(with_reducible first|exact HB.out|apply below_alloc|apply pw_below_drewN|apply below_drew1|refine below_set ?_ GE179.out)|exact HB.out)) hb);have n2_:=Aside0.mk (hbox);have n3_:=Aside0.mk ((by rw[hg];exact(below_size (by repeat(first|(with_reducible first|exact HB.out|apply below_alloc|apply pw_below_drewN|apply below_drew1|refine below_set ?_ GE179.out)|exact HB.out))):w.heap.size≤gb182));have n4_:=Aside0.mk ((by rw[hg];exact(below_size (by repeat(first|(with_reducible first|exact HB.out|apply below_alloc|apply pw_below_drewN|apply below_drew1|refine below_set ?_ GE179.out)|exact HB.out))):w.heap.size≤gb182));have n5_:=Aside0.mk ((by rw[hg];exact Nat.ne_of_lt (blk_lt (g:=gb179) (o:= .cells #[.int .i64 a0_0, .bool a0_1, .slice (some ad181) l0_2.length c0_2] 24 (0,0)) (by(with_reducible repeat(first|refine blk_drewN ?_ _|refine blk_drew ?_|refine blk_alloc ?_ _));exact BK179.out)):gb179≠gb182));have n6_:=Aside0.mk ((by rw[hg];exact Nat.ne_of_gt (blk_lt (g:=gb179) (o:= .cells #[.int .i64 a0_0, .bool a0_1, .slice (some ad181) l0_2.length c0_2] 24 (0,0)) (by(with_reducible repeat(first|refine blk_drewN ?_ _|refine blk_drew ?_|refine blk_alloc ?_ _));exact BK179.out)):gb182≠gb179));clear BK179;clear HB;have BK179:=n0_;have HB:=n1_;have BK182:=n2_;have GW182:=n3_;have GE182:=n4_;have NB179_182:=n5_;have NB182_179:=n6_;clear n0_ n1_ n2_ n3_ n4_ n5_ n6_;clear hb hbox hg;have hnb15:=NB182_179.out;have hnc15:=NB179_182.out;have hcz16_0:w14.cell? ⟨gb182,0,none⟩=some (.int .i64 0):=(blk_cell BK182.out 0).trans rfl;have hcz16_1:w14.cell? ⟨gb182,1,none⟩=some (.int .i64 0):=(blk_cell BK182.out 1).trans rfl;have hcz16_2:w14.cell? ⟨gb182,2,none⟩=some (.int .i64 0):=(blk_cell BK182.out 2).trans rfl;have hcz16_3:w14.cell? ⟨gb182,3,none⟩=some (.int .i64 0):=(blk_cell BK182.out 3).trans rfl;have hfz16_0:=blk_frozen BK182.out 0;have hfz16_1:=blk_frozen BK182.out 1;have hfz16_2:=blk_frozen BK182.out 2;have hfz16_3:=blk_frozen BK182.out 3;have hcz17_0:w14.cell? ⟨gb179,0,none⟩=some (.int .i64 a0_0):=(blk_cell BK179.out 0).trans rfl;have hcz17_1:w14.cell? ⟨gb179,1,none⟩=some (.bool a0_1):=(blk_cell BK179.out 1).trans rfl;have hcz17_2:w14.cell? ⟨gb179,2,none⟩=some (.slice (some ad181) l0_2.length c0_2):=(blk_cell BK179.out 2).trans rfl;have hfz17_0:=blk_frozen BK179.out 0;have hfz17_1:=blk_frozen BK179.out 1;have hfz17_2:=blk_frozen BK179.out 2)|((with_reducible refine gate_callee (f:=157) rfl ?_);refine goesL_ (some 27) rfl rfl Try.func157 (by kernel_rfl) rfl #[.int .i64 a0_0, .agg #[.int .i64 ((rd_T74 l0_2 x20_1).f0), .int .i64 ((rd_T74 l0_2 x20_1).f1), .int .i64 ((rd_T74 l0_2 x20_1).f2), .int .i64 ((rd_T74 l0_2 x20_1).f3)]] rfl (by(try simp only[List.map_toArray,List.map_cons,List.map_nil]);first|done|rfl|(simp only[List.length_drop,List.length_take];rfl)) ?_;(with_reducible refine(netfmt_arc.calls k1 a0_0 ((rd_T74 l0_2 x20_1).f0) ((rd_T74 l0_2 x20_1).f1) ((rd_T74 l0_2 x20_1).f2) ((rd_T74 l0_2 x20_1).f3) t183 _ A12.out).mono ?_);rintro e w18 ⟨rfl,hb⟩;refine⟨_,rfl,?_⟩;have n0_:=Aside0.mk (blk_below (g:=gb179) (o:= .cells #[.int .i64 a0_0, .bool a0_1, .slice (some ad181) l0_2.length c0_2] 24 (0,0)) (by(with_reducible repeat(first|refine blk_drewN ?_ _|refine blk_drew ?_|refine blk_alloc ?_ _));refine blk_far ?_ NB179_182.out _;(with_reducible repeat(first|refine blk_drewN ?_ _|refine blk_drew ?_|refine blk_alloc ?_ _));refine blk_far ?_ NB179_182.out _;(with_reducible repeat(first|refine blk_drewN ?_ _|refine blk_drew ?_|refine blk_alloc ?_ _));refine blk_far ?_ NB179_182.out _;(with_reducible repeat(first|refine blk_drewN ?_ _|refine blk_drew ?_|refine blk_alloc ?_ _));refine blk_far ?_ NB179_182.out _;(with_reducible repeat(first|refine blk_drewN ?_ _|refine blk_drew ?_|refine blk_alloc ?_ _));exact BK179.out) hb);have n1_:=Aside0.mk (blk_below (g:=gb182) (o:= .cells #[.int .i64 ((rd_T74 l0_2 x20_1).f0), .int .i64 ((rd_T74 l0_2 x20_1).f1), .int .i64 ((rd_T74 l0_2 x20_1).f2), .int .i64 ((rd_T74 l0_2 x20_1).f3)] 74 (0,0)) (by(with_reducible repeat(first|refine blk_drewN ?_ _|refine blk_drew ?_|refine blk_alloc ?_ _));refine blk_put (cs:= #[.int .i64 ((rd_T74 l0_2 x20_1).f0), .int .i64 ((rd_T74 l0_2 x20_1).f1), .int .i64 ((rd_T74 l0_2 x20_1).f2), .int .i64 0]) ?_ 3 _ rfl;(with_reducible repeat(first|refine blk_drewN ?_ _|refine blk_drew ?_|refine blk_alloc ?_ _));refine blk_put (cs:= #[.int .i64 ((rd_T74 l0_2 x20_1).f0), .int .i64 ((rd_T74 l0_2 x20_1).f1), .int .i64 0, .int .i64 0]) ?_ 2 _ rfl;(with_reducible repeat(first|refine blk_drewN ?_ _|refine blk_drew ?_|refine blk_alloc ?_ _));refine blk_put (cs:= #[.int .i64 ((rd_T74 l0_2 x20_1).f0), .int .i64 0, .int .i64 0, .int .i64 0]) ?_ 1 _ rfl;(with_reducible repeat(first|refine blk_drewN ?_ _|refine blk_drew ?_|refine blk_alloc ?_ _));refine blk_put (cs:= #[.int .i64 0, .int .i64 0, .int .i64 0, .int .i64 0]) ?_ 0 _ rfl;(with_reducible repeat(first|refine blk_drewN ?_ _|refine blk_drew ?_|refine blk_alloc ?_ _));exact BK182.out) hb);have n2_:=Aside0.mk (below_step (by repeat(first|(with_reducible first|exact HB.out|apply below_alloc|apply pw_below_drewN|apply below_drew1|refine below_set ?_ GE179.out|refine below_set ?_ GE182.out)|exact HB.out)) hb);clear BK179;clear BK182;clear HB;have BK179:=n0_;have BK182:=n1_;have HB:=n2_;clear n0_ n1_ n2_;(try clear hb);(try clear hb2);(try clear hk);(try clear hi)))
   go_roundg k1
   case measure=>have:=HK1.out;omega
   case rel=>exact⟨(wrap64 (x20_1+1)),(by first|rfl|(simp;done)|(simp[*];done)),H',⟨by have:=HK1.out;omega⟩,⟨BK179.out⟩,⟨HB.out⟩⟩
end Go.Proofs.Ytkcpanpdipmmmaa.P
namespace Go.Proofs.Ytkcpanpdipmmmaa.P
open Go.RowKit Go.Proofs.YtkcpanpdipmmmaaW.PrintWords Go.Proofs.YtkcpanpdipmmmaaW.PrintLast Go.Proofs.YtkcpanpdipmmmaaW.PrintMore
attribute [local go_sem] max2_int min2_int max_two min_two max_three min_three max_four min_four
def static_Ends.f (k:Nat) (a0_0:Int) (a0_1:Bool) (l0_2:List (S74)) (a1:Int) (a2:Int):Option (Int):=(netfmt_Check.f k a0_0 a0_1 l0_2).bind fun t491=>(if t491=0 then(if (mn a1 a2)<0 then(some 70) else(if (mx a1 a2)≥a0_0 then(some 70) else(if a1=a2 then(some 70) else(some 0)))) else(some t491))
set_option maxHeartbeats 8000000 in
set_option maxRecDepth 100000 in
theorem static_Ends.calls (k:Nat) (a0_0:Int) (a0_1:Bool) (A0_2:Option Addr) (c0_2:Nat) (l0_2:List (S74)) (a1:Int) (a2:Int) (r:Int) (w:World) (hr0_2:Kd.C k74 w A0_2 l0_2.length l0_2) (hc0_2:l0_2.length≤c0_2) (h:static_Ends.f k a0_0 a0_1 l0_2 a1 a2=some r):
  Calls Try.prog 111 #[.agg #[.int .i64 a0_0, .bool a0_1, .slice A0_2 l0_2.length c0_2], .int .i64 a1, .int .i64 a2] w fun e w'=>e= .returned (.int .i64 r)∧Below w.heap.size w w':=by
 have hu24:=Try.underlying24
 have HR0_2:=Aside0.mk hr0_2
 have HC0_2:=Aside0.mk hc0_2
 clear hr0_2 hc0_2
 have HB:=Aside0.mk (Below.refl w.heap.size w)
 have H:((netfmt_Check.f k a0_0 a0_1 l0_2).bind fun t491=>(if t491=0 then(if (mn a1 a2)<0 then(some 70) else(if (mx a1 a2)≥a0_0 then(some 70) else(if a1=a2 then(some 70) else(some 0)))) else(some t491)))=some r:=h
 clear h
 replace H:=Option.bind_eq_some_iff.mp H
 obtain⟨t491,A40,H⟩:=H
 replace H:(if t491=0 then(if (mn a1 a2)<0 then(some 70) else(if (mx a1 a2)≥a0_0 then(some 70) else(if a1=a2 then(some 70) else(some 0)))) else(some t491))=some r:=H
 have A4:=Aside0.mk A40
 clear A40
 by_cases c5:t491=0
 rotate_left
 ·rw[if_neg c5] at H
  have c5b0:(t491 == 0)=false:=beq_eq_false_iff_ne.mpr c5
  have c5b1:(t491 != 0)=true:=bne_iff_ne.mpr c5
  obtain rfl:=Option.some.inj H
  go_enter Try.func111,Try.ntmps111
  go_wp2_with (first|((with_reducible refine gate_dst (N:=3) rfl ?_);(try (refine gate_guard (by rfl) ?_;dsimp only));refine box_event ?hg (N:=3) ?hd (cs:= #[.int .i64 a0_0, .bool a0_1, .slice A0_2 l0_2.length c0_2]) (t:=24) ?hr ?_;(case hd=>rfl);(case hg=>rfl);(case hr=>first|(go_simp;done)|(go_simp;rfl));intro gb490 hg w26 hbox hb;have n0_:=Aside0.mk (below_step (by repeat(first|(with_reducible first|exact HB.out|apply below_alloc|apply pw_below_drewN|apply below_drew1)|exact HB.out)) hb);have n1_:=Aside0.mk (hbox);have n2_:=Aside0.mk ((by rw[hg];exact(below_size (by repeat(first|(with_reducible first|exact HB.out|apply below_alloc|apply pw_below_drewN|apply below_drew1)|exact HB.out))):w.heap.size≤gb490));have n3_:=Aside0.mk ((by rw[hg];exact(below_size (by repeat(first|(with_reducible first|exact HB.out|apply below_alloc|apply pw_below_drewN|apply below_drew1)|exact HB.out))):w.heap.size≤gb490));clear HB;have HB:=n0_;have BK490:=n1_;have GW490:=n2_;have GE490:=n3_;clear n0_ n1_ n2_ n3_;clear hb hbox hg;have hcz27_0:w26.cell? ⟨gb490,0,none⟩=some (.int .i64 a0_0):=(blk_cell BK490.out 0).trans rfl;have hcz27_1:w26.cell? ⟨gb490,1,none⟩=some (.bool a0_1):=(blk_cell BK490.out 1).trans rfl;have hcz27_2:w26.cell? ⟨gb490,2,none⟩=some (.slice A0_2 l0_2.length c0_2):=(blk_cell BK490.out 2).trans rfl;have hfz27_0:=blk_frozen BK490.out 0;have hfz27_1:=blk_frozen BK490.out 1;have hfz27_2:=blk_frozen BK490.out 2)|((with_reducible refine gate_callee (f:=127) rfl ?_);refine goesL_ (some 9) rfl rfl Try.func127 (by kernel_rfl) rfl #[.agg #[.int .i64 a0_0, .bool a0_1, .slice A0_2 l0_2.length c0_2]] rfl (by(try simp only[List.map_toArray,List.map_cons,List.map_nil]);first|done|rfl|(simp only[List.length_drop,List.length_take];rfl)) ?_;(with_reducible refine(netfmt_Check.calls k a0_0 a0_1 _ _ l0_2 t491 _ ?side1 ?side2 A4.out).mono ?_);(case side1=>repeat(first|exact(Kd.C_below HR0_2.out HB.out)|(with_reducible refine Kd.C_alloc ?_ _)|(with_reducible refine Kd.C_drewN ?_ _)|(with_reducible refine Kd.C_drew ?_)));(case side2=>exact HC0_2.out);rintro e w28 ⟨rfl,hb⟩;refine⟨_,rfl,?_⟩;have n0_:=Aside0.mk (blk_below (g:=gb490) (o:= .cells #[.int .i64 a0_0, .bool a0_1, .slice A0_2 l0_2.length c0_2] 24 (0,0)) (by(with_reducible repeat(first|refine blk_drewN ?_ _|refine blk_drew ?_|refine blk_alloc ?_ _));exact BK490.out) hb);have n1_:=Aside0.mk (below_step (by repeat(first|(with_reducible first|exact HB.out|apply below_alloc|apply pw_below_drewN|apply below_drew1|refine below_set ?_ GE490.out)|exact HB.out)) hb);clear BK490;clear HB;have BK490:=n0_;have HB:=n1_;clear n0_ n1_;(try clear hb);(try clear hb2);(try clear hk);(try clear hi)))
  go_ret
  exact⟨by first|rfl|(simp[errW_none,errW_some]<;>rfl)|(simp[*,errW_none,errW_some]<;>rfl),by repeat(first|(with_reducible first|exact HB.out|apply below_alloc|apply pw_below_drewN|apply below_drew1|refine below_set ?_ GE490.out)|exact HB.out)⟩
 rw[if_pos c5] at H
 have c5b0:(t491 == 0)=true:=beq_iff_eq.mpr c5
 have c5b1:(t491 != 0)=false:=bne_eq_false_iff_eq.mpr c5
 clear c5
 obtain⟨ji6,hji6⟩: ∃ j_:Int,(mn a1 a2)=j_:=⟨_,rfl⟩
 replace H:(if (ji6)<0 then(some 70) else(if (mx a1 a2)≥a0_0 then(some 70) else(if a1=a2 then(some 70) else(some 0))))=some r:=by first|(rw[hji6] at H;exact H)|(simp only[hji6] at H ⊢;exact H)
 (try rw[hji6] at A4)
 have hji6_:(if a2<a1 then a2 else a1)=ji6:=hji6
 by_cases c7:(ji6)<0
 ·rw[if_pos c7] at H
  have c7b0:decide ((ji6)<0)=true:=decide_eq_true c7
  clear c7
  obtain rfl:=Option.some.inj H
  go_enter Try.func111,Try.ntmps111
  go_wp2_with (first|((with_reducible refine gate_dst (N:=3) rfl ?_);(try (refine gate_guard (by rfl) ?_;dsimp only));refine box_event ?hg (N:=3) ?hd (cs:= #[.int .i64 a0_0, .bool a0_1, .slice A0_2 l0_2.length c0_2]) (t:=24) ?hr ?_;(case hd=>rfl);(case hg=>rfl);(case hr=>first|(go_simp;done)|(go_simp;rfl));intro gb490 hg w8 hbox hb;have n0_:=Aside0.mk (below_step (by repeat(first|(with_reducible first|exact HB.out|apply below_alloc|apply pw_below_drewN|apply below_drew1)|exact HB.out)) hb);have n1_:=Aside0.mk (hbox);have n2_:=Aside0.mk ((by rw[hg];exact(below_size (by repeat(first|(with_reducible first|exact HB.out|apply below_alloc|apply pw_below_drewN|apply below_drew1)|exact HB.out))):w.heap.size≤gb490));have n3_:=Aside0.mk ((by rw[hg];exact(below_size (by repeat(first|(with_reducible first|exact HB.out|apply below_alloc|apply pw_below_drewN|apply below_drew1)|exact HB.out))):w.heap.size≤gb490));clear HB;have HB:=n0_;have BK490:=n1_;have GW490:=n2_;have GE490:=n3_;clear n0_ n1_ n2_ n3_;clear hb hbox hg;have hcz9_0:w8.cell? ⟨gb490,0,none⟩=some (.int .i64 a0_0):=(blk_cell BK490.out 0).trans rfl;have hcz9_1:w8.cell? ⟨gb490,1,none⟩=some (.bool a0_1):=(blk_cell BK490.out 1).trans rfl;have hcz9_2:w8.cell? ⟨gb490,2,none⟩=some (.slice A0_2 l0_2.length c0_2):=(blk_cell BK490.out 2).trans rfl;have hfz9_0:=blk_frozen BK490.out 0;have hfz9_1:=blk_frozen BK490.out 1;have hfz9_2:=blk_frozen BK490.out 2)|((with_reducible refine gate_callee (f:=127) rfl ?_);refine goesL_ (some 9) rfl rfl Try.func127 (by kernel_rfl) rfl #[.agg #[.int .i64 a0_0, .bool a0_1, .slice A0_2 l0_2.length c0_2]] rfl (by(try simp only[List.map_toArray,List.map_cons,List.map_nil]);first|done|rfl|(simp only[List.length_drop,List.length_take];rfl)) ?_;(with_reducible refine(netfmt_Check.calls k a0_0 a0_1 _ _ l0_2 t491 _ ?side1 ?side2 A4.out).mono ?_);(case side1=>repeat(first|exact(Kd.C_below HR0_2.out HB.out)|(with_reducible refine Kd.C_alloc ?_ _)|(with_reducible refine Kd.C_drewN ?_ _)|(with_reducible refine Kd.C_drew ?_)));(case side2=>exact HC0_2.out);rintro e w10 ⟨rfl,hb⟩;refine⟨_,rfl,?_⟩;have n0_:=Aside0.mk (blk_below (g:=gb490) (o:= .cells #[.int .i64 a0_0, .bool a0_1, .slice A0_2 l0_2.length c0_2] 24 (0,0)) (by(with_reducible repeat(first|refine blk_drewN ?_ _|refine blk_drew ?_|refine blk_alloc ?_ _));exact BK490.out) hb);have n1_:=Aside0.mk (below_step (by repeat(first|(with_reducible first|exact HB.out|apply below_alloc|apply pw_below_drewN|apply below_drew1|refine below_set ?_ GE490.out)|exact HB.out)) hb);clear BK490;clear HB;have BK490:=n0_;have HB:=n1_;clear n0_ n1_;(try clear hb);(try clear hb2);(try clear hk);(try clear hi)))
  go_ret
  exact⟨by first|rfl|(simp[errW_none,errW_some]<;>rfl)|(simp only[← hji6];first|rfl|(simp[errW_none,errW_some]<;>rfl))|(simp[*,errW_none,errW_some]<;>rfl),by repeat(first|(with_reducible first|exact HB.out|apply below_alloc|apply pw_below_drewN|apply below_drew1|refine below_set ?_ GE490.out)|exact HB.out)⟩
 rw[if_neg c7] at H
 have c7b0:decide ((ji6)<0)=false:=decide_eq_false c7
 clear c7
 obtain⟨ji11,hji11⟩: ∃ j_:Int,(mx a1 a2)=j_:=⟨_,rfl⟩
 replace H:(if (ji11)≥a0_0 then(some 70) else(if a1=a2 then(some 70) else(some 0)))=some r:=by first|(rw[hji11] at H;exact H)|(simp only[hji11] at H ⊢;exact H)
 (try rw[hji11] at A4)
 have hji11_:(if a1<a2 then a2 else a1)=ji11:=hji11
 by_cases c12:(ji11)≥a0_0
 ·rw[if_pos c12] at H
  have c12b0:decide (a0_0≤(ji11))=true:=decide_eq_true c12
  clear c12
  obtain rfl:=Option.some.inj H
  go_enter Try.func111,Try.ntmps111
  go_wp2_with (first|((with_reducible refine gate_dst (N:=3) rfl ?_);(try (refine gate_guard (by rfl) ?_;dsimp only));refine box_event ?hg (N:=3) ?hd (cs:= #[.int .i64 a0_0, .bool a0_1, .slice A0_2 l0_2.length c0_2]) (t:=24) ?hr ?_;(case hd=>rfl);(case hg=>rfl);(case hr=>first|(go_simp;done)|(go_simp;rfl));intro gb490 hg w13 hbox hb;have n0_:=Aside0.mk (below_step (by repeat(first|(with_reducible first|exact HB.out|apply below_alloc|apply pw_below_drewN|apply below_drew1)|exact HB.out)) hb);have n1_:=Aside0.mk (hbox);have n2_:=Aside0.mk ((by rw[hg];exact(below_size (by repeat(first|(with_reducible first|exact HB.out|apply below_alloc|apply pw_below_drewN|apply below_drew1)|exact HB.out))):w.heap.size≤gb490));have n3_:=Aside0.mk ((by rw[hg];exact(below_size (by repeat(first|(with_reducible first|exact HB.out|apply below_alloc|apply pw_below_drewN|apply below_drew1)|exact HB.out))):w.heap.size≤gb490));clear HB;have HB:=n0_;have BK490:=n1_;have GW490:=n2_;have GE490:=n3_;clear n0_ n1_ n2_ n3_;clear hb hbox hg;have hcz14_0:w13.cell? ⟨gb490,0,none⟩=some (.int .i64 a0_0):=(blk_cell BK490.out 0).trans rfl;have hcz14_1:w13.cell? ⟨gb490,1,none⟩=some (.bool a0_1):=(blk_cell BK490.out 1).trans rfl;have hcz14_2:w13.cell? ⟨gb490,2,none⟩=some (.slice A0_2 l0_2.length c0_2):=(blk_cell BK490.out 2).trans rfl;have hfz14_0:=blk_frozen BK490.out 0;have hfz14_1:=blk_frozen BK490.out 1;have hfz14_2:=blk_frozen BK490.out 2)|((with_reducible refine gate_callee (f:=127) rfl ?_);refine goesL_ (some 9) rfl rfl Try.func127 (by kernel_rfl) rfl #[.agg #[.int .i64 a0_0, .bool a0_1, .slice A0_2 l0_2.length c0_2]] rfl (by(try simp only[List.map_toArray,List.map_cons,List.map_nil]);first|done|rfl|(simp only[List.length_drop,List.length_take];rfl)) ?_;(with_reducible refine(netfmt_Check.calls k a0_0 a0_1 _ _ l0_2 t491 _ ?side1 ?side2 A4.out).mono ?_);(case side1=>repeat(first|exact(Kd.C_below HR0_2.out HB.out)|(with_reducible refine Kd.C_alloc ?_ _)|(with_reducible refine Kd.C_drewN ?_ _)|(with_reducible refine Kd.C_drew ?_)));(case side2=>exact HC0_2.out);rintro e w15 ⟨rfl,hb⟩;refine⟨_,rfl,?_⟩;have n0_:=Aside0.mk (blk_below (g:=gb490) (o:= .cells #[.int .i64 a0_0, .bool a0_1, .slice A0_2 l0_2.length c0_2] 24 (0,0)) (by(with_reducible repeat(first|refine blk_drewN ?_ _|refine blk_drew ?_|refine blk_alloc ?_ _));exact BK490.out) hb);have n1_:=Aside0.mk (below_step (by repeat(first|(with_reducible first|exact HB.out|apply below_alloc|apply pw_below_drewN|apply below_drew1|refine below_set ?_ GE490.out)|exact HB.out)) hb);clear BK490;clear HB;have BK490:=n0_;have HB:=n1_;clear n0_ n1_;(try clear hb);(try clear hb2);(try clear hk);(try clear hi);have hcz16_0:w15.cell? ⟨gb490,0,none⟩=some (.int .i64 a0_0):=(blk_cell BK490.out 0).trans rfl;have hcz16_1:w15.cell? ⟨gb490,1,none⟩=some (.bool a0_1):=(blk_cell BK490.out 1).trans rfl;have hcz16_2:w15.cell? ⟨gb490,2,none⟩=some (.slice A0_2 l0_2.length c0_2):=(blk_cell BK490.out 2).trans rfl;have hfz16_0:=blk_frozen BK490.out 0;have hfz16_1:=blk_frozen BK490.out 1;have hfz16_2:=blk_frozen BK490.out 2))
  go_ret
  exact⟨by first|rfl|(simp[errW_none,errW_some]<;>rfl)|(simp only[← hji6, ← hji11];first|rfl|(simp[errW_none,errW_some]<;>rfl))|(simp[*,errW_none,errW_some]<;>rfl),by repeat(first|(with_reducible first|exact HB.out|apply below_alloc|apply pw_below_drewN|apply below_drew1|refine below_set ?_ GE490.out)|exact HB.out)⟩
 rw[if_neg c12] at H
 have c12b0:decide (a0_0≤(ji11))=false:=decide_eq_false c12
 clear c12
 by_cases c17:a1=a2
 rotate_left
 ·rw[if_neg c17] at H
  have c17b0:(a1 == a2)=false:=beq_eq_false_iff_ne.mpr c17
  have c17b1:(a1 != a2)=true:=bne_iff_ne.mpr c17
  obtain rfl:=Option.some.inj H
  go_enter Try.func111,Try.ntmps111
  go_wp2_with (first|((with_reducible refine gate_dst (N:=3) rfl ?_);(try (refine gate_guard (by rfl) ?_;dsimp only));refine box_event ?hg (N:=3) ?hd (cs:= #[.int .i64 a0_0, .bool a0_1, .slice A0_2 l0_2.length c0_2]) (t:=24) ?hr ?_;(case hd=>rfl);(case hg=>rfl);(case hr=>first|(go_simp;done)|(go_simp;rfl));intro gb490 hg w22 hbox hb;have n0_:=Aside0.mk (below_step (by repeat(first|(with_reducible first|exact HB.out|apply below_alloc|apply pw_below_drewN|apply below_drew1)|exact HB.out)) hb);have n1_:=Aside0.mk (hbox);have n2_:=Aside0.mk ((by rw[hg];exact(below_size (by repeat(first|(with_reducible first|exact HB.out|apply below_alloc|apply pw_below_drewN|apply below_drew1)|exact HB.out))):w.heap.size≤gb490));have n3_:=Aside0.mk ((by rw[hg];exact(below_size (by repeat(first|(with_reducible first|exact HB.out|apply below_alloc|apply pw_below_drewN|apply below_drew1)|exact HB.out))):w.heap.size≤gb490));clear HB;have HB:=n0_;have BK490:=n1_;have GW490:=n2_;have GE490:=n3_;clear n0_ n1_ n2_ n3_;clear hb hbox hg;have hcz23_0:w22.cell? ⟨gb490,0,none⟩=some (.int .i64 a0_0):=(blk_cell BK490.out 0).trans rfl;have hcz23_1:w22.cell? ⟨gb490,1,none⟩=some (.bool a0_1):=(blk_cell BK490.out 1).trans rfl;have hcz23_2:w22.cell? ⟨gb490,2,none⟩=some (.slice A0_2 l0_2.length c0_2):=(blk_cell BK490.out 2).trans rfl;have hfz23_0:=blk_frozen BK490.out 0;have hfz23_1:=blk_frozen BK490.out 1;have hfz23_2:=blk_frozen BK490.out 2)|((with_reducible refine gate_callee (f:=127) rfl ?_);refine goesL_ (some 9) rfl rfl Try.func127 (by kernel_rfl) rfl #[.agg #[.int .i64 a0_0, .bool a0_1, .slice A0_2 l0_2.length c0_2]] rfl (by(try simp only[List.map_toArray,List.map_cons,List.map_nil]);first|done|rfl|(simp only[List.length_drop,List.length_take];rfl)) ?_;(with_reducible refine(netfmt_Check.calls k a0_0 a0_1 _ _ l0_2 t491 _ ?side1 ?side2 A4.out).mono ?_);(case side1=>repeat(first|exact(Kd.C_below HR0_2.out HB.out)|(with_reducible refine Kd.C_alloc ?_ _)|(with_reducible refine Kd.C_drewN ?_ _)|(with_reducible refine Kd.C_drew ?_)));(case side2=>exact HC0_2.out);rintro e w24 ⟨rfl,hb⟩;refine⟨_,rfl,?_⟩;have n0_:=Aside0.mk (blk_below (g:=gb490) (o:= .cells #[.int .i64 a0_0, .bool a0_1, .slice A0_2 l0_2.length c0_2] 24 (0,0)) (by(with_reducible repeat(first|refine blk_drewN ?_ _|refine blk_drew ?_|refine blk_alloc ?_ _));exact BK490.out) hb);have n1_:=Aside0.mk (below_step (by repeat(first|(with_reducible first|exact HB.out|apply below_alloc|apply pw_below_drewN|apply below_drew1|refine below_set ?_ GE490.out)|exact HB.out)) hb);clear BK490;clear HB;have BK490:=n0_;have HB:=n1_;clear n0_ n1_;(try clear hb);(try clear hb2);(try clear hk);(try clear hi);have hcz25_0:w24.cell? ⟨gb490,0,none⟩=some (.int .i64 a0_0):=(blk_cell BK490.out 0).trans rfl;have hcz25_1:w24.cell? ⟨gb490,1,none⟩=some (.bool a0_1):=(blk_cell BK490.out 1).trans rfl;have hcz25_2:w24.cell? ⟨gb490,2,none⟩=some (.slice A0_2 l0_2.length c0_2):=(blk_cell BK490.out 2).trans rfl;have hfz25_0:=blk_frozen BK490.out 0;have hfz25_1:=blk_frozen BK490.out 1;have hfz25_2:=blk_frozen BK490.out 2))
  go_ret
  exact⟨by first|rfl|(simp[errW_none,errW_some]<;>rfl)|(simp only[← hji6, ← hji11];first|rfl|(simp[errW_none,errW_some]<;>rfl))|(simp[*,errW_none,errW_some]<;>rfl),by repeat(first|(with_reducible first|exact HB.out|apply below_alloc|apply pw_below_drewN|apply below_drew1|refine below_set ?_ GE490.out)|exact HB.out)⟩
 rw[if_pos c17] at H
 have c17b0:(a1 == a2)=true:=beq_iff_eq.mpr c17
 have c17b1:(a1 != a2)=false:=bne_eq_false_iff_eq.mpr c17
 clear c17
 obtain rfl:=Option.some.inj H
 go_enter Try.func111,Try.ntmps111
 go_wp2_with (first|((with_reducible refine gate_dst (N:=3) rfl ?_);(try (refine gate_guard (by rfl) ?_;dsimp only));refine box_event ?hg (N:=3) ?hd (cs:= #[.int .i64 a0_0, .bool a0_1, .slice A0_2 l0_2.length c0_2]) (t:=24) ?hr ?_;(case hd=>rfl);(case hg=>rfl);(case hr=>first|(go_simp;done)|(go_simp;rfl));intro gb490 hg w18 hbox hb;have n0_:=Aside0.mk (below_step (by repeat(first|(with_reducible first|exact HB.out|apply below_alloc|apply pw_below_drewN|apply below_drew1)|exact HB.out)) hb);have n1_:=Aside0.mk (hbox);have n2_:=Aside0.mk ((by rw[hg];exact(below_size (by repeat(first|(with_reducible first|exact HB.out|apply below_alloc|apply pw_below_drewN|apply below_drew1)|exact HB.out))):w.heap.size≤gb490));have n3_:=Aside0.mk ((by rw[hg];exact(below_size (by repeat(first|(with_reducible first|exact HB.out|apply below_alloc|apply pw_below_drewN|apply below_drew1)|exact HB.out))):w.heap.size≤gb490));clear HB;have HB:=n0_;have BK490:=n1_;have GW490:=n2_;have GE490:=n3_;clear n0_ n1_ n2_ n3_;clear hb hbox hg;have hcz19_0:w18.cell? ⟨gb490,0,none⟩=some (.int .i64 a0_0):=(blk_cell BK490.out 0).trans rfl;have hcz19_1:w18.cell? ⟨gb490,1,none⟩=some (.bool a0_1):=(blk_cell BK490.out 1).trans rfl;have hcz19_2:w18.cell? ⟨gb490,2,none⟩=some (.slice A0_2 l0_2.length c0_2):=(blk_cell BK490.out 2).trans rfl;have hfz19_0:=blk_frozen BK490.out 0;have hfz19_1:=blk_frozen BK490.out 1;have hfz19_2:=blk_frozen BK490.out 2)|((with_reducible refine gate_callee (f:=127) rfl ?_);refine goesL_ (some 9) rfl rfl Try.func127 (by kernel_rfl) rfl #[.agg #[.int .i64 a0_0, .bool a0_1, .slice A0_2 l0_2.length c0_2]] rfl (by(try simp only[List.map_toArray,List.map_cons,List.map_nil]);first|done|rfl|(simp only[List.length_drop,List.length_take];rfl)) ?_;(with_reducible refine(netfmt_Check.calls k a0_0 a0_1 _ _ l0_2 t491 _ ?side1 ?side2 A4.out).mono ?_);(case side1=>repeat(first|exact(Kd.C_below HR0_2.out HB.out)|(with_reducible refine Kd.C_alloc ?_ _)|(with_reducible refine Kd.C_drewN ?_ _)|(with_reducible refine Kd.C_drew ?_)));(case side2=>exact HC0_2.out);rintro e w20 ⟨rfl,hb⟩;refine⟨_,rfl,?_⟩;have n0_:=Aside0.mk (blk_below (g:=gb490) (o:= .cells #[.int .i64 a0_0, .bool a0_1, .slice A0_2 l0_2.length c0_2] 24 (0,0)) (by(with_reducible repeat(first|refine blk_drewN ?_ _|refine blk_drew ?_|refine blk_alloc ?_ _));exact BK490.out) hb);have n1_:=Aside0.mk (below_step (by repeat(first|(with_reducible first|exact HB.out|apply below_alloc|apply pw_below_drewN|apply below_drew1|refine below_set ?_ GE490.out)|exact HB.out)) hb);clear BK490;clear HB;have BK490:=n0_;have HB:=n1_;clear n0_ n1_;(try clear hb);(try clear hb2);(try clear hk);(try clear hi);have hcz21_0:w20.cell? ⟨gb490,0,none⟩=some (.int .i64 a0_0):=(blk_cell BK490.out 0).trans rfl;have hcz21_1:w20.cell? ⟨gb490,1,none⟩=some (.bool a0_1):=(blk_cell BK490.out 1).trans rfl;have hcz21_2:w20.cell? ⟨gb490,2,none⟩=some (.slice A0_2 l0_2.length c0_2):=(blk_cell BK490.out 2).trans rfl;have hfz21_0:=blk_frozen BK490.out 0;have hfz21_1:=blk_frozen BK490.out 1;have hfz21_2:=blk_frozen BK490.out 2))
 go_ret
 exact⟨by first|rfl|(simp[errW_none,errW_some]<;>rfl)|(simp only[← hji6, ← hji11];first|rfl|(simp[errW_none,errW_some]<;>rfl))|(simp[*,errW_none,errW_some]<;>rfl),by repeat(first|(with_reducible first|exact HB.out|apply below_alloc|apply pw_below_drewN|apply below_drew1|refine below_set ?_ GE490.out)|exact HB.out)⟩
end Go.Proofs.Ytkcpanpdipmmmaa.P
namespace Go.Proofs.Ytkcpanpdipmmmaa.P
open Go.RowKit Go.Proofs.YtkcpanpdipmmmaaW.PrintWords Go.Proofs.YtkcpanpdipmmmaaW.PrintLast Go.Proofs.YtkcpanpdipmmmaaW.PrintMore
attribute [local go_sem] max2_int min2_int max_two min_two max_three min_three max_four min_four
def span_Horizon.f (a0:Int):Option (Int):=if a0<0 then(some 1) else(if a0>1024 then(some 2) else(some 0))
set_option maxHeartbeats 8000000 in
set_option maxRecDepth 100000 in
theorem span_Horizon.calls (a0:Int) (r:Int) (w:World) (h:span_Horizon.f a0=some r):
  Calls Try.prog 149 #[.int .i64 a0] w fun e w'=>e= .returned (.int .i64 r)∧Drawn0 w w':=by
 have H:(if a0<0 then(some 1) else(if a0>1024 then(some 2) else(some 0)))=some r:=h
 clear h
 by_cases c2:a0<0
 ·rw[if_pos c2] at H
  have c2b0:decide (a0<0)=true:=decide_eq_true c2
  clear c2
  obtain rfl:=Option.some.inj H
  go_enter Try.func149,Try.ntmps149
  go_wp2
  go_ret
  exact⟨by first|rfl|(simp;done)|(simp[*];done),by repeat(first|exact Drawn0.refl _|apply Drawn0.step)⟩
 rw[if_neg c2] at H
 have c2b0:decide (a0<0)=false:=decide_eq_false c2
 clear c2
 by_cases c3:a0>1024
 rotate_left
 ·rw[if_neg c3] at H
  have c3b0:decide (1024<a0)=false:=decide_eq_false c3
  clear c3
  obtain rfl:=Option.some.inj H
  go_enter Try.func149,Try.ntmps149
  go_wp2
  go_ret
  exact⟨by first|rfl|(simp;done)|(simp[*];done),by repeat(first|exact Drawn0.refl _|apply Drawn0.step)⟩
 rw[if_pos c3] at H
 have c3b0:decide (1024<a0)=true:=decide_eq_true c3
 clear c3
 obtain rfl:=Option.some.inj H
 go_enter Try.func149,Try.ntmps149
 go_wp2
 go_ret
 exact⟨by first|rfl|(simp;done)|(simp[*];done),by repeat(first|exact Drawn0.refl _|apply Drawn0.step)⟩
end Go.Proofs.Ytkcpanpdipmmmaa.P
namespace Go.Proofs.Ytkcpanpdipmmmaa.P
open Go.RowKit Go.Proofs.YtkcpanpdipmmmaaW.PrintWords Go.Proofs.YtkcpanpdipmmmaaW.PrintLast Go.Proofs.YtkcpanpdipmmmaaW.PrintMore
attribute [local go_sem] max2_int min2_int max_two min_two max_three min_three max_four min_four
def span_Asked.f (k:Nat) (a0_0:Int) (a0_1:Bool) (l0_2:List (S74)) (a1:Int) (a2:Int) (a3:Int):Option (Int):=(static_Ends.f k a0_0 a0_1 l0_2 a1 a2).bind fun t703=>(if t703=0 then((span_Horizon.f a3).bind fun t704=>(some t704)) else(some t703))
set_option maxHeartbeats 8000000 in
set_option maxRecDepth 100000 in
theorem span_Asked.calls (k:Nat) (a0_0:Int) (a0_1:Bool) (A0_2:Option Addr) (c0_2:Nat) (l0_2:List (S74)) (a1:Int) (a2:Int) (a3:Int) (r:Int) (w:World) (hr0_2:Kd.C k74 w A0_2 l0_2.length l0_2) (hc0_2:l0_2.length≤c0_2) (h:span_Asked.f k a0_0 a0_1 l0_2 a1 a2 a3=some r):
  Calls Try.prog 114 #[.agg #[.int .i64 a0_0, .bool a0_1, .slice A0_2 l0_2.length c0_2], .int .i64 a1, .int .i64 a2, .int .i64 a3] w fun e w'=>e= .returned (.int .i64 r)∧Below w.heap.size w w':=by
 have hu24:=Try.underlying24
 have HR0_2:=Aside0.mk hr0_2
 have HC0_2:=Aside0.mk hc0_2
 clear hr0_2 hc0_2
 have HB:=Aside0.mk (Below.refl w.heap.size w)
 have H:((static_Ends.f k a0_0 a0_1 l0_2 a1 a2).bind fun t703=>(if t703=0 then((span_Horizon.f a3).bind fun t704=>(some t704)) else(some t703)))=some r:=h
 clear h
 replace H:=Option.bind_eq_some_iff.mp H
 obtain⟨t703,A50,H⟩:=H
 replace H:(if t703=0 then((span_Horizon.f a3).bind fun t704=>(some t704)) else(some t703))=some r:=H
 have A5:=Aside0.mk A50
 clear A50
 by_cases c6:t703=0
 rotate_left
 ·rw[if_neg c6] at H
  have c6b0:(t703 == 0)=false:=beq_eq_false_iff_ne.mpr c6
  have c6b1:(t703 != 0)=true:=bne_iff_ne.mpr c6
  obtain rfl:=Option.some.inj H
  go_enter Try.func114,Try.ntmps114
  go_wp2_with (first|((with_reducible refine gate_dst (N:=4) rfl ?_);refine box_event ?hg (N:=4) ?hd (cs:= #[.int .i64 a0_0, .bool a0_1, .slice A0_2 l0_2.length c0_2]) (t:=24) ?hr ?_;(case hd=>rfl);(case hg=>rfl);(case hr=>first|(go_simp;done)|(go_simp;rfl));intro gb702 hg w11 hbox hb;have n0_:=Aside0.mk (below_step (by repeat(first|(with_reducible first|exact HB.out|apply below_alloc|apply pw_below_drewN|apply below_drew1)|exact HB.out)) hb);have n1_:=Aside0.mk (hbox);have n2_:=Aside0.mk ((by rw[hg];exact(below_size (by repeat(first|(with_reducible first|exact HB.out|apply below_alloc|apply pw_below_drewN|apply below_drew1)|exact HB.out))):w.heap.size≤gb702));have n3_:=Aside0.mk ((by rw[hg];exact(below_size (by repeat(first|(with_reducible first|exact HB.out|apply below_alloc|apply pw_below_drewN|apply below_drew1)|exact HB.out))):w.heap.size≤gb702));clear HB;have HB:=n0_;have BK702:=n1_;have GW702:=n2_;have GE702:=n3_;clear n0_ n1_ n2_ n3_;clear hb hbox hg;have hcz12_0:w11.cell? ⟨gb702,0,none⟩=some (.int .i64 a0_0):=(blk_cell BK702.out 0).trans rfl;have hcz12_1:w11.cell? ⟨gb702,1,none⟩=some (.bool a0_1):=(blk_cell BK702.out 1).trans rfl;have hcz12_2:w11.cell? ⟨gb702,2,none⟩=some (.slice A0_2 l0_2.length c0_2):=(blk_cell BK702.out 2).trans rfl;have hfz12_0:=blk_frozen BK702.out 0;have hfz12_1:=blk_frozen BK702.out 1;have hfz12_2:=blk_frozen BK702.out 2)|((with_reducible refine gate_callee (f:=111) rfl ?_);refine goesL_ (some 13) rfl rfl Try.func111 (by kernel_rfl) rfl #[.agg #[.int .i64 a0_0, .bool a0_1, .slice A0_2 l0_2.length c0_2], .int .i64 a1, .int .i64 a2] rfl (by(try simp only[List.map_toArray,List.map_cons,List.map_nil]);first|done|rfl|(simp only[List.length_drop,List.length_take];rfl)) ?_;(with_reducible refine(static_Ends.calls k a0_0 a0_1 _ _ l0_2 a1 a2 t703 _ ?side1 ?side2 A5.out).mono ?_);(case side1=>repeat(first|exact(Kd.C_below HR0_2.out HB.out)|(with_reducible refine Kd.C_alloc ?_ _)|(with_reducible refine Kd.C_drewN ?_ _)|(with_reducible refine Kd.C_drew ?_)));(case side2=>exact HC0_2.out);rintro e w13 ⟨rfl,hb⟩;refine⟨_,rfl,?_⟩;have n0_:=Aside0.mk (blk_below (g:=gb702) (o:= .cells #[.int .i64 a0_0, .bool a0_1, .slice A0_2 l0_2.length c0_2] 24 (0,0)) (by(with_reducible repeat(first|refine blk_drewN ?_ _|refine blk_drew ?_|refine blk_alloc ?_ _));exact BK702.out) hb);have n1_:=Aside0.mk (below_step (by repeat(first|(with_reducible first|exact HB.out|apply below_alloc|apply pw_below_drewN|apply below_drew1|refine below_set ?_ GE702.out)|exact HB.out)) hb);clear BK702;clear HB;have BK702:=n0_;have HB:=n1_;clear n0_ n1_;(try clear hb);(try clear hb2);(try clear hk);(try clear hi)))
  go_ret
  exact⟨by first|rfl|(simp[errW_none,errW_some]<;>rfl)|(simp[*,errW_none,errW_some]<;>rfl),by repeat(first|(with_reducible first|exact HB.out|apply below_alloc|apply pw_below_drewN|apply below_drew1|refine below_set ?_ GE702.out)|exact HB.out)⟩
 rw[if_pos c6] at H
 have c6b0:(t703 == 0)=true:=beq_iff_eq.mpr c6
 have c6b1:(t703 != 0)=false:=bne_eq_false_iff_eq.mpr c6
 clear c6
 replace H:=Option.bind_eq_some_iff.mp H
 obtain⟨t704,A70,H⟩:=H
 replace H:(some t704)=some r:=H
 have A7:=Aside0.mk A70
 clear A70
 obtain rfl:=Option.some.inj H
 go_enter Try.func114,Try.ntmps114
 go_wp2_with (first|((with_reducible refine gate_dst (N:=4) rfl ?_);refine box_event ?hg (N:=4) ?hd (cs:= #[.int .i64 a0_0, .bool a0_1, .slice A0_2 l0_2.length c0_2]) (t:=24) ?hr ?_;(case hd=>rfl);(case hg=>rfl);(case hr=>first|(go_simp;done)|(go_simp;rfl));intro gb702 hg w8 hbox hb;have n0_:=Aside0.mk (below_step (by repeat(first|(with_reducible first|exact HB.out|apply below_alloc|apply pw_below_drewN|apply below_drew1)|exact HB.out)) hb);have n1_:=Aside0.mk (hbox);have n2_:=Aside0.mk ((by rw[hg];exact(below_size (by repeat(first|(with_reducible first|exact HB.out|apply below_alloc|apply pw_below_drewN|apply below_drew1)|exact HB.out))):w.heap.size≤gb702));have n3_:=Aside0.mk ((by rw[hg];exact(below_size (by repeat(first|(with_reducible first|exact HB.out|apply below_alloc|apply pw_below_drewN|apply below_drew1)|exact HB.out))):w.heap.size≤gb702));clear HB;have HB:=n0_;have BK702:=n1_;have GW702:=n2_;have GE702:=n3_;clear n0_ n1_ n2_ n3_;clear hb hbox hg;have hcz9_0:w8.cell? ⟨gb702,0,none⟩=some (.int .i64 a0_0):=(blk_cell BK702.out 0).trans rfl;have hcz9_1:w8.cell? ⟨gb702,1,none⟩=some (.bool a0_1):=(blk_cell BK702.out 1).trans rfl;have hcz9_2:w8.cell? ⟨gb702,2,none⟩=some (.slice A0_2 l0_2.length c0_2):=(blk_cell BK702.out 2).trans rfl;have hfz9_0:=blk_frozen BK702.out 0;have hfz9_1:=blk_frozen BK702.out 1;have hfz9_2:=blk_frozen BK702.out 2)|((with_reducible refine gate_callee (f:=111) rfl ?_);refine goesL_ (some 13) rfl rfl Try.func111 (by kernel_rfl) rfl #[.agg #[.int .i64 a0_0, .bool a0_1, .slice A0_2 l0_2.length c0_2], .int .i64 a1, .int .i64 a2] rfl (by(try simp only[List.map_toArray,List.map_cons,List.map_nil]);first|done|rfl|(simp only[List.length_drop,List.length_take];rfl)) ?_;(with_reducible refine(static_Ends.calls k a0_0 a0_1 _ _ l0_2 a1 a2 t703 _ ?side1 ?side2 A5.out).mono ?_);(case side1=>repeat(first|exact(Kd.C_below HR0_2.out HB.out)|(with_reducible refine Kd.C_alloc ?_ _)|(with_reducible refine Kd.C_drewN ?_ _)|(with_reducible refine Kd.C_drew ?_)));(case side2=>exact HC0_2.out);rintro e w10 ⟨rfl,hb⟩;refine⟨_,rfl,?_⟩;have n0_:=Aside0.mk (blk_below (g:=gb702) (o:= .cells #[.int .i64 a0_0, .bool a0_1, .slice A0_2 l0_2.length c0_2] 24 (0,0)) (by(with_reducible repeat(first|refine blk_drewN ?_ _|refine blk_drew ?_|refine blk_alloc ?_ _));exact BK702.out) hb);have n1_:=Aside0.mk (below_step (by repeat(first|(with_reducible first|exact HB.out|apply below_alloc|apply pw_below_drewN|apply below_drew1|refine below_set ?_ GE702.out)|exact HB.out)) hb);clear BK702;clear HB;have BK702:=n0_;have HB:=n1_;clear n0_ n1_;(try clear hb);(try clear hb2);(try clear hk);(try clear hi))|((with_reducible refine gate_callee (f:=149) rfl ?_);refine goesL_ (some 18) rfl rfl Try.func149 (by kernel_rfl) rfl #[.int .i64 a3] rfl (by(try simp only[List.map_toArray,List.map_cons,List.map_nil]);first|done|rfl|(simp only[List.length_drop,List.length_take];rfl)) ?_;(with_reducible refine(span_Horizon.calls a3 t704 _ A7.out).mono ?_);rintro e w' ⟨rfl,⟨nd,rfl⟩⟩;refine⟨_,rfl,?_⟩))
 go_ret
 exact⟨by first|rfl|(simp[errW_none,errW_some]<;>rfl)|(simp[*,errW_none,errW_some]<;>rfl),by repeat(first|(with_reducible first|exact HB.out|apply below_alloc|apply pw_below_drewN|apply below_drew1|refine below_set ?_ GE702.out)|exact HB.out)⟩
end Go.Proofs.Ytkcpanpdipmmmaa.P
namespace Go.Proofs.Ytkcpanpdipmmmaa.P
open Go.RowKit Go.Proofs.YtkcpanpdipmmmaaW.PrintWords Go.Proofs.YtkcpanpdipmmmaaW.PrintLast Go.Proofs.YtkcpanpdipmmmaaW.PrintMore
attribute [local go_sem] max2_int min2_int max_two min_two max_three min_three max_four min_four
def static_Asked.l0:Nat→List Int→Int→Int→Int→Bool→List (S74)→Option (Int)
 |0,_,_,_,_,_,_=>none
 |k+1,x19,x20,x21,x185000,x185001,x185002=>if x21<x20 then(if 0≤x21 then(if x21<(x19.length:Int) then(if (rd x19 x21)<0 then(some 71) else(if x21<(x185002.length:Int) then(if (rd x19 x21)>((rd_T74 x185002 x21).f2) then(some 71) else(static_Asked.l0 k x19 x20 (wrap64 (x21+1)) x185000 x185001 x185002)) else(none))) else(none)) else(none)) else(some 0)
def static_Asked.f (k:Nat) (a0_0:Int) (a0_1:Bool) (l0_2:List (S74)) (l1:List Int):Option (Int):=(netfmt_Check.f k a0_0 a0_1 l0_2).bind fun t185=>(if t185=0 then(if (l1.length:Int)=(l0_2.length:Int) then(static_Asked.l0 k l1 (l1.length:Int) 0 a0_0 a0_1 l0_2) else(some 71)) else(some t185))
set_option maxHeartbeats 8000000 in
set_option maxRecDepth 100000 in
theorem static_Asked.calls (k:Nat) (a0_0:Int) (a0_1:Bool) (A0_2:Option Addr) (c0_2:Nat) (l0_2:List (S74)) (A1:Option Addr) (c1:Nat) (l1:List Int) (r:Int) (w:World) (hr0_2:Kd.C k74 w A0_2 l0_2.length l0_2) (hc0_2:l0_2.length≤c0_2) (hr1:Kd.C (Kd.int .i64) w A1 l1.length l1) (hc1:l1.length≤c1) (h:static_Asked.f k a0_0 a0_1 l0_2 l1=some r):
  Calls Try.prog 96 #[.agg #[.int .i64 a0_0, .bool a0_1, .slice A0_2 l0_2.length c0_2], .slice A1 l1.length c1] w fun e w'=>e= .returned (.int .i64 r)∧Below w.heap.size w w':=by
 have hu24:=Try.underlying24
 have HR0_2:=Aside0.mk hr0_2
 have HC0_2:=Aside0.mk hc0_2
 clear hr0_2 hc0_2
 have HR1:=Aside0.mk hr1
 have HC1:=Aside0.mk hc1
 clear hr1 hc1
 have HB:=Aside0.mk (Below.refl w.heap.size w)
 have H:((netfmt_Check.f k a0_0 a0_1 l0_2).bind fun t185=>(if t185=0 then(if (l1.length:Int)=(l0_2.length:Int) then(static_Asked.l0 k l1 (l1.length:Int) 0 a0_0 a0_1 l0_2) else(some 71)) else(some t185)))=some r:=h
 clear h
 replace H:=Option.bind_eq_some_iff.mp H
 obtain⟨t185,A30,H⟩:=H
 replace H:(if t185=0 then(if (l1.length:Int)=(l0_2.length:Int) then(static_Asked.l0 k l1 (l1.length:Int) 0 a0_0 a0_1 l0_2) else(some 71)) else(some t185))=some r:=H
 have A3:=Aside0.mk A30
 clear A30
 by_cases c4:t185=0
 rotate_left
 ·rw[if_neg c4] at H
  have c4b0:(t185 == 0)=false:=beq_eq_false_iff_ne.mpr c4
  have c4b1:(t185 != 0)=true:=bne_iff_ne.mpr c4
  obtain rfl:=Option.some.inj H
  go_enter Try.func96,Try.ntmps96
  go_wp2_with (first|((with_reducible refine gate_dst (N:=2) rfl ?_);refine box_event ?hg (N:=2) ?hd (cs:= #[.int .i64 a0_0, .bool a0_1, .slice A0_2 l0_2.length c0_2]) (t:=24) ?hr ?_;(case hd=>rfl);(case hg=>rfl);(case hr=>first|(go_simp;done)|(go_simp;rfl));intro gb184 hg w22 hbox hb;have n0_:=Aside0.mk (below_step (by repeat(first|(with_reducible first|exact HB.out|apply below_alloc|apply pw_below_drewN|apply below_drew1)|exact HB.out)) hb);have n1_:=Aside0.mk (hbox);have n2_:=Aside0.mk ((by rw[hg];exact(below_size (by repeat(first|(with_reducible first|exact HB.out|apply below_alloc|apply pw_below_drewN|apply below_drew1)|exact HB.out))):w.heap.size≤gb184));have n3_:=Aside0.mk ((by rw[hg];exact(below_size (by repeat(first|(with_reducible first|exact HB.out|apply below_alloc|apply pw_below_drewN|apply below_drew1)|exact HB.out))):w.heap.size≤gb184));clear HB;have HB:=n0_;have BK184:=n1_;have GW184:=n2_;have GE184:=n3_;clear n0_ n1_ n2_ n3_;clear hb hbox hg;have hcz23_0:w22.cell? ⟨gb184,0,none⟩=some (.int .i64 a0_0):=(blk_cell BK184.out 0).trans rfl;have hcz23_1:w22.cell? ⟨gb184,1,none⟩=some (.bool a0_1):=(blk_cell BK184.out 1).trans rfl;have hcz23_2:w22.cell? ⟨gb184,2,none⟩=some (.slice A0_2 l0_2.length c0_2):=(blk_cell BK184.out 2).trans rfl;have hfz23_0:=blk_frozen BK184.out 0;have hfz23_1:=blk_frozen BK184.out 1;have hfz23_2:=blk_frozen BK184.out 2)|((with_reducible refine gate_callee (f:=127) rfl ?_);refine goesL_ (some 9) rfl rfl Try.func127 (by kernel_rfl) rfl #[.agg #[.int .i64 a0_0, .bool a0_1, .slice A0_2 l0_2.length c0_2]] rfl (by(try simp only[List.map_toArray,List.map_cons,List.map_nil]);first|done|rfl|(simp only[List.length_drop,List.length_take];rfl)) ?_;(with_reducible refine(netfmt_Check.calls k a0_0 a0_1 _ _ l0_2 t185 _ ?side1 ?side2 A3.out).mono ?_);(case side1=>repeat(first|exact(Kd.C_below HR0_2.out HB.out)|(with_reducible refine Kd.C_alloc ?_ _)|(with_reducible refine Kd.C_drewN ?_ _)|(with_reducible refine Kd.C_drew ?_)));(case side2=>exact HC0_2.out);rintro e w24 ⟨rfl,hb⟩;refine⟨_,rfl,?_⟩;have n0_:=Aside0.mk (blk_below (g:=gb184) (o:= .cells #[.int .i64 a0_0, .bool a0_1, .slice A0_2 l0_2.length c0_2] 24 (0,0)) (by(with_reducible repeat(first|refine blk_drewN ?_ _|refine blk_drew ?_|refine blk_alloc ?_ _));exact BK184.out) hb);have n1_:=Aside0.mk (below_step (by repeat(first|(with_reducible first|exact HB.out|apply below_alloc|apply pw_below_drewN|apply below_drew1|refine below_set ?_ GE184.out)|exact HB.out)) hb);clear BK184;clear HB;have BK184:=n0_;have HB:=n1_;clear n0_ n1_;(try clear hb);(try clear hb2);(try clear hk);(try clear hi)))
  go_ret
  exact⟨by first|rfl|(simp[errW_none,errW_some]<;>rfl)|(simp[*,errW_none,errW_some]<;>rfl),by repeat(first|(with_reducible first|exact HB.out|apply below_alloc|apply pw_below_drewN|apply below_drew1|refine below_set ?_ GE184.out)|exact HB.out)⟩
 rw[if_pos c4] at H
 have c4b0:(t185 == 0)=true:=beq_iff_eq.mpr c4
 have c4b1:(t185 != 0)=false:=bne_eq_false_iff_eq.mpr c4
 clear c4
 by_cases c5:(l1.length:Int)=(l0_2.length:Int)
 rotate_left
 ·rw[if_neg c5] at H
  have c5b0:((l1.length:Int) == (l0_2.length:Int))=false:=beq_eq_false_iff_ne.mpr c5
  have c5b1:((l1.length:Int) != (l0_2.length:Int))=true:=bne_iff_ne.mpr c5
  have c5b2:(l1.length == l0_2.length)=false:=by first|simpa using c5|(simp at c5 ⊢;omega)
  obtain rfl:=Option.some.inj H
  go_enter Try.func96,Try.ntmps96
  go_wp2_with (first|((with_reducible refine gate_dst (N:=2) rfl ?_);refine box_event ?hg (N:=2) ?hd (cs:= #[.int .i64 a0_0, .bool a0_1, .slice A0_2 l0_2.length c0_2]) (t:=24) ?hr ?_;(case hd=>rfl);(case hg=>rfl);(case hr=>first|(go_simp;done)|(go_simp;rfl));intro gb184 hg w18 hbox hb;have n0_:=Aside0.mk (below_step (by repeat(first|(with_reducible first|exact HB.out|apply below_alloc|apply pw_below_drewN|apply below_drew1)|exact HB.out)) hb);have n1_:=Aside0.mk (hbox);have n2_:=Aside0.mk ((by rw[hg];exact(below_size (by repeat(first|(with_reducible first|exact HB.out|apply below_alloc|apply pw_below_drewN|apply below_drew1)|exact HB.out))):w.heap.size≤gb184));have n3_:=Aside0.mk ((by rw[hg];exact(below_size (by repeat(first|(with_reducible first|exact HB.out|apply below_alloc|apply pw_below_drewN|apply below_drew1)|exact HB.out))):w.heap.size≤gb184));clear HB;have HB:=n0_;have BK184:=n1_;have GW184:=n2_;have GE184:=n3_;clear n0_ n1_ n2_ n3_;clear hb hbox hg;have hcz19_0:w18.cell? ⟨gb184,0,none⟩=some (.int .i64 a0_0):=(blk_cell BK184.out 0).trans rfl;have hcz19_1:w18.cell? ⟨gb184,1,none⟩=some (.bool a0_1):=(blk_cell BK184.out 1).trans rfl;have hcz19_2:w18.cell? ⟨gb184,2,none⟩=some (.slice A0_2 l0_2.length c0_2):=(blk_cell BK184.out 2).trans rfl;have hfz19_0:=blk_frozen BK184.out 0;have hfz19_1:=blk_frozen BK184.out 1;have hfz19_2:=blk_frozen BK184.out 2)|((with_reducible refine gate_callee (f:=127) rfl ?_);refine goesL_ (some 9) rfl rfl Try.func127 (by kernel_rfl) rfl #[.agg #[.int .i64 a0_0, .bool a0_1, .slice A0_2 l0_2.length c0_2]] rfl (by(try simp only[List.map_toArray,List.map_cons,List.map_nil]);first|done|rfl|(simp only[List.length_drop,List.length_take];rfl)) ?_;(with_reducible refine(netfmt_Check.calls k a0_0 a0_1 _ _ l0_2 t185 _ ?side1 ?side2 A3.out).mono ?_);(case side1=>repeat(first|exact(Kd.C_below HR0_2.out HB.out)|(with_reducible refine Kd.C_alloc ?_ _)|(with_reducible refine Kd.C_drewN ?_ _)|(with_reducible refine Kd.C_drew ?_)));(case side2=>exact HC0_2.out);rintro e w20 ⟨rfl,hb⟩;refine⟨_,rfl,?_⟩;have n0_:=Aside0.mk (blk_below (g:=gb184) (o:= .cells #[.int .i64 a0_0, .bool a0_1, .slice A0_2 l0_2.length c0_2] 24 (0,0)) (by(with_reducible repeat(first|refine blk_drewN ?_ _|refine blk_drew ?_|refine blk_alloc ?_ _));exact BK184.out) hb);have n1_:=Aside0.mk (below_step (by repeat(first|(with_reducible first|exact HB.out|apply below_alloc|apply pw_below_drewN|apply below_drew1|refine below_set ?_ GE184.out)|exact HB.out)) hb);clear BK184;clear HB;have BK184:=n0_;have HB:=n1_;clear n0_ n1_;(try clear hb);(try clear hb2);(try clear hk);(try clear hi);have hcz21_0:w20.cell? ⟨gb184,0,none⟩=some (.int .i64 a0_0):=(blk_cell BK184.out 0).trans rfl;have hcz21_1:w20.cell? ⟨gb184,1,none⟩=some (.bool a0_1):=(blk_cell BK184.out 1).trans rfl;have hcz21_2:w20.cell? ⟨gb184,2,none⟩=some (.slice A0_2 l0_2.length c0_2):=(blk_cell BK184.out 2).trans rfl;have hfz21_0:=blk_frozen BK184.out 0;have hfz21_1:=blk_frozen BK184.out 1;have hfz21_2:=blk_frozen BK184.out 2))
  go_ret
  exact⟨by first|rfl|(simp[errW_none,errW_some]<;>rfl)|(simp[*,errW_none,errW_some]<;>rfl),by repeat(first|(with_reducible first|exact HB.out|apply below_alloc|apply pw_below_drewN|apply below_drew1|refine below_set ?_ GE184.out)|exact HB.out)⟩
 rw[if_pos c5] at H
 have c5b0:((l1.length:Int) == (l0_2.length:Int))=true:=beq_iff_eq.mpr c5
 have c5b1:((l1.length:Int) != (l0_2.length:Int))=false:=bne_eq_false_iff_eq.mpr c5
 have c5b2:(l1.length == l0_2.length)=true:=by first|simpa using c5|(simp at c5 ⊢;omega)
 clear c5
 have H':=Aside0.mk H
 clear H
 go_enter Try.func96,Try.ntmps96
 go_wp2_with (first|((with_reducible refine gate_dst (N:=2) rfl ?_);refine box_event ?hg (N:=2) ?hd (cs:= #[.int .i64 a0_0, .bool a0_1, .slice A0_2 l0_2.length c0_2]) (t:=24) ?hr ?_;(case hd=>rfl);(case hg=>rfl);(case hr=>first|(go_simp;done)|(go_simp;rfl));intro gb184 hg w6 hbox hb;have n0_:=Aside0.mk (below_step (by repeat(first|(with_reducible first|exact HB.out|apply below_alloc|apply pw_below_drewN|apply below_drew1)|exact HB.out)) hb);have n1_:=Aside0.mk (hbox);have n2_:=Aside0.mk ((by rw[hg];exact(below_size (by repeat(first|(with_reducible first|exact HB.out|apply below_alloc|apply pw_below_drewN|apply below_drew1)|exact HB.out))):w.heap.size≤gb184));have n3_:=Aside0.mk ((by rw[hg];exact(below_size (by repeat(first|(with_reducible first|exact HB.out|apply below_alloc|apply pw_below_drewN|apply below_drew1)|exact HB.out))):w.heap.size≤gb184));clear HB;have HB:=n0_;have BK184:=n1_;have GW184:=n2_;have GE184:=n3_;clear n0_ n1_ n2_ n3_;clear hb hbox hg;have hcz7_0:w6.cell? ⟨gb184,0,none⟩=some (.int .i64 a0_0):=(blk_cell BK184.out 0).trans rfl;have hcz7_1:w6.cell? ⟨gb184,1,none⟩=some (.bool a0_1):=(blk_cell BK184.out 1).trans rfl;have hcz7_2:w6.cell? ⟨gb184,2,none⟩=some (.slice A0_2 l0_2.length c0_2):=(blk_cell BK184.out 2).trans rfl;have hfz7_0:=blk_frozen BK184.out 0;have hfz7_1:=blk_frozen BK184.out 1;have hfz7_2:=blk_frozen BK184.out 2)|((with_reducible refine gate_callee (f:=127) rfl ?_);refine goesL_ (some 9) rfl rfl Try.func127 (by kernel_rfl) rfl #[.agg #[.int .i64 a0_0, .bool a0_1, .slice A0_2 l0_2.length c0_2]] rfl (by(try simp only[List.map_toArray,List.map_cons,List.map_nil]);first|done|rfl|(simp only[List.length_drop,List.length_take];rfl)) ?_;(with_reducible refine(netfmt_Check.calls k a0_0 a0_1 _ _ l0_2 t185 _ ?side1 ?side2 A3.out).mono ?_);(case side1=>repeat(first|exact(Kd.C_below HR0_2.out HB.out)|(with_reducible refine Kd.C_alloc ?_ _)|(with_reducible refine Kd.C_drewN ?_ _)|(with_reducible refine Kd.C_drew ?_)));(case side2=>exact HC0_2.out);rintro e w8 ⟨rfl,hb⟩;refine⟨_,rfl,?_⟩;have n0_:=Aside0.mk (blk_below (g:=gb184) (o:= .cells #[.int .i64 a0_0, .bool a0_1, .slice A0_2 l0_2.length c0_2] 24 (0,0)) (by(with_reducible repeat(first|refine blk_drewN ?_ _|refine blk_drew ?_|refine blk_alloc ?_ _));exact BK184.out) hb);have n1_:=Aside0.mk (below_step (by repeat(first|(with_reducible first|exact HB.out|apply below_alloc|apply pw_below_drewN|apply below_drew1|refine below_set ?_ GE184.out)|exact HB.out)) hb);clear BK184;clear HB;have BK184:=n0_;have HB:=n1_;clear n0_ n1_;(try clear hb);(try clear hb2);(try clear hk);(try clear hi);have hcz9_0:w8.cell? ⟨gb184,0,none⟩=some (.int .i64 a0_0):=(blk_cell BK184.out 0).trans rfl;have hcz9_1:w8.cell? ⟨gb184,1,none⟩=some (.bool a0_1):=(blk_cell BK184.out 1).trans rfl;have hcz9_2:w8.cell? ⟨gb184,2,none⟩=some (.slice A0_2 l0_2.length c0_2):=(blk_cell BK184.out 2).trans rfl;have hfz9_0:=blk_frozen BK184.out 0;have hfz9_1:=blk_frozen BK184.out 1;have hfz9_2:=blk_frozen BK184.out 2))
 go_loopg [21] k (fun kq v21 w'=> ∃ (x21_1:Int),v21= .int .i64 x21_1∧Aside0 (static_Asked.l0 kq l1 (l1.length:Int) x21_1 a0_0 a0_1 l0_2=some r)∧Aside0 (kq≤k)∧Aside0 (w'.heap[gb184]? =some (.cells #[.int .i64 a0_0, .bool a0_1,(.slice A0_2 l0_2.length c0_2)] 24 (0,0)))∧Aside0 (Below w.heap.size w w'))
 case atStart=>exact⟨(0),(by first|rfl|(simp;done)|(simp[*];done)),H',⟨Nat.le_refl _⟩,⟨by(with_reducible repeat(first|refine blk_drewN ?_ _|refine blk_drew ?_|refine blk_alloc ?_ _));exact BK184.out⟩,⟨by repeat(first|(with_reducible first|exact HB.out|apply below_alloc|apply pw_below_drewN|apply below_drew1|refine below_set ?_ GE184.out)|exact HB.out)⟩⟩
 case round=>
  clear H'
  try clear c1
  try clear p2
  try clear c4
  try clear c4b0
  try clear c4b1
  try clear c5
  try clear c5b0
  try clear c5b1
  try clear c5b2
  try clear c9
  try clear hcz7_0
  try clear hcz7_1
  try clear hcz7_2
  try clear hcz9_0
  try clear hcz9_1
  try clear hcz9_2
  try clear hfz7_0
  try clear hfz7_1
  try clear hfz7_2
  try clear hfz9_0
  try clear hfz9_1
  try clear hfz9_2
  obtain⟨x21_1,rfl,HA,HK1,BK184,HB⟩:=hrel
  cases gk with
  |zero=>exact absurd HA.out (by simp[static_Asked.l0])
  |succ k1=>
   have H:=HA.out
   clear HA
   simp only[static_Asked.l0] at H
   by_cases c10:x21_1<(l1.length:Int)
   rotate_left
   ·rw[if_neg c10] at H
    have c10b0:decide (x21_1<(l1.length:Int))=false:=decide_eq_false c10
    clear c10
    obtain rfl:=Option.some.inj H
    go_wp2
    go_ret
    exact⟨by first|rfl|(simp[errW_none,errW_some]<;>rfl)|(simp[*,errW_none,errW_some]<;>rfl),by repeat(first|(with_reducible first|exact HB.out|apply below_alloc|apply pw_below_drewN|apply below_drew1|refine below_set ?_ GE184.out)|exact HB.out)⟩
   rw[if_pos c10] at H
   have c10b0:decide (x21_1<(l1.length:Int))=true:=decide_eq_true c10
   clear c10
   by_cases c11:0≤x21_1
   rotate_left
   ·rw[if_neg c11] at H
    exact absurd H (by simp)
   rw[if_pos c11] at H
   have c11b0:decide (0≤x21_1)=true:=decide_eq_true c11
   clear c11
   by_cases c12:x21_1<(l1.length:Int)
   rotate_left
   ·rw[if_neg c12] at H
    exact absurd H (by simp)
   rw[if_pos c12] at H
   have c12b0:decide (x21_1<(l1.length:Int))=true:=decide_eq_true c12
   clear c12
   by_cases c13:(rd l1 x21_1)<0
   ·rw[if_pos c13] at H
    have c13b0:decide ((rd l1 x21_1)<0)=true:=decide_eq_true c13
    clear c13
    obtain rfl:=Option.some.inj H
    have p186:0≤(x21_1:Int):=of_decide_eq_true (by first|(with_reducible assumption)|assumption)
    have q186:x21_1<(l1.length:Int):=of_decide_eq_true (by first|(with_reducible assumption)|assumption)
    obtain⟨ad186,e186,hx186_0⟩:=Kd.at_int HR1.out x21_1 p186 q186
    cases e186
    replace hx186_0:=(HB.out.cell (World.block_lt_of_cell? w _ hx186_0)).trans hx186_0
    replace p186:=eq_true p186
    replace q186:=eq_true q186
    go_wp2
    go_ret
    exact⟨by first|rfl|(simp[errW_none,errW_some]<;>rfl)|(simp[*,errW_none,errW_some]<;>rfl),by repeat(first|(with_reducible first|exact HB.out|apply below_alloc|apply pw_below_drewN|apply below_drew1|refine below_set ?_ GE184.out)|exact HB.out)⟩
   rw[if_neg c13] at H
   have c13b0:decide ((rd l1 x21_1)<0)=false:=decide_eq_false c13
   clear c13
   by_cases c14:x21_1<(l0_2.length:Int)
   rotate_left
   ·rw[if_neg c14] at H
    exact absurd H (by simp)
   rw[if_pos c14] at H
   have c14b0:decide (x21_1<(l0_2.length:Int))=true:=decide_eq_true c14
   clear c14
   by_cases c15:(rd l1 x21_1)>((rd_T74 l0_2 x21_1).f2)
   ·rw[if_pos c15] at H
    have c15b0:decide (((rd_T74 l0_2 x21_1).f2)<(rd l1 x21_1))=true:=decide_eq_true c15
    clear c15
    obtain rfl:=Option.some.inj H
    have p186:0≤(x21_1:Int):=of_decide_eq_true (by first|(with_reducible assumption)|assumption)
    have q186:x21_1<(l1.length:Int):=of_decide_eq_true (by first|(with_reducible assumption)|assumption)
    obtain⟨ad186,e186,hx186_0⟩:=Kd.at_int HR1.out x21_1 p186 q186
    cases e186
    replace hx186_0:=(HB.out.cell (World.block_lt_of_cell? w _ hx186_0)).trans hx186_0
    replace p186:=eq_true p186
    replace q186:=eq_true q186
    have hcz16_0:wr.cell? ⟨gb184,0,none⟩=some (.int .i64 a0_0):=(blk_cell BK184.out 0).trans rfl
    have hcz16_1:wr.cell? ⟨gb184,1,none⟩=some (.bool a0_1):=(blk_cell BK184.out 1).trans rfl
    have hcz16_2:wr.cell? ⟨gb184,2,none⟩=some (.slice A0_2 l0_2.length c0_2):=(blk_cell BK184.out 2).trans rfl
    have hfz16_0:=blk_frozen BK184.out 0
    have hfz16_1:=blk_frozen BK184.out 1
    have hfz16_2:=blk_frozen BK184.out 2
    have p187:0≤(x21_1:Int):=of_decide_eq_true (by first|(with_reducible assumption)|assumption)
    have q187:x21_1<(l0_2.length:Int):=of_decide_eq_true (by first|(with_reducible assumption)|assumption)
    obtain⟨ad187,e187,hx187_0,hx187_1,hx187_2,hx187_3⟩:=at_T74 HR0_2.out x21_1 p187 q187
    cases e187
    replace hx187_0:=(HB.out.cell (World.block_lt_of_cell? w _ hx187_0)).trans hx187_0
    replace hx187_1:=(HB.out.cell (World.block_lt_of_cell? w _ hx187_1)).trans hx187_1
    replace hx187_2:=(HB.out.cell (World.block_lt_of_cell? w _ hx187_2)).trans hx187_2
    replace hx187_3:=(HB.out.cell (World.block_lt_of_cell? w _ hx187_3)).trans hx187_3
    replace p187:=eq_true p187
    replace q187:=eq_true q187
    go_wp2
    go_ret
    exact⟨by first|rfl|(simp[errW_none,errW_some]<;>rfl)|(simp[*,errW_none,errW_some]<;>rfl),by repeat(first|(with_reducible first|exact HB.out|apply below_alloc|apply pw_below_drewN|apply below_drew1|refine below_set ?_ GE184.out)|exact HB.out)⟩
   rw[if_neg c15] at H
   have c15b0:decide (((rd_T74 l0_2 x21_1).f2)<(rd l1 x21_1))=false:=decide_eq_false c15
   clear c15
   have H':=Aside0.mk H
   clear H
   have p186:0≤(x21_1:Int):=of_decide_eq_true (by first|(with_reducible assumption)|assumption)
   have q186:x21_1<(l1.length:Int):=of_decide_eq_true (by first|(with_reducible assumption)|assumption)
   obtain⟨ad186,e186,hx186_0⟩:=Kd.at_int HR1.out x21_1 p186 q186
   cases e186
   replace hx186_0:=(HB.out.cell (World.block_lt_of_cell? w _ hx186_0)).trans hx186_0
   replace p186:=eq_true p186
   replace q186:=eq_true q186
   have hcz17_0:wr.cell? ⟨gb184,0,none⟩=some (.int .i64 a0_0):=(blk_cell BK184.out 0).trans rfl
   have hcz17_1:wr.cell? ⟨gb184,1,none⟩=some (.bool a0_1):=(blk_cell BK184.out 1).trans rfl
   have hcz17_2:wr.cell? ⟨gb184,2,none⟩=some (.slice A0_2 l0_2.length c0_2):=(blk_cell BK184.out 2).trans rfl
   have hfz17_0:=blk_frozen BK184.out 0
   have hfz17_1:=blk_frozen BK184.out 1
   have hfz17_2:=blk_frozen BK184.out 2
   have p187:0≤(x21_1:Int):=of_decide_eq_true (by first|(with_reducible assumption)|assumption)
   have q187:x21_1<(l0_2.length:Int):=of_decide_eq_true (by first|(with_reducible assumption)|assumption)
   obtain⟨ad187,e187,hx187_0,hx187_1,hx187_2,hx187_3⟩:=at_T74 HR0_2.out x21_1 p187 q187
   cases e187
   replace hx187_0:=(HB.out.cell (World.block_lt_of_cell? w _ hx187_0)).trans hx187_0
   replace hx187_1:=(HB.out.cell (World.block_lt_of_cell? w _ hx187_1)).trans hx187_1
   replace hx187_2:=(HB.out.cell (World.block_lt_of_cell? w _ hx187_2)).trans hx187_2
   replace hx187_3:=(HB.out.cell (World.block_lt_of_cell? w _ hx187_3)).trans hx187_3
   replace p187:=eq_true p187
   replace q187:=eq_true q187
   go_wp2
   go_roundg k1
   case measure=>have:=HK1.out;omega
   case rel=>exact⟨(wrap64 (x21_1+1)),(by first|rfl|(simp;done)|(simp[*];done)),H',⟨by have:=HK1.out;omega⟩,⟨by(with_reducible repeat(first|refine blk_drewN ?_ _|refine blk_drew ?_|refine blk_alloc ?_ _));exact BK184.out⟩,⟨by repeat(first|(with_reducible first|exact HB.out|apply below_alloc|apply pw_below_drewN|apply below_drew1|refine below_set ?_ GE184.out)|exact HB.out)⟩⟩
end Go.Proofs.Ytkcpanpdipmmmaa.P
namespace Go.Proofs.Ytkcpanpdipmmmaa.P
open Go.RowKit Go.Proofs.YtkcpanpdipmmmaaW.PrintWords Go.Proofs.YtkcpanpdipmmmaaW.PrintLast Go.Proofs.YtkcpanpdipmmmaaW.PrintMore
attribute [local go_sem] max2_int min2_int max_two min_two max_three min_three max_four min_four
def static_Balance.l0:Nat→List Int→List Int→List (S74)→Int→Int→Option (List Int × Int)
 |0,_,_,_,_,_=>none
 |k+1,x1,x7,x20,x21,x22=>if x22<x21 then(if 0≤x22 then(if x22<(x20.length:Int) then(if 0≤((rd_T74 x20 x22).f0) then(if ((rd_T74 x20 x22).f0)<(x7.length:Int) then(if x22<(x1.length:Int) then((some (x7.set (((rd_T74 x20 x22).f0):Int).toNat (wrap64 ((rd x7 ((rd_T74 x20 x22).f0))+(rd x1 x22))):List Int)).bind fun y714=>(if 0≤((rd_T74 x20 x22).f1) then(if ((rd_T74 x20 x22).f1)<(x7.length:Int) then(static_Balance.l0 k x1 (y714.set (((rd_T74 x20 x22).f1):Int).toNat (wrap64 ((rd y714 ((rd_T74 x20 x22).f1)) - (rd x1 x22)))) x20 x21 (wrap64 (x22+1))) else(none)) else(none))) else(none)) else(none)) else(none)) else(none)) else(none)) else(some (x7,0))
def static_Balance.f (k:Nat) (a0_0:Int) (a0_1:Bool) (l0_2:List (S74)) (l1:List Int):Option (List Int × Int):=(static_Asked.f k a0_0 a0_1 l0_2 l1).bind fun t706=>(if t706=0 then(if 0≤a0_0 then(if (a0_0:Int).toNat≤35184372088832 then(static_Balance.l0 k l1 (List.replicate (a0_0:Int).toNat 0) l0_2 (l0_2.length:Int) 0) else(none)) else(none)) else(some (([]:List Int),t706)))
def static_Balance.T8:Bool × List (List Nat × List Nat):=(true,[([],[]),([],[]),([1],[1]),([0,2],[0,2]),([3],[3]),([],[]),([],[]),([5,6],[5,6]),([7],[7]),([4,8],[4,8]),([0,2,0,1,2,3,4,5,6,7,8,9],[0,2]),([10,9,0,1,2,3,4,5,6,7,8,9],[9,10])])
def static_Balance.B8:List Nat:=[0,0,2,7,15,0,0,96,224,511,1023,2047]
theorem static_Balance.tab8:rtab .any (opsOf Try.f150 8)=static_Balance.T8:=by kernel_rfl
theorem static_Balance.bits8:waitsOk static_Balance.T8.2 static_Balance.B8=true:=by kernel_rfl
def static_Balance.T9:Bool × List (List Nat × List Nat):=(true,[([],[]),([],[]),([1],[1]),([0,2],[0,2]),([3],[3]),([],[]),([],[]),([5,6],[5,6]),([7],[7]),([4,8],[4,8]),([0,2,0,1,2,3,4,5,6,7,8,9],[0,2]),([10,9,0,1,2,3,4,5,6,7,8,9],[9,10])])
def static_Balance.B9:List Nat:=[0,0,2,7,15,0,0,96,224,511,1023,2047]
theorem static_Balance.tab9:rtab .any (opsOf Try.f150 9)=static_Balance.T9:=by kernel_rfl
theorem static_Balance.bits9:waitsOk static_Balance.T9.2 static_Balance.B9=true:=by kernel_rfl
set_option maxHeartbeats 8000000 in
set_option maxRecDepth 100000 in
theorem static_Balance.calls (k:Nat) (a0_0:Int) (a0_1:Bool) (A0_2:Option Addr) (c0_2:Nat) (l0_2:List (S74)) (A1:Option Addr) (c1:Nat) (l1:List Int) (r1:List Int) (r2:Int) (w:World) (hr0_2:Kd.C k74 w A0_2 l0_2.length l0_2) (hc0_2:l0_2.length≤c0_2) (hr1:Kd.C (Kd.int .i64) w A1 l1.length l1) (hc1:l1.length≤c1) (h:static_Balance.f k a0_0 a0_1 l0_2 l1=some (r1,r2)):
  Calls Try.prog 150 #[.agg #[.int .i64 a0_0, .bool a0_1, .slice A0_2 l0_2.length c0_2], .slice A1 l1.length c1] w fun e w'=> ∃ v0_:Value,e= .returned (.tuple #[v0_, .int .i64 r2])∧Kd.R (Kd.int .i64) 3 w' w.heap.size (fun _=>True) v0_ r1∧Below w.heap.size w w':=by
 have hu24:=Try.underlying24
 have hu74:=Try.underlying74
 have HR0_2:=Aside0.mk hr0_2
 have HC0_2:=Aside0.mk hc0_2
 clear hr0_2 hc0_2
 have HR1:=Aside0.mk hr1
 have HC1:=Aside0.mk hc1
 clear hr1 hc1
 have HB:=Aside0.mk (Below.refl w.heap.size w)
 have H:((static_Asked.f k a0_0 a0_1 l0_2 l1).bind fun t706=>(if t706=0 then(if 0≤a0_0 then(if (a0_0:Int).toNat≤35184372088832 then(static_Balance.l0 k l1 (List.replicate (a0_0:Int).toNat 0) l0_2 (l0_2.length:Int) 0) else(none)) else(none)) else(some (([]:List Int),t706))))=some (r1,r2):=h
 clear h
 replace H:=Option.bind_eq_some_iff.mp H
 obtain⟨t706,A30,H⟩:=H
 replace H:(if t706=0 then(if 0≤a0_0 then(if (a0_0:Int).toNat≤35184372088832 then(static_Balance.l0 k l1 (List.replicate (a0_0:Int).toNat 0) l0_2 (l0_2.length:Int) 0) else(none)) else(none)) else(some (([]:List Int),t706)))=some (r1,r2):=H
 have A3:=Aside0.mk A30
 clear A30
 by_cases c4:t706=0
 rotate_left
 ·rw[if_neg c4] at H
  have c4b0:(t706 == 0)=false:=beq_eq_false_iff_ne.mpr c4
  have c4b1:(t706 != 0)=true:=bne_iff_ne.mpr c4
  simp only[Option.some.injEq,Prod.mk.injEq] at H
  obtain⟨rfl,rfl⟩:=H
  go_enter Try.func150,Try.ntmps150
  go_wp2_with (first|((with_reducible refine gate_dst (N:=2) rfl ?_);refine box_event ?hg (N:=2) ?hd (cs:= #[.int .i64 a0_0, .bool a0_1, .slice A0_2 l0_2.length c0_2]) (t:=24) ?hr ?_;(case hd=>rfl);(case hg=>rfl);(case hr=>first|(go_simp;done)|(go_simp;rfl));intro gb705 hg w34 hbox hb;have n0_:=Aside0.mk (below_step (by repeat(first|(with_reducible first|exact HB.out|apply below_alloc|apply pw_below_drewN|apply below_drew1)|exact HB.out)) hb);have n1_:=Aside0.mk (hbox);have n2_:=Aside0.mk ((by rw[hg];exact(below_size (by repeat(first|(with_reducible first|exact HB.out|apply below_alloc|apply pw_below_drewN|apply below_drew1)|exact HB.out))):w.heap.size≤gb705));have n3_:=Aside0.mk ((by rw[hg];exact(below_size (by repeat(first|(with_reducible first|exact HB.out|apply below_alloc|apply pw_below_drewN|apply below_drew1)|exact HB.out))):w.heap.size≤gb705));clear HB;have HB:=n0_;have BK705:=n1_;have GW705:=n2_;have GE705:=n3_;clear n0_ n1_ n2_ n3_;clear hb hbox hg;have hcz35_0:w34.cell? ⟨gb705,0,none⟩=some (.int .i64 a0_0):=(blk_cell BK705.out 0).trans rfl;have hcz35_1:w34.cell? ⟨gb705,1,none⟩=some (.bool a0_1):=(blk_cell BK705.out 1).trans rfl;have hcz35_2:w34.cell? ⟨gb705,2,none⟩=some (.slice A0_2 l0_2.length c0_2):=(blk_cell BK705.out 2).trans rfl;have hfz35_0:=blk_frozen BK705.out 0;have hfz35_1:=blk_frozen BK705.out 1;have hfz35_2:=blk_frozen BK705.out 2)|((with_reducible refine gate_callee (f:=96) rfl ?_);refine goesL_ (some 12) rfl rfl Try.func96 (by kernel_rfl) rfl #[.agg #[.int .i64 a0_0, .bool a0_1, .slice A0_2 l0_2.length c0_2], .slice A1 l1.length c1] rfl (by(try simp only[List.map_toArray,List.map_cons,List.map_nil]);first|done|rfl|(simp only[List.length_drop,List.length_take];rfl)) ?_;(with_reducible refine(static_Asked.calls k a0_0 a0_1 _ _ l0_2 _ _ l1 t706 _ ?side1 ?side2 ?side3 ?side4 A3.out).mono ?_);(case side1=>repeat(first|exact(Kd.C_below HR0_2.out HB.out)|(with_reducible refine Kd.C_alloc ?_ _)|(with_reducible refine Kd.C_drewN ?_ _)|(with_reducible refine Kd.C_drew ?_)));(case side2=>exact HC0_2.out);(case side3=>repeat(first|exact(Kd.C_below HR1.out HB.out)|(with_reducible refine Kd.C_alloc ?_ _)|(with_reducible refine Kd.C_drewN ?_ _)|(with_reducible refine Kd.C_drew ?_)));(case side4=>exact HC1.out);rintro e w36 ⟨rfl,hb⟩;refine⟨_,rfl,?_⟩;have n0_:=Aside0.mk (blk_below (g:=gb705) (o:= .cells #[.int .i64 a0_0, .bool a0_1, .slice A0_2 l0_2.length c0_2] 24 (0,0)) (by(with_reducible repeat(first|refine blk_drewN ?_ _|refine blk_drew ?_|refine blk_alloc ?_ _));exact BK705.out) hb);have n1_:=Aside0.mk (below_step (by repeat(first|(with_reducible first|exact HB.out|apply below_alloc|apply pw_below_drewN|apply below_drew1|refine below_set ?_ GE705.out)|exact HB.out)) hb);clear BK705;clear HB;have BK705:=n0_;have HB:=n1_;clear n0_ n1_;(try clear hb);(try clear hb2);(try clear hk);(try clear hi)))
  go_ret2
  exact⟨_,by first|rfl|(simp[errW_none,errW_some]<;>rfl)|(simp[*,errW_none,errW_some]<;>rfl),by first|exact Kd.R_nil _ _ _ _ _|exact Kd.N_nil _ _ _ _ _|exact Kd.V_nil _ _ _ _ _|exact Kd.Q_nil _ _ _ _ _|exact Kd.S_nil _ _ _ _ _,by repeat(first|(with_reducible first|exact HB.out|apply below_alloc|apply pw_below_drewN|apply below_drew1|refine below_set ?_ GE705.out)|exact HB.out)⟩
 rw[if_pos c4] at H
 have c4b0:(t706 == 0)=true:=beq_iff_eq.mpr c4
 have c4b1:(t706 != 0)=false:=bne_eq_false_iff_eq.mpr c4
 clear c4
 by_cases c5:0≤a0_0
 rotate_left
 ·rw[if_neg c5] at H
  exact absurd H (by simp)
 rw[if_pos c5] at H
 have c5b0:=eq_true c5
 have c5b1:decide (0≤a0_0)=true:=decide_eq_true c5
 clear c5
 by_cases c6:(a0_0:Int).toNat≤35184372088832
 rotate_left
 ·rw[if_neg c6] at H
  exact absurd H (by simp)
 rw[if_pos c6] at H
 have c6b0:=eq_true c6
 have c6b1:decide ((a0_0:Int).toNat≤35184372088832)=true:=decide_eq_true c6
 clear c6
 obtain⟨y707,hy707⟩: ∃ y_:List Int,y_=(List.replicate (a0_0:Int).toNat 0):=⟨_,rfl⟩
 replace H:(static_Balance.l0 k l1 y707 l0_2 (l0_2.length:Int) 0)=some (r1,r2):=by first|(rw[hy707];with_reducible exact H)|(have H2_:=(Option.bind_some _ _).symm.trans H;rw[hy707];with_reducible exact H2_)|(have H2_:=(Option.bind_some _ _).symm.trans H;with_reducible exact H2_)|with_reducible exact H|(rw[hy707];exact H)|exact H
 have Ny707:=Aside0.mk hy707
 clear hy707
 have H':=Aside0.mk H
 clear H
 go_enter Try.func150,Try.ntmps150
 go_wp2_with (first|((with_reducible refine gate_dst (N:=2) rfl ?_);refine box_event ?hg (N:=2) ?hd (cs:= #[.int .i64 a0_0, .bool a0_1, .slice A0_2 l0_2.length c0_2]) (t:=24) ?hr ?_;(case hd=>rfl);(case hg=>rfl);(case hr=>first|(go_simp;done)|(go_simp;rfl));intro gb705 hg w7 hbox hb;have n0_:=Aside0.mk (below_step (by repeat(first|(with_reducible first|exact HB.out|apply below_alloc|apply pw_below_drewN|apply below_drew1)|exact HB.out)) hb);have n1_:=Aside0.mk (hbox);have n2_:=Aside0.mk ((by rw[hg];exact(below_size (by repeat(first|(with_reducible first|exact HB.out|apply below_alloc|apply pw_below_drewN|apply below_drew1)|exact HB.out))):w.heap.size≤gb705));have n3_:=Aside0.mk ((by rw[hg];exact(below_size (by repeat(first|(with_reducible first|exact HB.out|apply below_alloc|apply pw_below_drewN|apply below_drew1)|exact HB.out))):w.heap.size≤gb705));clear HB;have HB:=n0_;have BK705:=n1_;have GW705:=n2_;have GE705:=n3_;clear n0_ n1_ n2_ n3_;clear hb hbox hg;have hcz8_0:w7.cell? ⟨gb705,0,none⟩=some (.int .i64 a0_0):=(blk_cell BK705.out 0).trans rfl;have hcz8_1:w7.cell? ⟨gb705,1,none⟩=some (.bool a0_1):=(blk_cell BK705.out 1).trans rfl;have hcz8_2:w7.cell? ⟨gb705,2,none⟩=some (.slice A0_2 l0_2.length c0_2):=(blk_cell BK705.out 2).trans rfl;have hfz8_0:=blk_frozen BK705.out 0;have hfz8_1:=blk_frozen BK705.out 1;have hfz8_2:=blk_frozen BK705.out 2)|((with_reducible refine gate_callee (f:=96) rfl ?_);refine goesL_ (some 12) rfl rfl Try.func96 (by kernel_rfl) rfl #[.agg #[.int .i64 a0_0, .bool a0_1, .slice A0_2 l0_2.length c0_2], .slice A1 l1.length c1] rfl (by(try simp only[List.map_toArray,List.map_cons,List.map_nil]);first|done|rfl|(simp only[List.length_drop,List.length_take];rfl)) ?_;(with_reducible refine(static_Asked.calls k a0_0 a0_1 _ _ l0_2 _ _ l1 t706 _ ?side1 ?side2 ?side3 ?side4 A3.out).mono ?_);(case side1=>repeat(first|exact(Kd.C_below HR0_2.out HB.out)|(with_reducible refine Kd.C_alloc ?_ _)|(with_reducible refine Kd.C_drewN ?_ _)|(with_reducible refine Kd.C_drew ?_)));(case side2=>exact HC0_2.out);(case side3=>repeat(first|exact(Kd.C_below HR1.out HB.out)|(with_reducible refine Kd.C_alloc ?_ _)|(with_reducible refine Kd.C_drewN ?_ _)|(with_reducible refine Kd.C_drew ?_)));(case side4=>exact HC1.out);rintro e w9 ⟨rfl,hb⟩;refine⟨_,rfl,?_⟩;have n0_:=Aside0.mk (blk_below (g:=gb705) (o:= .cells #[.int .i64 a0_0, .bool a0_1, .slice A0_2 l0_2.length c0_2] 24 (0,0)) (by(with_reducible repeat(first|refine blk_drewN ?_ _|refine blk_drew ?_|refine blk_alloc ?_ _));exact BK705.out) hb);have n1_:=Aside0.mk (below_step (by repeat(first|(with_reducible first|exact HB.out|apply below_alloc|apply pw_below_drewN|apply below_drew1|refine below_set ?_ GE705.out)|exact HB.out)) hb);clear BK705;clear HB;have BK705:=n0_;have HB:=n1_;clear n0_ n1_;(try clear hb);(try clear hb2);(try clear hk);(try clear hi);have hcz10_0:w9.cell? ⟨gb705,0,none⟩=some (.int .i64 a0_0):=(blk_cell BK705.out 0).trans rfl;have hcz10_1:w9.cell? ⟨gb705,1,none⟩=some (.bool a0_1):=(blk_cell BK705.out 1).trans rfl;have hcz10_2:w9.cell? ⟨gb705,2,none⟩=some (.slice A0_2 l0_2.length c0_2):=(blk_cell BK705.out 2).trans rfl;have hfz10_0:=blk_frozen BK705.out 0;have hfz10_1:=blk_frozen BK705.out 1;have hfz10_2:=blk_frozen BK705.out 2)|((with_reducible refine gate_dst (N:=18) rfl ?_);refine Kd.R_make (Kd.int .i64) _ 3 rfl (N:=18) rfl 25 _ _ rfl a0_0 rfl rfl Try.underlying25 (.int .i64 0) 8 info3 rfl (by decide) (by omega) 0 (ok:=fun _=>True) (okp:=fun _=>True) rfl (fun _ hk=>hk) trivial (of_decide_eq_true (by first|(with_reducible assumption)|assumption)) (Nat.le_trans (Nat.mul_le_mul_right _ (of_decide_eq_true (by first|(with_reducible assumption)|assumption):a0_0.toNat≤35184372088832)) (by omega)) (Below.refl _ _) (Nat.le_refl _) ?_;intro v708 w11 ho12 hb hg_ hnew_;clear hg_ hnew_;(first|rw[← Ny707.out] at ho12|(simp only[Int.reduceToNat] at ho12;rw[← Ny707.out] at ho12));have n0_:=Aside0.mk (Kd.R_lower ho12 (below_size (by repeat(first|(with_reducible first|exact HB.out|apply below_alloc|apply pw_below_drewN|apply below_drew1|refine below_set ?_ GE705.out)|exact HB.out))));have n1_:=Aside0.mk (blk_below (g:=gb705) (o:= .cells #[.int .i64 a0_0, .bool a0_1, .slice A0_2 l0_2.length c0_2] 24 (0,0)) (by(with_reducible repeat(first|refine blk_drewN ?_ _|refine blk_drew ?_|refine blk_alloc ?_ _));exact BK705.out) hb);have n2_:=Aside0.mk (below_step (by repeat(first|(with_reducible first|exact HB.out|apply below_alloc|apply pw_below_drewN|apply below_drew1|refine below_set ?_ GE705.out)|exact HB.out)) hb);clear BK705;clear HB;have HO709:=n0_;have BK705:=n1_;have HB:=n2_;clear n0_ n1_ n2_;clear hb ho12;have hcz13_0:w11.cell? ⟨gb705,0,none⟩=some (.int .i64 a0_0):=(blk_cell BK705.out 0).trans rfl;have hcz13_1:w11.cell? ⟨gb705,1,none⟩=some (.bool a0_1):=(blk_cell BK705.out 1).trans rfl;have hcz13_2:w11.cell? ⟨gb705,2,none⟩=some (.slice A0_2 l0_2.length c0_2):=(blk_cell BK705.out 2).trans rfl;have hfz13_0:=blk_frozen BK705.out 0;have hfz13_1:=blk_frozen BK705.out 1;have hfz13_2:=blk_frozen BK705.out 2))
 go_loopg [22] k (fun kq v22 w'=> ∃ (x7_1:List Int) (x22_1:Int),v22= .int .i64 x22_1∧Aside0 (static_Balance.l0 kq l1 x7_1 l0_2 (l0_2.length:Int) x22_1=some (r1,r2))∧Aside0 (kq≤k)∧Aside0 (Kd.R (Kd.int .i64) 3 w' w.heap.size (fun _=>True) v708 x7_1)∧Aside0 (w'.heap[gb705]? =some (.cells #[.int .i64 a0_0, .bool a0_1,(.slice A0_2 l0_2.length c0_2)] 24 (0,0)))∧Aside0 (Below w.heap.size w w'))
 case atStart=>exact⟨(y707),(0),(by first|rfl|(simp;done)|(simp[*];done)),H',⟨Nat.le_refl _⟩,⟨by(with_reducible repeat(first|apply Kd.R_alloc|apply Kd.R_drewN|apply Kd.R_drew));exact HO709.out⟩,⟨by(with_reducible repeat(first|refine blk_drewN ?_ _|refine blk_drew ?_|refine blk_alloc ?_ _));exact BK705.out⟩,⟨by repeat(first|(with_reducible first|exact HB.out|apply below_alloc|apply pw_below_drewN|apply below_drew1|refine below_set ?_ GE705.out)|exact HB.out)⟩⟩
 case round=>
  clear H'
  try clear c1
  try clear p2
  try clear c4
  try clear c4b0
  try clear c4b1
  try clear c5
  try clear c5b0
  try clear c5b1
  try clear c6
  try clear c6b0
  try clear c6b1
  try clear c9
  try clear hcz10_0
  try clear hcz10_1
  try clear hcz10_2
  try clear hcz13_0
  try clear hcz13_1
  try clear hcz13_2
  try clear hcz8_0
  try clear hcz8_1
  try clear hcz8_2
  try clear hfz10_0
  try clear hfz10_1
  try clear hfz10_2
  try clear hfz13_0
  try clear hfz13_1
  try clear hfz13_2
  try clear hfz8_0
  try clear hfz8_1
  try clear hfz8_2
  obtain⟨x7_1,x22_1,rfl,HA,HK1,HO_7,BK705,HB⟩:=hrel
  cases gk with
  |zero=>exact absurd HA.out (by simp[static_Balance.l0])
  |succ k1=>
   have H:=HA.out
   clear HA
   simp only[static_Balance.l0] at H
   by_cases c14:x22_1<(l0_2.length:Int)
   rotate_left
   ·rw[if_neg c14] at H
    have c14b0:decide (x22_1<(l0_2.length:Int))=false:=decide_eq_false c14
    clear c14
    simp only[Option.some.injEq,Prod.mk.injEq] at H
    obtain⟨rfl,rfl⟩:=H
    go_wp2
    go_ret2
    exact⟨_,by first|rfl|(simp[errW_none,errW_some]<;>rfl)|(simp[*,errW_none,errW_some]<;>rfl),by(with_reducible repeat(first|apply Kd.R_alloc|apply Kd.R_drewN|apply Kd.R_drew));exact HO_7.out,by repeat(first|(with_reducible first|exact HB.out|apply below_alloc|apply pw_below_drewN|apply below_drew1|refine below_set ?_ GE705.out)|exact HB.out)⟩
   rw[if_pos c14] at H
   have c14b0:decide (x22_1<(l0_2.length:Int))=true:=decide_eq_true c14
   clear c14
   by_cases c15:0≤x22_1
   rotate_left
   ·rw[if_neg c15] at H
    exact absurd H (by simp)
   rw[if_pos c15] at H
   have c15b0:decide (0≤x22_1)=true:=decide_eq_true c15
   clear c15
   by_cases c16:x22_1<(l0_2.length:Int)
   rotate_left
   ·rw[if_neg c16] at H
    exact absurd H (by simp)
   rw[if_pos c16] at H
   have c16b0:decide (x22_1<(l0_2.length:Int))=true:=decide_eq_true c16
   clear c16
   by_cases c17:0≤((rd_T74 l0_2 x22_1).f0)
   rotate_left
   ·rw[if_neg c17] at H
    exact absurd H (by simp)
   rw[if_pos c17] at H
   have c17b0:decide (0≤((rd_T74 l0_2 x22_1).f0))=true:=decide_eq_true c17
   clear c17
   by_cases c18:((rd_T74 l0_2 x22_1).f0)<(x7_1.length:Int)
   rotate_left
   ·rw[if_neg c18] at H
    exact absurd H (by simp)
   rw[if_pos c18] at H
   have c18b0:decide (((rd_T74 l0_2 x22_1).f0)<(x7_1.length:Int))=true:=decide_eq_true c18
   clear c18
   by_cases c19:x22_1<(l1.length:Int)
   rotate_left
   ·rw[if_neg c19] at H
    exact absurd H (by simp)
   rw[if_pos c19] at H
   have c19b0:decide (x22_1<(l1.length:Int))=true:=decide_eq_true c19
   clear c19
   obtain⟨y714,hy714⟩: ∃ y_:List Int,y_=(x7_1.set (((rd_T74 l0_2 x22_1).f0):Int).toNat (wrap64 ((rd x7_1 ((rd_T74 l0_2 x22_1).f0))+(rd l1 x22_1)))):=⟨_,rfl⟩
   replace H:(if 0≤((rd_T74 l0_2 x22_1).f1) then(if ((rd_T74 l0_2 x22_1).f1)<(x7_1.length:Int) then(static_Balance.l0 k1 l1 (y714.set (((rd_T74 l0_2 x22_1).f1):Int).toNat (wrap64 ((rd y714 ((rd_T74 l0_2 x22_1).f1)) - (rd l1 x22_1)))) l0_2 (l0_2.length:Int) (wrap64 (x22_1+1))) else(none)) else(none))=some (r1,r2):=by first|(rw[hy714];with_reducible exact H)|(have H2_:=(Option.bind_some _ _).symm.trans H;rw[hy714];with_reducible exact H2_)|(have H2_:=(Option.bind_some _ _).symm.trans H;with_reducible exact H2_)|with_reducible exact H|(rw[hy714];exact H)|exact H
   have Ny714:=Aside0.mk hy714
   clear hy714
   by_cases c21:0≤((rd_T74 l0_2 x22_1).f1)
   rotate_left
   ·rw[if_neg c21] at H
    exact absurd H (by simp)
   rw[if_pos c21] at H
   have c21b0:decide (0≤((rd_T74 l0_2 x22_1).f1))=true:=decide_eq_true c21
   clear c21
   by_cases c22:((rd_T74 l0_2 x22_1).f1)<(x7_1.length:Int)
   rotate_left
   ·rw[if_neg c22] at H
    exact absurd H (by simp)
   rw[if_pos c22] at H
   have c22b0:decide (((rd_T74 l0_2 x22_1).f1)<(x7_1.length:Int))=true:=decide_eq_true c22
   clear c22
   obtain⟨y717,hy717⟩: ∃ y_:List Int,y_=(y714.set (((rd_T74 l0_2 x22_1).f1):Int).toNat (wrap64 ((rd y714 ((rd_T74 l0_2 x22_1).f1)) - (rd l1 x22_1)))):=⟨_,rfl⟩
   replace H:(static_Balance.l0 k1 l1 y717 l0_2 (l0_2.length:Int) (wrap64 (x22_1+1)))=some (r1,r2):=by first|(rw[hy717];with_reducible exact H)|(have H2_:=(Option.bind_some _ _).symm.trans H;rw[hy717];with_reducible exact H2_)|(have H2_:=(Option.bind_some _ _).symm.trans H;with_reducible exact H2_)|with_reducible exact H|(rw[hy717];exact H)|exact H
   have Ny717:=Aside0.mk hy717
   clear hy717
   have H':=Aside0.mk H
   clear H
   have p710:0≤(x22_1:Int):=of_decide_eq_true (by first|(with_reducible assumption)|assumption)
   have q710:x22_1<(l0_2.length:Int):=of_decide_eq_true (by first|(with_reducible assumption)|assumption)
   obtain⟨ad710,e710,hx710_0,hx710_1,hx710_2,hx710_3⟩:=at_T74 HR0_2.out x22_1 p710 q710
   cases e710
   replace hx710_0:=(HB.out.cell (World.block_lt_of_cell? w _ hx710_0)).trans hx710_0
   replace hx710_1:=(HB.out.cell (World.block_lt_of_cell? w _ hx710_1)).trans hx710_1
   replace hx710_2:=(HB.out.cell (World.block_lt_of_cell? w _ hx710_2)).trans hx710_2
   replace hx710_3:=(HB.out.cell (World.block_lt_of_cell? w _ hx710_3)).trans hx710_3
   replace p710:=eq_true p710
   replace q710:=eq_true q710
   try go_wp2_with (first|((with_reducible refine gate_dst (N:=9) rfl ?_);refine box_event ?hg (N:=9) ?hd (cs:= #[.int .i64 0, .int .i64 0, .int .i64 0, .int .i64 0]) (t:=74) ?hr ?_;(case hd=>rfl);(case hg=>rfl);(case hr=>first|(go_simp;done)|(go_simp;rfl));intro gb711 hg w24 hbox hb;have n0_:=Aside0.mk (Kd.R_below (by(with_reducible repeat(first|apply Kd.R_alloc|apply Kd.R_drewN|apply Kd.R_drew));exact HO_7.out) hb);have n1_:=Aside0.mk (blk_below (g:=gb705) (o:= .cells #[.int .i64 a0_0, .bool a0_1, .slice (some ad710) l0_2.length c0_2] 24 (0,0)) (by(with_reducible repeat(first|refine blk_drewN ?_ _|refine blk_drew ?_|refine blk_alloc ?_ _));exact BK705.out) hb);have n2_:=Aside0.mk (below_step (by repeat(first|(with_reducible first|exact HB.out|apply below_alloc|apply pw_below_drewN|apply below_drew1|refine below_set ?_ GE705.out)|exact HB.out)) hb);have n3_:=Aside0.mk (hbox);have n4_:=Aside0.mk ((by rw[hg];exact(below_size (by repeat(first|(with_reducible first|exact HB.out|apply below_alloc|apply pw_below_drewN|apply below_drew1|refine below_set ?_ GE705.out)|exact HB.out))):w.heap.size≤gb711));have n5_:=Aside0.mk ((by rw[hg];exact(below_size (by repeat(first|(with_reducible first|exact HB.out|apply below_alloc|apply pw_below_drewN|apply below_drew1|refine below_set ?_ GE705.out)|exact HB.out))):w.heap.size≤gb711));have n6_:=Aside0.mk ((by rw[hg];exact Nat.ne_of_lt (blk_lt (g:=gb705) (o:= .cells #[.int .i64 a0_0, .bool a0_1, .slice (some ad710) l0_2.length c0_2] 24 (0,0)) (by(with_reducible repeat(first|refine blk_drewN ?_ _|refine blk_drew ?_|refine blk_alloc ?_ _));exact BK705.out)):gb705≠gb711));have n7_:=Aside0.mk ((by rw[hg];exact Nat.ne_of_gt (blk_lt (g:=gb705) (o:= .cells #[.int .i64 a0_0, .bool a0_1, .slice (some ad710) l0_2.length c0_2] 24 (0,0)) (by(with_reducible repeat(first|refine blk_drewN ?_ _|refine blk_drew ?_|refine blk_alloc ?_ _));exact BK705.out)):gb711≠gb705));clear HO_7;clear BK705;clear HB;have HO_7:=n0_;have BK705:=n1_;have HB:=n2_;have BK711:=n3_;have GW711:=n4_;have GE711:=n5_;have NB705_711:=n6_;have NB711_705:=n7_;clear n0_ n1_ n2_ n3_ n4_ n5_ n6_ n7_;clear hb hbox hg;have hnb25:=NB711_705.out;have hnc25:=NB705_711.out;have hcz26_0:w24.cell? ⟨gb711,0,none⟩=some (.int .i64 0):=(blk_cell BK711.out 0).trans rfl;have hcz26_1:w24.cell? ⟨gb711,1,none⟩=some (.int .i64 0):=(blk_cell BK711.out 1).trans rfl;have hcz26_2:w24.cell? ⟨gb711,2,none⟩=some (.int .i64 0):=(blk_cell BK711.out 2).trans rfl;have hcz26_3:w24.cell? ⟨gb711,3,none⟩=some (.int .i64 0):=(blk_cell BK711.out 3).trans rfl;have hfz26_0:=blk_frozen BK711.out 0;have hfz26_1:=blk_frozen BK711.out 1;have hfz26_2:=blk_frozen BK711.out 2;have hfz26_3:=blk_frozen BK711.out 3))
   have n0_:Aside0 (Kd.R (Kd.int .i64) 3 ((((w24.setCell ⟨gb711,0,none⟩ (.int .i64 ((rd_T74 l0_2 x22_1).f0))).setCell ⟨gb711,1,none⟩ (.int .i64 ((rd_T74 l0_2 x22_1).f1))).setCell ⟨gb711,2,none⟩ (.int .i64 ((rd_T74 l0_2 x22_1).f2))).setCell ⟨gb711,3,none⟩ (.int .i64 ((rd_T74 l0_2 x22_1).f3))) w.heap.size (fun _=>True) v708 x7_1):=⟨by(with_reducible repeat(first|apply Kd.R_alloc|apply Kd.R_drewN|apply Kd.R_drew));exact Kd.R_mono (Kd.R_far (p:=⟨gb711,3,none⟩) (Kd.R_far (p:=⟨gb711,2,none⟩) (Kd.R_far (p:=⟨gb711,1,none⟩) (Kd.R_far (p:=⟨gb711,0,none⟩) (Kd.R_types HO_7.out BK711.out (by decide)) (fun _ hk=>hk.2) (.int .i64 ((rd_T74 l0_2 x22_1).f0))) (fun _ hk=>hk.2) (.int .i64 ((rd_T74 l0_2 x22_1).f1))) (fun _ hk=>hk.2) (.int .i64 ((rd_T74 l0_2 x22_1).f2))) (fun _ hk=>hk.2) (.int .i64 ((rd_T74 l0_2 x22_1).f3))) (fun _ hk=>trivial)⟩
   have n1_:Aside0 (((((w24.setCell ⟨gb711,0,none⟩ (.int .i64 ((rd_T74 l0_2 x22_1).f0))).setCell ⟨gb711,1,none⟩ (.int .i64 ((rd_T74 l0_2 x22_1).f1))).setCell ⟨gb711,2,none⟩ (.int .i64 ((rd_T74 l0_2 x22_1).f2))).setCell ⟨gb711,3,none⟩ (.int .i64 ((rd_T74 l0_2 x22_1).f3))).heap[gb705]? =some (.cells #[.int .i64 a0_0, .bool a0_1, .slice (some ad710) l0_2.length c0_2] 24 (0,0))):=⟨by(with_reducible repeat(first|refine blk_drewN ?_ _|refine blk_drew ?_|refine blk_alloc ?_ _));refine blk_far ?_ NB705_711.out _;(with_reducible repeat(first|refine blk_drewN ?_ _|refine blk_drew ?_|refine blk_alloc ?_ _));refine blk_far ?_ NB705_711.out _;(with_reducible repeat(first|refine blk_drewN ?_ _|refine blk_drew ?_|refine blk_alloc ?_ _));refine blk_far ?_ NB705_711.out _;(with_reducible repeat(first|refine blk_drewN ?_ _|refine blk_drew ?_|refine blk_alloc ?_ _));refine blk_far ?_ NB705_711.out _;(with_reducible repeat(first|refine blk_drewN ?_ _|refine blk_drew ?_|refine blk_alloc ?_ _));exact BK705.out⟩
   have n2_:Aside0 (((((w24.setCell ⟨gb711,0,none⟩ (.int .i64 ((rd_T74 l0_2 x22_1).f0))).setCell ⟨gb711,1,none⟩ (.int .i64 ((rd_T74 l0_2 x22_1).f1))).setCell ⟨gb711,2,none⟩ (.int .i64 ((rd_T74 l0_2 x22_1).f2))).setCell ⟨gb711,3,none⟩ (.int .i64 ((rd_T74 l0_2 x22_1).f3))).heap[gb711]? =some (.cells #[.int .i64 ((rd_T74 l0_2 x22_1).f0), .int .i64 ((rd_T74 l0_2 x22_1).f1), .int .i64 ((rd_T74 l0_2 x22_1).f2), .int .i64 ((rd_T74 l0_2 x22_1).f3)] 74 (0,0))):=⟨by(with_reducible repeat(first|refine blk_drewN ?_ _|refine blk_drew ?_|refine blk_alloc ?_ _));refine blk_put (cs:= #[.int .i64 ((rd_T74 l0_2 x22_1).f0), .int .i64 ((rd_T74 l0_2 x22_1).f1), .int .i64 ((rd_T74 l0_2 x22_1).f2), .int .i64 0]) ?_ 3 _ rfl;(with_reducible repeat(first|refine blk_drewN ?_ _|refine blk_drew ?_|refine blk_alloc ?_ _));refine blk_put (cs:= #[.int .i64 ((rd_T74 l0_2 x22_1).f0), .int .i64 ((rd_T74 l0_2 x22_1).f1), .int .i64 0, .int .i64 0]) ?_ 2 _ rfl;(with_reducible repeat(first|refine blk_drewN ?_ _|refine blk_drew ?_|refine blk_alloc ?_ _));refine blk_put (cs:= #[.int .i64 ((rd_T74 l0_2 x22_1).f0), .int .i64 0, .int .i64 0, .int .i64 0]) ?_ 1 _ rfl;(with_reducible repeat(first|refine blk_drewN ?_ _|refine blk_drew ?_|refine blk_alloc ?_ _));refine blk_put (cs:= #[.int .i64 0, .int .i64 0, .int .i64 0, .int .i64 0]) ?_ 0 _ rfl;(with_reducible repeat(first|refine blk_drewN ?_ _|refine blk_drew ?_|refine blk_alloc ?_ _));exact BK711.out⟩
   have n3_:Aside0 (Below w.heap.size w ((((w24.setCell ⟨gb711,0,none⟩ (.int .i64 ((rd_T74 l0_2 x22_1).f0))).setCell ⟨gb711,1,none⟩ (.int .i64 ((rd_T74 l0_2 x22_1).f1))).setCell ⟨gb711,2,none⟩ (.int .i64 ((rd_T74 l0_2 x22_1).f2))).setCell ⟨gb711,3,none⟩ (.int .i64 ((rd_T74 l0_2 x22_1).f3)))):=⟨by repeat(first|(with_reducible first|exact HB.out|apply below_alloc|apply pw_below_drewN|apply below_drew1|refine below_set ?_ GE705.out|refine below_set ?_ GE711.out)|exact HB.out)⟩
   (try clear HO_7)
   (try clear BK705)
   (try clear BK711)
   (try clear HB)
   generalize ((((w24.setCell ⟨gb711,0,none⟩ (.int .i64 ((rd_T74 l0_2 x22_1).f0))).setCell ⟨gb711,1,none⟩ (.int .i64 ((rd_T74 l0_2 x22_1).f1))).setCell ⟨gb711,2,none⟩ (.int .i64 ((rd_T74 l0_2 x22_1).f2))).setCell ⟨gb711,3,none⟩ (.int .i64 ((rd_T74 l0_2 x22_1).f3)))=w27 at n0_ n1_ n2_ n3_ ⊢
   have HO_7:=n0_
   have BK705:=n1_
   have BK711:=n2_
   have HB:=n3_
   clear n0_ n1_ n2_ n3_
   have n0_:=Aside0.mk (Kd.R_drew HO_7.out)
   have n1_:=Aside0.mk (blk_drew BK705.out)
   have n2_:=Aside0.mk (blk_drew BK711.out)
   have n3_:=Aside0.mk (below_drew1 HB.out)
   clear HO_7
   clear BK705
   clear BK711
   clear HB
   have HO_7:=n0_
   have BK705:=n1_
   have BK711:=n2_
   have HB:=n3_
   clear n0_ n1_ n2_ n3_
   obtain⟨Ao29,co29,eo29⟩:=Kd.R_slice HO_7.out
   (first|subst eo29|(injection eo29 with f1_ f2_ f3_;have f4_:=f1_.symm;have f5_:=f3_.symm;clear f1_ f2_ f3_;subst f4_;subst f5_))
   have p712:0≤(((rd_T74 l0_2 x22_1).f0):Int):=of_decide_eq_true (by first|(with_reducible assumption)|assumption)
   have q712:((rd_T74 l0_2 x22_1).f0)<(x7_1.length:Int):=of_decide_eq_true (by first|(with_reducible assumption)|assumption)
   obtain⟨ad712,e712,hx712_0⟩:=Kd.at_int (Kd.R_reads' HO_7.out).2.2 ((rd_T74 l0_2 x22_1).f0) p712 q712
   cases e712
   replace p712:=eq_true p712
   replace q712:=eq_true q712
   have p713:0≤(x22_1:Int):=of_decide_eq_true (by first|(with_reducible assumption)|assumption)
   have q713:x22_1<(l1.length:Int):=of_decide_eq_true (by first|(with_reducible assumption)|assumption)
   obtain⟨ad713,e713,hx713_0⟩:=Kd.at_int HR1.out x22_1 p713 q713
   have hw713_0:=hx713_0
   cases e713
   replace hx713_0:=(HB.out.cell (World.block_lt_of_cell? w _ hx713_0)).trans hx713_0
   replace p713:=eq_true p713
   replace q713:=eq_true q713
   have p20:0≤(((rd_T74 l0_2 x22_1).f0):Int):=of_decide_eq_true (by first|(with_reducible assumption)|assumption)
   have q20:(((rd_T74 l0_2 x22_1).f0):Int)<((x7_1.length:Int):Int):=of_decide_eq_true (by first|(with_reducible assumption)|assumption)
   obtain⟨go20,co20,eo20,gb20,gl20,cl20,HG20⟩:=Kd.R_form HO_7.out (by omega)
   (first|cases eo20|(injection eo20 with ea_ en_ ec_;(first|subst ea_|(injection ea_ with ea_;subst ea_));subst ec_;clear en_))
   have GB20:=Aside0.mk gb20
   have GG20:=Aside0.mk HG20
   clear gb20 gl20 HG20
   (first|simp only[add_plain] at hx712_0|skip)
   obtain⟨hx20_0,hf20_0⟩:=Kd.R_celln 0 HO_7.out (((rd_T74 l0_2 x22_1).f0):Int) p20 q20
   replace p20:=eq_true p20
   replace q20:=eq_true q20
   have HP30:=Kd.R_putn HO_7.out (((rd_T74 l0_2 x22_1).f0):Int) (wrap64 ((rd x7_1 ((rd_T74 l0_2 x22_1).f0))+(rd l1 x22_1)))
   rw[← Ny714.out] at HP30
   have HQ30:=Aside0.mk HP30
   clear HP30
   refine start_ (n:=12) (S:=fun w'=>w'.cell? ⟨gb711,0,none⟩=some (.int .i64 ((rd_T74 l0_2 x22_1).f0))∧w'.cell? ⟨gb711,1,none⟩=some (.int .i64 ((rd_T74 l0_2 x22_1).f1))∧w'.cell? ⟨gb711,2,none⟩=some (.int .i64 ((rd_T74 l0_2 x22_1).f2))∧w'.cell? ⟨gb711,3,none⟩=some (.int .i64 ((rd_T74 l0_2 x22_1).f3))∧w'.cell? ⟨go20,(((rd_T74 l0_2 x22_1).f0)).toNat,none⟩=some (.int .i64 (rd x7_1 ((rd_T74 l0_2 x22_1).f0)))∧w'.cell? (ad713.add (x22_1).toNat)=some (.int .i64 (rd l1 x22_1))) (ds:=[11]) #[false,false,false,false,false,false,false,false,false,false,false,false] (by kernel_rfl) rfl rfl ⟨(blk_cell BK711.out 0).trans rfl,(blk_cell BK711.out 1).trans rfl,(blk_cell BK711.out 2).trans rfl,(blk_cell BK711.out 3).trans rfl,hx712_0,((HB.out.cell (World.block_lt_of_cell? w _ hw713_0)).trans hw713_0)⟩ (fun hHeld=> ?_);refine with_tabW static_Balance.tab8 static_Balance.bits8 (fun HT_ HW_=> ?_)
   generalize w27.drew=w28 at HO_7 BK705 BK711 HB GG20 HQ30 hf20_0 hx20_0 hx712_0 hx713_0 hHeld ⊢
   refine pure_ (i:=0) (N:=some 27) (v:= ?_) (a':= ?_) #[true,false,false,false,false,false,false,false,false,false,false,false] rfl rfl (any_of HT_.out (by kernel_rfl)) (fun _ _ _ h=>h) (Or.inl ⟨by rfl,?_⟩) ?_ ?_
   rotate_left
   ·intro w'
    go_simp
    with_reducible rfl
   rotate_left
   ·simp only[Act.put,List.setIfInBounds_toArray,List.set_cons_zero,List.set_cons_succ,i64_w,i32_w]
    rfl
   refine pure_ (i:=1) (N:=some 28) (v:= ?_) (a':= ?_) #[true,true,false,false,false,false,false,false,false,false,false,false] rfl rfl (any_of HT_.out (by kernel_rfl)) (fun _ _ _ h=>h) (Or.inl ⟨by rfl,?_⟩) ?_ ?_
   rotate_left
   ·intro w'
    go_simp
    with_reducible rfl
   rotate_left
   ·simp only[Act.put,List.setIfInBounds_toArray,List.set_cons_zero,List.set_cons_succ,i64_w,i32_w]
    rfl
   refine pure_ (i:=5) (N:=some 32) (v:= ?_) (a':= ?_) #[true,true,false,false,false,true,false,false,false,false,false,false] rfl rfl (any_of HT_.out (by kernel_rfl)) (fun _ _ _ h=>h) (Or.inl ⟨by rfl,?_⟩) ?_ ?_
   rotate_left
   ·intro w'
    go_simp
    with_reducible rfl
   rotate_left
   ·simp only[Act.put,List.setIfInBounds_toArray,List.set_cons_zero,List.set_cons_succ,i64_w,i32_w]
    rfl
   refine pure_ (i:=6) (N:=some 33) (v:= ?_) (a':= ?_) #[true,true,false,false,false,true,true,false,false,false,false,false] rfl rfl (any_of HT_.out (by kernel_rfl)) (fun _ _ _ h=>h) (Or.inl ⟨by rfl,?_⟩) ?_ ?_
   rotate_left
   ·intro w'
    go_simp
    with_reducible rfl
   rotate_left
   ·simp only[Act.put,List.setIfInBounds_toArray,List.set_cons_zero,List.set_cons_succ,i64_w,i32_w]
    rfl
   refine pure_ (i:=7) (N:=some 34) (v:= ?_) (a':= ?_) #[true,true,false,false,false,true,true,true,false,false,false,false] rfl rfl (any_of HT_.out (by kernel_rfl)) (fun _ _ _ h=>h) (Or.inl ⟨by rfl,?_⟩) ?_ ?_
   rotate_left
   ·intro w'
    go_simp
    with_reducible rfl
   rotate_left
   ·simp only[Act.put,List.setIfInBounds_toArray,List.set_cons_zero,List.set_cons_succ,i64_w,i32_w]
    rfl
   refine take_ (i:=2) (N:=some 29) (v:= ?_) (a':= ?_) #[true,true,true,false,false,true,true,true,false,false,false,false] rfl rfl (take_ofW HT_.out HW_.out (by kernel_rfl)) (fun _ _ _ h=>h) (Or.inl ⟨by rfl,?_⟩) hHeld ?_ ?_
   rotate_left
   ·rintro w' ⟨s0,s1,s2,s3,s4,s5⟩
    go_simp
    with_reducible rfl
   rotate_left
   ·simp only[Act.put,List.setIfInBounds_toArray,List.set_cons_zero,List.set_cons_succ,i64_w,i32_w]
    rfl
   refine pure_ (i:=3) (N:=some 30) (v:= ?_) (a':= ?_) #[true,true,true,true,false,true,true,true,false,false,false,false] rfl rfl (any_of HT_.out (by kernel_rfl)) (fun _ _ _ h=>h) (Or.inl ⟨by rfl,?_⟩) ?_ ?_
   rotate_left
   ·intro w'
    go_simp
    with_reducible rfl
   rotate_left
   ·simp only[Act.put,List.setIfInBounds_toArray,List.set_cons_zero,List.set_cons_succ,i64_w,i32_w]
    rfl
   refine take_ (i:=4) (N:=some 31) (v:= ?_) (a':= ?_) #[true,true,true,true,true,true,true,true,false,false,false,false] rfl rfl (take_ofW HT_.out HW_.out (by kernel_rfl)) (fun _ _ _ h=>h) (Or.inl ⟨by rfl,?_⟩) hHeld ?_ ?_
   rotate_left
   ·rintro w' ⟨s0,s1,s2,s3,s4,s5⟩
    go_simp
    with_reducible rfl
   rotate_left
   ·simp only[Act.put,List.setIfInBounds_toArray,List.set_cons_zero,List.set_cons_succ,i64_w,i32_w]
    rfl
   refine take_ (i:=8) (N:=some 35) (v:= ?_) (a':= ?_) #[true,true,true,true,true,true,true,true,true,false,false,false] rfl rfl (take_ofW HT_.out HW_.out (by kernel_rfl)) (fun _ _ _ h=>h) (Or.inl ⟨by rfl,?_⟩) hHeld ?_ ?_
   rotate_left
   ·rintro w' ⟨s0,s1,s2,s3,s4,s5⟩
    go_simp
    with_reducible rfl
   rotate_left
   ·simp only[Act.put,List.setIfInBounds_toArray,List.set_cons_zero,List.set_cons_succ,i64_w,i32_w]
    rfl
   refine pure_ (i:=9) (N:=some 36) (v:= ?_) (a':= ?_) #[true,true,true,true,true,true,true,true,true,true,false,false] rfl rfl (any_of HT_.out (by kernel_rfl)) (fun _ _ _ h=>h) (Or.inl ⟨by rfl,?_⟩) ?_ ?_
   rotate_left
   ·intro w'
    go_simp
    with_reducible rfl
   rotate_left
   ·simp only[Act.put,List.setIfInBounds_toArray,List.set_cons_zero,List.set_cons_succ,i64_w,i32_w]
    rfl
   refine pure_ (i:=10) (N:=some 37) (v:= ?_) (a':= ?_) #[true,true,true,true,true,true,true,true,true,true,true,false] rfl rfl (any_of HT_.out (by kernel_rfl)) (fun _ _ _ h=>h) (Or.inl ⟨by rfl,?_⟩) ?_ ?_
   rotate_left
   ·intro w'
    go_simp
    with_reducible rfl
   rotate_left
   ·simp only[Act.put,List.setIfInBounds_toArray,List.set_cons_zero,List.set_cons_succ,i64_w,i32_w]
    rfl
   refine last_ (i:=11) (N:=none) #[true,true,true,true,true,true,true,true,true,true,true,true] rfl rfl (one_of HT_.out (by kernel_rfl)) (by decide) (fun K hK=> ?_)
   refine skip_ (w1:= ?_) (by rfl) rfl ?_ ?_
   rotate_left
   ·go_simp
    rfl
   refine hK.out _ _ ?_
   clear hK K
   refine done_ (done_of HT_.out (by kernel_rfl)) ?_
   try go_wp2
   have n0_:Aside0 (Kd.R (Kd.int .i64) 3 (w28.setCell ⟨go20,(((rd_T74 l0_2 x22_1).f0):Int).toNat,none⟩ (.int .i64 (wrap64 ((rd x7_1 ((rd_T74 l0_2 x22_1).f0))+(rd l1 x22_1))))) w.heap.size (fun _=>True) (.slice (some ⟨go20,0,none⟩) x7_1.length co29) y714):=⟨by(with_reducible repeat(first|apply Kd.R_alloc|apply Kd.R_drewN|apply Kd.R_drew));exact HQ30.out⟩
   have n1_:Aside0 ((w28.setCell ⟨go20,(((rd_T74 l0_2 x22_1).f0):Int).toNat,none⟩ (.int .i64 (wrap64 ((rd x7_1 ((rd_T74 l0_2 x22_1).f0))+(rd l1 x22_1))))).heap[gb705]? =some (.cells #[.int .i64 a0_0, .bool a0_1, .slice (some ad710) l0_2.length c0_2] 24 (0,0))):=⟨by(with_reducible repeat(first|refine blk_drewN ?_ _|refine blk_drew ?_|refine blk_alloc ?_ _));refine blk_far ?_ (by have h_:=Kd.R_ne HO_7.out BK705.out (by decide);intro e_;exact h_ (by rw[e_];rfl)) _;(with_reducible repeat(first|refine blk_drewN ?_ _|refine blk_drew ?_|refine blk_alloc ?_ _));exact BK705.out⟩
   have n2_:Aside0 ((w28.setCell ⟨go20,(((rd_T74 l0_2 x22_1).f0):Int).toNat,none⟩ (.int .i64 (wrap64 ((rd x7_1 ((rd_T74 l0_2 x22_1).f0))+(rd l1 x22_1))))).heap[gb711]? =some (.cells #[.int .i64 ((rd_T74 l0_2 x22_1).f0), .int .i64 ((rd_T74 l0_2 x22_1).f1), .int .i64 ((rd_T74 l0_2 x22_1).f2), .int .i64 ((rd_T74 l0_2 x22_1).f3)] 74 (0,0))):=⟨by(with_reducible repeat(first|refine blk_drewN ?_ _|refine blk_drew ?_|refine blk_alloc ?_ _));refine blk_far ?_ (by have h_:=Kd.R_ne HO_7.out BK711.out (by decide);intro e_;exact h_ (by rw[e_];rfl)) _;(with_reducible repeat(first|refine blk_drewN ?_ _|refine blk_drew ?_|refine blk_alloc ?_ _));exact BK711.out⟩
   have n3_:Aside0 (Below w.heap.size w (w28.setCell ⟨go20,(((rd_T74 l0_2 x22_1).f0):Int).toNat,none⟩ (.int .i64 (wrap64 ((rd x7_1 ((rd_T74 l0_2 x22_1).f0))+(rd l1 x22_1)))))):=⟨by repeat(first|(with_reducible first|exact HB.out|apply below_alloc|apply pw_below_drewN|apply below_drew1|refine below_set ?_ GB20.out|refine below_set ?_ GE705.out|refine below_set ?_ GE711.out)|exact HB.out)⟩
   (try clear HO_7)
   (try clear BK705)
   (try clear BK711)
   (try clear HB)
   generalize (w28.setCell ⟨go20,(((rd_T74 l0_2 x22_1).f0):Int).toNat,none⟩ (.int .i64 (wrap64 ((rd x7_1 ((rd_T74 l0_2 x22_1).f0))+(rd l1 x22_1)))))=w31 at n0_ n1_ n2_ n3_ ⊢
   have HO_7:=n0_
   have BK705:=n1_
   have BK711:=n2_
   have HB:=n3_
   clear n0_ n1_ n2_ n3_
   have n0_:=Aside0.mk (Kd.R_drew HO_7.out)
   have n1_:=Aside0.mk (blk_drew BK705.out)
   have n2_:=Aside0.mk (blk_drew BK711.out)
   have n3_:=Aside0.mk (below_drew1 HB.out)
   clear HO_7
   clear BK705
   clear BK711
   clear HB
   have HO_7:=n0_
   have BK705:=n1_
   have BK711:=n2_
   have HB:=n3_
   clear n0_ n1_ n2_ n3_
   have p715:0≤(((rd_T74 l0_2 x22_1).f1):Int):=of_decide_eq_true (by first|(with_reducible assumption)|assumption)
   have q715:((rd_T74 l0_2 x22_1).f1)<(y714.length:Int):=(by have h_:(((rd_T74 l0_2 x22_1).f1):Int)<((x7_1.length:Int):Int):=of_decide_eq_true (by first|(with_reducible assumption)|assumption);first|(have e_:=(Kd.R_reads' HO_7.out).1;omega)|simpa only[Ny714.out,List.length_set] using h_)
   have ql715:((((rd_T74 l0_2 x22_1).f1):Int)<((x7_1.length:Int):Int))=True:=eq_true (of_decide_eq_true (by first|(with_reducible assumption)|assumption))
   obtain⟨ad715,e715,hx715_0⟩:=Kd.at_int (Kd.R_reads' HO_7.out).2.2 ((rd_T74 l0_2 x22_1).f1) p715 q715
   obtain rfl:(⟨go20,0,none⟩:Addr)=ad715:=(by injection e715)
   (first|simp only[add_plain] at hx715_0|simp only[add_at] at hx715_0|simp only[Addr.add,Nat.zero_add] at hx715_0|skip)
   replace p715:=eq_true p715
   replace q715:=eq_true q715
   have p716:0≤(x22_1:Int):=of_decide_eq_true (by first|(with_reducible assumption)|assumption)
   have q716:x22_1<(l1.length:Int):=of_decide_eq_true (by first|(with_reducible assumption)|assumption)
   obtain⟨ad716,e716,hx716_0⟩:=Kd.at_int HR1.out x22_1 p716 q716
   have hw716_0:=hx716_0
   obtain rfl:ad713=ad716:=(by injection e716)
   replace hx716_0:=(HB.out.cell (World.block_lt_of_cell? w _ hx716_0)).trans hx716_0
   replace p716:=eq_true p716
   replace q716:=eq_true q716
   have p23:0≤(((rd_T74 l0_2 x22_1).f1):Int):=of_decide_eq_true (by first|(with_reducible assumption)|assumption)
   have q23:(((rd_T74 l0_2 x22_1).f1):Int)<((x7_1.length:Int):Int):=of_decide_eq_true (by first|(with_reducible assumption)|assumption)
   obtain⟨hx23_0,hf23_0⟩:=Kd.R_celln 0 HO_7.out (((rd_T74 l0_2 x22_1).f1):Int) p23 q23
   replace p23:=eq_true p23
   replace q23:=eq_true q23
   have HP33:=Kd.R_putn HO_7.out (((rd_T74 l0_2 x22_1).f1):Int) (wrap64 ((rd y714 ((rd_T74 l0_2 x22_1).f1)) - (rd l1 x22_1)))
   rw[← Ny717.out] at HP33
   have HQ33:=Aside0.mk HP33
   clear HP33
   refine start_ (n:=12) (S:=fun w'=>w'.cell? ⟨gb711,0,none⟩=some (.int .i64 ((rd_T74 l0_2 x22_1).f0))∧w'.cell? ⟨gb711,1,none⟩=some (.int .i64 ((rd_T74 l0_2 x22_1).f1))∧w'.cell? ⟨gb711,2,none⟩=some (.int .i64 ((rd_T74 l0_2 x22_1).f2))∧w'.cell? ⟨gb711,3,none⟩=some (.int .i64 ((rd_T74 l0_2 x22_1).f3))∧w'.cell? ⟨go20,(((rd_T74 l0_2 x22_1).f1)).toNat,none⟩=some (.int .i64 (rd y714 ((rd_T74 l0_2 x22_1).f1)))∧w'.cell? (ad713.add (x22_1).toNat)=some (.int .i64 (rd l1 x22_1))) (ds:=[11]) #[false,false,false,false,false,false,false,false,false,false,false,false] (by kernel_rfl) rfl rfl ⟨(blk_cell BK711.out 0).trans rfl,(blk_cell BK711.out 1).trans rfl,(blk_cell BK711.out 2).trans rfl,(blk_cell BK711.out 3).trans rfl,hx715_0,((HB.out.cell (World.block_lt_of_cell? w _ hw716_0)).trans hw716_0)⟩ (fun hHeld=> ?_);refine with_tabW static_Balance.tab9 static_Balance.bits9 (fun HT_ HW_=> ?_)
   generalize w31.drew=w32 at HO_7 BK705 BK711 HB HQ30 HQ33 hf23_0 hx23_0 hx715_0 hx716_0 hHeld ⊢
   refine pure_ (i:=0) (N:=some 38) (v:= ?_) (a':= ?_) #[true,false,false,false,false,false,false,false,false,false,false,false] rfl rfl (any_of HT_.out (by kernel_rfl)) (fun _ _ _ h=>h) (Or.inl ⟨by rfl,?_⟩) ?_ ?_
   rotate_left
   ·intro w'
    go_simp
    with_reducible rfl
   rotate_left
   ·simp only[Act.put,List.setIfInBounds_toArray,List.set_cons_zero,List.set_cons_succ,i64_w,i32_w]
    rfl
   refine pure_ (i:=1) (N:=some 39) (v:= ?_) (a':= ?_) #[true,true,false,false,false,false,false,false,false,false,false,false] rfl rfl (any_of HT_.out (by kernel_rfl)) (fun _ _ _ h=>h) (Or.inl ⟨by rfl,?_⟩) ?_ ?_
   rotate_left
   ·intro w'
    go_simp
    with_reducible rfl
   rotate_left
   ·simp only[Act.put,List.setIfInBounds_toArray,List.set_cons_zero,List.set_cons_succ,i64_w,i32_w]
    rfl
   refine pure_ (i:=5) (N:=some 43) (v:= ?_) (a':= ?_) #[true,true,false,false,false,true,false,false,false,false,false,false] rfl rfl (any_of HT_.out (by kernel_rfl)) (fun _ _ _ h=>h) (Or.inl ⟨by rfl,?_⟩) ?_ ?_
   rotate_left
   ·intro w'
    go_simp
    with_reducible rfl
   rotate_left
   ·simp only[Act.put,List.setIfInBounds_toArray,List.set_cons_zero,List.set_cons_succ,i64_w,i32_w]
    rfl
   refine pure_ (i:=6) (N:=some 44) (v:= ?_) (a':= ?_) #[true,true,false,false,false,true,true,false,false,false,false,false] rfl rfl (any_of HT_.out (by kernel_rfl)) (fun _ _ _ h=>h) (Or.inl ⟨by rfl,?_⟩) ?_ ?_
   rotate_left
   ·intro w'
    go_simp
    with_reducible rfl
   rotate_left
   ·simp only[Act.put,List.setIfInBounds_toArray,List.set_cons_zero,List.set_cons_succ,i64_w,i32_w]
    rfl
   refine pure_ (i:=7) (N:=some 45) (v:= ?_) (a':= ?_) #[true,true,false,false,false,true,true,true,false,false,false,false] rfl rfl (any_of HT_.out (by kernel_rfl)) (fun _ _ _ h=>h) (Or.inl ⟨by rfl,?_⟩) ?_ ?_
   rotate_left
   ·intro w'
    go_simp
    with_reducible rfl
   rotate_left
   ·simp only[Act.put,List.setIfInBounds_toArray,List.set_cons_zero,List.set_cons_succ,i64_w,i32_w]
    rfl
   refine take_ (i:=2) (N:=some 40) (v:= ?_) (a':= ?_) #[true,true,true,false,false,true,true,true,false,false,false,false] rfl rfl (take_ofW HT_.out HW_.out (by kernel_rfl)) (fun _ _ _ h=>h) (Or.inl ⟨by rfl,?_⟩) hHeld ?_ ?_
   rotate_left
   ·rintro w' ⟨s0,s1,s2,s3,s4,s5⟩
    go_simp
    with_reducible rfl
   rotate_left
   ·simp only[Act.put,List.setIfInBounds_toArray,List.set_cons_zero,List.set_cons_succ,i64_w,i32_w]
    rfl
   refine pure_ (i:=3) (N:=some 41) (v:= ?_) (a':= ?_) #[true,true,true,true,false,true,true,true,false,false,false,false] rfl rfl (any_of HT_.out (by kernel_rfl)) (fun _ _ _ h=>h) (Or.inl ⟨by rfl,?_⟩) ?_ ?_
   rotate_left
   ·intro w'
    go_simp
    with_reducible rfl
   rotate_left
   ·simp only[Act.put,List.setIfInBounds_toArray,List.set_cons_zero,List.set_cons_succ,i64_w,i32_w]
    rfl
   refine take_ (i:=4) (N:=some 42) (v:= ?_) (a':= ?_) #[true,true,true,true,true,true,true,true,false,false,false,false] rfl rfl (take_ofW HT_.out HW_.out (by kernel_rfl)) (fun _ _ _ h=>h) (Or.inl ⟨by rfl,?_⟩) hHeld ?_ ?_
   rotate_left
   ·rintro w' ⟨s0,s1,s2,s3,s4,s5⟩
    go_simp
    with_reducible rfl
   rotate_left
   ·simp only[Act.put,List.setIfInBounds_toArray,List.set_cons_zero,List.set_cons_succ,i64_w,i32_w]
    rfl
   refine take_ (i:=8) (N:=some 46) (v:= ?_) (a':= ?_) #[true,true,true,true,true,true,true,true,true,false,false,false] rfl rfl (take_ofW HT_.out HW_.out (by kernel_rfl)) (fun _ _ _ h=>h) (Or.inl ⟨by rfl,?_⟩) hHeld ?_ ?_
   rotate_left
   ·rintro w' ⟨s0,s1,s2,s3,s4,s5⟩
    go_simp
    with_reducible rfl
   rotate_left
   ·simp only[Act.put,List.setIfInBounds_toArray,List.set_cons_zero,List.set_cons_succ,i64_w,i32_w]
    rfl
   refine pure_ (i:=9) (N:=some 47) (v:= ?_) (a':= ?_) #[true,true,true,true,true,true,true,true,true,true,false,false] rfl rfl (any_of HT_.out (by kernel_rfl)) (fun _ _ _ h=>h) (Or.inl ⟨by rfl,?_⟩) ?_ ?_
   rotate_left
   ·intro w'
    go_simp
    with_reducible rfl
   rotate_left
   ·simp only[Act.put,List.setIfInBounds_toArray,List.set_cons_zero,List.set_cons_succ,i64_w,i32_w]
    rfl
   refine pure_ (i:=10) (N:=some 48) (v:= ?_) (a':= ?_) #[true,true,true,true,true,true,true,true,true,true,true,false] rfl rfl (any_of HT_.out (by kernel_rfl)) (fun _ _ _ h=>h) (Or.inl ⟨by rfl,?_⟩) ?_ ?_
   rotate_left
   ·intro w'
    go_simp
    with_reducible rfl
   rotate_left
   ·simp only[Act.put,List.setIfInBounds_toArray,List.set_cons_zero,List.set_cons_succ,i64_w,i32_w]
    rfl
   refine last_ (i:=11) (N:=none) #[true,true,true,true,true,true,true,true,true,true,true,true] rfl rfl (one_of HT_.out (by kernel_rfl)) (by decide) (fun K hK=> ?_)
   refine skip_ (w1:= ?_) (by rfl) rfl ?_ ?_
   rotate_left
   ·go_simp
    rfl
   refine hK.out _ _ ?_
   clear hK K
   refine done_ (done_of HT_.out (by kernel_rfl)) ?_
   try go_wp2
   go_roundg k1
   case measure=>have:=HK1.out;omega
   case rel=>exact⟨(y717),(wrap64 (x22_1+1)),(by first|rfl|(simp;done)|(simp[*];done)),H',⟨by have:=HK1.out;omega⟩,⟨by(with_reducible repeat(first|apply Kd.R_alloc|apply Kd.R_drewN|apply Kd.R_drew));exact HQ33.out⟩,⟨by(with_reducible repeat(first|refine blk_drewN ?_ _|refine blk_drew ?_|refine blk_alloc ?_ _));refine blk_far ?_ (by have h_:=Kd.R_ne HO_7.out BK705.out (by decide);intro e_;exact h_ (by rw[e_];rfl)) _;(with_reducible repeat(first|refine blk_drewN ?_ _|refine blk_drew ?_|refine blk_alloc ?_ _));exact BK705.out⟩,⟨by repeat(first|(with_reducible first|exact HB.out|apply below_alloc|apply pw_below_drewN|apply below_drew1|refine below_set ?_ GB20.out|refine below_set ?_ GE705.out|refine below_set ?_ GE711.out)|exact HB.out)⟩⟩
end Go.Proofs.Ytkcpanpdipmmmaa.P
namespace Go.Proofs.Ytkcpanpdipmmmaa.P
open Go.RowKit Go.Proofs.YtkcpanpdipmmmaaW.PrintWords Go.Proofs.YtkcpanpdipmmmaaW.PrintLast Go.Proofs.YtkcpanpdipmmmaaW.PrintMore
attribute [local go_sem] max2_int min2_int max_two min_two max_three min_three max_four min_four
def static_Check.l0:Nat→Int→Int→List Int→List Int→Int→Int→Option (Int × Int)
 |0,_,_,_,_,_,_=>none
 |k+1,x1,x2,x10,x29,x30,x31=>if x31<x30 then(if 0≤x31 then(if x31<(x29.length:Int) then(if (rd x29 x31)=0 then(static_Check.l0 k x1 x2 x10 x29 x30 (wrap64 (x31+1))) else(if x31=x1 then(static_Check.l0 k x1 x2 x10 x29 x30 (wrap64 (x31+1))) else(if x31=x2 then(static_Check.l0 k x1 x2 x10 x29 x30 (wrap64 (x31+1))) else(some (0,71))))) else(none)) else(none)) else(if 0≤x1 then(if x1<(x10.length:Int) then(some (rd x10 x1,0)) else(none)) else(none))
def static_Check.f (k:Nat) (a0_0:Int) (a0_1:Bool) (l0_2:List (S74)) (a1:Int) (a2:Int) (l3:List Int):Option (Int × Int):=(static_Ends.f k a0_0 a0_1 l0_2 a1 a2).bind fun t719=>(if t719=0 then((static_Balance.f k a0_0 a0_1 l0_2 l3).bind fun bt720=>(if bt720.2=0 then(static_Check.l0 k a1 a2 bt720.1 bt720.1 (bt720.1.length:Int) 0) else(some (0,bt720.2)))) else(some (0,t719)))
set_option maxHeartbeats 8000000 in
set_option maxRecDepth 100000 in
theorem static_Check.calls (k:Nat) (a0_0:Int) (a0_1:Bool) (A0_2:Option Addr) (c0_2:Nat) (l0_2:List (S74)) (a1:Int) (a2:Int) (A3:Option Addr) (c3:Nat) (l3:List Int) (r1:Int) (r2:Int) (w:World) (hr0_2:Kd.C k74 w A0_2 l0_2.length l0_2) (hc0_2:l0_2.length≤c0_2) (hr3:Kd.C (Kd.int .i64) w A3 l3.length l3) (hc3:l3.length≤c3) (h:static_Check.f k a0_0 a0_1 l0_2 a1 a2 l3=some (r1,r2)):
  Calls Try.prog 115 #[.agg #[.int .i64 a0_0, .bool a0_1, .slice A0_2 l0_2.length c0_2], .int .i64 a1, .int .i64 a2, .slice A3 l3.length c3] w fun e w'=>e= .returned (.tuple #[.int .i64 r1, .int .i64 r2])∧Below w.heap.size w w':=by
 have hu24:=Try.underlying24
 have HR0_2:=Aside0.mk hr0_2
 have HC0_2:=Aside0.mk hc0_2
 clear hr0_2 hc0_2
 have HR3:=Aside0.mk hr3
 have HC3:=Aside0.mk hc3
 clear hr3 hc3
 have HB:=Aside0.mk (Below.refl w.heap.size w)
 have H:((static_Ends.f k a0_0 a0_1 l0_2 a1 a2).bind fun t719=>(if t719=0 then((static_Balance.f k a0_0 a0_1 l0_2 l3).bind fun bt720=>(if bt720.2=0 then(static_Check.l0 k a1 a2 bt720.1 bt720.1 (bt720.1.length:Int) 0) else(some (0,bt720.2)))) else(some (0,t719))))=some (r1,r2):=h
 clear h
 replace H:=Option.bind_eq_some_iff.mp H
 obtain⟨t719,A50,H⟩:=H
 replace H:(if t719=0 then((static_Balance.f k a0_0 a0_1 l0_2 l3).bind fun bt720=>(if bt720.2=0 then(static_Check.l0 k a1 a2 bt720.1 bt720.1 (bt720.1.length:Int) 0) else(some (0,bt720.2)))) else(some (0,t719)))=some (r1,r2):=H
 have A5:=Aside0.mk A50
 clear A50
 by_cases c6:t719=0
 rotate_left
 ·rw[if_neg c6] at H
  have c6b0:(t719 == 0)=false:=beq_eq_false_iff_ne.mpr c6
  have c6b1:(t719 != 0)=true:=bne_iff_ne.mpr c6
  simp only[Option.some.injEq,Prod.mk.injEq] at H
  obtain⟨rfl,rfl⟩:=H
  go_enter Try.func115,Try.ntmps115
  go_wp2_with (first|((with_reducible refine gate_dst (N:=4) rfl ?_);refine box_event ?hg (N:=4) ?hd (cs:= #[.int .i64 a0_0, .bool a0_1, .slice A0_2 l0_2.length c0_2]) (t:=24) ?hr ?_;(case hd=>rfl);(case hg=>rfl);(case hr=>first|(go_simp;done)|(go_simp;rfl));intro gb718 hg w28 hbox hb;have n0_:=Aside0.mk (below_step (by repeat(first|(with_reducible first|exact HB.out|apply below_alloc|apply pw_below_drewN|apply below_drew1)|exact HB.out)) hb);have n1_:=Aside0.mk (hbox);have n2_:=Aside0.mk ((by rw[hg];exact(below_size (by repeat(first|(with_reducible first|exact HB.out|apply below_alloc|apply pw_below_drewN|apply below_drew1)|exact HB.out))):w.heap.size≤gb718));have n3_:=Aside0.mk ((by rw[hg];exact(below_size (by repeat(first|(with_reducible first|exact HB.out|apply below_alloc|apply pw_below_drewN|apply below_drew1)|exact HB.out))):w.heap.size≤gb718));clear HB;have HB:=n0_;have BK718:=n1_;have GW718:=n2_;have GE718:=n3_;clear n0_ n1_ n2_ n3_;clear hb hbox hg;have hcz29_0:w28.cell? ⟨gb718,0,none⟩=some (.int .i64 a0_0):=(blk_cell BK718.out 0).trans rfl;have hcz29_1:w28.cell? ⟨gb718,1,none⟩=some (.bool a0_1):=(blk_cell BK718.out 1).trans rfl;have hcz29_2:w28.cell? ⟨gb718,2,none⟩=some (.slice A0_2 l0_2.length c0_2):=(blk_cell BK718.out 2).trans rfl;have hfz29_0:=blk_frozen BK718.out 0;have hfz29_1:=blk_frozen BK718.out 1;have hfz29_2:=blk_frozen BK718.out 2)|((with_reducible refine gate_callee (f:=111) rfl ?_);refine goesL_ (some 16) rfl rfl Try.func111 (by kernel_rfl) rfl #[.agg #[.int .i64 a0_0, .bool a0_1, .slice A0_2 l0_2.length c0_2], .int .i64 a1, .int .i64 a2] rfl (by(try simp only[List.map_toArray,List.map_cons,List.map_nil]);first|done|rfl|(simp only[List.length_drop,List.length_take];rfl)) ?_;(with_reducible refine(static_Ends.calls k a0_0 a0_1 _ _ l0_2 a1 a2 t719 _ ?side1 ?side2 A5.out).mono ?_);(case side1=>repeat(first|exact(Kd.C_below HR0_2.out HB.out)|(with_reducible refine Kd.C_alloc ?_ _)|(with_reducible refine Kd.C_drewN ?_ _)|(with_reducible refine Kd.C_drew ?_)));(case side2=>exact HC0_2.out);rintro e w30 ⟨rfl,hb⟩;refine⟨_,rfl,?_⟩;have n0_:=Aside0.mk (blk_below (g:=gb718) (o:= .cells #[.int .i64 a0_0, .bool a0_1, .slice A0_2 l0_2.length c0_2] 24 (0,0)) (by(with_reducible repeat(first|refine blk_drewN ?_ _|refine blk_drew ?_|refine blk_alloc ?_ _));exact BK718.out) hb);have n1_:=Aside0.mk (below_step (by repeat(first|(with_reducible first|exact HB.out|apply below_alloc|apply pw_below_drewN|apply below_drew1|refine below_set ?_ GE718.out)|exact HB.out)) hb);clear BK718;clear HB;have BK718:=n0_;have HB:=n1_;clear n0_ n1_;(try clear hb);(try clear hb2);(try clear hk);(try clear hi)))
  go_ret2
  exact⟨by first|rfl|(simp[errW_none,errW_some]<;>rfl)|(simp[*,errW_none,errW_some]<;>rfl),by repeat(first|(with_reducible first|exact HB.out|apply below_alloc|apply pw_below_drewN|apply below_drew1|refine below_set ?_ GE718.out)|exact HB.out)⟩
 rw[if_pos c6] at H
 have c6b0:(t719 == 0)=true:=beq_iff_eq.mpr c6
 have c6b1:(t719 != 0)=false:=bne_eq_false_iff_eq.mpr c6
 clear c6
 replace H:=Option.bind_eq_some_iff.mp H
 obtain⟨⟨t720,t723⟩,A70,H⟩:=H
 replace H:(if t723=0 then(static_Check.l0 k a1 a2 t720 t720 (t720.length:Int) 0) else(some (0,t723)))=some (r1,r2):=H
 have A7:=Aside0.mk A70
 clear A70
 by_cases c8:t723=0
 rotate_left
 ·rw[if_neg c8] at H
  have c8b0:(t723 == 0)=false:=beq_eq_false_iff_ne.mpr c8
  have c8b1:(t723 != 0)=true:=bne_iff_ne.mpr c8
  simp only[Option.some.injEq,Prod.mk.injEq] at H
  obtain⟨rfl,rfl⟩:=H
  go_enter Try.func115,Try.ntmps115
  go_wp2_with (first|((with_reducible refine gate_dst (N:=4) rfl ?_);refine box_event ?hg (N:=4) ?hd (cs:= #[.int .i64 a0_0, .bool a0_1, .slice A0_2 l0_2.length c0_2]) (t:=24) ?hr ?_;(case hd=>rfl);(case hg=>rfl);(case hr=>first|(go_simp;done)|(go_simp;rfl));intro gb718 hg w23 hbox hb;have n0_:=Aside0.mk (below_step (by repeat(first|(with_reducible first|exact HB.out|apply below_alloc|apply pw_below_drewN|apply below_drew1)|exact HB.out)) hb);have n1_:=Aside0.mk (hbox);have n2_:=Aside0.mk ((by rw[hg];exact(below_size (by repeat(first|(with_reducible first|exact HB.out|apply below_alloc|apply pw_below_drewN|apply below_drew1)|exact HB.out))):w.heap.size≤gb718));have n3_:=Aside0.mk ((by rw[hg];exact(below_size (by repeat(first|(with_reducible first|exact HB.out|apply below_alloc|apply pw_below_drewN|apply below_drew1)|exact HB.out))):w.heap.size≤gb718));clear HB;have HB:=n0_;have BK718:=n1_;have GW718:=n2_;have GE718:=n3_;clear n0_ n1_ n2_ n3_;clear hb hbox hg;have hcz24_0:w23.cell? ⟨gb718,0,none⟩=some (.int .i64 a0_0):=(blk_cell BK718.out 0).trans rfl;have hcz24_1:w23.cell? ⟨gb718,1,none⟩=some (.bool a0_1):=(blk_cell BK718.out 1).trans rfl;have hcz24_2:w23.cell? ⟨gb718,2,none⟩=some (.slice A0_2 l0_2.length c0_2):=(blk_cell BK718.out 2).trans rfl;have hfz24_0:=blk_frozen BK718.out 0;have hfz24_1:=blk_frozen BK718.out 1;have hfz24_2:=blk_frozen BK718.out 2)|((with_reducible refine gate_callee (f:=111) rfl ?_);refine goesL_ (some 16) rfl rfl Try.func111 (by kernel_rfl) rfl #[.agg #[.int .i64 a0_0, .bool a0_1, .slice A0_2 l0_2.length c0_2], .int .i64 a1, .int .i64 a2] rfl (by(try simp only[List.map_toArray,List.map_cons,List.map_nil]);first|done|rfl|(simp only[List.length_drop,List.length_take];rfl)) ?_;(with_reducible refine(static_Ends.calls k a0_0 a0_1 _ _ l0_2 a1 a2 t719 _ ?side1 ?side2 A5.out).mono ?_);(case side1=>repeat(first|exact(Kd.C_below HR0_2.out HB.out)|(with_reducible refine Kd.C_alloc ?_ _)|(with_reducible refine Kd.C_drewN ?_ _)|(with_reducible refine Kd.C_drew ?_)));(case side2=>exact HC0_2.out);rintro e w25 ⟨rfl,hb⟩;refine⟨_,rfl,?_⟩;have n0_:=Aside0.mk (blk_below (g:=gb718) (o:= .cells #[.int .i64 a0_0, .bool a0_1, .slice A0_2 l0_2.length c0_2] 24 (0,0)) (by(with_reducible repeat(first|refine blk_drewN ?_ _|refine blk_drew ?_|refine blk_alloc ?_ _));exact BK718.out) hb);have n1_:=Aside0.mk (below_step (by repeat(first|(with_reducible first|exact HB.out|apply below_alloc|apply pw_below_drewN|apply below_drew1|refine below_set ?_ GE718.out)|exact HB.out)) hb);clear BK718;clear HB;have BK718:=n0_;have HB:=n1_;clear n0_ n1_;(try clear hb);(try clear hb2);(try clear hk);(try clear hi);have hcz26_0:w25.cell? ⟨gb718,0,none⟩=some (.int .i64 a0_0):=(blk_cell BK718.out 0).trans rfl;have hcz26_1:w25.cell? ⟨gb718,1,none⟩=some (.bool a0_1):=(blk_cell BK718.out 1).trans rfl;have hcz26_2:w25.cell? ⟨gb718,2,none⟩=some (.slice A0_2 l0_2.length c0_2):=(blk_cell BK718.out 2).trans rfl;have hfz26_0:=blk_frozen BK718.out 0;have hfz26_1:=blk_frozen BK718.out 1;have hfz26_2:=blk_frozen BK718.out 2)|((with_reducible refine gate_callee (f:=150) rfl ?_);refine goesL_ (some 23) rfl rfl Try.func150 (by kernel_rfl) rfl #[.agg #[.int .i64 a0_0, .bool a0_1, .slice A0_2 l0_2.length c0_2], .slice A3 l3.length c3] rfl (by(try simp only[List.map_toArray,List.map_cons,List.map_nil]);first|done|rfl|(simp only[List.length_drop,List.length_take];rfl)) ?_;(with_reducible refine(static_Balance.calls k a0_0 a0_1 _ _ l0_2 _ _ l3 t720 t723 _ ?side1 ?side2 ?side3 ?side4 A7.out).mono ?_);(case side1=>repeat(first|exact(Kd.C_below HR0_2.out HB.out)|(with_reducible refine Kd.C_alloc ?_ _)|(with_reducible refine Kd.C_drewN ?_ _)|(with_reducible refine Kd.C_drew ?_)));(case side2=>exact HC0_2.out);(case side3=>repeat(first|exact(Kd.C_below HR3.out HB.out)|(with_reducible refine Kd.C_alloc ?_ _)|(with_reducible refine Kd.C_drewN ?_ _)|(with_reducible refine Kd.C_drew ?_)));(case side4=>exact HC3.out);rintro e w27 ⟨v721,rfl,ho0,hb⟩;refine⟨_,rfl,?_⟩;have n0_:=Aside0.mk (Kd.R_lower ho0 (below_size (by repeat(first|(with_reducible first|exact HB.out|apply below_alloc|apply pw_below_drewN|apply below_drew1|refine below_set ?_ GE718.out)|exact HB.out))));have n1_:=Aside0.mk (blk_below (g:=gb718) (o:= .cells #[.int .i64 a0_0, .bool a0_1, .slice A0_2 l0_2.length c0_2] 24 (0,0)) (by(with_reducible repeat(first|refine blk_drewN ?_ _|refine blk_drew ?_|refine blk_alloc ?_ _));exact BK718.out) hb);have n2_:=Aside0.mk (below_step (by repeat(first|(with_reducible first|exact HB.out|apply below_alloc|apply pw_below_drewN|apply below_drew1|refine below_set ?_ GE718.out)|exact HB.out)) hb);clear BK718;clear HB;have HO722:=n0_;have BK718:=n1_;have HB:=n2_;clear n0_ n1_ n2_;(try clear hb);(try clear hb2);(try clear hk);(try clear hi);(try clear ho0)))
  go_ret2
  exact⟨by first|rfl|(simp[errW_none,errW_some]<;>rfl)|(simp[*,errW_none,errW_some]<;>rfl),by repeat(first|(with_reducible first|exact HB.out|apply below_alloc|apply pw_below_drewN|apply below_drew1|refine below_set ?_ GE718.out)|exact HB.out)⟩
 rw[if_pos c8] at H
 have c8b0:(t723 == 0)=true:=beq_iff_eq.mpr c8
 have c8b1:(t723 != 0)=false:=bne_eq_false_iff_eq.mpr c8
 clear c8
 have H':=Aside0.mk H
 clear H
 go_enter Try.func115,Try.ntmps115
 go_wp2_with (first|((with_reducible refine gate_dst (N:=4) rfl ?_);refine box_event ?hg (N:=4) ?hd (cs:= #[.int .i64 a0_0, .bool a0_1, .slice A0_2 l0_2.length c0_2]) (t:=24) ?hr ?_;(case hd=>rfl);(case hg=>rfl);(case hr=>first|(go_simp;done)|(go_simp;rfl));intro gb718 hg w9 hbox hb;have n0_:=Aside0.mk (below_step (by repeat(first|(with_reducible first|exact HB.out|apply below_alloc|apply pw_below_drewN|apply below_drew1)|exact HB.out)) hb);have n1_:=Aside0.mk (hbox);have n2_:=Aside0.mk ((by rw[hg];exact(below_size (by repeat(first|(with_reducible first|exact HB.out|apply below_alloc|apply pw_below_drewN|apply below_drew1)|exact HB.out))):w.heap.size≤gb718));have n3_:=Aside0.mk ((by rw[hg];exact(below_size (by repeat(first|(with_reducible first|exact HB.out|apply below_alloc|apply pw_below_drewN|apply below_drew1)|exact HB.out))):w.heap.size≤gb718));clear HB;have HB:=n0_;have BK718:=n1_;have GW718:=n2_;have GE718:=n3_;clear n0_ n1_ n2_ n3_;clear hb hbox hg;have hcz10_0:w9.cell? ⟨gb718,0,none⟩=some (.int .i64 a0_0):=(blk_cell BK718.out 0).trans rfl;have hcz10_1:w9.cell? ⟨gb718,1,none⟩=some (.bool a0_1):=(blk_cell BK718.out 1).trans rfl;have hcz10_2:w9.cell? ⟨gb718,2,none⟩=some (.slice A0_2 l0_2.length c0_2):=(blk_cell BK718.out 2).trans rfl;have hfz10_0:=blk_frozen BK718.out 0;have hfz10_1:=blk_frozen BK718.out 1;have hfz10_2:=blk_frozen BK718.out 2)|((with_reducible refine gate_callee (f:=111) rfl ?_);refine goesL_ (some 16) rfl rfl Try.func111 (by kernel_rfl) rfl #[.agg #[.int .i64 a0_0, .bool a0_1, .slice A0_2 l0_2.length c0_2], .int .i64 a1, .int .i64 a2] rfl (by(try simp only[List.map_toArray,List.map_cons,List.map_nil]);first|done|rfl|(simp only[List.length_drop,List.length_take];rfl)) ?_;(with_reducible refine(static_Ends.calls k a0_0 a0_1 _ _ l0_2 a1 a2 t719 _ ?side1 ?side2 A5.out).mono ?_);(case side1=>repeat(first|exact(Kd.C_below HR0_2.out HB.out)|(with_reducible refine Kd.C_alloc ?_ _)|(with_reducible refine Kd.C_drewN ?_ _)|(with_reducible refine Kd.C_drew ?_)));(case side2=>exact HC0_2.out);rintro e w11 ⟨rfl,hb⟩;refine⟨_,rfl,?_⟩;have n0_:=Aside0.mk (blk_below (g:=gb718) (o:= .cells #[.int .i64 a0_0, .bool a0_1, .slice A0_2 l0_2.length c0_2] 24 (0,0)) (by(with_reducible repeat(first|refine blk_drewN ?_ _|refine blk_drew ?_|refine blk_alloc ?_ _));exact BK718.out) hb);have n1_:=Aside0.mk (below_step (by repeat(first|(with_reducible first|exact HB.out|apply below_alloc|apply pw_below_drewN|apply below_drew1|refine below_set ?_ GE718.out)|exact HB.out)) hb);clear BK718;clear HB;have BK718:=n0_;have HB:=n1_;clear n0_ n1_;(try clear hb);(try clear hb2);(try clear hk);(try clear hi);have hcz12_0:w11.cell? ⟨gb718,0,none⟩=some (.int .i64 a0_0):=(blk_cell BK718.out 0).trans rfl;have hcz12_1:w11.cell? ⟨gb718,1,none⟩=some (.bool a0_1):=(blk_cell BK718.out 1).trans rfl;have hcz12_2:w11.cell? ⟨gb718,2,none⟩=some (.slice A0_2 l0_2.length c0_2):=(blk_cell BK718.out 2).trans rfl;have hfz12_0:=blk_frozen BK718.out 0;have hfz12_1:=blk_frozen BK718.out 1;have hfz12_2:=blk_frozen BK718.out 2)|((with_reducible refine gate_callee (f:=150) rfl ?_);refine goesL_ (some 23) rfl rfl Try.func150 (by kernel_rfl) rfl #[.agg #[.int .i64 a0_0, .bool a0_1, .slice A0_2 l0_2.length c0_2], .slice A3 l3.length c3] rfl (by(try simp only[List.map_toArray,List.map_cons,List.map_nil]);first|done|rfl|(simp only[List.length_drop,List.length_take];rfl)) ?_;(with_reducible refine(static_Balance.calls k a0_0 a0_1 _ _ l0_2 _ _ l3 t720 t723 _ ?side1 ?side2 ?side3 ?side4 A7.out).mono ?_);(case side1=>repeat(first|exact(Kd.C_below HR0_2.out HB.out)|(with_reducible refine Kd.C_alloc ?_ _)|(with_reducible refine Kd.C_drewN ?_ _)|(with_reducible refine Kd.C_drew ?_)));(case side2=>exact HC0_2.out);(case side3=>repeat(first|exact(Kd.C_below HR3.out HB.out)|(with_reducible refine Kd.C_alloc ?_ _)|(with_reducible refine Kd.C_drewN ?_ _)|(with_reducible refine Kd.C_drew ?_)));(case side4=>exact HC3.out);rintro e w13 ⟨v721,rfl,ho0,hb⟩;refine⟨_,rfl,?_⟩;have n0_:=Aside0.mk (Kd.R_lower ho0 (below_size (by repeat(first|(with_reducible first|exact HB.out|apply below_alloc|apply pw_below_drewN|apply below_drew1|refine below_set ?_ GE718.out)|exact HB.out))));have n1_:=Aside0.mk (blk_below (g:=gb718) (o:= .cells #[.int .i64 a0_0, .bool a0_1, .slice A0_2 l0_2.length c0_2] 24 (0,0)) (by(with_reducible repeat(first|refine blk_drewN ?_ _|refine blk_drew ?_|refine blk_alloc ?_ _));exact BK718.out) hb);have n2_:=Aside0.mk (below_step (by repeat(first|(with_reducible first|exact HB.out|apply below_alloc|apply pw_below_drewN|apply below_drew1|refine below_set ?_ GE718.out)|exact HB.out)) hb);clear BK718;clear HB;have HO722:=n0_;have BK718:=n1_;have HB:=n2_;clear n0_ n1_ n2_;(try clear hb);(try clear hb2);(try clear hk);(try clear hi);(try clear ho0);obtain⟨Ao14,co14,eo14⟩:=Kd.R_slice HO722.out;subst eo14))
 go_loopg [31] k (fun kq v31 w'=> ∃ (x31_1:Int),v31= .int .i64 x31_1∧Aside0 (static_Check.l0 kq a1 a2 t720 t720 (t720.length:Int) x31_1=some (r1,r2))∧Aside0 (kq≤k)∧Aside0 (Kd.R (Kd.int .i64) 3 w' w.heap.size (fun _=>True) (.slice Ao14 t720.length co14) t720)∧Aside0 (Kd.R (Kd.int .i64) 3 w' w.heap.size (fun _=>True) (.slice Ao14 t720.length co14) t720)∧Aside0 (w'.heap[gb718]? =some (.cells #[.int .i64 a0_0, .bool a0_1,(.slice A0_2 l0_2.length c0_2)] 24 (0,0)))∧Aside0 (Below w.heap.size w w'))
 case atStart=>exact⟨(0),(by first|rfl|(simp;done)|(simp[*];done)),H',⟨Nat.le_refl _⟩,⟨by(with_reducible repeat(first|apply Kd.R_alloc|apply Kd.R_drewN|apply Kd.R_drew));exact HO722.out⟩,⟨by(with_reducible repeat(first|apply Kd.R_alloc|apply Kd.R_drewN|apply Kd.R_drew));exact HO722.out⟩,⟨by(with_reducible repeat(first|refine blk_drewN ?_ _|refine blk_drew ?_|refine blk_alloc ?_ _));exact BK718.out⟩,⟨by repeat(first|(with_reducible first|exact HB.out|apply below_alloc|apply pw_below_drewN|apply below_drew1|refine below_set ?_ GE718.out)|exact HB.out)⟩⟩
 case round=>
  clear H'
  try clear c1
  try clear p2
  try clear c3
  try clear c6
  try clear c6b0
  try clear c6b1
  try clear c8
  try clear c8b0
  try clear c8b1
  try clear c11
  try clear hcz10_0
  try clear hcz10_1
  try clear hcz10_2
  try clear hcz12_0
  try clear hcz12_1
  try clear hcz12_2
  try clear hfz10_0
  try clear hfz10_1
  try clear hfz10_2
  try clear hfz12_0
  try clear hfz12_1
  try clear hfz12_2
  obtain⟨x31_1,rfl,HA,HK1,HO_10,HO_29,BK718,HB⟩:=hrel
  cases gk with
  |zero=>exact absurd HA.out (by simp[static_Check.l0])
  |succ k1=>
   have H:=HA.out
   clear HA
   simp only[static_Check.l0] at H
   by_cases c15:x31_1<(t720.length:Int)
   rotate_left
   ·rw[if_neg c15] at H
    have c15b0:decide (x31_1<(t720.length:Int))=false:=decide_eq_false c15
    clear c15
    by_cases c21:0≤a1
    rotate_left
    ·rw[if_neg c21] at H
     exact absurd H (by simp)
    rw[if_pos c21] at H
    have c21b0:decide (0≤a1)=true:=decide_eq_true c21
    clear c21
    by_cases c22:a1<(t720.length:Int)
    rotate_left
    ·rw[if_neg c22] at H
     exact absurd H (by simp)
    rw[if_pos c22] at H
    have c22b0:decide (a1<(t720.length:Int))=true:=decide_eq_true c22
    clear c22
    simp only[Option.some.injEq,Prod.mk.injEq] at H
    obtain⟨rfl,rfl⟩:=H
    have p725:0≤(a1:Int):=of_decide_eq_true (by first|(with_reducible assumption)|assumption)
    have q725:a1<(t720.length:Int):=of_decide_eq_true (by first|(with_reducible assumption)|assumption)
    obtain⟨ad725,e725,hx725_0⟩:=Kd.at_int (Kd.R_reads' HO_10.out).2.2 a1 p725 q725
    cases e725
    replace p725:=eq_true p725
    replace q725:=eq_true q725
    go_wp2
    go_ret2
    exact⟨by first|rfl|(simp[errW_none,errW_some]<;>rfl)|(simp[*,errW_none,errW_some]<;>rfl),by repeat(first|(with_reducible first|exact HB.out|apply below_alloc|apply pw_below_drewN|apply below_drew1|refine below_set ?_ GE718.out)|exact HB.out)⟩
   rw[if_pos c15] at H
   have c15b0:decide (x31_1<(t720.length:Int))=true:=decide_eq_true c15
   clear c15
   by_cases c16:0≤x31_1
   rotate_left
   ·rw[if_neg c16] at H
    exact absurd H (by simp)
   rw[if_pos c16] at H
   have c16b0:decide (0≤x31_1)=true:=decide_eq_true c16
   clear c16
   by_cases c17:x31_1<(t720.length:Int)
   rotate_left
   ·rw[if_neg c17] at H
    exact absurd H (by simp)
   rw[if_pos c17] at H
   have c17b0:decide (x31_1<(t720.length:Int))=true:=decide_eq_true c17
   clear c17
   by_cases c18:(rd t720 x31_1)=0
   ·rw[if_pos c18] at H
    have c18b0:((rd t720 x31_1) == 0)=true:=beq_iff_eq.mpr c18
    have c18b1:((rd t720 x31_1) != 0)=false:=bne_eq_false_iff_eq.mpr c18
    clear c18
    have H':=Aside0.mk H
    clear H
    have p724:0≤(x31_1:Int):=of_decide_eq_true (by first|(with_reducible assumption)|assumption)
    have q724:x31_1<(t720.length:Int):=of_decide_eq_true (by first|(with_reducible assumption)|assumption)
    obtain⟨ad724,e724,hx724_0⟩:=Kd.at_int (Kd.R_reads' HO_29.out).2.2 x31_1 p724 q724
    cases e724
    replace p724:=eq_true p724
    replace q724:=eq_true q724
    go_wp2
    go_roundg k1
    case measure=>have:=HK1.out;omega
    case rel=>exact⟨(wrap64 (x31_1+1)),(by first|rfl|(simp;done)|(simp[*];done)),H',⟨by have:=HK1.out;omega⟩,⟨by(with_reducible repeat(first|apply Kd.R_alloc|apply Kd.R_drewN|apply Kd.R_drew));exact HO_10.out⟩,⟨by(with_reducible repeat(first|apply Kd.R_alloc|apply Kd.R_drewN|apply Kd.R_drew));exact HO_29.out⟩,⟨by(with_reducible repeat(first|refine blk_drewN ?_ _|refine blk_drew ?_|refine blk_alloc ?_ _));exact BK718.out⟩,⟨by repeat(first|(with_reducible first|exact HB.out|apply below_alloc|apply pw_below_drewN|apply below_drew1|refine below_set ?_ GE718.out)|exact HB.out)⟩⟩
   rw[if_neg c18] at H
   have c18b0:((rd t720 x31_1) == 0)=false:=beq_eq_false_iff_ne.mpr c18
   have c18b1:((rd t720 x31_1) != 0)=true:=bne_iff_ne.mpr c18
   by_cases c19:x31_1=a1
   ·rw[if_pos c19] at H
    have c19b0:(x31_1 == a1)=true:=beq_iff_eq.mpr c19
    have c19b1:(x31_1 != a1)=false:=bne_eq_false_iff_eq.mpr c19
    clear c19
    have H':=Aside0.mk H
    clear H
    have p724:0≤(x31_1:Int):=of_decide_eq_true (by first|(with_reducible assumption)|assumption)
    have q724:x31_1<(t720.length:Int):=of_decide_eq_true (by first|(with_reducible assumption)|assumption)
    obtain⟨ad724,e724,hx724_0⟩:=Kd.at_int (Kd.R_reads' HO_29.out).2.2 x31_1 p724 q724
    cases e724
    replace p724:=eq_true p724
    replace q724:=eq_true q724
    go_wp2
    go_roundg k1
    case measure=>have:=HK1.out;omega
    case rel=>exact⟨(wrap64 (x31_1+1)),(by first|rfl|(simp;done)|(simp[*];done)),H',⟨by have:=HK1.out;omega⟩,⟨by(with_reducible repeat(first|apply Kd.R_alloc|apply Kd.R_drewN|apply Kd.R_drew));exact HO_10.out⟩,⟨by(with_reducible repeat(first|apply Kd.R_alloc|apply Kd.R_drewN|apply Kd.R_drew));exact HO_29.out⟩,⟨by(with_reducible repeat(first|refine blk_drewN ?_ _|refine blk_drew ?_|refine blk_alloc ?_ _));exact BK718.out⟩,⟨by repeat(first|(with_reducible first|exact HB.out|apply below_alloc|apply pw_below_drewN|apply below_drew1|refine below_set ?_ GE718.out)|exact HB.out)⟩⟩
   rw[if_neg c19] at H
   have c19b0:(x31_1 == a1)=false:=beq_eq_false_iff_ne.mpr c19
   have c19b1:(x31_1 != a1)=true:=bne_iff_ne.mpr c19
   by_cases c20:x31_1=a2
   rotate_left
   ·rw[if_neg c20] at H
    have c20b0:(x31_1 == a2)=false:=beq_eq_false_iff_ne.mpr c20
    have c20b1:(x31_1 != a2)=true:=bne_iff_ne.mpr c20
    simp only[Option.some.injEq,Prod.mk.injEq] at H
    obtain⟨rfl,rfl⟩:=H
    have p724:0≤(x31_1:Int):=of_decide_eq_true (by first|(with_reducible assumption)|assumption)
    have q724:x31_1<(t720.length:Int):=of_decide_eq_true (by first|(with_reducible assumption)|assumption)
    obtain⟨ad724,e724,hx724_0⟩:=Kd.at_int (Kd.R_reads' HO_29.out).2.2 x31_1 p724 q724
    cases e724
    replace p724:=eq_true p724
    replace q724:=eq_true q724
    go_wp2
    go_ret2
    exact⟨by first|rfl|(simp[errW_none,errW_some]<;>rfl)|(simp[*,errW_none,errW_some]<;>rfl),by repeat(first|(with_reducible first|exact HB.out|apply below_alloc|apply pw_below_drewN|apply below_drew1|refine below_set ?_ GE718.out)|exact HB.out)⟩
   rw[if_pos c20] at H
   have c20b0:(x31_1 == a2)=true:=beq_iff_eq.mpr c20
   have c20b1:(x31_1 != a2)=false:=bne_eq_false_iff_eq.mpr c20
   clear c20
   have H':=Aside0.mk H
   clear H
   have p724:0≤(x31_1:Int):=of_decide_eq_true (by first|(with_reducible assumption)|assumption)
   have q724:x31_1<(t720.length:Int):=of_decide_eq_true (by first|(with_reducible assumption)|assumption)
   obtain⟨ad724,e724,hx724_0⟩:=Kd.at_int (Kd.R_reads' HO_29.out).2.2 x31_1 p724 q724
   cases e724
   replace p724:=eq_true p724
   replace q724:=eq_true q724
   go_wp2
   go_roundg k1
   case measure=>have:=HK1.out;omega
   case rel=>exact⟨(wrap64 (x31_1+1)),(by first|rfl|(simp;done)|(simp[*];done)),H',⟨by have:=HK1.out;omega⟩,⟨by(with_reducible repeat(first|apply Kd.R_alloc|apply Kd.R_drewN|apply Kd.R_drew));exact HO_10.out⟩,⟨by(with_reducible repeat(first|apply Kd.R_alloc|apply Kd.R_drewN|apply Kd.R_drew));exact HO_29.out⟩,⟨by(with_reducible repeat(first|refine blk_drewN ?_ _|refine blk_drew ?_|refine blk_alloc ?_ _));exact BK718.out⟩,⟨by repeat(first|(with_reducible first|exact HB.out|apply below_alloc|apply pw_below_drewN|apply below_drew1|refine below_set ?_ GE718.out)|exact HB.out)⟩⟩
end Go.Proofs.Ytkcpanpdipmmmaa.P
namespace Go.Proofs.Ytkcpanpdipmmmaa.P
open Go.RowKit Go.Proofs.YtkcpanpdipmmmaaW.PrintWords Go.Proofs.YtkcpanpdipmmmaaW.PrintLast Go.Proofs.YtkcpanpdipmmmaaW.PrintMore
attribute [local go_sem] max2_int min2_int max_two min_two max_three min_three max_four min_four
def span_paid.l0:Nat→List Int→Int→List (S74)→Int→Int→Option (Int)
 |0,_,_,_,_,_=>none
 |k+1,x1,x5,x9,x10,x11=>if x11<x10 then(if 0≤x11 then(if x11<(x9.length:Int) then(if x11<(x1.length:Int) then(span_paid.l0 k x1 (wrap64 (x5+(wrap64 ((rd x1 x11) * ((rd_T74 x9 x11).f3))))) x9 x10 (wrap64 (x11+1))) else(none)) else(none)) else(none)) else(some x5)
def span_paid.f (k:Nat) (a0_0:Int) (a0_1:Bool) (l0_2:List (S74)) (l1:List Int):Option (Int):=span_paid.l0 k l1 0 l0_2 (l0_2.length:Int) 0
set_option maxHeartbeats 8000000 in
set_option maxRecDepth 100000 in
theorem span_paid.calls (k:Nat) (a0_0:Int) (a0_1:Bool) (A0_2:Option Addr) (c0_2:Nat) (l0_2:List (S74)) (A1:Option Addr) (c1:Nat) (l1:List Int) (r:Int) (w:World) (hr0_2:Kd.C k74 w A0_2 l0_2.length l0_2) (hc0_2:l0_2.length≤c0_2) (hr1:Kd.C (Kd.int .i64) w A1 l1.length l1) (hc1:l1.length≤c1) (h:span_paid.f k a0_0 a0_1 l0_2 l1=some r):
  Calls Try.prog 116 #[.agg #[.int .i64 a0_0, .bool a0_1, .slice A0_2 l0_2.length c0_2], .slice A1 l1.length c1] w fun e w'=>e= .returned (.int .i64 r)∧Below w.heap.size w w':=by
 have hu24:=Try.underlying24
 have hu74:=Try.underlying74
 have HR0_2:=Aside0.mk hr0_2
 have HC0_2:=Aside0.mk hc0_2
 clear hr0_2 hc0_2
 have HR1:=Aside0.mk hr1
 have HC1:=Aside0.mk hc1
 clear hr1 hc1
 have HB:=Aside0.mk (Below.refl w.heap.size w)
 have H:(span_paid.l0 k l1 0 l0_2 (l0_2.length:Int) 0)=some r:=h
 clear h
 have H':=Aside0.mk H
 clear H
 go_enter Try.func116,Try.ntmps116
 go_wp2_with (first|((with_reducible refine gate_dst (N:=2) rfl ?_);refine box_event ?hg (N:=2) ?hd (cs:= #[.int .i64 a0_0, .bool a0_1, .slice A0_2 l0_2.length c0_2]) (t:=24) ?hr ?_;(case hd=>rfl);(case hg=>rfl);(case hr=>first|(go_simp;done)|(go_simp;rfl));intro gb726 hg w3 hbox hb;have n0_:=Aside0.mk (below_step (by repeat(first|(with_reducible first|exact HB.out|apply below_alloc|apply pw_below_drewN|apply below_drew1)|exact HB.out)) hb);have n1_:=Aside0.mk (hbox);have n2_:=Aside0.mk ((by rw[hg];exact(below_size (by repeat(first|(with_reducible first|exact HB.out|apply below_alloc|apply pw_below_drewN|apply below_drew1)|exact HB.out))):w.heap.size≤gb726));have n3_:=Aside0.mk ((by rw[hg];exact(below_size (by repeat(first|(with_reducible first|exact HB.out|apply below_alloc|apply pw_below_drewN|apply below_drew1)|exact HB.out))):w.heap.size≤gb726));clear HB;have HB:=n0_;have BK726:=n1_;have GW726:=n2_;have GE726:=n3_;clear n0_ n1_ n2_ n3_;clear hb hbox hg;have hcz4_0:w3.cell? ⟨gb726,0,none⟩=some (.int .i64 a0_0):=(blk_cell BK726.out 0).trans rfl;have hcz4_1:w3.cell? ⟨gb726,1,none⟩=some (.bool a0_1):=(blk_cell BK726.out 1).trans rfl;have hcz4_2:w3.cell? ⟨gb726,2,none⟩=some (.slice A0_2 l0_2.length c0_2):=(blk_cell BK726.out 2).trans rfl;have hfz4_0:=blk_frozen BK726.out 0;have hfz4_1:=blk_frozen BK726.out 1;have hfz4_2:=blk_frozen BK726.out 2))
 repeat(go_quiet (first|((with_reducible refine gate_dst (N:=2) rfl ?_);refine box_event ?hg (N:=2) ?hd (cs:= #[.int .i64 a0_0, .bool a0_1, .slice A0_2 l0_2.length c0_2]) (t:=24) ?hr ?_;(case hd=>rfl);(case hg=>rfl);(case hr=>first|(go_simp;done)|(go_simp;rfl));intro gb726 hg w3 hbox hb;have n0_:=Aside0.mk (below_step (by repeat(first|(with_reducible first|exact HB.out|apply below_alloc|apply pw_below_drewN|apply below_drew1)|exact HB.out)) hb);have n1_:=Aside0.mk (hbox);have n2_:=Aside0.mk ((by rw[hg];exact(below_size (by repeat(first|(with_reducible first|exact HB.out|apply below_alloc|apply pw_below_drewN|apply below_drew1)|exact HB.out))):w.heap.size≤gb726));have n3_:=Aside0.mk ((by rw[hg];exact(below_size (by repeat(first|(with_reducible first|exact HB.out|apply below_alloc|apply pw_below_drewN|apply below_drew1)|exact HB.out))):w.heap.size≤gb726));clear HB;have HB:=n0_;have BK726:=n1_;have GW726:=n2_;have GE726:=n3_;clear n0_ n1_ n2_ n3_;clear hb hbox hg;have hcz4_0:w3.cell? ⟨gb726,0,none⟩=some (.int .i64 a0_0):=(blk_cell BK726.out 0).trans rfl;have hcz4_1:w3.cell? ⟨gb726,1,none⟩=some (.bool a0_1):=(blk_cell BK726.out 1).trans rfl;have hcz4_2:w3.cell? ⟨gb726,2,none⟩=some (.slice A0_2 l0_2.length c0_2):=(blk_cell BK726.out 2).trans rfl;have hfz4_0:=blk_frozen BK726.out 0;have hfz4_1:=blk_frozen BK726.out 1;have hfz4_2:=blk_frozen BK726.out 2));try go_wp2_with (first|((with_reducible refine gate_dst (N:=2) rfl ?_);refine box_event ?hg (N:=2) ?hd (cs:= #[.int .i64 a0_0, .bool a0_1, .slice A0_2 l0_2.length c0_2]) (t:=24) ?hr ?_;(case hd=>rfl);(case hg=>rfl);(case hr=>first|(go_simp;done)|(go_simp;rfl));intro gb726 hg w3 hbox hb;have n0_:=Aside0.mk (below_step (by repeat(first|(with_reducible first|exact HB.out|apply below_alloc|apply pw_below_drewN|apply below_drew1)|exact HB.out)) hb);have n1_:=Aside0.mk (hbox);have n2_:=Aside0.mk ((by rw[hg];exact(below_size (by repeat(first|(with_reducible first|exact HB.out|apply below_alloc|apply pw_below_drewN|apply below_drew1)|exact HB.out))):w.heap.size≤gb726));have n3_:=Aside0.mk ((by rw[hg];exact(below_size (by repeat(first|(with_reducible first|exact HB.out|apply below_alloc|apply pw_below_drewN|apply below_drew1)|exact HB.out))):w.heap.size≤gb726));clear HB;have HB:=n0_;have BK726:=n1_;have GW726:=n2_;have GE726:=n3_;clear n0_ n1_ n2_ n3_;clear hb hbox hg;have hcz4_0:w3.cell? ⟨gb726,0,none⟩=some (.int .i64 a0_0):=(blk_cell BK726.out 0).trans rfl;have hcz4_1:w3.cell? ⟨gb726,1,none⟩=some (.bool a0_1):=(blk_cell BK726.out 1).trans rfl;have hcz4_2:w3.cell? ⟨gb726,2,none⟩=some (.slice A0_2 l0_2.length c0_2):=(blk_cell BK726.out 2).trans rfl;have hfz4_0:=blk_frozen BK726.out 0;have hfz4_1:=blk_frozen BK726.out 1;have hfz4_2:=blk_frozen BK726.out 2)))
 go_loopg [5,11] k (fun kq v5 v11 w'=> ∃ (x5_1:Int) (x11_1:Int),v5= .int .i64 x5_1∧v11= .int .i64 x11_1∧Aside0 (span_paid.l0 kq l1 x5_1 l0_2 (l0_2.length:Int) x11_1=some r)∧Aside0 (kq≤k)∧Aside0 (w'.heap[gb726]? =some (.cells #[.int .i64 a0_0, .bool a0_1,(.slice A0_2 l0_2.length c0_2)] 24 (0,0)))∧Aside0 (Below w.heap.size w w'))
 case atStart=>exact⟨(0),(0),(by first|rfl|(simp;done)|(simp[*];done)),(by first|rfl|(simp;done)|(simp[*];done)),H',⟨Nat.le_refl _⟩,⟨by(with_reducible repeat(first|refine blk_drewN ?_ _|refine blk_drew ?_|refine blk_alloc ?_ _));exact BK726.out⟩,⟨by repeat(first|(with_reducible first|exact HB.out|apply below_alloc|apply pw_below_drewN|apply below_drew1|refine below_set ?_ GE726.out)|exact HB.out)⟩⟩
 case round=>
  clear H'
  try clear c1
  try clear p2
  try clear hcz4_0
  try clear hcz4_1
  try clear hcz4_2
  try clear hfz4_0
  try clear hfz4_1
  try clear hfz4_2
  obtain⟨x5_1,x11_1,rfl,rfl,HA,HK1,BK726,HB⟩:=hrel
  cases gk with
  |zero=>exact absurd HA.out (by simp[span_paid.l0])
  |succ k1=>
   have H:=HA.out
   clear HA
   simp only[span_paid.l0] at H
   by_cases c5:x11_1<(l0_2.length:Int)
   rotate_left
   ·rw[if_neg c5] at H
    have c5b0:decide (x11_1<(l0_2.length:Int))=false:=decide_eq_false c5
    clear c5
    obtain rfl:=Option.some.inj H
    go_wp2
    repeat(go_quiet (fail);try go_wp2)
    go_ret
    exact⟨by first|rfl|(simp[errW_none,errW_some]<;>rfl)|(simp[*,errW_none,errW_some]<;>rfl),by repeat(first|(with_reducible first|exact HB.out|apply below_alloc|apply pw_below_drewN|apply below_drew1|refine below_set ?_ GE726.out)|exact HB.out)⟩
   rw[if_pos c5] at H
   have c5b0:decide (x11_1<(l0_2.length:Int))=true:=decide_eq_true c5
   clear c5
   by_cases c6:0≤x11_1
   rotate_left
   ·rw[if_neg c6] at H
    exact absurd H (by simp)
   rw[if_pos c6] at H
   have c6b0:decide (0≤x11_1)=true:=decide_eq_true c6
   clear c6
   by_cases c7:x11_1<(l0_2.length:Int)
   rotate_left
   ·rw[if_neg c7] at H
    exact absurd H (by simp)
   rw[if_pos c7] at H
   have c7b0:decide (x11_1<(l0_2.length:Int))=true:=decide_eq_true c7
   clear c7
   by_cases c8:x11_1<(l1.length:Int)
   rotate_left
   ·rw[if_neg c8] at H
    exact absurd H (by simp)
   rw[if_pos c8] at H
   have c8b0:decide (x11_1<(l1.length:Int))=true:=decide_eq_true c8
   clear c8
   have H':=Aside0.mk H
   clear H
   have p727:0≤(x11_1:Int):=of_decide_eq_true (by first|(with_reducible assumption)|assumption)
   have q727:x11_1<(l0_2.length:Int):=of_decide_eq_true (by first|(with_reducible assumption)|assumption)
   obtain⟨ad727,e727,hx727_0,hx727_1,hx727_2,hx727_3⟩:=at_T74 HR0_2.out x11_1 p727 q727
   cases e727
   replace hx727_0:=(HB.out.cell (World.block_lt_of_cell? w _ hx727_0)).trans hx727_0
   replace hx727_1:=(HB.out.cell (World.block_lt_of_cell? w _ hx727_1)).trans hx727_1
   replace hx727_2:=(HB.out.cell (World.block_lt_of_cell? w _ hx727_2)).trans hx727_2
   replace hx727_3:=(HB.out.cell (World.block_lt_of_cell? w _ hx727_3)).trans hx727_3
   replace p727:=eq_true p727
   replace q727:=eq_true q727
   go_wp2_with (first|((with_reducible refine gate_dst (N:=7) rfl ?_);refine box_event ?hg (N:=7) ?hd (cs:= #[.int .i64 0, .int .i64 0, .int .i64 0, .int .i64 0]) (t:=74) ?hr ?_;(case hd=>rfl);(case hg=>rfl);(case hr=>first|(go_simp;done)|(go_simp;rfl));intro gb728 hg w9 hbox hb;have n0_:=Aside0.mk (blk_below (g:=gb726) (o:= .cells #[.int .i64 a0_0, .bool a0_1, .slice (some ad727) l0_2.length c0_2] 24 (0,0)) (by(with_reducible repeat(first|refine blk_drewN ?_ _|refine blk_drew ?_|refine blk_alloc ?_ _));exact BK726.out) hb);have n1_:=Aside0.mk (below_step (by repeat(first|(with_reducible first|exact HB.out|apply below_alloc|apply pw_below_drewN|apply below_drew1|refine below_set ?_ GE726.out)|exact HB.out)) hb);have n2_:=Aside0.mk (hbox);have n3_:=Aside0.mk ((by rw[hg];exact(below_size (by repeat(first|(with_reducible first|exact HB.out|apply below_alloc|apply pw_below_drewN|apply below_drew1|refine below_set ?_ GE726.out)|exact HB.out))):w.heap.size≤gb728));have n4_:=Aside0.mk ((by rw[hg];exact(below_size (by repeat(first|(with_reducible first|exact HB.out|apply below_alloc|apply pw_below_drewN|apply below_drew1|refine below_set ?_ GE726.out)|exact HB.out))):w.heap.size≤gb728));have n5_:=Aside0.mk ((by rw[hg];exact Nat.ne_of_lt (blk_lt (g:=gb726) (o:= .cells #[.int .i64 a0_0, .bool a0_1, .slice (some ad727) l0_2.length c0_2] 24 (0,0)) (by(with_reducible repeat(first|refine blk_drewN ?_ _|refine blk_drew ?_|refine blk_alloc ?_ _));exact BK726.out)):gb726≠gb728));have n6_:=Aside0.mk ((by rw[hg];exact Nat.ne_of_gt (blk_lt (g:=gb726) (o:= .cells #[.int .i64 a0_0, .bool a0_1, .slice (some ad727) l0_2.length c0_2] 24 (0,0)) (by(with_reducible repeat(first|refine blk_drewN ?_ _|refine blk_drew ?_|refine blk_alloc ?_ _));exact BK726.out)):gb728≠gb726));clear BK726;clear HB;have BK726:=n0_;have HB:=n1_;have BK728:=n2_;have GW728:=n3_;have GE728:=n4_;have NB726_728:=n5_;have NB728_726:=n6_;clear n0_ n1_ n2_ n3_ n4_ n5_ n6_;clear hb hbox hg;have hnb10:=NB728_726.out;have hnc10:=NB726_728.out;have hcz11_0:w9.cell? ⟨gb728,0,none⟩=some (.int .i64 0):=(blk_cell BK728.out 0).trans rfl;have hcz11_1:w9.cell? ⟨gb728,1,none⟩=some (.int .i64 0):=(blk_cell BK728.out 1).trans rfl;have hcz11_2:w9.cell? ⟨gb728,2,none⟩=some (.int .i64 0):=(blk_cell BK728.out 2).trans rfl;have hcz11_3:w9.cell? ⟨gb728,3,none⟩=some (.int .i64 0):=(blk_cell BK728.out 3).trans rfl;have hfz11_0:=blk_frozen BK728.out 0;have hfz11_1:=blk_frozen BK728.out 1;have hfz11_2:=blk_frozen BK728.out 2;have hfz11_3:=blk_frozen BK728.out 3;have p729:0≤(x11_1:Int):=of_decide_eq_true (by first|(with_reducible assumption)|assumption);have q729:x11_1<(l1.length:Int):=of_decide_eq_true (by first|(with_reducible assumption)|assumption);obtain⟨ad729,e729,hx729_0⟩:=Kd.at_int HR1.out x11_1 p729 q729;cases e729;have hn729_0:ad729.block≠gb728:=Nat.ne_of_lt (Nat.lt_of_lt_of_le (by have:=World.block_lt_of_cell? _ _ hx729_0;first|rwa [add_block] at this|exact this) GW728.out);have hn729_1:ad729.block≠gb728:=Nat.ne_of_lt (Nat.lt_of_lt_of_le (by have:=World.block_lt_of_cell? _ _ hx729_0;first|rwa [add_block] at this|exact this) GW728.out);have hn729_2:ad729.block≠gb728:=Nat.ne_of_lt (Nat.lt_of_lt_of_le (by have:=World.block_lt_of_cell? _ _ hx729_0;first|rwa [add_block] at this|exact this) GW728.out);have hn729_3:ad729.block≠gb728:=Nat.ne_of_lt (Nat.lt_of_lt_of_le (by have:=World.block_lt_of_cell? _ _ hx729_0;first|rwa [add_block] at this|exact this) GW728.out);replace hx729_0:=(HB.out.cell (World.block_lt_of_cell? w _ hx729_0)).trans hx729_0;replace hx729_0:=(cell_far (p:=⟨gb728,0,none⟩) (by first|(rw[add_block];exact hn729_0)|(show (Addr.add _ _).block≠_;rw[add_block];exact hn729_0)|exact hn729_0) (.int .i64 ((rd_T74 l0_2 x11_1).f0))).trans hx729_0;replace hx729_0:=(cell_far (p:=⟨gb728,1,none⟩) (by first|(rw[add_block];exact hn729_1)|(show (Addr.add _ _).block≠_;rw[add_block];exact hn729_1)|exact hn729_1) (.int .i64 ((rd_T74 l0_2 x11_1).f1))).trans hx729_0;replace hx729_0:=(cell_far (p:=⟨gb728,2,none⟩) (by first|(rw[add_block];exact hn729_2)|(show (Addr.add _ _).block≠_;rw[add_block];exact hn729_2)|exact hn729_2) (.int .i64 ((rd_T74 l0_2 x11_1).f2))).trans hx729_0;replace hx729_0:=(cell_far (p:=⟨gb728,3,none⟩) (by first|(rw[add_block];exact hn729_3)|(show (Addr.add _ _).block≠_;rw[add_block];exact hn729_3)|exact hn729_3) (.int .i64 ((rd_T74 l0_2 x11_1).f3))).trans hx729_0;(try have hy729_0:=fun(n_:Nat)=>(show ((((((w9.drewN n_).setCell ⟨gb728,0,none⟩ (.int .i64 ((rd_T74 l0_2 x11_1).f0))).setCell ⟨gb728,1,none⟩ (.int .i64 ((rd_T74 l0_2 x11_1).f1))).setCell ⟨gb728,2,none⟩ (.int .i64 ((rd_T74 l0_2 x11_1).f2))).setCell ⟨gb728,3,none⟩ (.int .i64 ((rd_T74 l0_2 x11_1).f3)))).cell? _=some _ from hx729_0));clear hn729_0;clear hn729_1;clear hn729_2;clear hn729_3;replace p729:=eq_true p729;replace q729:=eq_true q729))
   repeat(go_quiet (first|((with_reducible refine gate_dst (N:=7) rfl ?_);refine box_event ?hg (N:=7) ?hd (cs:= #[.int .i64 0, .int .i64 0, .int .i64 0, .int .i64 0]) (t:=74) ?hr ?_;(case hd=>rfl);(case hg=>rfl);(case hr=>first|(go_simp;done)|(go_simp;rfl));intro gb728 hg w9 hbox hb;have n0_:=Aside0.mk (blk_below (g:=gb726) (o:= .cells #[.int .i64 a0_0, .bool a0_1, .slice (some ad727) l0_2.length c0_2] 24 (0,0)) (by(with_reducible repeat(first|refine blk_drewN ?_ _|refine blk_drew ?_|refine blk_alloc ?_ _));exact BK726.out) hb);have n1_:=Aside0.mk (below_step (by repeat(first|(with_reducible first|exact HB.out|apply below_alloc|apply pw_below_drewN|apply below_drew1|refine below_set ?_ GE726.out)|exact HB.out)) hb);have n2_:=Aside0.mk (hbox);have n3_:=Aside0.mk ((by rw[hg];exact(below_size (by repeat(first|(with_reducible first|exact HB.out|apply below_alloc|apply pw_below_drewN|apply below_drew1|refine below_set ?_ GE726.out)|exact HB.out))):w.heap.size≤gb728));have n4_:=Aside0.mk ((by rw[hg];exact(below_size (by repeat(first|(with_reducible first|exact HB.out|apply below_alloc|apply pw_below_drewN|apply below_drew1|refine below_set ?_ GE726.out)|exact HB.out))):w.heap.size≤gb728));have n5_:=Aside0.mk ((by rw[hg];exact Nat.ne_of_lt (blk_lt (g:=gb726) (o:= .cells #[.int .i64 a0_0, .bool a0_1, .slice (some ad727) l0_2.length c0_2] 24 (0,0)) (by(with_reducible repeat(first|refine blk_drewN ?_ _|refine blk_drew ?_|refine blk_alloc ?_ _));exact BK726.out)):gb726≠gb728));have n6_:=Aside0.mk ((by rw[hg];exact Nat.ne_of_gt (blk_lt (g:=gb726) (o:= .cells #[.int .i64 a0_0, .bool a0_1, .slice (some ad727) l0_2.length c0_2] 24 (0,0)) (by(with_reducible repeat(first|refine blk_drewN ?_ _|refine blk_drew ?_|refine blk_alloc ?_ _));exact BK726.out)):gb728≠gb726));clear BK726;clear HB;have BK726:=n0_;have HB:=n1_;have BK728:=n2_;have GW728:=n3_;have GE728:=n4_;have NB726_728:=n5_;have NB728_726:=n6_;clear n0_ n1_ n2_ n3_ n4_ n5_ n6_;clear hb hbox hg;have hnb10:=NB728_726.out;have hnc10:=NB726_728.out;have hcz11_0:w9.cell? ⟨gb728,0,none⟩=some (.int .i64 0):=(blk_cell BK728.out 0).trans rfl;have hcz11_1:w9.cell? ⟨gb728,1,none⟩=some (.int .i64 0):=(blk_cell BK728.out 1).trans rfl;have hcz11_2:w9.cell? ⟨gb728,2,none⟩=some (.int .i64 0):=(blk_cell BK728.out 2).trans rfl;have hcz11_3:w9.cell? ⟨gb728,3,none⟩=some (.int .i64 0):=(blk_cell BK728.out 3).trans rfl;have hfz11_0:=blk_frozen BK728.out 0;have hfz11_1:=blk_frozen BK728.out 1;have hfz11_2:=blk_frozen BK728.out 2;have hfz11_3:=blk_frozen BK728.out 3;have p729:0≤(x11_1:Int):=of_decide_eq_true (by first|(with_reducible assumption)|assumption);have q729:x11_1<(l1.length:Int):=of_decide_eq_true (by first|(with_reducible assumption)|assumption);obtain⟨ad729,e729,hx729_0⟩:=Kd.at_int HR1.out x11_1 p729 q729;cases e729;have hn729_0:ad729.block≠gb728:=Nat.ne_of_lt (Nat.lt_of_lt_of_le (by have:=World.block_lt_of_cell? _ _ hx729_0;first|rwa [add_block] at this|exact this) GW728.out);have hn729_1:ad729.block≠gb728:=Nat.ne_of_lt (Nat.lt_of_lt_of_le (by have:=World.block_lt_of_cell? _ _ hx729_0;first|rwa [add_block] at this|exact this) GW728.out);have hn729_2:ad729.block≠gb728:=Nat.ne_of_lt (Nat.lt_of_lt_of_le (by have:=World.block_lt_of_cell? _ _ hx729_0;first|rwa [add_block] at this|exact this) GW728.out);have hn729_3:ad729.block≠gb728:=Nat.ne_of_lt (Nat.lt_of_lt_of_le (by have:=World.block_lt_of_cell? _ _ hx729_0;first|rwa [add_block] at this|exact this) GW728.out);replace hx729_0:=(HB.out.cell (World.block_lt_of_cell? w _ hx729_0)).trans hx729_0;replace hx729_0:=(cell_far (p:=⟨gb728,0,none⟩) (by first|(rw[add_block];exact hn729_0)|(show (Addr.add _ _).block≠_;rw[add_block];exact hn729_0)|exact hn729_0) (.int .i64 ((rd_T74 l0_2 x11_1).f0))).trans hx729_0;replace hx729_0:=(cell_far (p:=⟨gb728,1,none⟩) (by first|(rw[add_block];exact hn729_1)|(show (Addr.add _ _).block≠_;rw[add_block];exact hn729_1)|exact hn729_1) (.int .i64 ((rd_T74 l0_2 x11_1).f1))).trans hx729_0;replace hx729_0:=(cell_far (p:=⟨gb728,2,none⟩) (by first|(rw[add_block];exact hn729_2)|(show (Addr.add _ _).block≠_;rw[add_block];exact hn729_2)|exact hn729_2) (.int .i64 ((rd_T74 l0_2 x11_1).f2))).trans hx729_0;replace hx729_0:=(cell_far (p:=⟨gb728,3,none⟩) (by first|(rw[add_block];exact hn729_3)|(show (Addr.add _ _).block≠_;rw[add_block];exact hn729_3)|exact hn729_3) (.int .i64 ((rd_T74 l0_2 x11_1).f3))).trans hx729_0;(try have hy729_0:=fun(n_:Nat)=>(show ((((((w9.drewN n_).setCell ⟨gb728,0,none⟩ (.int .i64 ((rd_T74 l0_2 x11_1).f0))).setCell ⟨gb728,1,none⟩ (.int .i64 ((rd_T74 l0_2 x11_1).f1))).setCell ⟨gb728,2,none⟩ (.int .i64 ((rd_T74 l0_2 x11_1).f2))).setCell ⟨gb728,3,none⟩ (.int .i64 ((rd_T74 l0_2 x11_1).f3)))).cell? _=some _ from hx729_0));clear hn729_0;clear hn729_1;clear hn729_2;clear hn729_3;replace p729:=eq_true p729;replace q729:=eq_true q729));try go_wp2_with (first|((with_reducible refine gate_dst (N:=7) rfl ?_);refine box_event ?hg (N:=7) ?hd (cs:= #[.int .i64 0, .int .i64 0, .int .i64 0, .int .i64 0]) (t:=74) ?hr ?_;(case hd=>rfl);(case hg=>rfl);(case hr=>first|(go_simp;done)|(go_simp;rfl));intro gb728 hg w9 hbox hb;have n0_:=Aside0.mk (blk_below (g:=gb726) (o:= .cells #[.int .i64 a0_0, .bool a0_1, .slice (some ad727) l0_2.length c0_2] 24 (0,0)) (by(with_reducible repeat(first|refine blk_drewN ?_ _|refine blk_drew ?_|refine blk_alloc ?_ _));exact BK726.out) hb);have n1_:=Aside0.mk (below_step (by repeat(first|(with_reducible first|exact HB.out|apply below_alloc|apply pw_below_drewN|apply below_drew1|refine below_set ?_ GE726.out)|exact HB.out)) hb);have n2_:=Aside0.mk (hbox);have n3_:=Aside0.mk ((by rw[hg];exact(below_size (by repeat(first|(with_reducible first|exact HB.out|apply below_alloc|apply pw_below_drewN|apply below_drew1|refine below_set ?_ GE726.out)|exact HB.out))):w.heap.size≤gb728));have n4_:=Aside0.mk ((by rw[hg];exact(below_size (by repeat(first|(with_reducible first|exact HB.out|apply below_alloc|apply pw_below_drewN|apply below_drew1|refine below_set ?_ GE726.out)|exact HB.out))):w.heap.size≤gb728));have n5_:=Aside0.mk ((by rw[hg];exact Nat.ne_of_lt (blk_lt (g:=gb726) (o:= .cells #[.int .i64 a0_0, .bool a0_1, .slice (some ad727) l0_2.length c0_2] 24 (0,0)) (by(with_reducible repeat(first|refine blk_drewN ?_ _|refine blk_drew ?_|refine blk_alloc ?_ _));exact BK726.out)):gb726≠gb728));have n6_:=Aside0.mk ((by rw[hg];exact Nat.ne_of_gt (blk_lt (g:=gb726) (o:= .cells #[.int .i64 a0_0, .bool a0_1, .slice (some ad727) l0_2.length c0_2] 24 (0,0)) (by(with_reducible repeat(first|refine blk_drewN ?_ _|refine blk_drew ?_|refine blk_alloc ?_ _));exact BK726.out)):gb728≠gb726));clear BK726;clear HB;have BK726:=n0_;have HB:=n1_;have BK728:=n2_;have GW728:=n3_;have GE728:=n4_;have NB726_728:=n5_;have NB728_726:=n6_;clear n0_ n1_ n2_ n3_ n4_ n5_ n6_;clear hb hbox hg;have hnb10:=NB728_726.out;have hnc10:=NB726_728.out;have hcz11_0:w9.cell? ⟨gb728,0,none⟩=some (.int .i64 0):=(blk_cell BK728.out 0).trans rfl;have hcz11_1:w9.cell? ⟨gb728,1,none⟩=some (.int .i64 0):=(blk_cell BK728.out 1).trans rfl;have hcz11_2:w9.cell? ⟨gb728,2,none⟩=some (.int .i64 0):=(blk_cell BK728.out 2).trans rfl;have hcz11_3:w9.cell? ⟨gb728,3,none⟩=some (.int .i64 0):=(blk_cell BK728.out 3).trans rfl;have hfz11_0:=blk_frozen BK728.out 0;have hfz11_1:=blk_frozen BK728.out 1;have hfz11_2:=blk_frozen BK728.out 2;have hfz11_3:=blk_frozen BK728.out 3;have p729:0≤(x11_1:Int):=of_decide_eq_true (by first|(with_reducible assumption)|assumption);have q729:x11_1<(l1.length:Int):=of_decide_eq_true (by first|(with_reducible assumption)|assumption);obtain⟨ad729,e729,hx729_0⟩:=Kd.at_int HR1.out x11_1 p729 q729;cases e729;have hn729_0:ad729.block≠gb728:=Nat.ne_of_lt (Nat.lt_of_lt_of_le (by have:=World.block_lt_of_cell? _ _ hx729_0;first|rwa [add_block] at this|exact this) GW728.out);have hn729_1:ad729.block≠gb728:=Nat.ne_of_lt (Nat.lt_of_lt_of_le (by have:=World.block_lt_of_cell? _ _ hx729_0;first|rwa [add_block] at this|exact this) GW728.out);have hn729_2:ad729.block≠gb728:=Nat.ne_of_lt (Nat.lt_of_lt_of_le (by have:=World.block_lt_of_cell? _ _ hx729_0;first|rwa [add_block] at this|exact this) GW728.out);have hn729_3:ad729.block≠gb728:=Nat.ne_of_lt (Nat.lt_of_lt_of_le (by have:=World.block_lt_of_cell? _ _ hx729_0;first|rwa [add_block] at this|exact this) GW728.out);replace hx729_0:=(HB.out.cell (World.block_lt_of_cell? w _ hx729_0)).trans hx729_0;replace hx729_0:=(cell_far (p:=⟨gb728,0,none⟩) (by first|(rw[add_block];exact hn729_0)|(show (Addr.add _ _).block≠_;rw[add_block];exact hn729_0)|exact hn729_0) (.int .i64 ((rd_T74 l0_2 x11_1).f0))).trans hx729_0;replace hx729_0:=(cell_far (p:=⟨gb728,1,none⟩) (by first|(rw[add_block];exact hn729_1)|(show (Addr.add _ _).block≠_;rw[add_block];exact hn729_1)|exact hn729_1) (.int .i64 ((rd_T74 l0_2 x11_1).f1))).trans hx729_0;replace hx729_0:=(cell_far (p:=⟨gb728,2,none⟩) (by first|(rw[add_block];exact hn729_2)|(show (Addr.add _ _).block≠_;rw[add_block];exact hn729_2)|exact hn729_2) (.int .i64 ((rd_T74 l0_2 x11_1).f2))).trans hx729_0;replace hx729_0:=(cell_far (p:=⟨gb728,3,none⟩) (by first|(rw[add_block];exact hn729_3)|(show (Addr.add _ _).block≠_;rw[add_block];exact hn729_3)|exact hn729_3) (.int .i64 ((rd_T74 l0_2 x11_1).f3))).trans hx729_0;(try have hy729_0:=fun(n_:Nat)=>(show ((((((w9.drewN n_).setCell ⟨gb728,0,none⟩ (.int .i64 ((rd_T74 l0_2 x11_1).f0))).setCell ⟨gb728,1,none⟩ (.int .i64 ((rd_T74 l0_2 x11_1).f1))).setCell ⟨gb728,2,none⟩ (.int .i64 ((rd_T74 l0_2 x11_1).f2))).setCell ⟨gb728,3,none⟩ (.int .i64 ((rd_T74 l0_2 x11_1).f3)))).cell? _=some _ from hx729_0));clear hn729_0;clear hn729_1;clear hn729_2;clear hn729_3;replace p729:=eq_true p729;replace q729:=eq_true q729)))
   go_roundg k1
   case measure=>have:=HK1.out;omega
   case rel=>exact⟨(wrap64 (x5_1+(wrap64 ((rd l1 x11_1) * ((rd_T74 l0_2 x11_1).f3))))),(wrap64 (x11_1+1)),(by first|rfl|(simp;done)|(simp[*];done)),(by first|rfl|(simp;done)|(simp[*];done)),H',⟨by have:=HK1.out;omega⟩,⟨by(with_reducible repeat(first|refine blk_drewN ?_ _|refine blk_drew ?_|refine blk_alloc ?_ _));refine blk_far ?_ NB726_728.out _;(with_reducible repeat(first|refine blk_drewN ?_ _|refine blk_drew ?_|refine blk_alloc ?_ _));refine blk_far ?_ NB726_728.out _;(with_reducible repeat(first|refine blk_drewN ?_ _|refine blk_drew ?_|refine blk_alloc ?_ _));refine blk_far ?_ NB726_728.out _;(with_reducible repeat(first|refine blk_drewN ?_ _|refine blk_drew ?_|refine blk_alloc ?_ _));refine blk_far ?_ NB726_728.out _;(with_reducible repeat(first|refine blk_drewN ?_ _|refine blk_drew ?_|refine blk_alloc ?_ _));exact BK726.out⟩,⟨by repeat(first|(with_reducible first|exact HB.out|apply below_alloc|apply pw_below_drewN|apply below_drew1|refine below_set ?_ GE726.out|refine below_set ?_ GE728.out)|exact HB.out)⟩⟩
end Go.Proofs.Ytkcpanpdipmmmaa.P
namespace Go.Proofs.Ytkcpanpdipmmmaa.P
open Go.RowKit Go.Proofs.YtkcpanpdipmmmaaW.PrintWords Go.Proofs.YtkcpanpdipmmmaaW.PrintLast Go.Proofs.YtkcpanpdipmmmaaW.PrintMore
attribute [local go_sem] max2_int min2_int max_two min_two max_three min_three max_four min_four
def span_Worth.f (k:Nat) (a0_0:Int) (a0_1:Bool) (l0_2:List (S74)) (a1:Int) (a2:Int) (l3:List Int) (a4:Int):Option (Int × Int):=(span_Asked.f k a0_0 a0_1 l0_2 a1 a2 a4).bind fun t731=>(if t731=0 then((static_Check.f k a0_0 a0_1 l0_2 a1 a2 l3).bind fun bt732=>(if bt732.2=0 then((span_paid.f k a0_0 a0_1 l0_2 l3).bind fun t734=>(some (wrap64 ((wrap64 ((wrap64 (a4+1)) * bt732.1)) - t734),0))) else(some (0,bt732.2)))) else(some (0,t731)))
set_option maxHeartbeats 8000000 in
set_option maxRecDepth 100000 in
theorem span_Worth.calls (k:Nat) (a0_0:Int) (a0_1:Bool) (A0_2:Option Addr) (c0_2:Nat) (l0_2:List (S74)) (a1:Int) (a2:Int) (A3:Option Addr) (c3:Nat) (l3:List Int) (a4:Int) (r1:Int) (r2:Int) (w:World) (hr0_2:Kd.C k74 w A0_2 l0_2.length l0_2) (hc0_2:l0_2.length≤c0_2) (hr3:Kd.C (Kd.int .i64) w A3 l3.length l3) (hc3:l3.length≤c3) (h:span_Worth.f k a0_0 a0_1 l0_2 a1 a2 l3 a4=some (r1,r2)):
  Calls Try.prog 63 #[.agg #[.int .i64 a0_0, .bool a0_1, .slice A0_2 l0_2.length c0_2], .int .i64 a1, .int .i64 a2, .slice A3 l3.length c3, .int .i64 a4] w fun e w'=>e= .returned (.tuple #[.int .i64 r1, .int .i64 r2])∧Below w.heap.size w w':=by
 have hu24:=Try.underlying24
 have HR0_2:=Aside0.mk hr0_2
 have HC0_2:=Aside0.mk hc0_2
 clear hr0_2 hc0_2
 have HR3:=Aside0.mk hr3
 have HC3:=Aside0.mk hc3
 clear hr3 hc3
 have HB:=Aside0.mk (Below.refl w.heap.size w)
 have H:((span_Asked.f k a0_0 a0_1 l0_2 a1 a2 a4).bind fun t731=>(if t731=0 then((static_Check.f k a0_0 a0_1 l0_2 a1 a2 l3).bind fun bt732=>(if bt732.2=0 then((span_paid.f k a0_0 a0_1 l0_2 l3).bind fun t734=>(some (wrap64 ((wrap64 ((wrap64 (a4+1)) * bt732.1)) - t734),0))) else(some (0,bt732.2)))) else(some (0,t731))))=some (r1,r2):=h
 clear h
 replace H:=Option.bind_eq_some_iff.mp H
 obtain⟨t731,A60,H⟩:=H
 replace H:(if t731=0 then((static_Check.f k a0_0 a0_1 l0_2 a1 a2 l3).bind fun bt732=>(if bt732.2=0 then((span_paid.f k a0_0 a0_1 l0_2 l3).bind fun t734=>(some (wrap64 ((wrap64 ((wrap64 (a4+1)) * bt732.1)) - t734),0))) else(some (0,bt732.2)))) else(some (0,t731)))=some (r1,r2):=H
 have A6:=Aside0.mk A60
 clear A60
 by_cases c7:t731=0
 rotate_left
 ·rw[if_neg c7] at H
  have c7b0:(t731 == 0)=false:=beq_eq_false_iff_ne.mpr c7
  have c7b1:(t731 != 0)=true:=bne_iff_ne.mpr c7
  simp only[Option.some.injEq,Prod.mk.injEq] at H
  obtain⟨rfl,rfl⟩:=H
  go_enter Try.func63,Try.ntmps63
  go_wp2_with (first|((with_reducible refine gate_dst (N:=5) rfl ?_);refine box_event ?hg (N:=5) ?hd (cs:= #[.int .i64 a0_0, .bool a0_1, .slice A0_2 l0_2.length c0_2]) (t:=24) ?hr ?_;(case hd=>rfl);(case hg=>rfl);(case hr=>first|(go_simp;done)|(go_simp;rfl));intro gb730 hg w23 hbox hb;have n0_:=Aside0.mk (below_step (by repeat(first|(with_reducible first|exact HB.out|apply below_alloc|apply pw_below_drewN|apply below_drew1)|exact HB.out)) hb);have n1_:=Aside0.mk (hbox);have n2_:=Aside0.mk ((by rw[hg];exact(below_size (by repeat(first|(with_reducible first|exact HB.out|apply below_alloc|apply pw_below_drewN|apply below_drew1)|exact HB.out))):w.heap.size≤gb730));have n3_:=Aside0.mk ((by rw[hg];exact(below_size (by repeat(first|(with_reducible first|exact HB.out|apply below_alloc|apply pw_below_drewN|apply below_drew1)|exact HB.out))):w.heap.size≤gb730));clear HB;have HB:=n0_;have BK730:=n1_;have GW730:=n2_;have GE730:=n3_;clear n0_ n1_ n2_ n3_;clear hb hbox hg;have hcz24_0:w23.cell? ⟨gb730,0,none⟩=some (.int .i64 a0_0):=(blk_cell BK730.out 0).trans rfl;have hcz24_1:w23.cell? ⟨gb730,1,none⟩=some (.bool a0_1):=(blk_cell BK730.out 1).trans rfl;have hcz24_2:w23.cell? ⟨gb730,2,none⟩=some (.slice A0_2 l0_2.length c0_2):=(blk_cell BK730.out 2).trans rfl;have hfz24_0:=blk_frozen BK730.out 0;have hfz24_1:=blk_frozen BK730.out 1;have hfz24_2:=blk_frozen BK730.out 2)|((with_reducible refine gate_callee (f:=114) rfl ?_);refine goesL_ (some 19) rfl rfl Try.func114 (by kernel_rfl) rfl #[.agg #[.int .i64 a0_0, .bool a0_1, .slice A0_2 l0_2.length c0_2], .int .i64 a1, .int .i64 a2, .int .i64 a4] rfl (by(try simp only[List.map_toArray,List.map_cons,List.map_nil]);first|done|rfl|(simp only[List.length_drop,List.length_take];rfl)) ?_;(with_reducible refine(span_Asked.calls k a0_0 a0_1 _ _ l0_2 a1 a2 a4 t731 _ ?side1 ?side2 A6.out).mono ?_);(case side1=>repeat(first|exact(Kd.C_below HR0_2.out HB.out)|(with_reducible refine Kd.C_alloc ?_ _)|(with_reducible refine Kd.C_drewN ?_ _)|(with_reducible refine Kd.C_drew ?_)));(case side2=>exact HC0_2.out);rintro e w25 ⟨rfl,hb⟩;refine⟨_,rfl,?_⟩;have n0_:=Aside0.mk (blk_below (g:=gb730) (o:= .cells #[.int .i64 a0_0, .bool a0_1, .slice A0_2 l0_2.length c0_2] 24 (0,0)) (by(with_reducible repeat(first|refine blk_drewN ?_ _|refine blk_drew ?_|refine blk_alloc ?_ _));exact BK730.out) hb);have n1_:=Aside0.mk (below_step (by repeat(first|(with_reducible first|exact HB.out|apply below_alloc|apply pw_below_drewN|apply below_drew1|refine below_set ?_ GE730.out)|exact HB.out)) hb);clear BK730;clear HB;have BK730:=n0_;have HB:=n1_;clear n0_ n1_;(try clear hb);(try clear hb2);(try clear hk);(try clear hi)))
  go_ret2
  exact⟨by first|rfl|(simp[errW_none,errW_some]<;>rfl)|(simp[*,errW_none,errW_some]<;>rfl),by repeat(first|(with_reducible first|exact HB.out|apply below_alloc|apply pw_below_drewN|apply below_drew1|refine below_set ?_ GE730.out)|exact HB.out)⟩
 rw[if_pos c7] at H
 have c7b0:(t731 == 0)=true:=beq_iff_eq.mpr c7
 have c7b1:(t731 != 0)=false:=bne_eq_false_iff_eq.mpr c7
 clear c7
 replace H:=Option.bind_eq_some_iff.mp H
 obtain⟨⟨t732,t733⟩,A80,H⟩:=H
 replace H:(if t733=0 then((span_paid.f k a0_0 a0_1 l0_2 l3).bind fun t734=>(some (wrap64 ((wrap64 ((wrap64 (a4+1)) * t732)) - t734),0))) else(some (0,t733)))=some (r1,r2):=H
 have A8:=Aside0.mk A80
 clear A80
 by_cases c9:t733=0
 rotate_left
 ·rw[if_neg c9] at H
  have c9b0:(t733 == 0)=false:=beq_eq_false_iff_ne.mpr c9
  have c9b1:(t733 != 0)=true:=bne_iff_ne.mpr c9
  simp only[Option.some.injEq,Prod.mk.injEq] at H
  obtain⟨rfl,rfl⟩:=H
  go_enter Try.func63,Try.ntmps63
  go_wp2_with (first|((with_reducible refine gate_dst (N:=5) rfl ?_);refine box_event ?hg (N:=5) ?hd (cs:= #[.int .i64 a0_0, .bool a0_1, .slice A0_2 l0_2.length c0_2]) (t:=24) ?hr ?_;(case hd=>rfl);(case hg=>rfl);(case hr=>first|(go_simp;done)|(go_simp;rfl));intro gb730 hg w18 hbox hb;have n0_:=Aside0.mk (below_step (by repeat(first|(with_reducible first|exact HB.out|apply below_alloc|apply pw_below_drewN|apply below_drew1)|exact HB.out)) hb);have n1_:=Aside0.mk (hbox);have n2_:=Aside0.mk ((by rw[hg];exact(below_size (by repeat(first|(with_reducible first|exact HB.out|apply below_alloc|apply pw_below_drewN|apply below_drew1)|exact HB.out))):w.heap.size≤gb730));have n3_:=Aside0.mk ((by rw[hg];exact(below_size (by repeat(first|(with_reducible first|exact HB.out|apply below_alloc|apply pw_below_drewN|apply below_drew1)|exact HB.out))):w.heap.size≤gb730));clear HB;have HB:=n0_;have BK730:=n1_;have GW730:=n2_;have GE730:=n3_;clear n0_ n1_ n2_ n3_;clear hb hbox hg;have hcz19_0:w18.cell? ⟨gb730,0,none⟩=some (.int .i64 a0_0):=(blk_cell BK730.out 0).trans rfl;have hcz19_1:w18.cell? ⟨gb730,1,none⟩=some (.bool a0_1):=(blk_cell BK730.out 1).trans rfl;have hcz19_2:w18.cell? ⟨gb730,2,none⟩=some (.slice A0_2 l0_2.length c0_2):=(blk_cell BK730.out 2).trans rfl;have hfz19_0:=blk_frozen BK730.out 0;have hfz19_1:=blk_frozen BK730.out 1;have hfz19_2:=blk_frozen BK730.out 2)|((with_reducible refine gate_callee (f:=114) rfl ?_);refine goesL_ (some 19) rfl rfl Try.func114 (by kernel_rfl) rfl #[.agg #[.int .i64 a0_0, .bool a0_1, .slice A0_2 l0_2.length c0_2], .int .i64 a1, .int .i64 a2, .int .i64 a4] rfl (by(try simp only[List.map_toArray,List.map_cons,List.map_nil]);first|done|rfl|(simp only[List.length_drop,List.length_take];rfl)) ?_;(with_reducible refine(span_Asked.calls k a0_0 a0_1 _ _ l0_2 a1 a2 a4 t731 _ ?side1 ?side2 A6.out).mono ?_);(case side1=>repeat(first|exact(Kd.C_below HR0_2.out HB.out)|(with_reducible refine Kd.C_alloc ?_ _)|(with_reducible refine Kd.C_drewN ?_ _)|(with_reducible refine Kd.C_drew ?_)));(case side2=>exact HC0_2.out);rintro e w20 ⟨rfl,hb⟩;refine⟨_,rfl,?_⟩;have n0_:=Aside0.mk (blk_below (g:=gb730) (o:= .cells #[.int .i64 a0_0, .bool a0_1, .slice A0_2 l0_2.length c0_2] 24 (0,0)) (by(with_reducible repeat(first|refine blk_drewN ?_ _|refine blk_drew ?_|refine blk_alloc ?_ _));exact BK730.out) hb);have n1_:=Aside0.mk (below_step (by repeat(first|(with_reducible first|exact HB.out|apply below_alloc|apply pw_below_drewN|apply below_drew1|refine below_set ?_ GE730.out)|exact HB.out)) hb);clear BK730;clear HB;have BK730:=n0_;have HB:=n1_;clear n0_ n1_;(try clear hb);(try clear hb2);(try clear hk);(try clear hi);have hcz21_0:w20.cell? ⟨gb730,0,none⟩=some (.int .i64 a0_0):=(blk_cell BK730.out 0).trans rfl;have hcz21_1:w20.cell? ⟨gb730,1,none⟩=some (.bool a0_1):=(blk_cell BK730.out 1).trans rfl;have hcz21_2:w20.cell? ⟨gb730,2,none⟩=some (.slice A0_2 l0_2.length c0_2):=(blk_cell BK730.out 2).trans rfl;have hfz21_0:=blk_frozen BK730.out 0;have hfz21_1:=blk_frozen BK730.out 1;have hfz21_2:=blk_frozen BK730.out 2)|((with_reducible refine gate_callee (f:=115) rfl ?_);refine goesL_ (some 28) rfl rfl Try.func115 (by kernel_rfl) rfl #[.agg #[.int .i64 a0_0, .bool a0_1, .slice A0_2 l0_2.length c0_2], .int .i64 a1, .int .i64 a2, .slice A3 l3.length c3] rfl (by(try simp only[List.map_toArray,List.map_cons,List.map_nil]);first|done|rfl|(simp only[List.length_drop,List.length_take];rfl)) ?_;(with_reducible refine(static_Check.calls k a0_0 a0_1 _ _ l0_2 a1 a2 _ _ l3 t732 t733 _ ?side1 ?side2 ?side3 ?side4 A8.out).mono ?_);(case side1=>repeat(first|exact(Kd.C_below HR0_2.out HB.out)|(with_reducible refine Kd.C_alloc ?_ _)|(with_reducible refine Kd.C_drewN ?_ _)|(with_reducible refine Kd.C_drew ?_)));(case side2=>exact HC0_2.out);(case side3=>repeat(first|exact(Kd.C_below HR3.out HB.out)|(with_reducible refine Kd.C_alloc ?_ _)|(with_reducible refine Kd.C_drewN ?_ _)|(with_reducible refine Kd.C_drew ?_)));(case side4=>exact HC3.out);rintro e w22 ⟨rfl,hb⟩;refine⟨_,rfl,?_⟩;have n0_:=Aside0.mk (blk_below (g:=gb730) (o:= .cells #[.int .i64 a0_0, .bool a0_1, .slice A0_2 l0_2.length c0_2] 24 (0,0)) (by(with_reducible repeat(first|refine blk_drewN ?_ _|refine blk_drew ?_|refine blk_alloc ?_ _));exact BK730.out) hb);have n1_:=Aside0.mk (below_step (by repeat(first|(with_reducible first|exact HB.out|apply below_alloc|apply pw_below_drewN|apply below_drew1|refine below_set ?_ GE730.out)|exact HB.out)) hb);clear BK730;clear HB;have BK730:=n0_;have HB:=n1_;clear n0_ n1_;(try clear hb);(try clear hb2);(try clear hk);(try clear hi)))
  go_ret2
  exact⟨by first|rfl|(simp[errW_none,errW_some]<;>rfl)|(simp[*,errW_none,errW_some]<;>rfl),by repeat(first|(with_reducible first|exact HB.out|apply below_alloc|apply pw_below_drewN|apply below_drew1|refine below_set ?_ GE730.out)|exact HB.out)⟩
 rw[if_pos c9] at H
 have c9b0:(t733 == 0)=true:=beq_iff_eq.mpr c9
 have c9b1:(t733 != 0)=false:=bne_eq_false_iff_eq.mpr c9
 clear c9
 replace H:=Option.bind_eq_some_iff.mp H
 obtain⟨t734,A100,H⟩:=H
 replace H:(some (wrap64 ((wrap64 ((wrap64 (a4+1)) * t732)) - t734),0))=some (r1,r2):=H
 have A10:=Aside0.mk A100
 clear A100
 simp only[Option.some.injEq,Prod.mk.injEq] at H
 obtain⟨rfl,rfl⟩:=H
 go_enter Try.func63,Try.ntmps63
 go_wp2_with (first|((with_reducible refine gate_dst (N:=5) rfl ?_);refine box_event ?hg (N:=5) ?hd (cs:= #[.int .i64 a0_0, .bool a0_1, .slice A0_2 l0_2.length c0_2]) (t:=24) ?hr ?_;(case hd=>rfl);(case hg=>rfl);(case hr=>first|(go_simp;done)|(go_simp;rfl));intro gb730 hg w11 hbox hb;have n0_:=Aside0.mk (below_step (by repeat(first|(with_reducible first|exact HB.out|apply below_alloc|apply pw_below_drewN|apply below_drew1)|exact HB.out)) hb);have n1_:=Aside0.mk (hbox);have n2_:=Aside0.mk ((by rw[hg];exact(below_size (by repeat(first|(with_reducible first|exact HB.out|apply below_alloc|apply pw_below_drewN|apply below_drew1)|exact HB.out))):w.heap.size≤gb730));have n3_:=Aside0.mk ((by rw[hg];exact(below_size (by repeat(first|(with_reducible first|exact HB.out|apply below_alloc|apply pw_below_drewN|apply below_drew1)|exact HB.out))):w.heap.size≤gb730));clear HB;have HB:=n0_;have BK730:=n1_;have GW730:=n2_;have GE730:=n3_;clear n0_ n1_ n2_ n3_;clear hb hbox hg;have hcz12_0:w11.cell? ⟨gb730,0,none⟩=some (.int .i64 a0_0):=(blk_cell BK730.out 0).trans rfl;have hcz12_1:w11.cell? ⟨gb730,1,none⟩=some (.bool a0_1):=(blk_cell BK730.out 1).trans rfl;have hcz12_2:w11.cell? ⟨gb730,2,none⟩=some (.slice A0_2 l0_2.length c0_2):=(blk_cell BK730.out 2).trans rfl;have hfz12_0:=blk_frozen BK730.out 0;have hfz12_1:=blk_frozen BK730.out 1;have hfz12_2:=blk_frozen BK730.out 2)|((with_reducible refine gate_callee (f:=114) rfl ?_);refine goesL_ (some 19) rfl rfl Try.func114 (by kernel_rfl) rfl #[.agg #[.int .i64 a0_0, .bool a0_1, .slice A0_2 l0_2.length c0_2], .int .i64 a1, .int .i64 a2, .int .i64 a4] rfl (by(try simp only[List.map_toArray,List.map_cons,List.map_nil]);first|done|rfl|(simp only[List.length_drop,List.length_take];rfl)) ?_;(with_reducible refine(span_Asked.calls k a0_0 a0_1 _ _ l0_2 a1 a2 a4 t731 _ ?side1 ?side2 A6.out).mono ?_);(case side1=>repeat(first|exact(Kd.C_below HR0_2.out HB.out)|(with_reducible refine Kd.C_alloc ?_ _)|(with_reducible refine Kd.C_drewN ?_ _)|(with_reducible refine Kd.C_drew ?_)));(case side2=>exact HC0_2.out);rintro e w13 ⟨rfl,hb⟩;refine⟨_,rfl,?_⟩;have n0_:=Aside0.mk (blk_below (g:=gb730) (o:= .cells #[.int .i64 a0_0, .bool a0_1, .slice A0_2 l0_2.length c0_2] 24 (0,0)) (by(with_reducible repeat(first|refine blk_drewN ?_ _|refine blk_drew ?_|refine blk_alloc ?_ _));exact BK730.out) hb);have n1_:=Aside0.mk (below_step (by repeat(first|(with_reducible first|exact HB.out|apply below_alloc|apply pw_below_drewN|apply below_drew1|refine below_set ?_ GE730.out)|exact HB.out)) hb);clear BK730;clear HB;have BK730:=n0_;have HB:=n1_;clear n0_ n1_;(try clear hb);(try clear hb2);(try clear hk);(try clear hi);have hcz14_0:w13.cell? ⟨gb730,0,none⟩=some (.int .i64 a0_0):=(blk_cell BK730.out 0).trans rfl;have hcz14_1:w13.cell? ⟨gb730,1,none⟩=some (.bool a0_1):=(blk_cell BK730.out 1).trans rfl;have hcz14_2:w13.cell? ⟨gb730,2,none⟩=some (.slice A0_2 l0_2.length c0_2):=(blk_cell BK730.out 2).trans rfl;have hfz14_0:=blk_frozen BK730.out 0;have hfz14_1:=blk_frozen BK730.out 1;have hfz14_2:=blk_frozen BK730.out 2)|((with_reducible refine gate_callee (f:=115) rfl ?_);refine goesL_ (some 28) rfl rfl Try.func115 (by kernel_rfl) rfl #[.agg #[.int .i64 a0_0, .bool a0_1, .slice A0_2 l0_2.length c0_2], .int .i64 a1, .int .i64 a2, .slice A3 l3.length c3] rfl (by(try simp only[List.map_toArray,List.map_cons,List.map_nil]);first|done|rfl|(simp only[List.length_drop,List.length_take];rfl)) ?_;(with_reducible refine(static_Check.calls k a0_0 a0_1 _ _ l0_2 a1 a2 _ _ l3 t732 t733 _ ?side1 ?side2 ?side3 ?side4 A8.out).mono ?_);(case side1=>repeat(first|exact(Kd.C_below HR0_2.out HB.out)|(with_reducible refine Kd.C_alloc ?_ _)|(with_reducible refine Kd.C_drewN ?_ _)|(with_reducible refine Kd.C_drew ?_)));(case side2=>exact HC0_2.out);(case side3=>repeat(first|exact(Kd.C_below HR3.out HB.out)|(with_reducible refine Kd.C_alloc ?_ _)|(with_reducible refine Kd.C_drewN ?_ _)|(with_reducible refine Kd.C_drew ?_)));(case side4=>exact HC3.out);rintro e w15 ⟨rfl,hb⟩;refine⟨_,rfl,?_⟩;have n0_:=Aside0.mk (blk_below (g:=gb730) (o:= .cells #[.int .i64 a0_0, .bool a0_1, .slice A0_2 l0_2.length c0_2] 24 (0,0)) (by(with_reducible repeat(first|refine blk_drewN ?_ _|refine blk_drew ?_|refine blk_alloc ?_ _));exact BK730.out) hb);have n1_:=Aside0.mk (below_step (by repeat(first|(with_reducible first|exact HB.out|apply below_alloc|apply pw_below_drewN|apply below_drew1|refine below_set ?_ GE730.out)|exact HB.out)) hb);clear BK730;clear HB;have BK730:=n0_;have HB:=n1_;clear n0_ n1_;(try clear hb);(try clear hb2);(try clear hk);(try clear hi);have hcz16_0:w15.cell? ⟨gb730,0,none⟩=some (.int .i64 a0_0):=(blk_cell BK730.out 0).trans rfl;have hcz16_1:w15.cell? ⟨gb730,1,none⟩=some (.bool a0_1):=(blk_cell BK730.out 1).trans rfl;have hcz16_2:w15.cell? ⟨gb730,2,none⟩=some (.slice A0_2 l0_2.length c0_2):=(blk_cell BK730.out 2).trans rfl;have hfz16_0:=blk_frozen BK730.out 0;have hfz16_1:=blk_frozen BK730.out 1;have hfz16_2:=blk_frozen BK730.out 2)|((with_reducible refine gate_callee (f:=116) rfl ?_);refine goesL_ (some 40) rfl rfl Try.func116 (by kernel_rfl) rfl #[.agg #[.int .i64 a0_0, .bool a0_1, .slice A0_2 l0_2.length c0_2], .slice A3 l3.length c3] rfl (by(try simp only[List.map_toArray,List.map_cons,List.map_nil]);first|done|rfl|(simp only[List.length_drop,List.length_take];rfl)) ?_;(with_reducible refine(span_paid.calls k a0_0 a0_1 _ _ l0_2 _ _ l3 t734 _ ?side1 ?side2 ?side3 ?side4 A10.out).mono ?_);(case side1=>repeat(first|exact(Kd.C_below HR0_2.out HB.out)|(with_reducible refine Kd.C_alloc ?_ _)|(with_reducible refine Kd.C_drewN ?_ _)|(with_reducible refine Kd.C_drew ?_)));(case side2=>exact HC0_2.out);(case side3=>repeat(first|exact(Kd.C_below HR3.out HB.out)|(with_reducible refine Kd.C_alloc ?_ _)|(with_reducible refine Kd.C_drewN ?_ _)|(with_reducible refine Kd.C_drew ?_)));(case side4=>exact HC3.out);rintro e w17 ⟨rfl,hb⟩;refine⟨_,rfl,?_⟩;have n0_:=Aside0.mk (blk_below (g:=gb730) (o:= .cells #[.int .i64 a0_0, .bool a0_1, .slice A0_2 l0_2.length c0_2] 24 (0,0)) (by(with_reducible repeat(first|refine blk_drewN ?_ _|refine blk_drew ?_|refine blk_alloc ?_ _));exact BK730.out) hb);have n1_:=Aside0.mk (below_step (by repeat(first|(with_reducible first|exact HB.out|apply below_alloc|apply pw_below_drewN|apply below_drew1|refine below_set ?_ GE730.out)|exact HB.out)) hb);clear BK730;clear HB;have BK730:=n0_;have HB:=n1_;clear n0_ n1_;(try clear hb);(try clear hb2);(try clear hk);(try clear hi)))
 go_ret2
 exact⟨by first|rfl|(simp[errW_none,errW_some]<;>rfl)|(simp[*,errW_none,errW_some]<;>rfl),by repeat(first|(with_reducible first|exact HB.out|apply below_alloc|apply pw_below_drewN|apply below_drew1|refine below_set ?_ GE730.out)|exact HB.out)⟩
end Go.Proofs.Ytkcpanpdipmmmaa.P
namespace Go.Proofs.Ytkcpanpdipmmmaa.P
open Go.RowKit Go.Proofs.YtkcpanpdipmmmaaW.PrintWords Go.Proofs.YtkcpanpdipmmmaaW.PrintLast Go.Proofs.YtkcpanpdipmmmaaW.PrintMore
attribute [local go_sem] max2_int min2_int max_two min_two max_three min_three max_four min_four
def ebbtideref05_nodes.f (a0:Int):Option (Int):=if a0<1 then(some 51) else(if a0>50 then(some 2) else(some 0))
set_option maxHeartbeats 8000000 in
set_option maxRecDepth 100000 in
theorem ebbtideref05_nodes.calls (a0:Int) (r:Int) (w:World) (h:ebbtideref05_nodes.f a0=some r):
  Calls Try.prog 122 #[.int .i64 a0] w fun e w'=>e= .returned (.int .i64 r)∧Drawn0 w w':=by
 have H:(if a0<1 then(some 51) else(if a0>50 then(some 2) else(some 0)))=some r:=h
 clear h
 by_cases c2:a0<1
 ·rw[if_pos c2] at H
  have c2b0:decide (a0<1)=true:=decide_eq_true c2
  clear c2
  obtain rfl:=Option.some.inj H
  go_enter Try.func122,Try.ntmps122
  go_wp2
  go_ret
  exact⟨by first|rfl|(simp;done)|(simp[*];done),by repeat(first|exact Drawn0.refl _|apply Drawn0.step)⟩
 rw[if_neg c2] at H
 have c2b0:decide (a0<1)=false:=decide_eq_false c2
 clear c2
 by_cases c3:a0>50
 rotate_left
 ·rw[if_neg c3] at H
  have c3b0:decide (50<a0)=false:=decide_eq_false c3
  clear c3
  obtain rfl:=Option.some.inj H
  go_enter Try.func122,Try.ntmps122
  go_wp2
  go_ret
  exact⟨by first|rfl|(simp;done)|(simp[*];done),by repeat(first|exact Drawn0.refl _|apply Drawn0.step)⟩
 rw[if_pos c3] at H
 have c3b0:decide (50<a0)=true:=decide_eq_true c3
 clear c3
 obtain rfl:=Option.some.inj H
 go_enter Try.func122,Try.ntmps122
 go_wp2
 go_ret
 exact⟨by first|rfl|(simp;done)|(simp[*];done),by repeat(first|exact Drawn0.refl _|apply Drawn0.step)⟩
end Go.Proofs.Ytkcpanpdipmmmaa.P
namespace Go.Proofs.Ytkcpanpdipmmmaa.P
open Go.RowKit Go.Proofs.YtkcpanpdipmmmaaW.PrintWords Go.Proofs.YtkcpanpdipmmmaaW.PrintLast Go.Proofs.YtkcpanpdipmmmaaW.PrintMore
attribute [local go_sem] max2_int min2_int max_two min_two max_three min_three max_four min_four
def ebbtideref05_Arc.j0:Nat→Bool→Int→Int→Int→Int→Option (Int)
 |0,_,_,_,_,_=>none
 |k+1,x34,x155000,x155001,x155002,x155003=>if x34=true then(some 51) else(if x155002>1048576 then(some 2) else(if x155003>1048576 then(some 2) else(some 0)))
def ebbtideref05_Arc.f (k:Nat) (a0:Int) (a1_0:Int) (a1_1:Int) (a1_2:Int) (a1_3:Int):Option (Int):=if a1_0<0 then(ebbtideref05_Arc.j0 k true a1_0 a1_1 a1_2 a1_3) else(if a1_0≥a0 then(ebbtideref05_Arc.j0 k true a1_0 a1_1 a1_2 a1_3) else(if a1_1<0 then(ebbtideref05_Arc.j0 k true a1_0 a1_1 a1_2 a1_3) else(if a1_1≥a0 then(ebbtideref05_Arc.j0 k true a1_0 a1_1 a1_2 a1_3) else(if a1_2<0 then(ebbtideref05_Arc.j0 k true a1_0 a1_1 a1_2 a1_3) else(ebbtideref05_Arc.j0 k (decide (a1_3<0)) a1_0 a1_1 a1_2 a1_3)))))
set_option maxHeartbeats 8000000 in
set_option maxRecDepth 100000 in
theorem ebbtideref05_Arc.calls (k:Nat) (a0:Int) (a1_0:Int) (a1_1:Int) (a1_2:Int) (a1_3:Int) (r:Int) (w:World) (h:ebbtideref05_Arc.f k a0 a1_0 a1_1 a1_2 a1_3=some r):
  Calls Try.prog 123 #[.int .i64 a0, .agg #[.int .i64 a1_0, .int .i64 a1_1, .int .i64 a1_2, .int .i64 a1_3]] w fun e w'=>e= .returned (.int .i64 r)∧Below w.heap.size w w':=by
 have hu74:=Try.underlying74
 have HB:=Aside0.mk (Below.refl w.heap.size w)
 have H:(if a1_0<0 then(ebbtideref05_Arc.j0 k true a1_0 a1_1 a1_2 a1_3) else(if a1_0≥a0 then(ebbtideref05_Arc.j0 k true a1_0 a1_1 a1_2 a1_3) else(if a1_1<0 then(ebbtideref05_Arc.j0 k true a1_0 a1_1 a1_2 a1_3) else(if a1_1≥a0 then(ebbtideref05_Arc.j0 k true a1_0 a1_1 a1_2 a1_3) else(if a1_2<0 then(ebbtideref05_Arc.j0 k true a1_0 a1_1 a1_2 a1_3) else(ebbtideref05_Arc.j0 k (decide (a1_3<0)) a1_0 a1_1 a1_2 a1_3))))))=some r:=h
 clear h
 have HC3:=Aside0.mk H
 clear H
 go_enter Try.func123,Try.ntmps123
 go_upto_region 1 with (first|((with_reducible refine gate_dst (N:=3) rfl ?_);refine box_event ?hg (N:=3) ?hd (cs:= #[.int .i64 a1_0, .int .i64 a1_1, .int .i64 a1_2, .int .i64 a1_3]) (t:=74) ?hr ?_;(case hd=>rfl);(case hg=>rfl);(case hr=>first|(go_simp;done)|(go_simp;rfl));intro gb154 hg w4 hbox hb;have n0_:=Aside0.mk (below_step (by repeat(first|(with_reducible first|exact HB.out|apply below_alloc|apply pw_below_drewN|apply below_drew1)|exact HB.out)) hb);have n1_:=Aside0.mk (hbox);have n2_:=Aside0.mk ((by rw[hg];exact(below_size (by repeat(first|(with_reducible first|exact HB.out|apply below_alloc|apply pw_below_drewN|apply below_drew1)|exact HB.out))):w.heap.size≤gb154));have n3_:=Aside0.mk ((by rw[hg];exact(below_size (by repeat(first|(with_reducible first|exact HB.out|apply below_alloc|apply pw_below_drewN|apply below_drew1)|exact HB.out))):w.heap.size≤gb154));clear HB;have HB:=n0_;have BK154:=n1_;have GW154:=n2_;have GE154:=n3_;clear n0_ n1_ n2_ n3_;clear hb hbox hg))
 (try simp only[Act.put,List.setIfInBounds_toArray,List.set_cons_zero,List.set_cons_succ])
 go_cut [34] (fun v34 wc=> ∃ (kq:Nat) (x34_2:Bool),v34= .bool x34_2∧Aside0 (ebbtideref05_Arc.j0 kq x34_2 a1_0 a1_1 a1_2 a1_3=some r)∧Aside0 (kq≤k)∧Aside0 (wc.heap[gb154]? =some (.cells #[.int .i64 a1_0, .int .i64 a1_1, .int .i64 a1_2, .int .i64 a1_3] 74 (0,0)))∧Aside0 (Below w.heap.size w wc))
 case first=>
  have H:=HC3.out
  clear HC3
  by_cases c5:a1_0<0
  ·rw[if_pos c5] at H
   have c5b0:decide (a1_0<0)=true:=decide_eq_true c5
   clear c5
   (first|rw[c5b0]|(simp only[i64_w,i32_w];rw[c5b0])|skip)
   have H':=Aside0.mk H
   clear H
   have hcz6_0:w4.cell? ⟨gb154,0,none⟩=some (.int .i64 a1_0):=(blk_cell BK154.out 0).trans rfl
   have hcz6_1:w4.cell? ⟨gb154,1,none⟩=some (.int .i64 a1_1):=(blk_cell BK154.out 1).trans rfl
   have hcz6_2:w4.cell? ⟨gb154,2,none⟩=some (.int .i64 a1_2):=(blk_cell BK154.out 2).trans rfl
   have hcz6_3:w4.cell? ⟨gb154,3,none⟩=some (.int .i64 a1_3):=(blk_cell BK154.out 3).trans rfl
   have hfz6_0:=blk_frozen BK154.out 0
   have hfz6_1:=blk_frozen BK154.out 1
   have hfz6_2:=blk_frozen BK154.out 2
   have hfz6_3:=blk_frozen BK154.out 3
   go_wp2
   go_meet
   case rel=>exact⟨_,(true),(by first|rfl|(simp;done)|(simp[*];done)),H',⟨by first|omega|exact Nat.le_refl _⟩,⟨by(with_reducible repeat(first|refine blk_drewN ?_ _|refine blk_drew ?_|refine blk_alloc ?_ _));exact BK154.out⟩,⟨by repeat(first|(with_reducible first|exact HB.out|apply below_alloc|apply pw_below_drewN|apply below_drew1|refine below_set ?_ GE154.out)|exact HB.out)⟩⟩
  rw[if_neg c5] at H
  have c5b0:decide (a1_0<0)=false:=decide_eq_false c5
  clear c5
  (first|rw[c5b0]|(simp only[i64_w,i32_w];rw[c5b0])|skip)
  by_cases c7:a1_0≥a0
  ·rw[if_pos c7] at H
   have c7b0:decide (a0≤a1_0)=true:=decide_eq_true c7
   clear c7
   have H':=Aside0.mk H
   clear H
   have hcz8_0:w4.cell? ⟨gb154,0,none⟩=some (.int .i64 a1_0):=(blk_cell BK154.out 0).trans rfl
   have hcz8_1:w4.cell? ⟨gb154,1,none⟩=some (.int .i64 a1_1):=(blk_cell BK154.out 1).trans rfl
   have hcz8_2:w4.cell? ⟨gb154,2,none⟩=some (.int .i64 a1_2):=(blk_cell BK154.out 2).trans rfl
   have hcz8_3:w4.cell? ⟨gb154,3,none⟩=some (.int .i64 a1_3):=(blk_cell BK154.out 3).trans rfl
   have hfz8_0:=blk_frozen BK154.out 0
   have hfz8_1:=blk_frozen BK154.out 1
   have hfz8_2:=blk_frozen BK154.out 2
   have hfz8_3:=blk_frozen BK154.out 3
   go_wp2
   go_meet
   case rel=>exact⟨_,(true),(by first|rfl|(simp;done)|(simp[*];done)),H',⟨by first|omega|exact Nat.le_refl _⟩,⟨by(with_reducible repeat(first|refine blk_drewN ?_ _|refine blk_drew ?_|refine blk_alloc ?_ _));exact BK154.out⟩,⟨by repeat(first|(with_reducible first|exact HB.out|apply below_alloc|apply pw_below_drewN|apply below_drew1|refine below_set ?_ GE154.out)|exact HB.out)⟩⟩
  rw[if_neg c7] at H
  have c7b0:decide (a0≤a1_0)=false:=decide_eq_false c7
  clear c7
  by_cases c9:a1_1<0
  ·rw[if_pos c9] at H
   have c9b0:decide (a1_1<0)=true:=decide_eq_true c9
   clear c9
   have H':=Aside0.mk H
   clear H
   have hcz10_0:w4.cell? ⟨gb154,0,none⟩=some (.int .i64 a1_0):=(blk_cell BK154.out 0).trans rfl
   have hcz10_1:w4.cell? ⟨gb154,1,none⟩=some (.int .i64 a1_1):=(blk_cell BK154.out 1).trans rfl
   have hcz10_2:w4.cell? ⟨gb154,2,none⟩=some (.int .i64 a1_2):=(blk_cell BK154.out 2).trans rfl
   have hcz10_3:w4.cell? ⟨gb154,3,none⟩=some (.int .i64 a1_3):=(blk_cell BK154.out 3).trans rfl
   have hfz10_0:=blk_frozen BK154.out 0
   have hfz10_1:=blk_frozen BK154.out 1
   have hfz10_2:=blk_frozen BK154.out 2
   have hfz10_3:=blk_frozen BK154.out 3
   go_wp2
   go_meet
   case rel=>exact⟨_,(true),(by first|rfl|(simp;done)|(simp[*];done)),H',⟨by first|omega|exact Nat.le_refl _⟩,⟨by(with_reducible repeat(first|refine blk_drewN ?_ _|refine blk_drew ?_|refine blk_alloc ?_ _));exact BK154.out⟩,⟨by repeat(first|(with_reducible first|exact HB.out|apply below_alloc|apply pw_below_drewN|apply below_drew1|refine below_set ?_ GE154.out)|exact HB.out)⟩⟩
  rw[if_neg c9] at H
  have c9b0:decide (a1_1<0)=false:=decide_eq_false c9
  clear c9
  by_cases c11:a1_1≥a0
  ·rw[if_pos c11] at H
   have c11b0:decide (a0≤a1_1)=true:=decide_eq_true c11
   clear c11
   have H':=Aside0.mk H
   clear H
   have hcz12_0:w4.cell? ⟨gb154,0,none⟩=some (.int .i64 a1_0):=(blk_cell BK154.out 0).trans rfl
   have hcz12_1:w4.cell? ⟨gb154,1,none⟩=some (.int .i64 a1_1):=(blk_cell BK154.out 1).trans rfl
   have hcz12_2:w4.cell? ⟨gb154,2,none⟩=some (.int .i64 a1_2):=(blk_cell BK154.out 2).trans rfl
   have hcz12_3:w4.cell? ⟨gb154,3,none⟩=some (.int .i64 a1_3):=(blk_cell BK154.out 3).trans rfl
   have hfz12_0:=blk_frozen BK154.out 0
   have hfz12_1:=blk_frozen BK154.out 1
   have hfz12_2:=blk_frozen BK154.out 2
   have hfz12_3:=blk_frozen BK154.out 3
   go_wp2
   go_meet
   case rel=>exact⟨_,(true),(by first|rfl|(simp;done)|(simp[*];done)),H',⟨by first|omega|exact Nat.le_refl _⟩,⟨by(with_reducible repeat(first|refine blk_drewN ?_ _|refine blk_drew ?_|refine blk_alloc ?_ _));exact BK154.out⟩,⟨by repeat(first|(with_reducible first|exact HB.out|apply below_alloc|apply pw_below_drewN|apply below_drew1|refine below_set ?_ GE154.out)|exact HB.out)⟩⟩
  rw[if_neg c11] at H
  have c11b0:decide (a0≤a1_1)=false:=decide_eq_false c11
  clear c11
  by_cases c13:a1_2<0
  rotate_left
  ·rw[if_neg c13] at H
   have c13b0:decide (a1_2<0)=false:=decide_eq_false c13
   clear c13
   have H':=Aside0.mk H
   clear H
   have hcz15_0:w4.cell? ⟨gb154,0,none⟩=some (.int .i64 a1_0):=(blk_cell BK154.out 0).trans rfl
   have hcz15_1:w4.cell? ⟨gb154,1,none⟩=some (.int .i64 a1_1):=(blk_cell BK154.out 1).trans rfl
   have hcz15_2:w4.cell? ⟨gb154,2,none⟩=some (.int .i64 a1_2):=(blk_cell BK154.out 2).trans rfl
   have hcz15_3:w4.cell? ⟨gb154,3,none⟩=some (.int .i64 a1_3):=(blk_cell BK154.out 3).trans rfl
   have hfz15_0:=blk_frozen BK154.out 0
   have hfz15_1:=blk_frozen BK154.out 1
   have hfz15_2:=blk_frozen BK154.out 2
   have hfz15_3:=blk_frozen BK154.out 3
   go_wp2
   go_meet
   case rel=>exact⟨_,(decide (a1_3<0)),(by first|rfl|(simp;done)|(simp[*];done)),H',⟨by first|omega|exact Nat.le_refl _⟩,⟨by(with_reducible repeat(first|refine blk_drewN ?_ _|refine blk_drew ?_|refine blk_alloc ?_ _));exact BK154.out⟩,⟨by repeat(first|(with_reducible first|exact HB.out|apply below_alloc|apply pw_below_drewN|apply below_drew1|refine below_set ?_ GE154.out)|exact HB.out)⟩⟩
  rw[if_pos c13] at H
  have c13b0:decide (a1_2<0)=true:=decide_eq_true c13
  clear c13
  have H':=Aside0.mk H
  clear H
  have hcz14_0:w4.cell? ⟨gb154,0,none⟩=some (.int .i64 a1_0):=(blk_cell BK154.out 0).trans rfl
  have hcz14_1:w4.cell? ⟨gb154,1,none⟩=some (.int .i64 a1_1):=(blk_cell BK154.out 1).trans rfl
  have hcz14_2:w4.cell? ⟨gb154,2,none⟩=some (.int .i64 a1_2):=(blk_cell BK154.out 2).trans rfl
  have hcz14_3:w4.cell? ⟨gb154,3,none⟩=some (.int .i64 a1_3):=(blk_cell BK154.out 3).trans rfl
  have hfz14_0:=blk_frozen BK154.out 0
  have hfz14_1:=blk_frozen BK154.out 1
  have hfz14_2:=blk_frozen BK154.out 2
  have hfz14_3:=blk_frozen BK154.out 3
  go_wp2
  go_meet
  case rel=>exact⟨_,(true),(by first|rfl|(simp;done)|(simp[*];done)),H',⟨by first|omega|exact Nat.le_refl _⟩,⟨by(with_reducible repeat(first|refine blk_drewN ?_ _|refine blk_drew ?_|refine blk_alloc ?_ _));exact BK154.out⟩,⟨by repeat(first|(with_reducible first|exact HB.out|apply below_alloc|apply pw_below_drewN|apply below_drew1|refine below_set ?_ GE154.out)|exact HB.out)⟩⟩
 case rest=>
  clear HC3
  try clear c1
  try clear p2
  try clear c5
  try clear c5b0
  try clear c7
  try clear c7b0
  try clear c9
  try clear c9b0
  try clear c11
  try clear c11b0
  try clear c12
  try clear c13
  try clear c13b0
  try clear hcz10_0
  try clear hcz10_1
  try clear hcz10_2
  try clear hcz10_3
  try clear hcz12_0
  try clear hcz12_1
  try clear hcz12_2
  try clear hcz12_3
  try clear hcz14_0
  try clear hcz14_1
  try clear hcz14_2
  try clear hcz14_3
  try clear hcz15_0
  try clear hcz15_1
  try clear hcz15_2
  try clear hcz15_3
  try clear hcz6_0
  try clear hcz6_1
  try clear hcz6_2
  try clear hcz6_3
  try clear hcz8_0
  try clear hcz8_1
  try clear hcz8_2
  try clear hcz8_3
  try clear hfz10_0
  try clear hfz10_1
  try clear hfz10_2
  try clear hfz10_3
  try clear hfz12_0
  try clear hfz12_1
  try clear hfz12_2
  try clear hfz12_3
  try clear hfz14_0
  try clear hfz14_1
  try clear hfz14_2
  try clear hfz14_3
  try clear hfz15_0
  try clear hfz15_1
  try clear hfz15_2
  try clear hfz15_3
  try clear hfz6_0
  try clear hfz6_1
  try clear hfz6_2
  try clear hfz6_3
  try clear hfz8_0
  try clear hfz8_1
  try clear hfz8_2
  try clear hfz8_3
  obtain⟨kq,x34_2,rfl,HA,HJ2,BK154,HB⟩:=hcut
  cases kq with
  |zero=>exact absurd HA.out (by simp[ebbtideref05_Arc.j0])
  |succ kj2=>
   have H:=HA.out
   clear HA
   simp only[ebbtideref05_Arc.j0] at H
   by_cases c16:x34_2=true
   ·subst c16
    have H1:(some 51)=some r:=by first|(rw[if_pos rfl] at H;exact H)|(rw[if_pos trivial] at H;exact H)
    clear H
    have H:=H1
    clear H1
    obtain rfl:=Option.some.inj H
    go_wp2
    go_ret
    exact⟨by first|rfl|(simp[errW_none,errW_some]<;>rfl)|(simp[*,errW_none,errW_some]<;>rfl),by repeat(first|(with_reducible first|exact HB.out|apply below_alloc|apply pw_below_drewN|apply below_drew1|refine below_set ?_ GE154.out)|exact HB.out)⟩
   replace c16:=Bool.eq_false_iff.mpr c16
   subst c16
   have H1:(if a1_2>1048576 then(some 2) else(if a1_3>1048576 then(some 2) else(some 0)))=some r:=by rw[if_neg (show ¬ (false=true) by decide)] at H;exact H
   clear H
   have H:=H1
   clear H1
   by_cases c17:a1_2>1048576
   ·rw[if_pos c17] at H
    have c17b0:decide (1048576<a1_2)=true:=decide_eq_true c17
    clear c17
    obtain rfl:=Option.some.inj H
    have hcz18_0:wc.cell? ⟨gb154,0,none⟩=some (.int .i64 a1_0):=(blk_cell BK154.out 0).trans rfl
    have hcz18_1:wc.cell? ⟨gb154,1,none⟩=some (.int .i64 a1_1):=(blk_cell BK154.out 1).trans rfl
    have hcz18_2:wc.cell? ⟨gb154,2,none⟩=some (.int .i64 a1_2):=(blk_cell BK154.out 2).trans rfl
    have hcz18_3:wc.cell? ⟨gb154,3,none⟩=some (.int .i64 a1_3):=(blk_cell BK154.out 3).trans rfl
    have hfz18_0:=blk_frozen BK154.out 0
    have hfz18_1:=blk_frozen BK154.out 1
    have hfz18_2:=blk_frozen BK154.out 2
    have hfz18_3:=blk_frozen BK154.out 3
    go_wp2
    go_ret
    exact⟨by first|rfl|(simp[errW_none,errW_some]<;>rfl)|(simp[*,errW_none,errW_some]<;>rfl),by repeat(first|(with_reducible first|exact HB.out|apply below_alloc|apply pw_below_drewN|apply below_drew1|refine below_set ?_ GE154.out)|exact HB.out)⟩
   rw[if_neg c17] at H
   have c17b0:decide (1048576<a1_2)=false:=decide_eq_false c17
   clear c17
   by_cases c19:a1_3>1048576
   rotate_left
   ·rw[if_neg c19] at H
    have c19b0:decide (1048576<a1_3)=false:=decide_eq_false c19
    clear c19
    obtain rfl:=Option.some.inj H
    have hcz21_0:wc.cell? ⟨gb154,0,none⟩=some (.int .i64 a1_0):=(blk_cell BK154.out 0).trans rfl
    have hcz21_1:wc.cell? ⟨gb154,1,none⟩=some (.int .i64 a1_1):=(blk_cell BK154.out 1).trans rfl
    have hcz21_2:wc.cell? ⟨gb154,2,none⟩=some (.int .i64 a1_2):=(blk_cell BK154.out 2).trans rfl
    have hcz21_3:wc.cell? ⟨gb154,3,none⟩=some (.int .i64 a1_3):=(blk_cell BK154.out 3).trans rfl
    have hfz21_0:=blk_frozen BK154.out 0
    have hfz21_1:=blk_frozen BK154.out 1
    have hfz21_2:=blk_frozen BK154.out 2
    have hfz21_3:=blk_frozen BK154.out 3
    go_wp2
    go_ret
    exact⟨by first|rfl|(simp[errW_none,errW_some]<;>rfl)|(simp[*,errW_none,errW_some]<;>rfl),by repeat(first|(with_reducible first|exact HB.out|apply below_alloc|apply pw_below_drewN|apply below_drew1|refine below_set ?_ GE154.out)|exact HB.out)⟩
   rw[if_pos c19] at H
   have c19b0:decide (1048576<a1_3)=true:=decide_eq_true c19
   clear c19
   obtain rfl:=Option.some.inj H
   have hcz20_0:wc.cell? ⟨gb154,0,none⟩=some (.int .i64 a1_0):=(blk_cell BK154.out 0).trans rfl
   have hcz20_1:wc.cell? ⟨gb154,1,none⟩=some (.int .i64 a1_1):=(blk_cell BK154.out 1).trans rfl
   have hcz20_2:wc.cell? ⟨gb154,2,none⟩=some (.int .i64 a1_2):=(blk_cell BK154.out 2).trans rfl
   have hcz20_3:wc.cell? ⟨gb154,3,none⟩=some (.int .i64 a1_3):=(blk_cell BK154.out 3).trans rfl
   have hfz20_0:=blk_frozen BK154.out 0
   have hfz20_1:=blk_frozen BK154.out 1
   have hfz20_2:=blk_frozen BK154.out 2
   have hfz20_3:=blk_frozen BK154.out 3
   go_wp2
   go_ret
   exact⟨by first|rfl|(simp[errW_none,errW_some]<;>rfl)|(simp[*,errW_none,errW_some]<;>rfl),by repeat(first|(with_reducible first|exact HB.out|apply below_alloc|apply pw_below_drewN|apply below_drew1|refine below_set ?_ GE154.out)|exact HB.out)⟩
end Go.Proofs.Ytkcpanpdipmmmaa.P
