/- What the law's row needs of these texts, taken out of them by wip/tool/mini.py: P0 P14 P15 P16 P71 P101 P47 P48 P46 QBfLaw QSortArr. -/
import Derived.Test.YtkcpanpdipmmmaaProg
import Derived.Below
import Derived.Deep.Draws
import Derived.Deep.AppendLies
import Derived.Maps.AppendAt
import Derived.OwnWalk
import Derived.Laws.BytesArg
import Derived.Laws.MakeOwn
import Derived.Laws.OwnMore
import Derived.Deep.OwnRows
import Derived.Tactics
import Derived.Lib.ConvBytes
import Derived.Laws.Slices
import Derived.WalkKit
import Derived.KernelRfl
import Derived.RowKit3
import Derived.Deep.LoopGhost
import Derived.Deep.QuietTactic
import Derived.BigQuiet
import Derived.WideLaws
import Derived.Deep.DeepCutAuto
import Derived.Deep.CutBlock
import Derived.Deep.RegionHeld3
import Derived.Laws.Rows
import Derived.Lib.AppendStr
import Derived.ArgAppend
import Derived.Laws.IdiomCopy
import Derived.OrdersHeld
import Derived.Laws.BitsLemmas
import Derived.RowKit
import Derived.Test.YtkcpanpdipmmmaaVllglef
import Derived.Laws.StructEq
import Derived.RegionTactic
import Derived.ChangeAlike
import Derived.BigRegion
import Derived.LoopTactic
import Derived.Laws.AppendOwn
set_option linter.unusedVariables false
set_option linter.unusedSimpArgs false
namespace Go.Proofs.Ytkcpanpdipmmmaa.P
open Go.RowKit Go.Proofs.YtkcpanpdipmmmaaW.PrintWords Go.Proofs.YtkcpanpdipmmmaaW.PrintLast Go.Proofs.YtkcpanpdipmmmaaW.PrintMore
attribute [local go_sem] max2_int min2_int max_two min_two max_three min_three max_four min_four
def errW:Option Int→Value
 |none=> .nilIface
 |some c=> .iface 0 (.int .i64 c)
theorem errW_none:errW none= .nilIface:=rfl
theorem errW_some (c:Int):errW (some c)= .iface 0 (.int .i64 c):=rfl
theorem info3:(Try.prog.info? 3).map (fun i=>(i.zero,i.size,i.bytes))=some (some (.int .i64 0),1,8):=by kernel_rfl
theorem info38:(Try.prog.info? 38).map (fun i=>(i.zero,i.size,i.bytes))=some (some (.agg #[(.int .i64 0),(.bool false)]),2,16):=by kernel_rfl
theorem info74:(Try.prog.info? 74).map (fun i=>(i.zero,i.size,i.bytes))=some (some (.agg #[(.int .i64 0),(.int .i64 0),(.int .i64 0),(.int .i64 0)]),4,32):=by kernel_rfl
structure S74 where
 f0:Int
 f1:Int
 f2:Int
 f3:Int
def z74:S74:=⟨(0:Int),(0:Int),(0:Int),(0:Int)⟩
def k74:Kd S74:=Kd.iso (Kd.pair (Kd.int .i64) (Kd.pair (Kd.int .i64) (Kd.pair (Kd.int .i64) (Kd.int .i64)))) (fun x:S74=>(x.f0,x.f1,x.f2,x.f3))
theorem k74_open {w:World} {x:S74} {cs:List Value} (h:k74.K w x cs):cs=[.int .i64 x.f0, .int .i64 x.f1, .int .i64 x.f2, .int .i64 x.f3]:=by
 obtain⟨_,_,rfl,rfl,⟨_,_,rfl,rfl,⟨_,_,rfl,rfl,rfl⟩⟩⟩:=h
 exact rfl
theorem k74_mkM (w:World) (base:Nat) (ok:Nat→Prop) (x:S74)  :k74.M w base ok x [.int .i64 x.f0, .int .i64 x.f1, .int .i64 x.f2, .int .i64 x.f3]:=⟨[.int .i64 x.f0],[.int .i64 x.f1, .int .i64 x.f2, .int .i64 x.f3],rfl,rfl,⟨[.int .i64 x.f1],[.int .i64 x.f2, .int .i64 x.f3],rfl,rfl,⟨[.int .i64 x.f2],[.int .i64 x.f3],rfl,rfl,rfl⟩⟩⟩
def rd_T74 (xs:List S74) (i:Int):S74:=xs.getD i.toNat z74
theorem at_T74 {w:World} {A:Option Addr} {n:Nat} {xs:List S74} (h:Kd.C k74 w A n xs) (i:Int) (h0:0≤i) (h1:i<n): ∃ ad ,A=some ad∧w.cell? (ad.add (i.toNat * 4))=some (.int .i64 (rd_T74 xs i).f0)∧w.cell? ⟨(ad.add (i.toNat * 4)).block,(ad.add (i.toNat * 4)).off+1,none⟩=some (.int .i64 (rd_T74 xs i).f1)∧w.cell? ⟨(ad.add (i.toNat * 4)).block,(ad.add (i.toNat * 4)).off+2,none⟩=some (.int .i64 (rd_T74 xs i).f2)∧w.cell? ⟨(ad.add (i.toNat * 4)).block,(ad.add (i.toNat * 4)).off+3,none⟩=some (.int .i64 (rd_T74 xs i).f3):=by
 obtain⟨ad,c,e,_,hK,hc0⟩:=Kd.C_get h z74 i h0 h1
 have hc: ∀ j u,c[j]? =some u→w.cell? (ad.add (i.toNat * 4+j))=some u:=hc0
 obtain rfl:=k74_open hK
 exact⟨ad,e,hc 0 _ rfl,by rw[← add_field _ _ 1 (by omega)];exact hc 1 _ rfl,by rw[← add_field _ _ 2 (by omega)];exact hc 2 _ rfl,by rw[← add_field _ _ 3 (by omega)];exact hc 3 _ rfl⟩
structure S38 where
 f0:Int
 f1:Bool
def z38:S38:=⟨(0:Int),false⟩
def k38:Kd S38:=Kd.iso (Kd.pair (Kd.int .i64) Kd.bool) (fun x:S38=>(x.f0,x.f1))
theorem k38_open {w:World} {x:S38} {cs:List Value} (h:k38.K w x cs):cs=[.int .i64 x.f0, .bool x.f1]:=by
 obtain⟨_,_,rfl,rfl,rfl⟩:=h
 exact rfl
theorem k38_mkM (w:World) (base:Nat) (ok:Nat→Prop) (x:S38)  :k38.M w base ok x [.int .i64 x.f0, .bool x.f1]:=⟨[.int .i64 x.f0],[.bool x.f1],rfl,rfl,rfl⟩
def rd_T38 (xs:List S38) (i:Int):S38:=xs.getD i.toNat z38
theorem at_T38 {w:World} {A:Option Addr} {n:Nat} {xs:List S38} (h:Kd.C k38 w A n xs) (i:Int) (h0:0≤i) (h1:i<n): ∃ ad ,A=some ad∧w.cell? (ad.add (i.toNat * 2))=some (.int .i64 (rd_T38 xs i).f0)∧w.cell? ⟨(ad.add (i.toNat * 2)).block,(ad.add (i.toNat * 2)).off+1,none⟩=some (.bool (rd_T38 xs i).f1):=by
 obtain⟨ad,c,e,_,hK,hc0⟩:=Kd.C_get h z38 i h0 h1
 have hc: ∀ j u,c[j]? =some u→w.cell? (ad.add (i.toNat * 2+j))=some u:=hc0
 obtain rfl:=k38_open hK
 exact⟨ad,e,hc 0 _ rfl,by rw[← add_field _ _ 1 (by omega)];exact hc 1 _ rfl⟩
def rd_L4 (xs:List (List S38)) (i:Int):(List S38):=xs.getD i.toNat ([]:List S38)
def rd_L7 (xs:List (List Int)) (i:Int):(List Int):=xs.getD i.toNat ([]:List Int)
theorem at_L7 {w:World} {A:Option Addr} {n:Nat} {xs:List (List Int)} (h:Kd.C (Kd.slice 3 (Kd.int .i64)) w A n xs) (i:Int) (h0:0≤i) (h1:i<n): ∃ ad A0 c0,A=some ad∧w.cell? (ad.add i.toNat)=some (.slice A0 (rd_L7 xs i).length c0)∧(rd_L7 xs i).length≤c0∧(Kd.int .i64).C w A0 (rd_L7 xs i).length (rd_L7 xs i):=by
 obtain⟨ad,c,e,_,hK,hc0⟩:=Kd.C_get h ([]:List Int) i h0 h1
 have hc: ∀ j u,c[j]? =some u→w.cell? (ad.add (i.toNat * 1+j))=some u:=hc0
 obtain⟨A0,c0,rfl,l0,g0⟩:=hK
 exact⟨ad,A0,c0,e,by have hq:=hc 0 _ rfl;rwa [Nat.mul_one,Nat.add_zero] at hq,l0,g0⟩
end Go.Proofs.Ytkcpanpdipmmmaa.P
namespace Go.Proofs.Ytkcpanpdipmmmaa.P
open Go.RowKit Go.Proofs.YtkcpanpdipmmmaaW.PrintWords Go.Proofs.YtkcpanpdipmmmaaW.PrintLast Go.Proofs.YtkcpanpdipmmmaaW.PrintMore
attribute [local go_sem] max2_int min2_int max_two min_two max_three min_three max_four min_four
def netfmt_nodes.f (a0:Int):Option (Int):=if a0<1 then(some 51) else(if a0>50 then(some 2) else(some 0))
set_option maxHeartbeats 8000000 in
set_option maxRecDepth 100000 in
theorem netfmt_nodes.calls (a0:Int) (r:Int) (w:World) (h:netfmt_nodes.f a0=some r):
  Calls Try.prog 156 #[.int .i64 a0] w fun e w'=>e= .returned (.int .i64 r)∧Drawn0 w w':=by
 have H:(if a0<1 then(some 51) else(if a0>50 then(some 2) else(some 0)))=some r:=h
 clear h
 by_cases c2:a0<1
 ·rw[if_pos c2] at H
  have c2b0:decide (a0<1)=true:=decide_eq_true c2
  clear c2
  obtain rfl:=Option.some.inj H
  go_enter Try.func156,Try.ntmps156
  go_wp2
  go_ret
  exact⟨by first|rfl|(simp;done)|(simp[*];done),by repeat(first|exact Drawn0.refl _|apply Drawn0.step)⟩
 rw[if_neg c2] at H
 have c2b0:decide (a0<1)=false:=decide_eq_false c2
 clear c2
 by_cases c3:a0>50
 rotate_left
 ·rw[if_neg c3] at H
  have c3b0:decide (50<a0)=false:=decide_eq_false c3
  clear c3
  obtain rfl:=Option.some.inj H
  go_enter Try.func156,Try.ntmps156
  go_wp2
  go_ret
  exact⟨by first|rfl|(simp;done)|(simp[*];done),by repeat(first|exact Drawn0.refl _|apply Drawn0.step)⟩
 rw[if_pos c3] at H
 have c3b0:decide (50<a0)=true:=decide_eq_true c3
 clear c3
 obtain rfl:=Option.some.inj H
 go_enter Try.func156,Try.ntmps156
 go_wp2
 go_ret
 exact⟨by first|rfl|(simp;done)|(simp[*];done),by repeat(first|exact Drawn0.refl _|apply Drawn0.step)⟩
end Go.Proofs.Ytkcpanpdipmmmaa.P
namespace Go.Proofs.Ytkcpanpdipmmmaa.P
open Go.RowKit Go.Proofs.YtkcpanpdipmmmaaW.PrintWords Go.Proofs.YtkcpanpdipmmmaaW.PrintLast Go.Proofs.YtkcpanpdipmmmaaW.PrintMore
attribute [local go_sem] max2_int min2_int max_two min_two max_three min_three max_four min_four
def netfmt_arc.j0:Nat→Bool→Int→Int→Int→Int→Option (Int)
 |0,_,_,_,_,_=>none
 |k+1,x5,x179000,x179001,x179002,x179003=>if x5=true then(some 51) else(if x179002>1048576 then(some 2) else(if x179003>1048576 then(some 2) else(some 0)))
def netfmt_arc.f (k:Nat) (a0:Int) (a1_0:Int) (a1_1:Int) (a1_2:Int) (a1_3:Int):Option (Int):=if (mn (mn (mn a1_0 a1_1) a1_2) a1_3)<0 then(netfmt_arc.j0 k true a1_0 a1_1 a1_2 a1_3) else(netfmt_arc.j0 k (decide ((mx a1_0 a1_1)≥a0)) a1_0 a1_1 a1_2 a1_3)
set_option maxHeartbeats 8000000 in
set_option maxRecDepth 100000 in
theorem netfmt_arc.calls (k:Nat) (a0:Int) (a1_0:Int) (a1_1:Int) (a1_2:Int) (a1_3:Int) (r:Int) (w:World) (h:netfmt_arc.f k a0 a1_0 a1_1 a1_2 a1_3=some r):
  Calls Try.prog 157 #[.int .i64 a0, .agg #[.int .i64 a1_0, .int .i64 a1_1, .int .i64 a1_2, .int .i64 a1_3]] w fun e w'=>e= .returned (.int .i64 r)∧Below w.heap.size w w':=by
 have hu74:=Try.underlying74
 have HB:=Aside0.mk (Below.refl w.heap.size w)
 have H:(if (mn (mn (mn a1_0 a1_1) a1_2) a1_3)<0 then(netfmt_arc.j0 k true a1_0 a1_1 a1_2 a1_3) else(netfmt_arc.j0 k (decide ((mx a1_0 a1_1)≥a0)) a1_0 a1_1 a1_2 a1_3))=some r:=h
 clear h
 have HC3:=Aside0.mk H
 clear H
 go_enter Try.func157,Try.ntmps157
 go_upto_region 1 with (first|((with_reducible refine gate_dst (N:=3) rfl ?_);(try (refine gate_guard (by rfl) ?_;dsimp only));refine box_event ?hg (N:=3) ?hd (cs:= #[.int .i64 a1_0, .int .i64 a1_1, .int .i64 a1_2, .int .i64 a1_3]) (t:=74) ?hr ?_;(case hd=>rfl);(case hg=>rfl);(case hr=>first|(go_simp;done)|(go_simp;rfl));intro gb178 hg w4 hbox hb;have n0_:=Aside0.mk (below_step (by repeat(first|(with_reducible first|exact HB.out|apply below_alloc|apply pw_below_drewN|apply below_drew1)|exact HB.out)) hb);have n1_:=Aside0.mk (hbox);have n2_:=Aside0.mk ((by rw[hg];exact(below_size (by repeat(first|(with_reducible first|exact HB.out|apply below_alloc|apply pw_below_drewN|apply below_drew1)|exact HB.out))):w.heap.size≤gb178));have n3_:=Aside0.mk ((by rw[hg];exact(below_size (by repeat(first|(with_reducible first|exact HB.out|apply below_alloc|apply pw_below_drewN|apply below_drew1)|exact HB.out))):w.heap.size≤gb178));clear HB;have HB:=n0_;have BK178:=n1_;have GW178:=n2_;have GE178:=n3_;clear n0_ n1_ n2_ n3_;clear hb hbox hg))
 (try simp only[Act.put,List.setIfInBounds_toArray,List.set_cons_zero,List.set_cons_succ])
 go_cut [5] (fun v5 wc=> ∃ (kq:Nat) (x5_2:Bool),v5= .bool x5_2∧Aside0 (netfmt_arc.j0 kq x5_2 a1_0 a1_1 a1_2 a1_3=some r)∧Aside0 (kq≤k)∧Aside0 (wc.heap[gb178]? =some (.cells #[.int .i64 a1_0, .int .i64 a1_1, .int .i64 a1_2, .int .i64 a1_3] 74 (0,0)))∧Aside0 (Below w.heap.size w wc))
 case first=>
  have H:=HC3.out
  clear HC3
  obtain⟨ji5,hji5⟩: ∃ j_:Int,(mn a1_0 a1_1)=j_:=⟨_,rfl⟩
  replace H:(if (mn (mn (ji5) a1_2) a1_3)<0 then(netfmt_arc.j0 k true a1_0 a1_1 a1_2 a1_3) else(netfmt_arc.j0 k (decide ((mx a1_0 a1_1)≥a0)) a1_0 a1_1 a1_2 a1_3))=some r:=by first|(rw[hji5] at H;exact H)|(simp only[hji5] at H ⊢;exact H)
  have hji5_:(if a1_1<a1_0 then a1_1 else a1_0)=ji5:=hji5
  obtain⟨ji6,hji6⟩: ∃ j_:Int,(mn (ji5) a1_2)=j_:=⟨_,rfl⟩
  replace H:(if (mn (ji6) a1_3)<0 then(netfmt_arc.j0 k true a1_0 a1_1 a1_2 a1_3) else(netfmt_arc.j0 k (decide ((mx a1_0 a1_1)≥a0)) a1_0 a1_1 a1_2 a1_3))=some r:=by first|(rw[hji6] at H;exact H)|(simp only[hji6] at H ⊢;exact H)
  have hji6_:(if a1_2<(ji5) then a1_2 else(ji5))=ji6:=hji6
  obtain⟨ji7,hji7⟩: ∃ j_:Int,(mn (ji6) a1_3)=j_:=⟨_,rfl⟩
  replace H:(if (ji7)<0 then(netfmt_arc.j0 k true a1_0 a1_1 a1_2 a1_3) else(netfmt_arc.j0 k (decide ((mx a1_0 a1_1)≥a0)) a1_0 a1_1 a1_2 a1_3))=some r:=by first|(rw[hji7] at H;exact H)|(simp only[hji7] at H ⊢;exact H)
  have hji7_:(if a1_3<(ji6) then a1_3 else(ji6))=ji7:=hji7
  by_cases c8:(ji7)<0
  ·rw[if_pos c8] at H
   have c8b0:decide ((ji7)<0)=true:=decide_eq_true c8
   clear c8
   (first|rw[c8b0]|(simp only[i64_w,i32_w];rw[c8b0])|skip)
   have H':=Aside0.mk H
   clear H
   have hcz9_0:w4.cell? ⟨gb178,0,none⟩=some (.int .i64 a1_0):=(blk_cell BK178.out 0).trans rfl
   have hcz9_1:w4.cell? ⟨gb178,1,none⟩=some (.int .i64 a1_1):=(blk_cell BK178.out 1).trans rfl
   have hcz9_2:w4.cell? ⟨gb178,2,none⟩=some (.int .i64 a1_2):=(blk_cell BK178.out 2).trans rfl
   have hcz9_3:w4.cell? ⟨gb178,3,none⟩=some (.int .i64 a1_3):=(blk_cell BK178.out 3).trans rfl
   have hfz9_0:=blk_frozen BK178.out 0
   have hfz9_1:=blk_frozen BK178.out 1
   have hfz9_2:=blk_frozen BK178.out 2
   have hfz9_3:=blk_frozen BK178.out 3
   go_wp2
   go_meet
   case rel=>exact⟨_,(true),(by first|rfl|(simp;done)|(simp[*];done)),H',⟨by first|omega|exact Nat.le_refl _⟩,⟨by(with_reducible repeat(first|refine blk_drewN ?_ _|refine blk_drew ?_|refine blk_alloc ?_ _));exact BK178.out⟩,⟨by repeat(first|(with_reducible first|exact HB.out|apply below_alloc|apply pw_below_drewN|apply below_drew1|refine below_set ?_ GE178.out)|exact HB.out)⟩⟩
  rw[if_neg c8] at H
  have c8b0:decide ((ji7)<0)=false:=decide_eq_false c8
  clear c8
  (first|rw[c8b0]|(simp only[i64_w,i32_w];rw[c8b0])|skip)
  obtain⟨ji10,hji10⟩: ∃ j_:Int,(mx a1_0 a1_1)=j_:=⟨_,rfl⟩
  replace H:(netfmt_arc.j0 k (decide ((ji10)≥a0)) a1_0 a1_1 a1_2 a1_3)=some r:=by first|(rw[hji10] at H;exact H)|(simp only[hji10] at H ⊢;exact H)
  have hji10_:(if a1_0<a1_1 then a1_1 else a1_0)=ji10:=hji10
  have H':=Aside0.mk H
  clear H
  have hcz11_0:w4.cell? ⟨gb178,0,none⟩=some (.int .i64 a1_0):=(blk_cell BK178.out 0).trans rfl
  have hcz11_1:w4.cell? ⟨gb178,1,none⟩=some (.int .i64 a1_1):=(blk_cell BK178.out 1).trans rfl
  have hcz11_2:w4.cell? ⟨gb178,2,none⟩=some (.int .i64 a1_2):=(blk_cell BK178.out 2).trans rfl
  have hcz11_3:w4.cell? ⟨gb178,3,none⟩=some (.int .i64 a1_3):=(blk_cell BK178.out 3).trans rfl
  have hfz11_0:=blk_frozen BK178.out 0
  have hfz11_1:=blk_frozen BK178.out 1
  have hfz11_2:=blk_frozen BK178.out 2
  have hfz11_3:=blk_frozen BK178.out 3
  go_wp2
  go_meet
  case rel=>exact⟨_,(decide ((ji10)≥a0)),(by first|rfl|(simp;done)|(simp only[← hji10]<;>(first|rfl|simp))|(simp[*];done)),H',⟨by first|omega|exact Nat.le_refl _⟩,⟨by(with_reducible repeat(first|refine blk_drewN ?_ _|refine blk_drew ?_|refine blk_alloc ?_ _));exact BK178.out⟩,⟨by repeat(first|(with_reducible first|exact HB.out|apply below_alloc|apply pw_below_drewN|apply below_drew1|refine below_set ?_ GE178.out)|exact HB.out)⟩⟩
 case rest=>
  clear HC3
  try clear c1
  try clear p2
  try clear c8
  try clear c8b0
  try clear hcz11_0
  try clear hcz11_1
  try clear hcz11_2
  try clear hcz11_3
  try clear hcz9_0
  try clear hcz9_1
  try clear hcz9_2
  try clear hcz9_3
  try clear hfz11_0
  try clear hfz11_1
  try clear hfz11_2
  try clear hfz11_3
  try clear hfz9_0
  try clear hfz9_1
  try clear hfz9_2
  try clear hfz9_3
  obtain⟨kq,x5_2,rfl,HA,HJ2,BK178,HB⟩:=hcut
  cases kq with
  |zero=>exact absurd HA.out (by simp[netfmt_arc.j0])
  |succ kj2=>
   have H:=HA.out
   clear HA
   simp only[netfmt_arc.j0] at H
   by_cases c12:x5_2=true
   ·subst c12
    have H1:(some 51)=some r:=by first|(rw[if_pos rfl] at H;exact H)|(rw[if_pos trivial] at H;exact H)
    clear H
    have H:=H1
    clear H1
    obtain rfl:=Option.some.inj H
    go_wp2
    go_ret
    exact⟨by first|rfl|(simp[errW_none,errW_some]<;>rfl)|(simp[*,errW_none,errW_some]<;>rfl),by repeat(first|(with_reducible first|exact HB.out|apply below_alloc|apply pw_below_drewN|apply below_drew1|refine below_set ?_ GE178.out)|exact HB.out)⟩
   replace c12:=Bool.eq_false_iff.mpr c12
   subst c12
   have H1:(if a1_2>1048576 then(some 2) else(if a1_3>1048576 then(some 2) else(some 0)))=some r:=by rw[if_neg (show ¬ (false=true) by decide)] at H;exact H
   clear H
   have H:=H1
   clear H1
   by_cases c13:a1_2>1048576
   ·rw[if_pos c13] at H
    have c13b0:decide (1048576<a1_2)=true:=decide_eq_true c13
    clear c13
    obtain rfl:=Option.some.inj H
    have hcz14_0:wc.cell? ⟨gb178,0,none⟩=some (.int .i64 a1_0):=(blk_cell BK178.out 0).trans rfl
    have hcz14_1:wc.cell? ⟨gb178,1,none⟩=some (.int .i64 a1_1):=(blk_cell BK178.out 1).trans rfl
    have hcz14_2:wc.cell? ⟨gb178,2,none⟩=some (.int .i64 a1_2):=(blk_cell BK178.out 2).trans rfl
    have hcz14_3:wc.cell? ⟨gb178,3,none⟩=some (.int .i64 a1_3):=(blk_cell BK178.out 3).trans rfl
    have hfz14_0:=blk_frozen BK178.out 0
    have hfz14_1:=blk_frozen BK178.out 1
    have hfz14_2:=blk_frozen BK178.out 2
    have hfz14_3:=blk_frozen BK178.out 3
    go_wp2
    go_ret
    exact⟨by first|rfl|(simp[errW_none,errW_some]<;>rfl)|(simp[*,errW_none,errW_some]<;>rfl),by repeat(first|(with_reducible first|exact HB.out|apply below_alloc|apply pw_below_drewN|apply below_drew1|refine below_set ?_ GE178.out)|exact HB.out)⟩
   rw[if_neg c13] at H
   have c13b0:decide (1048576<a1_2)=false:=decide_eq_false c13
   clear c13
   by_cases c15:a1_3>1048576
   rotate_left
   ·rw[if_neg c15] at H
    have c15b0:decide (1048576<a1_3)=false:=decide_eq_false c15
    clear c15
    obtain rfl:=Option.some.inj H
    have hcz17_0:wc.cell? ⟨gb178,0,none⟩=some (.int .i64 a1_0):=(blk_cell BK178.out 0).trans rfl
    have hcz17_1:wc.cell? ⟨gb178,1,none⟩=some (.int .i64 a1_1):=(blk_cell BK178.out 1).trans rfl
    have hcz17_2:wc.cell? ⟨gb178,2,none⟩=some (.int .i64 a1_2):=(blk_cell BK178.out 2).trans rfl
    have hcz17_3:wc.cell? ⟨gb178,3,none⟩=some (.int .i64 a1_3):=(blk_cell BK178.out 3).trans rfl
    have hfz17_0:=blk_frozen BK178.out 0
    have hfz17_1:=blk_frozen BK178.out 1
    have hfz17_2:=blk_frozen BK178.out 2
    have hfz17_3:=blk_frozen BK178.out 3
    go_wp2
    go_ret
    exact⟨by first|rfl|(simp[errW_none,errW_some]<;>rfl)|(simp[*,errW_none,errW_some]<;>rfl),by repeat(first|(with_reducible first|exact HB.out|apply below_alloc|apply pw_below_drewN|apply below_drew1|refine below_set ?_ GE178.out)|exact HB.out)⟩
   rw[if_pos c15] at H
   have c15b0:decide (1048576<a1_3)=true:=decide_eq_true c15
   clear c15
   obtain rfl:=Option.some.inj H
   have hcz16_0:wc.cell? ⟨gb178,0,none⟩=some (.int .i64 a1_0):=(blk_cell BK178.out 0).trans rfl
   have hcz16_1:wc.cell? ⟨gb178,1,none⟩=some (.int .i64 a1_1):=(blk_cell BK178.out 1).trans rfl
   have hcz16_2:wc.cell? ⟨gb178,2,none⟩=some (.int .i64 a1_2):=(blk_cell BK178.out 2).trans rfl
   have hcz16_3:wc.cell? ⟨gb178,3,none⟩=some (.int .i64 a1_3):=(blk_cell BK178.out 3).trans rfl
   have hfz16_0:=blk_frozen BK178.out 0
   have hfz16_1:=blk_frozen BK178.out 1
   have hfz16_2:=blk_frozen BK178.out 2
   have hfz16_3:=blk_frozen BK178.out 3
   go_wp2
   go_ret
   exact⟨by first|rfl|(simp[errW_none,errW_some]<;>rfl)|(simp[*,errW_none,errW_some]<;>rfl),by repeat(first|(with_reducible first|exact HB.out|apply below_alloc|apply pw_below_drewN|apply below_drew1|refine below_set ?_ GE178.out)|exact HB.out)⟩
end Go.Proofs.Ytkcpanpdipmmmaa.P
namespace Go.Proofs.Ytkcpanpdipmmmaa.P
open Go.RowKit Go.Proofs.YtkcpanpdipmmmaaW.PrintWords Go.Proofs.YtkcpanpdipmmmaaW.PrintLast Go.Proofs.YtkcpanpdipmmmaaW.PrintMore
attribute [local go_sem] max2_int min2_int max_two min_two max_three min_three max_four min_four
def netfmt_Check.l0:Nat→List (S74)→Int→Int→Int→Bool→List (S74)→Option (Int)
 |0,_,_,_,_,_,_=>none
 |k+1,x18,x19,x20,x180000,x180001,x180002=>if x20<x19 then(if 0≤x20 then(if x20<(x18.length:Int) then((netfmt_arc.f k x180000 ((rd_T74 x18 x20).f0) ((rd_T74 x18 x20).f1) ((rd_T74 x18 x20).f2) ((rd_T74 x18 x20).f3)).bind fun t183=>(if t183=0 then(netfmt_Check.l0 k x18 x19 (wrap64 (x20+1)) x180000 x180001 x180002) else(some t183))) else(none)) else(none)) else(some 0)
def netfmt_Check.f (k:Nat) (a0_0:Int) (a0_1:Bool) (l0_2:List (S74)):Option (Int):=(netfmt_nodes.f a0_0).bind fun t180=>(if t180=0 then(if (l0_2.length:Int)>200 then(some 2) else(netfmt_Check.l0 k l0_2 (l0_2.length:Int) 0 a0_0 a0_1 l0_2)) else(some t180))
set_option maxHeartbeats 8000000 in
set_option maxRecDepth 100000 in
theorem netfmt_Check.calls (k:Nat) (a0_0:Int) (a0_1:Bool) (A0_2:Option Addr) (c0_2:Nat) (l0_2:List (S74)) (r:Int) (w:World) (hr0_2:Kd.C k74 w A0_2 l0_2.length l0_2) (hc0_2:l0_2.length≤c0_2) (h:netfmt_Check.f k a0_0 a0_1 l0_2=some r):
  Calls Try.prog 127 #[.agg #[.int .i64 a0_0, .bool a0_1, .slice A0_2 l0_2.length c0_2]] w fun e w'=>e= .returned (.int .i64 r)∧Below w.heap.size w w':=by
 have hu24:=Try.underlying24
 have hu74:=Try.underlying74
 have HR0_2:=Aside0.mk hr0_2
 have HC0_2:=Aside0.mk hc0_2
 clear hr0_2 hc0_2
 have HB:=Aside0.mk (Below.refl w.heap.size w)
 have H:((netfmt_nodes.f a0_0).bind fun t180=>(if t180=0 then(if (l0_2.length:Int)>200 then(some 2) else(netfmt_Check.l0 k l0_2 (l0_2.length:Int) 0 a0_0 a0_1 l0_2)) else(some t180)))=some r:=h
 clear h
 replace H:=Option.bind_eq_some_iff.mp H
 obtain⟨t180,A20,H⟩:=H
 replace H:(if t180=0 then(if (l0_2.length:Int)>200 then(some 2) else(netfmt_Check.l0 k l0_2 (l0_2.length:Int) 0 a0_0 a0_1 l0_2)) else(some t180))=some r:=H
 have A2:=Aside0.mk A20
 clear A20
 by_cases c3:t180=0
 rotate_left
 ·rw[if_neg c3] at H
  have c3b0:(t180 == 0)=false:=beq_eq_false_iff_ne.mpr c3
  have c3b1:(t180 != 0)=true:=bne_iff_ne.mpr c3
  obtain rfl:=Option.some.inj H
  go_enter Try.func127,Try.ntmps127
  go_wp2_with (first|((with_reducible refine gate_dst (N:=1) rfl ?_);refine box_event ?hg (N:=1) ?hd (cs:= #[.int .i64 a0_0, .bool a0_1, .slice A0_2 l0_2.length c0_2]) (t:=24) ?hr ?_;(case hd=>rfl);(case hg=>rfl);(case hr=>first|(go_simp;done)|(go_simp;rfl));intro gb179 hg w24 hbox hb;have n0_:=Aside0.mk (below_step HB.out hb);have n1_:=Aside0.mk (hbox);have n2_:=Aside0.mk ((by rw[hg];exact(below_size HB.out):w.heap.size≤gb179));have n3_:=Aside0.mk ((by rw[hg];exact(below_size HB.out):w.heap.size≤gb179));clear HB;have HB:=n0_;have BK179:=n1_;have GW179:=n2_;have GE179:=n3_;clear n0_ n1_ n2_ n3_;clear hb hbox hg;have hcz25_0:w24.cell? ⟨gb179,0,none⟩=some (.int .i64 a0_0):=(blk_cell BK179.out 0).trans rfl;have hcz25_1:w24.cell? ⟨gb179,1,none⟩=some (.bool a0_1):=(blk_cell BK179.out 1).trans rfl;have hcz25_2:w24.cell? ⟨gb179,2,none⟩=some (.slice A0_2 l0_2.length c0_2):=(blk_cell BK179.out 2).trans rfl;have hfz25_0:=blk_frozen BK179.out 0;have hfz25_1:=blk_frozen BK179.out 1;have hfz25_2:=blk_frozen BK179.out 2)|((with_reducible refine gate_callee (f:=156) rfl ?_);refine goesL_ (some 9) rfl rfl Try.func156 (by kernel_rfl) rfl #[.int .i64 a0_0] rfl (by(try simp only[List.map_toArray,List.map_cons,List.map_nil]);first|done|rfl|(simp only[List.length_drop,List.length_take];rfl)) ?_;(with_reducible refine(netfmt_nodes.calls a0_0 t180 _ A2.out).mono ?_);rintro e w' ⟨rfl,⟨nd,rfl⟩⟩;refine⟨_,rfl,?_⟩))
  go_ret
  exact⟨by first|rfl|(simp[errW_none,errW_some]<;>rfl)|(simp[*,errW_none,errW_some]<;>rfl),by repeat(first|(with_reducible first|exact HB.out|apply below_alloc|apply pw_below_drewN|apply below_drew1|refine below_set ?_ GE179.out)|exact HB.out)⟩
 rw[if_pos c3] at H
 have c3b0:(t180 == 0)=true:=beq_iff_eq.mpr c3
 have c3b1:(t180 != 0)=false:=bne_eq_false_iff_eq.mpr c3
 clear c3
 by_cases c4:(l0_2.length:Int)>200
 ·rw[if_pos c4] at H
  have c4b0:decide (200<(l0_2.length:Int))=true:=decide_eq_true c4
  have c4b1:decide (200<l0_2.length)=true:=decide_eq_true (by omega)
  clear c4
  obtain rfl:=Option.some.inj H
  go_enter Try.func127,Try.ntmps127
  go_wp2_with (first|((with_reducible refine gate_dst (N:=1) rfl ?_);refine box_event ?hg (N:=1) ?hd (cs:= #[.int .i64 a0_0, .bool a0_1, .slice A0_2 l0_2.length c0_2]) (t:=24) ?hr ?_;(case hd=>rfl);(case hg=>rfl);(case hr=>first|(go_simp;done)|(go_simp;rfl));intro gb179 hg w5 hbox hb;have n0_:=Aside0.mk (below_step HB.out hb);have n1_:=Aside0.mk (hbox);have n2_:=Aside0.mk ((by rw[hg];exact(below_size HB.out):w.heap.size≤gb179));have n3_:=Aside0.mk ((by rw[hg];exact(below_size HB.out):w.heap.size≤gb179));clear HB;have HB:=n0_;have BK179:=n1_;have GW179:=n2_;have GE179:=n3_;clear n0_ n1_ n2_ n3_;clear hb hbox hg;have hcz6_0:w5.cell? ⟨gb179,0,none⟩=some (.int .i64 a0_0):=(blk_cell BK179.out 0).trans rfl;have hcz6_1:w5.cell? ⟨gb179,1,none⟩=some (.bool a0_1):=(blk_cell BK179.out 1).trans rfl;have hcz6_2:w5.cell? ⟨gb179,2,none⟩=some (.slice A0_2 l0_2.length c0_2):=(blk_cell BK179.out 2).trans rfl;have hfz6_0:=blk_frozen BK179.out 0;have hfz6_1:=blk_frozen BK179.out 1;have hfz6_2:=blk_frozen BK179.out 2)|((with_reducible refine gate_callee (f:=156) rfl ?_);refine goesL_ (some 9) rfl rfl Try.func156 (by kernel_rfl) rfl #[.int .i64 a0_0] rfl (by(try simp only[List.map_toArray,List.map_cons,List.map_nil]);first|done|rfl|(simp only[List.length_drop,List.length_take];rfl)) ?_;(with_reducible refine(netfmt_nodes.calls a0_0 t180 _ A2.out).mono ?_);rintro e w' ⟨rfl,⟨nd,rfl⟩⟩;refine⟨_,rfl,?_⟩))
  go_ret
  exact⟨by first|rfl|(simp[errW_none,errW_some]<;>rfl)|(simp[*,errW_none,errW_some]<;>rfl),by repeat(first|(with_reducible first|exact HB.out|apply below_alloc|apply pw_below_drewN|apply below_drew1|refine below_set ?_ GE179.out)|exact HB.out)⟩
 rw[if_neg c4] at H
 have c4b0:decide (200<(l0_2.length:Int))=false:=decide_eq_false c4
 have c4b1:decide (200<l0_2.length)=false:=decide_eq_false (by omega)
 clear c4
 have H':=Aside0.mk H
 clear H
 go_enter Try.func127,Try.ntmps127
 go_wp2_with (first|((with_reducible refine gate_dst (N:=1) rfl ?_);refine box_event ?hg (N:=1) ?hd (cs:= #[.int .i64 a0_0, .bool a0_1, .slice A0_2 l0_2.length c0_2]) (t:=24) ?hr ?_;(case hd=>rfl);(case hg=>rfl);(case hr=>first|(go_simp;done)|(go_simp;rfl));intro gb179 hg w7 hbox hb;have n0_:=Aside0.mk (below_step HB.out hb);have n1_:=Aside0.mk (hbox);have n2_:=Aside0.mk ((by rw[hg];exact(below_size HB.out):w.heap.size≤gb179));have n3_:=Aside0.mk ((by rw[hg];exact(below_size HB.out):w.heap.size≤gb179));clear HB;have HB:=n0_;have BK179:=n1_;have GW179:=n2_;have GE179:=n3_;clear n0_ n1_ n2_ n3_;clear hb hbox hg;have hcz8_0:w7.cell? ⟨gb179,0,none⟩=some (.int .i64 a0_0):=(blk_cell BK179.out 0).trans rfl;have hcz8_1:w7.cell? ⟨gb179,1,none⟩=some (.bool a0_1):=(blk_cell BK179.out 1).trans rfl;have hcz8_2:w7.cell? ⟨gb179,2,none⟩=some (.slice A0_2 l0_2.length c0_2):=(blk_cell BK179.out 2).trans rfl;have hfz8_0:=blk_frozen BK179.out 0;have hfz8_1:=blk_frozen BK179.out 1;have hfz8_2:=blk_frozen BK179.out 2)|((with_reducible refine gate_callee (f:=156) rfl ?_);refine goesL_ (some 9) rfl rfl Try.func156 (by kernel_rfl) rfl #[.int .i64 a0_0] rfl (by(try simp only[List.map_toArray,List.map_cons,List.map_nil]);first|done|rfl|(simp only[List.length_drop,List.length_take];rfl)) ?_;(with_reducible refine(netfmt_nodes.calls a0_0 t180 _ A2.out).mono ?_);rintro e w' ⟨rfl,⟨nd,rfl⟩⟩;refine⟨_,rfl,?_⟩))
 go_loopg [20] k (fun kq v20 w'=> ∃ (x20_1:Int),v20= .int .i64 x20_1∧Aside0 (netfmt_Check.l0 kq l0_2 (l0_2.length:Int) x20_1 a0_0 a0_1 l0_2=some r)∧Aside0 (kq≤k)∧Aside0 (w'.heap[gb179]? =some (.cells #[.int .i64 a0_0, .bool a0_1,(.slice A0_2 l0_2.length c0_2)] 24 (0,0)))∧Aside0 (Below w.heap.size w w'))
 case atStart=>exact⟨(0),(by first|rfl|(simp;done)|(simp[*];done)),H',⟨Nat.le_refl _⟩,⟨by(with_reducible repeat(first|refine blk_drewN ?_ _|refine blk_drew ?_|refine blk_alloc ?_ _));exact BK179.out⟩,⟨by repeat(first|(with_reducible first|exact HB.out|apply below_alloc|apply pw_below_drewN|apply below_drew1|refine below_set ?_ GE179.out)|exact HB.out)⟩⟩
 case round=>
  clear H'
  try clear c1
  try clear p2
  try clear c3
  try clear c3b0
  try clear c3b1
  try clear c4
  try clear c4b0
  try clear c4b1
  try clear hcz6_0
  try clear hcz6_1
  try clear hcz6_2
  try clear hcz8_0
  try clear hcz8_1
  try clear hcz8_2
  try clear hfz6_0
  try clear hfz6_1
  try clear hfz6_2
  try clear hfz8_0
  try clear hfz8_1
  try clear hfz8_2
  obtain⟨x20_1,rfl,HA,HK1,BK179,HB⟩:=hrel
  cases gk with
  |zero=>exact absurd HA.out (by simp[netfmt_Check.l0])
  |succ k1=>
   have H:=HA.out
   clear HA
   simp only[netfmt_Check.l0] at H
   by_cases c9:x20_1<(l0_2.length:Int)
   rotate_left
   ·rw[if_neg c9] at H
    have c9b0:decide (x20_1<(l0_2.length:Int))=false:=decide_eq_false c9
    clear c9
    obtain rfl:=Option.some.inj H
    go_wp2
    go_ret
    exact⟨by first|rfl|(simp[errW_none,errW_some]<;>rfl)|(simp[*,errW_none,errW_some]<;>rfl),HB.out⟩
   rw[if_pos c9] at H
   have c9b0:decide (x20_1<(l0_2.length:Int))=true:=decide_eq_true c9
   clear c9
   by_cases c10:0≤x20_1
   rotate_left
   ·rw[if_neg c10] at H
    exact absurd H (by simp)
   rw[if_pos c10] at H
   have c10b0:decide (0≤x20_1)=true:=decide_eq_true c10
   clear c10
   by_cases c11:x20_1<(l0_2.length:Int)
   rotate_left
   ·rw[if_neg c11] at H
    exact absurd H (by simp)
   rw[if_pos c11] at H
   have c11b0:decide (x20_1<(l0_2.length:Int))=true:=decide_eq_true c11
   clear c11
   replace H:=Option.bind_eq_some_iff.mp H
   obtain⟨t183,A120,H⟩:=H
   replace H:(if t183=0 then(netfmt_Check.l0 k1 l0_2 (l0_2.length:Int) (wrap64 (x20_1+1)) a0_0 a0_1 l0_2) else(some t183))=some r:=H
   have A12:=Aside0.mk A120
   clear A120
   by_cases c13:t183=0
   rotate_left
   ·rw[if_neg c13] at H
    have c13b0:(t183 == 0)=false:=beq_eq_false_iff_ne.mpr c13
    have c13b1:(t183 != 0)=true:=bne_iff_ne.mpr c13
    obtain rfl:=Option.some.inj H
    have p181:0≤(x20_1:Int):=of_decide_eq_true (by first|(with_reducible assumption)|assumption)
    have q181:x20_1<(l0_2.length:Int):=of_decide_eq_true (by first|(with_reducible assumption)|assumption)
    obtain⟨ad181,e181,hx181_0,hx181_1,hx181_2,hx181_3⟩:=at_T74 HR0_2.out x20_1 p181 q181
    cases e181
    replace hx181_0:=(HB.out.cell (World.block_lt_of_cell? w _ hx181_0)).trans hx181_0
    replace hx181_1:=(HB.out.cell (World.block_lt_of_cell? w _ hx181_1)).trans hx181_1
    replace hx181_2:=(HB.out.cell (World.block_lt_of_cell? w _ hx181_2)).trans hx181_2
    replace hx181_3:=(HB.out.cell (World.block_lt_of_cell? w _ hx181_3)).trans hx181_3
    replace p181:=eq_true p181
    replace q181:=eq_true q181
    go_wp2_with (first|((with_reducible refine gate_dst (N:=5) rfl ?_);refine box_event ?hg (N:=5) ?hd (cs:= #[.int .i64 0, .int .i64 0, .int .i64 0, .int .i64 0]) (t:=74) ?hr ?_;(case hd=>rfl);(case hg=>rfl);(case hr=>first|(go_simp;done)|(go_simp;rfl));intro gb182 hg w19 hbox hb;have n0_:=Aside0.mk (blk_below (g:=gb179) (o:= .cells #[.int .i64 a0_0, .bool a0_1, .slice (some ad181) l0_2.length c0_2] 24 (0,0)) (by(with_reducible repeat(first|refine blk_drewN ?_ _|refine blk_drew ?_|refine blk_alloc ?_ _));exact BK179.out) hb);have n1_:=Aside0.mk (below_step (by repeat(first|(with_reducible first|exact HB.out|apply below_alloc|apply pw_below_drewN|apply below_drew1|refine below_set ?_ GE179.out)|exact HB.out)) hb);have n2_:=Aside0.mk (hbox);have n3_:=Aside0.mk ((by rw[hg];exact(below_size (by repeat(first|(with_reducible first|exact HB.out|apply below_alloc|apply pw_below_drewN|apply below_drew1|refine below_set ?_ GE179.out)|exact HB.out))):w.heap.size≤gb182));have n4_:=Aside0.mk ((by rw[hg];exact(below_size (by repeat(first|(with_reducible first|exact HB.out|apply below_alloc|apply pw_below_drewN|apply below_drew1|refine below_set ?_ GE179.out)|exact HB.out))):w.heap.size≤gb182));have n5_:=Aside0.mk ((by rw[hg];exact Nat.ne_of_lt (blk_lt (g:=gb179) (o:= .cells #[.int .i64 a0_0, .bool a0_1, .slice (some ad181) l0_2.length c0_2] 24 (0,0)) (by(with_reducible repeat(first|refine blk_drewN ?_ _|refine blk_drew ?_|refine blk_alloc ?_ _));exact BK179.out)):gb179≠gb182));have n6_:=Aside0.mk ((by rw[hg];exact Nat.ne_of_gt (blk_lt (g:=gb179) (o:= .cells #[.int .i64 a0_0, .bool a0_1, .slice (some ad181) l0_2.length c0_2] 24 (0,0)) (by(with_reducible repeat(first|refine blk_drewN ?_ _|refine blk_drew ?_|refine blk_alloc ?_ _));exact BK179.out)):gb182≠gb179));clear BK179;clear HB;have BK179:=n0_;have HB:=n1_;have BK182:=n2_;have GW182:=n3_;have GE182:=n4_;have NB179_182:=n5_;have NB182_179:=n6_;clear n0_ n1_ n2_ n3_ n4_ n5_ n6_;clear hb hbox hg;have hnb20:=NB182_179.out;have hnc20:=NB179_182.out;have hcz21_0:w19.cell? ⟨gb182,0,none⟩=some (.int .i64 0):=(blk_cell BK182.out 0).trans rfl;have hcz21_1:w19.cell? ⟨gb182,1,none⟩=some (.int .i64 0):=(blk_cell BK182.out 1).trans rfl;have hcz21_2:w19.cell? ⟨gb182,2,none⟩=some (.int .i64 0):=(blk_cell BK182.out 2).trans rfl;have hcz21_3:w19.cell? ⟨gb182,3,none⟩=some (.int .i64 0):=(blk_cell BK182.out 3).trans rfl;have hfz21_0:=blk_frozen BK182.out 0;have hfz21_1:=blk_frozen BK182.out 1;have hfz21_2:=blk_frozen BK182.out 2;have hfz21_3:=blk_frozen BK182.out 3;have hcz22_0:w19.cell? ⟨gb179,0,none⟩=some (.int .i64 a0_0):=(blk_cell BK179.out 0).trans rfl;have hcz22_1:w19.cell? ⟨gb179,1,none⟩=some (.bool a0_1):=(blk_cell BK179.out 1).trans rfl;have hcz22_2:w19.cell? ⟨gb179,2,none⟩=some (.slice (some ad181) l0_2.length c0_2):=(blk_cell BK179.out 2).trans rfl;have hfz22_0:=blk_frozen BK179.out 0;have hfz22_1:=blk_frozen BK179.out 1;have hfz22_2:=blk_frozen BK179.out 2)|((with_reducible refine gate_callee (f:=157) rfl ?_);refine goesL_ (some 27) rfl rfl Try.func157 (by kernel_rfl) rfl #[.int .i64 a0_0, .agg #[.int .i64 ((rd_T74 l0_2 x20_1).f0), .int .i64 ((rd_T74 l0_2 x20_1).f1), .int .i64 ((rd_T74 l0_2 x20_1).f2), .int .i64 ((rd_T74 l0_2 x20_1).f3)]] rfl (by(try simp only[List.map_toArray,List.map_cons,List.map_nil]);first|done|rfl|(simp only[List.length_drop,List.length_take];rfl)) ?_;(with_reducible refine(netfmt_arc.calls k1 a0_0 ((rd_T74 l0_2 x20_1).f0) ((rd_T74 l0_2 x20_1).f1) ((rd_T74 l0_2 x20_1).f2) ((rd_T74 l0_2 x20_1).f3) t183 _ A12.out).mono ?_);rintro e w23 ⟨rfl,hb⟩;refine⟨_,rfl,?_⟩;have n0_:=Aside0.mk (blk_below (g:=gb179) (o:= .cells #[.int .i64 a0_0, .bool a0_1, .slice (some ad181) l0_2.length c0_2] 24 (0,0)) (by(with_reducible repeat(first|refine blk_drewN ?_ _|refine blk_drew ?_|refine blk_alloc ?_ _));refine blk_far ?_ NB179_182.out _;(with_reducible repeat(first|refine blk_drewN ?_ _|refine blk_drew ?_|refine blk_alloc ?_ _));refine blk_far ?_ NB179_182.out _;(with_reducible repeat(first|refine blk_drewN ?_ _|refine blk_drew ?_|refine blk_alloc ?_ _));refine blk_far ?_ NB179_182.out _;(with_reducible repeat(first|refine blk_drewN ?_ _|refine blk_drew ?_|refine blk_alloc ?_ _));refine blk_far ?_ NB179_182.out _;(with_reducible repeat(first|refine blk_drewN ?_ _|refine blk_drew ?_|refine blk_alloc ?_ _));exact BK179.out) hb);have n1_:=Aside0.mk (blk_below (g:=gb182) (o:= .cells #[.int .i64 ((rd_T74 l0_2 x20_1).f0), .int .i64 ((rd_T74 l0_2 x20_1).f1), .int .i64 ((rd_T74 l0_2 x20_1).f2), .int .i64 ((rd_T74 l0_2 x20_1).f3)] 74 (0,0)) (by(with_reducible repeat(first|refine blk_drewN ?_ _|refine blk_drew ?_|refine blk_alloc ?_ _));refine blk_put (cs:= #[.int .i64 ((rd_T74 l0_2 x20_1).f0), .int .i64 ((rd_T74 l0_2 x20_1).f1), .int .i64 ((rd_T74 l0_2 x20_1).f2), .int .i64 0]) ?_ 3 _ rfl;(with_reducible repeat(first|refine blk_drewN ?_ _|refine blk_drew ?_|refine blk_alloc ?_ _));refine blk_put (cs:= #[.int .i64 ((rd_T74 l0_2 x20_1).f0), .int .i64 ((rd_T74 l0_2 x20_1).f1), .int .i64 0, .int .i64 0]) ?_ 2 _ rfl;(with_reducible repeat(first|refine blk_drewN ?_ _|refine blk_drew ?_|refine blk_alloc ?_ _));refine blk_put (cs:= #[.int .i64 ((rd_T74 l0_2 x20_1).f0), .int .i64 0, .int .i64 0, .int .i64 0]) ?_ 1 _ rfl;(with_reducible repeat(first|refine blk_drewN ?_ _|refine blk_drew ?_|refine blk_alloc ?_ _));refine blk_put (cs:= #[.int .i64 0, .int .i64 0, .int .i64 0, .int .i64 0]) ?_ 0 _ rfl;(with_reducible repeat(first|refine blk_drewN ?_ _|refine blk_drew ?_|refine blk_alloc ?_ _));exact BK182.out) hb);have n2_:=Aside0.mk (below_step (by repeat(first|(with_reducible first|exact HB.out|apply below_alloc|apply pw_below_drewN|apply below_drew1|refine below_set ?_ GE179.out|refine below_set ?_ GE182.out)|exact HB.out)) hb);clear BK179;clear BK182;clear HB;have BK179:=n0_;have BK182:=n1_;have HB:=n2_;clear n0_ n1_ n2_;(try clear hb);(try clear hb2);(try clear hk);(try clear hi)))
    go_ret
    exact⟨by first|rfl|(simp[errW_none,errW_some]<;>rfl)|(simp[*,errW_none,errW_some]<;>rfl),HB.out⟩
   rw[if_pos c13] at H
   have c13b0:(t183 == 0)=true:=beq_iff_eq.mpr c13
   have c13b1:(t183 != 0)=false:=bne_eq_false_iff_eq.mpr c13
   clear c13
   have H':=Aside0.mk H
   clear H
   have p181:0≤(x20_1:Int):=of_decide_eq_true (by first|(with_reducible assumption)|assumption)
   have q181:x20_1<(l0_2.length:Int):=of_decide_eq_true (by first|(with_reducible assumption)|assumption)
   obtain⟨ad181,e181,hx181_0,hx181_1,hx181_2,hx181_3⟩:=at_T74 HR0_2.out x20_1 p181 q181
   cases e181
   replace hx181_0:=(HB.out.cell (World.block_lt_of_cell? w _ hx181_0)).trans hx181_0
   replace hx181_1:=(HB.out.cell (World.block_lt_of_cell? w _ hx181_1)).trans hx181_1
   replace hx181_2:=(HB.out.cell (World.block_lt_of_cell? w _ hx181_2)).trans hx181_2
   replace hx181_3:=(HB.out.cell (World.block_lt_of_cell? w _ hx181_3)).trans hx181_3
   replace p181:=eq_true p181
   replace q181:=eq_true q181
   go_wp2_with (first|((with_reducible refine gate_dst (N:=5) rfl ?_);refine box_event ?hg (N:=5) ?hd (cs:= #[.int .i64 0, .int .i64 0, .int .i64 0, .int .i64 0]) (t:=74) ?hr ?_;(case hd=>rfl);(case hg=>rfl);(case hr=>first|(go_simp;done)|(go_simp;rfl));intro gb182 hg w14 hbox hb;have n0_:=Aside0.mk (blk_below (g:=gb179) (o:= .cells #[.int .i64 a0_0, .bool a0_1, .slice (some ad181) l0_2.length c0_2] 24 (0,0)) (by(with_reducible repeat(first|refine blk_drewN ?_ _|refine blk_drew ?_|refine blk_alloc ?_ _));exact BK179.out) hb);have n1_:=Aside0.mk (below_step (by repeat(first|(with_reducible first|exact HB.out|apply below_alloc|apply pw_below_drewN|apply below_drew1|refine below_set ?_ GE179.out)|exact HB.out)) hb);have n2_:=Aside0.mk (hbox);have n3_:=Aside0.mk ((by rw[hg];exact(below_size (by repeat(first|(with_reducible first|exact HB.out|apply below_alloc|apply pw_below_drewN|apply below_drew1|refine below_set ?_ GE179.out)|exact HB.out))):w.heap.size≤gb182));have n4_:=Aside0.mk ((by rw[hg];exact(below_size (by repeat(first|(with_reducible first|exact HB.out|apply below_alloc|apply pw_below_drewN|apply below_drew1|refine below_set ?_ GE179.out)|exact HB.out))):w.heap.size≤gb182));have n5_:=Aside0.mk ((by rw[hg];exact Nat.ne_of_lt (blk_lt (g:=gb179) (o:= .cells #[.int .i64 a0_0, .bool a0_1, .slice (some ad181) l0_2.length c0_2] 24 (0,0)) (by(with_reducible repeat(first|refine blk_drewN ?_ _|refine blk_drew ?_|refine blk_alloc ?_ _));exact BK179.out)):gb179≠gb182));have n6_:=Aside0.mk ((by rw[hg];exact Nat.ne_of_gt (blk_lt (g:=gb179) (o:= .cells #[.int .i64 a0_0, .bool a0_1, .slice (some ad181) l0_2.length c0_2] 24 (0,0)) (by(with_reducible repeat(first|refine blk_drewN ?_ _|refine blk_drew ?_|refine blk_alloc ?_ _));exact BK179.out)):gb182≠gb179));clear BK179;clear HB;have BK179:=n0_;have HB:=n1_;have BK182:=n2_;have GW182:=n3_;have GE182:=n4_;have NB179_182:=n5_;have NB182_179:=n6_;clear n0_ n1_ n2_ n3_ n4_ n5_ n6_;clear hb hbox hg;have hnb15:=NB182_179.out;have hnc15:=NB179_182.out;have hcz16_0:w14.cell? ⟨gb182,0,none⟩=some (.int .i64 0):=(blk_cell BK182.out 0).trans rfl;have hcz16_1:w14.cell? ⟨gb182,1,none⟩=some (.int .i64 0):=(blk_cell BK182.out 1).trans rfl;have hcz16_2:w14.cell? ⟨gb182,2,none⟩=some (.int .i64 0):=(blk_cell BK182.out 2).trans rfl;have hcz16_3:w14.cell? ⟨gb182,3,none⟩=some (.int .i64 0):=(blk_cell BK182.out 3).trans rfl;have hfz16_0:=blk_frozen BK182.out 0;have hfz16_1:=blk_frozen BK182.out 1;have hfz16_2:=blk_frozen BK182.out 2;have hfz16_3:=blk_frozen BK182.out 3;have hcz17_0:w14.cell? ⟨gb179,0,none⟩=some (.int .i64 a0_0):=(blk_cell BK179.out 0).trans rfl;have hcz17_1:w14.cell? ⟨gb179,1,none⟩=some (.bool a0_1):=(blk_cell BK179.out 1).trans rfl;have hcz17_2:w14.cell? ⟨gb179,2,none⟩=some (.slice (some ad181) l0_2.length c0_2):=(blk_cell BK179.out 2).trans rfl;have hfz17_0:=blk_frozen BK179.out 0;have hfz17_1:=blk_frozen BK179.out 1;have hfz17_2:=blk_frozen BK179.out 2)|((with_reducible refine gate_callee (f:=157) rfl ?_);refine goesL_ (some 27) rfl rfl Try.func157 (by kernel_rfl) rfl #[.int .i64 a0_0, .agg #[.int .i64 ((rd_T74 l0_2 x20_1).f0), .int .i64 ((rd_T74 l0_2 x20_1).f1), .int .i64 ((rd_T74 l0_2 x20_1).f2), .int .i64 ((rd_T74 l0_2 x20_1).f3)]] rfl (by(try simp only[List.map_toArray,List.map_cons,List.map_nil]);first|done|rfl|(simp only[List.length_drop,List.length_take];rfl)) ?_;(with_reducible refine(netfmt_arc.calls k1 a0_0 ((rd_T74 l0_2 x20_1).f0) ((rd_T74 l0_2 x20_1).f1) ((rd_T74 l0_2 x20_1).f2) ((rd_T74 l0_2 x20_1).f3) t183 _ A12.out).mono ?_);rintro e w18 ⟨rfl,hb⟩;refine⟨_,rfl,?_⟩;have n0_:=Aside0.mk (blk_below (g:=gb179) (o:= .cells #[.int .i64 a0_0, .bool a0_1, .slice (some ad181) l0_2.length c0_2] 24 (0,0)) (by(with_reducible repeat(first|refine blk_drewN ?_ _|refine blk_drew ?_|refine blk_alloc ?_ _));refine blk_far ?_ NB179_182.out _;(with_reducible repeat(first|refine blk_drewN ?_ _|refine blk_drew ?_|refine blk_alloc ?_ _));refine blk_far ?_ NB179_182.out _;(with_reducible repeat(first|refine blk_drewN ?_ _|refine blk_drew ?_|refine blk_alloc ?_ _));refine blk_far ?_ NB179_182.out _;(with_reducible repeat(first|refine blk_drewN ?_ _|refine blk_drew ?_|refine blk_alloc ?_ _));refine blk_far ?_ NB179_182.out _;(with_reducible repeat(first|refine blk_drewN ?_ _|refine blk_drew ?_|refine blk_alloc ?_ _));exact BK179.out) hb);have n1_:=Aside0.mk (blk_below (g:=gb182) (o:= .cells #[.int .i64 ((rd_T74 l0_2 x20_1).f0), .int .i64 ((rd_T74 l0_2 x20_1).f1), .int .i64 ((rd_T74 l0_2 x20_1).f2), .int .i64 ((rd_T74 l0_2 x20_1).f3)] 74 (0,0)) (by(with_reducible repeat(first|refine blk_drewN ?_ _|refine blk_drew ?_|refine blk_alloc ?_ _));refine blk_put (cs:= #[.int .i64 ((rd_T74 l0_2 x20_1).f0), .int .i64 ((rd_T74 l0_2 x20_1).f1), .int .i64 ((rd_T74 l0_2 x20_1).f2), .int .i64 0]) ?_ 3 _ rfl;(with_reducible repeat(first|refine blk_drewN ?_ _|refine blk_drew ?_|refine blk_alloc ?_ _));refine blk_put (cs:= #[.int .i64 ((rd_T74 l0_2 x20_1).f0), .int .i64 ((rd_T74 l0_2 x20_1).f1), .int .i64 0, .int .i64 0]) ?_ 2 _ rfl;(with_reducible repeat(first|refine blk_drewN ?_ _|refine blk_drew ?_|refine blk_alloc ?_ _));refine blk_put (cs:= #[.int .i64 ((rd_T74 l0_2 x20_1).f0), .int .i64 0, .int .i64 0, .int .i64 0]) ?_ 1 _ rfl;(with_reducible repeat(first|refine blk_drewN ?_ _|refine blk_drew ?_|refine blk_alloc ?_ _));refine blk_put (cs:= #[.int .i64 0, .int .i64 0, .int .i64 0, .int .i64 0]) ?_ 0 _ rfl;(with_reducible repeat(first|refine blk_drewN ?_ _|refine blk_drew ?_|refine blk_alloc ?_ _));exact BK182.out) hb);have n2_:=Aside0.mk (below_step (by repeat(first|(with_reducible first|exact HB.out|apply below_alloc|apply pw_below_drewN|apply below_drew1|refine below_set ?_ GE179.out|refine below_set ?_ GE182.out)|exact HB.out)) hb);clear BK179;clear BK182;clear HB;have BK179:=n0_;have BK182:=n1_;have HB:=n2_;clear n0_ n1_ n2_;(try clear hb);(try clear hb2);(try clear hk);(try clear hi)))
   go_roundg k1
   case measure=>have:=HK1.out;omega
   case rel=>exact⟨(wrap64 (x20_1+1)),(by first|rfl|(simp;done)|(simp[*];done)),H',⟨by have:=HK1.out;omega⟩,⟨BK179.out⟩,⟨HB.out⟩⟩
end Go.Proofs.Ytkcpanpdipmmmaa.P
namespace Go.Proofs.Ytkcpanpdipmmmaa.P
open Go.RowKit Go.Proofs.YtkcpanpdipmmmaaW.PrintWords Go.Proofs.YtkcpanpdipmmmaaW.PrintLast Go.Proofs.YtkcpanpdipmmmaaW.PrintMore
attribute [local go_sem] max2_int min2_int max_two min_two max_three min_three max_four min_four
def static_Ends.f (k:Nat) (a0_0:Int) (a0_1:Bool) (l0_2:List (S74)) (a1:Int) (a2:Int):Option (Int):=(netfmt_Check.f k a0_0 a0_1 l0_2).bind fun t491=>(if t491=0 then(if (mn a1 a2)<0 then(some 70) else(if (mx a1 a2)≥a0_0 then(some 70) else(if a1=a2 then(some 70) else(some 0)))) else(some t491))
set_option maxHeartbeats 8000000 in
set_option maxRecDepth 100000 in
theorem static_Ends.calls (k:Nat) (a0_0:Int) (a0_1:Bool) (A0_2:Option Addr) (c0_2:Nat) (l0_2:List (S74)) (a1:Int) (a2:Int) (r:Int) (w:World) (hr0_2:Kd.C k74 w A0_2 l0_2.length l0_2) (hc0_2:l0_2.length≤c0_2) (h:static_Ends.f k a0_0 a0_1 l0_2 a1 a2=some r):
  Calls Try.prog 111 #[.agg #[.int .i64 a0_0, .bool a0_1, .slice A0_2 l0_2.length c0_2], .int .i64 a1, .int .i64 a2] w fun e w'=>e= .returned (.int .i64 r)∧Below w.heap.size w w':=by
 have hu24:=Try.underlying24
 have HR0_2:=Aside0.mk hr0_2
 have HC0_2:=Aside0.mk hc0_2
 clear hr0_2 hc0_2
 have HB:=Aside0.mk (Below.refl w.heap.size w)
 have H:((netfmt_Check.f k a0_0 a0_1 l0_2).bind fun t491=>(if t491=0 then(if (mn a1 a2)<0 then(some 70) else(if (mx a1 a2)≥a0_0 then(some 70) else(if a1=a2 then(some 70) else(some 0)))) else(some t491)))=some r:=h
 clear h
 replace H:=Option.bind_eq_some_iff.mp H
 obtain⟨t491,A40,H⟩:=H
 replace H:(if t491=0 then(if (mn a1 a2)<0 then(some 70) else(if (mx a1 a2)≥a0_0 then(some 70) else(if a1=a2 then(some 70) else(some 0)))) else(some t491))=some r:=H
 have A4:=Aside0.mk A40
 clear A40
 by_cases c5:t491=0
 rotate_left
 ·rw[if_neg c5] at H
  have c5b0:(t491 == 0)=false:=beq_eq_false_iff_ne.mpr c5
  have c5b1:(t491 != 0)=true:=bne_iff_ne.mpr c5
  obtain rfl:=Option.some.inj H
  go_enter Try.func111,Try.ntmps111
  go_wp2_with (first|((with_reducible refine gate_dst (N:=3) rfl ?_);(try (refine gate_guard (by rfl) ?_;dsimp only));refine box_event ?hg (N:=3) ?hd (cs:= #[.int .i64 a0_0, .bool a0_1, .slice A0_2 l0_2.length c0_2]) (t:=24) ?hr ?_;(case hd=>rfl);(case hg=>rfl);(case hr=>first|(go_simp;done)|(go_simp;rfl));intro gb490 hg w26 hbox hb;have n0_:=Aside0.mk (below_step (by repeat(first|(with_reducible first|exact HB.out|apply below_alloc|apply pw_below_drewN|apply below_drew1)|exact HB.out)) hb);have n1_:=Aside0.mk (hbox);have n2_:=Aside0.mk ((by rw[hg];exact(below_size (by repeat(first|(with_reducible first|exact HB.out|apply below_alloc|apply pw_below_drewN|apply below_drew1)|exact HB.out))):w.heap.size≤gb490));have n3_:=Aside0.mk ((by rw[hg];exact(below_size (by repeat(first|(with_reducible first|exact HB.out|apply below_alloc|apply pw_below_drewN|apply below_drew1)|exact HB.out))):w.heap.size≤gb490));clear HB;have HB:=n0_;have BK490:=n1_;have GW490:=n2_;have GE490:=n3_;clear n0_ n1_ n2_ n3_;clear hb hbox hg;have hcz27_0:w26.cell? ⟨gb490,0,none⟩=some (.int .i64 a0_0):=(blk_cell BK490.out 0).trans rfl;have hcz27_1:w26.cell? ⟨gb490,1,none⟩=some (.bool a0_1):=(blk_cell BK490.out 1).trans rfl;have hcz27_2:w26.cell? ⟨gb490,2,none⟩=some (.slice A0_2 l0_2.length c0_2):=(blk_cell BK490.out 2).trans rfl;have hfz27_0:=blk_frozen BK490.out 0;have hfz27_1:=blk_frozen BK490.out 1;have hfz27_2:=blk_frozen BK490.out 2)|((with_reducible refine gate_callee (f:=127) rfl ?_);refine goesL_ (some 9) rfl rfl Try.func127 (by kernel_rfl) rfl #[.agg #[.int .i64 a0_0, .bool a0_1, .slice A0_2 l0_2.length c0_2]] rfl (by(try simp only[List.map_toArray,List.map_cons,List.map_nil]);first|done|rfl|(simp only[List.length_drop,List.length_take];rfl)) ?_;(with_reducible refine(netfmt_Check.calls k a0_0 a0_1 _ _ l0_2 t491 _ ?side1 ?side2 A4.out).mono ?_);(case side1=>repeat(first|exact(Kd.C_below HR0_2.out HB.out)|(with_reducible refine Kd.C_alloc ?_ _)|(with_reducible refine Kd.C_drewN ?_ _)|(with_reducible refine Kd.C_drew ?_)));(case side2=>exact HC0_2.out);rintro e w28 ⟨rfl,hb⟩;refine⟨_,rfl,?_⟩;have n0_:=Aside0.mk (blk_below (g:=gb490) (o:= .cells #[.int .i64 a0_0, .bool a0_1, .slice A0_2 l0_2.length c0_2] 24 (0,0)) (by(with_reducible repeat(first|refine blk_drewN ?_ _|refine blk_drew ?_|refine blk_alloc ?_ _));exact BK490.out) hb);have n1_:=Aside0.mk (below_step (by repeat(first|(with_reducible first|exact HB.out|apply below_alloc|apply pw_below_drewN|apply below_drew1|refine below_set ?_ GE490.out)|exact HB.out)) hb);clear BK490;clear HB;have BK490:=n0_;have HB:=n1_;clear n0_ n1_;(try clear hb);(try clear hb2);(try clear hk);(try clear hi)))
  go_ret
  exact⟨by first|rfl|(simp[errW_none,errW_some]<;>rfl)|(simp[*,errW_none,errW_some]<;>rfl),by repeat(first|(with_reducible first|exact HB.out|apply below_alloc|apply pw_below_drewN|apply below_drew1|refine below_set ?_ GE490.out)|exact HB.out)⟩
 rw[if_pos c5] at H
 have c5b0:(t491 == 0)=true:=beq_iff_eq.mpr c5
 have c5b1:(t491 != 0)=false:=bne_eq_false_iff_eq.mpr c5
 clear c5
 obtain⟨ji6,hji6⟩: ∃ j_:Int,(mn a1 a2)=j_:=⟨_,rfl⟩
 replace H:(if (ji6)<0 then(some 70) else(if (mx a1 a2)≥a0_0 then(some 70) else(if a1=a2 then(some 70) else(some 0))))=some r:=by first|(rw[hji6] at H;exact H)|(simp only[hji6] at H ⊢;exact H)
 (try rw[hji6] at A4)
 have hji6_:(if a2<a1 then a2 else a1)=ji6:=hji6
 by_cases c7:(ji6)<0
 ·rw[if_pos c7] at H
  have c7b0:decide ((ji6)<0)=true:=decide_eq_true c7
  clear c7
  obtain rfl:=Option.some.inj H
  go_enter Try.func111,Try.ntmps111
  go_wp2_with (first|((with_reducible refine gate_dst (N:=3) rfl ?_);(try (refine gate_guard (by rfl) ?_;dsimp only));refine box_event ?hg (N:=3) ?hd (cs:= #[.int .i64 a0_0, .bool a0_1, .slice A0_2 l0_2.length c0_2]) (t:=24) ?hr ?_;(case hd=>rfl);(case hg=>rfl);(case hr=>first|(go_simp;done)|(go_simp;rfl));intro gb490 hg w8 hbox hb;have n0_:=Aside0.mk (below_step (by repeat(first|(with_reducible first|exact HB.out|apply below_alloc|apply pw_below_drewN|apply below_drew1)|exact HB.out)) hb);have n1_:=Aside0.mk (hbox);have n2_:=Aside0.mk ((by rw[hg];exact(below_size (by repeat(first|(with_reducible first|exact HB.out|apply below_alloc|apply pw_below_drewN|apply below_drew1)|exact HB.out))):w.heap.size≤gb490));have n3_:=Aside0.mk ((by rw[hg];exact(below_size (by repeat(first|(with_reducible first|exact HB.out|apply below_alloc|apply pw_below_drewN|apply below_drew1)|exact HB.out))):w.heap.size≤gb490));clear HB;have HB:=n0_;have BK490:=n1_;have GW490:=n2_;have GE490:=n3_;clear n0_ n1_ n2_ n3_;clear hb hbox hg;have hcz9_0:w8.cell? ⟨gb490,0,none⟩=some (.int .i64 a0_0):=(blk_cell BK490.out 0).trans rfl;have hcz9_1:w8.cell? ⟨gb490,1,none⟩=some (.bool a0_1):=(blk_cell BK490.out 1).trans rfl;have hcz9_2:w8.cell? ⟨gb490,2,none⟩=some (.slice A0_2 l0_2.length c0_2):=(blk_cell BK490.out 2).trans rfl;have hfz9_0:=blk_frozen BK490.out 0;have hfz9_1:=blk_frozen BK490.out 1;have hfz9_2:=blk_frozen BK490.out 2)|((with_reducible refine gate_callee (f:=127) rfl ?_);refine goesL_ (some 9) rfl rfl Try.func127 (by kernel_rfl) rfl #[.agg #[.int .i64 a0_0, .bool a0_1, .slice A0_2 l0_2.length c0_2]] rfl (by(try simp only[List.map_toArray,List.map_cons,List.map_nil]);first|done|rfl|(simp only[List.length_drop,List.length_take];rfl)) ?_;(with_reducible refine(netfmt_Check.calls k a0_0 a0_1 _ _ l0_2 t491 _ ?side1 ?side2 A4.out).mono ?_);(case side1=>repeat(first|exact(Kd.C_below HR0_2.out HB.out)|(with_reducible refine Kd.C_alloc ?_ _)|(with_reducible refine Kd.C_drewN ?_ _)|(with_reducible refine Kd.C_drew ?_)));(case side2=>exact HC0_2.out);rintro e w10 ⟨rfl,hb⟩;refine⟨_,rfl,?_⟩;have n0_:=Aside0.mk (blk_below (g:=gb490) (o:= .cells #[.int .i64 a0_0, .bool a0_1, .slice A0_2 l0_2.length c0_2] 24 (0,0)) (by(with_reducible repeat(first|refine blk_drewN ?_ _|refine blk_drew ?_|refine blk_alloc ?_ _));exact BK490.out) hb);have n1_:=Aside0.mk (below_step (by repeat(first|(with_reducible first|exact HB.out|apply below_alloc|apply pw_below_drewN|apply below_drew1|refine below_set ?_ GE490.out)|exact HB.out)) hb);clear BK490;clear HB;have BK490:=n0_;have HB:=n1_;clear n0_ n1_;(try clear hb);(try clear hb2);(try clear hk);(try clear hi)))
  go_ret
  exact⟨by first|rfl|(simp[errW_none,errW_some]<;>rfl)|(simp only[← hji6];first|rfl|(simp[errW_none,errW_some]<;>rfl))|(simp[*,errW_none,errW_some]<;>rfl),by repeat(first|(with_reducible first|exact HB.out|apply below_alloc|apply pw_below_drewN|apply below_drew1|refine below_set ?_ GE490.out)|exact HB.out)⟩
 rw[if_neg c7] at H
 have c7b0:decide ((ji6)<0)=false:=decide_eq_false c7
 clear c7
 obtain⟨ji11,hji11⟩: ∃ j_:Int,(mx a1 a2)=j_:=⟨_,rfl⟩
 replace H:(if (ji11)≥a0_0 then(some 70) else(if a1=a2 then(some 70) else(some 0)))=some r:=by first|(rw[hji11] at H;exact H)|(simp only[hji11] at H ⊢;exact H)
 (try rw[hji11] at A4)
 have hji11_:(if a1<a2 then a2 else a1)=ji11:=hji11
 by_cases c12:(ji11)≥a0_0
 ·rw[if_pos c12] at H
  have c12b0:decide (a0_0≤(ji11))=true:=decide_eq_true c12
  clear c12
  obtain rfl:=Option.some.inj H
  go_enter Try.func111,Try.ntmps111
  go_wp2_with (first|((with_reducible refine gate_dst (N:=3) rfl ?_);(try (refine gate_guard (by rfl) ?_;dsimp only));refine box_event ?hg (N:=3) ?hd (cs:= #[.int .i64 a0_0, .bool a0_1, .slice A0_2 l0_2.length c0_2]) (t:=24) ?hr ?_;(case hd=>rfl);(case hg=>rfl);(case hr=>first|(go_simp;done)|(go_simp;rfl));intro gb490 hg w13 hbox hb;have n0_:=Aside0.mk (below_step (by repeat(first|(with_reducible first|exact HB.out|apply below_alloc|apply pw_below_drewN|apply below_drew1)|exact HB.out)) hb);have n1_:=Aside0.mk (hbox);have n2_:=Aside0.mk ((by rw[hg];exact(below_size (by repeat(first|(with_reducible first|exact HB.out|apply below_alloc|apply pw_below_drewN|apply below_drew1)|exact HB.out))):w.heap.size≤gb490));have n3_:=Aside0.mk ((by rw[hg];exact(below_size (by repeat(first|(with_reducible first|exact HB.out|apply below_alloc|apply pw_below_drewN|apply below_drew1)|exact HB.out))):w.heap.size≤gb490));clear HB;have HB:=n0_;have BK490:=n1_;have GW490:=n2_;have GE490:=n3_;clear n0_ n1_ n2_ n3_;clear hb hbox hg;have hcz14_0:w13.cell? ⟨gb490,0,none⟩=some (.int .i64 a0_0):=(blk_cell BK490.out 0).trans rfl;have hcz14_1:w13.cell? ⟨gb490,1,none⟩=some (.bool a0_1):=(blk_cell BK490.out 1).trans rfl;have hcz14_2:w13.cell? ⟨gb490,2,none⟩=some (.slice A0_2 l0_2.length c0_2):=(blk_cell BK490.out 2).trans rfl;have hfz14_0:=blk_frozen BK490.out 0;have hfz14_1:=blk_frozen BK490.out 1;have hfz14_2:=blk_frozen BK490.out 2)|((with_reducible refine gate_callee (f:=127) rfl ?_);refine goesL_ (some 9) rfl rfl Try.func127 (by kernel_rfl) rfl #[.agg #[.int .i64 a0_0, .bool a0_1, .slice A0_2 l0_2.length c0_2]] rfl (by(try simp only[List.map_toArray,List.map_cons,List.map_nil]);first|done|rfl|(simp only[List.length_drop,List.length_take];rfl)) ?_;(with_reducible refine(netfmt_Check.calls k a0_0 a0_1 _ _ l0_2 t491 _ ?side1 ?side2 A4.out).mono ?_);(case side1=>repeat(first|exact(Kd.C_below HR0_2.out HB.out)|(with_reducible refine Kd.C_alloc ?_ _)|(with_reducible refine Kd.C_drewN ?_ _)|(with_reducible refine Kd.C_drew ?_)));(case side2=>exact HC0_2.out);rintro e w15 ⟨rfl,hb⟩;refine⟨_,rfl,?_⟩;have n0_:=Aside0.mk (blk_below (g:=gb490) (o:= .cells #[.int .i64 a0_0, .bool a0_1, .slice A0_2 l0_2.length c0_2] 24 (0,0)) (by(with_reducible repeat(first|refine blk_drewN ?_ _|refine blk_drew ?_|refine blk_alloc ?_ _));exact BK490.out) hb);have n1_:=Aside0.mk (below_step (by repeat(first|(with_reducible first|exact HB.out|apply below_alloc|apply pw_below_drewN|apply below_drew1|refine below_set ?_ GE490.out)|exact HB.out)) hb);clear BK490;clear HB;have BK490:=n0_;have HB:=n1_;clear n0_ n1_;(try clear hb);(try clear hb2);(try clear hk);(try clear hi);have hcz16_0:w15.cell? ⟨gb490,0,none⟩=some (.int .i64 a0_0):=(blk_cell BK490.out 0).trans rfl;have hcz16_1:w15.cell? ⟨gb490,1,none⟩=some (.bool a0_1):=(blk_cell BK490.out 1).trans rfl;have hcz16_2:w15.cell? ⟨gb490,2,none⟩=some (.slice A0_2 l0_2.length c0_2):=(blk_cell BK490.out 2).trans rfl;have hfz16_0:=blk_frozen BK490.out 0;have hfz16_1:=blk_frozen BK490.out 1;have hfz16_2:=blk_frozen BK490.out 2))
  go_ret
  exact⟨by first|rfl|(simp[errW_none,errW_some]<;>rfl)|(simp only[← hji6, ← hji11];first|rfl|(simp[errW_none,errW_some]<;>rfl))|(simp[*,errW_none,errW_some]<;>rfl),by repeat(first|(with_reducible first|exact HB.out|apply below_alloc|apply pw_below_drewN|apply below_drew1|refine below_set ?_ GE490.out)|exact HB.out)⟩
 rw[if_neg c12] at H
 have c12b0:decide (a0_0≤(ji11))=false:=decide_eq_false c12
 clear c12
 by_cases c17:a1=a2
 rotate_left
 ·rw[if_neg c17] at H
  have c17b0:(a1 == a2)=false:=beq_eq_false_iff_ne.mpr c17
  have c17b1:(a1 != a2)=true:=bne_iff_ne.mpr c17
  obtain rfl:=Option.some.inj H
  go_enter Try.func111,Try.ntmps111
  go_wp2_with (first|((with_reducible refine gate_dst (N:=3) rfl ?_);(try (refine gate_guard (by rfl) ?_;dsimp only));refine box_event ?hg (N:=3) ?hd (cs:= #[.int .i64 a0_0, .bool a0_1, .slice A0_2 l0_2.length c0_2]) (t:=24) ?hr ?_;(case hd=>rfl);(case hg=>rfl);(case hr=>first|(go_simp;done)|(go_simp;rfl));intro gb490 hg w22 hbox hb;have n0_:=Aside0.mk (below_step (by repeat(first|(with_reducible first|exact HB.out|apply below_alloc|apply pw_below_drewN|apply below_drew1)|exact HB.out)) hb);have n1_:=Aside0.mk (hbox);have n2_:=Aside0.mk ((by rw[hg];exact(below_size (by repeat(first|(with_reducible first|exact HB.out|apply below_alloc|apply pw_below_drewN|apply below_drew1)|exact HB.out))):w.heap.size≤gb490));have n3_:=Aside0.mk ((by rw[hg];exact(below_size (by repeat(first|(with_reducible first|exact HB.out|apply below_alloc|apply pw_below_drewN|apply below_drew1)|exact HB.out))):w.heap.size≤gb490));clear HB;have HB:=n0_;have BK490:=n1_;have GW490:=n2_;have GE490:=n3_;clear n0_ n1_ n2_ n3_;clear hb hbox hg;have hcz23_0:w22.cell? ⟨gb490,0,none⟩=some (.int .i64 a0_0):=(blk_cell BK490.out 0).trans rfl;have hcz23_1:w22.cell? ⟨gb490,1,none⟩=some (.bool a0_1):=(blk_cell BK490.out 1).trans rfl;have hcz23_2:w22.cell? ⟨gb490,2,none⟩=some (.slice A0_2 l0_2.length c0_2):=(blk_cell BK490.out 2).trans rfl;have hfz23_0:=blk_frozen BK490.out 0;have hfz23_1:=blk_frozen BK490.out 1;have hfz23_2:=blk_frozen BK490.out 2)|((with_reducible refine gate_callee (f:=127) rfl ?_);refine goesL_ (some 9) rfl rfl Try.func127 (by kernel_rfl) rfl #[.agg #[.int .i64 a0_0, .bool a0_1, .slice A0_2 l0_2.length c0_2]] rfl (by(try simp only[List.map_toArray,List.map_cons,List.map_nil]);first|done|rfl|(simp only[List.length_drop,List.length_take];rfl)) ?_;(with_reducible refine(netfmt_Check.calls k a0_0 a0_1 _ _ l0_2 t491 _ ?side1 ?side2 A4.out).mono ?_);(case side1=>repeat(first|exact(Kd.C_below HR0_2.out HB.out)|(with_reducible refine Kd.C_alloc ?_ _)|(with_reducible refine Kd.C_drewN ?_ _)|(with_reducible refine Kd.C_drew ?_)));(case side2=>exact HC0_2.out);rintro e w24 ⟨rfl,hb⟩;refine⟨_,rfl,?_⟩;have n0_:=Aside0.mk (blk_below (g:=gb490) (o:= .cells #[.int .i64 a0_0, .bool a0_1, .slice A0_2 l0_2.length c0_2] 24 (0,0)) (by(with_reducible repeat(first|refine blk_drewN ?_ _|refine blk_drew ?_|refine blk_alloc ?_ _));exact BK490.out) hb);have n1_:=Aside0.mk (below_step (by repeat(first|(with_reducible first|exact HB.out|apply below_alloc|apply pw_below_drewN|apply below_drew1|refine below_set ?_ GE490.out)|exact HB.out)) hb);clear BK490;clear HB;have BK490:=n0_;have HB:=n1_;clear n0_ n1_;(try clear hb);(try clear hb2);(try clear hk);(try clear hi);have hcz25_0:w24.cell? ⟨gb490,0,none⟩=some (.int .i64 a0_0):=(blk_cell BK490.out 0).trans rfl;have hcz25_1:w24.cell? ⟨gb490,1,none⟩=some (.bool a0_1):=(blk_cell BK490.out 1).trans rfl;have hcz25_2:w24.cell? ⟨gb490,2,none⟩=some (.slice A0_2 l0_2.length c0_2):=(blk_cell BK490.out 2).trans rfl;have hfz25_0:=blk_frozen BK490.out 0;have hfz25_1:=blk_frozen BK490.out 1;have hfz25_2:=blk_frozen BK490.out 2))
  go_ret
  exact⟨by first|rfl|(simp[errW_none,errW_some]<;>rfl)|(simp only[← hji6, ← hji11];first|rfl|(simp[errW_none,errW_some]<;>rfl))|(simp[*,errW_none,errW_some]<;>rfl),by repeat(first|(with_reducible first|exact HB.out|apply below_alloc|apply pw_below_drewN|apply below_drew1|refine below_set ?_ GE490.out)|exact HB.out)⟩
 rw[if_pos c17] at H
 have c17b0:(a1 == a2)=true:=beq_iff_eq.mpr c17
 have c17b1:(a1 != a2)=false:=bne_eq_false_iff_eq.mpr c17
 clear c17
 obtain rfl:=Option.some.inj H
 go_enter Try.func111,Try.ntmps111
 go_wp2_with (first|((with_reducible refine gate_dst (N:=3) rfl ?_);(try (refine gate_guard (by rfl) ?_;dsimp only));refine box_event ?hg (N:=3) ?hd (cs:= #[.int .i64 a0_0, .bool a0_1, .slice A0_2 l0_2.length c0_2]) (t:=24) ?hr ?_;(case hd=>rfl);(case hg=>rfl);(case hr=>first|(go_simp;done)|(go_simp;rfl));intro gb490 hg w18 hbox hb;have n0_:=Aside0.mk (below_step (by repeat(first|(with_reducible first|exact HB.out|apply below_alloc|apply pw_below_drewN|apply below_drew1)|exact HB.out)) hb);have n1_:=Aside0.mk (hbox);have n2_:=Aside0.mk ((by rw[hg];exact(below_size (by repeat(first|(with_reducible first|exact HB.out|apply below_alloc|apply pw_below_drewN|apply below_drew1)|exact HB.out))):w.heap.size≤gb490));have n3_:=Aside0.mk ((by rw[hg];exact(below_size (by repeat(first|(with_reducible first|exact HB.out|apply below_alloc|apply pw_below_drewN|apply below_drew1)|exact HB.out))):w.heap.size≤gb490));clear HB;have HB:=n0_;have BK490:=n1_;have GW490:=n2_;have GE490:=n3_;clear n0_ n1_ n2_ n3_;clear hb hbox hg;have hcz19_0:w18.cell? ⟨gb490,0,none⟩=some (.int .i64 a0_0):=(blk_cell BK490.out 0).trans rfl;have hcz19_1:w18.cell? ⟨gb490,1,none⟩=some (.bool a0_1):=(blk_cell BK490.out 1).trans rfl;have hcz19_2:w18.cell? ⟨gb490,2,none⟩=some (.slice A0_2 l0_2.length c0_2):=(blk_cell BK490.out 2).trans rfl;have hfz19_0:=blk_frozen BK490.out 0;have hfz19_1:=blk_frozen BK490.out 1;have hfz19_2:=blk_frozen BK490.out 2)|((with_reducible refine gate_callee (f:=127) rfl ?_);refine goesL_ (some 9) rfl rfl Try.func127 (by kernel_rfl) rfl #[.agg #[.int .i64 a0_0, .bool a0_1, .slice A0_2 l0_2.length c0_2]] rfl (by(try simp only[List.map_toArray,List.map_cons,List.map_nil]);first|done|rfl|(simp only[List.length_drop,List.length_take];rfl)) ?_;(with_reducible refine(netfmt_Check.calls k a0_0 a0_1 _ _ l0_2 t491 _ ?side1 ?side2 A4.out).mono ?_);(case side1=>repeat(first|exact(Kd.C_below HR0_2.out HB.out)|(with_reducible refine Kd.C_alloc ?_ _)|(with_reducible refine Kd.C_drewN ?_ _)|(with_reducible refine Kd.C_drew ?_)));(case side2=>exact HC0_2.out);rintro e w20 ⟨rfl,hb⟩;refine⟨_,rfl,?_⟩;have n0_:=Aside0.mk (blk_below (g:=gb490) (o:= .cells #[.int .i64 a0_0, .bool a0_1, .slice A0_2 l0_2.length c0_2] 24 (0,0)) (by(with_reducible repeat(first|refine blk_drewN ?_ _|refine blk_drew ?_|refine blk_alloc ?_ _));exact BK490.out) hb);have n1_:=Aside0.mk (below_step (by repeat(first|(with_reducible first|exact HB.out|apply below_alloc|apply pw_below_drewN|apply below_drew1|refine below_set ?_ GE490.out)|exact HB.out)) hb);clear BK490;clear HB;have BK490:=n0_;have HB:=n1_;clear n0_ n1_;(try clear hb);(try clear hb2);(try clear hk);(try clear hi);have hcz21_0:w20.cell? ⟨gb490,0,none⟩=some (.int .i64 a0_0):=(blk_cell BK490.out 0).trans rfl;have hcz21_1:w20.cell? ⟨gb490,1,none⟩=some (.bool a0_1):=(blk_cell BK490.out 1).trans rfl;have hcz21_2:w20.cell? ⟨gb490,2,none⟩=some (.slice A0_2 l0_2.length c0_2):=(blk_cell BK490.out 2).trans rfl;have hfz21_0:=blk_frozen BK490.out 0;have hfz21_1:=blk_frozen BK490.out 1;have hfz21_2:=blk_frozen BK490.out 2))
 go_ret
 exact⟨by first|rfl|(simp[errW_none,errW_some]<;>rfl)|(simp only[← hji6, ← hji11];first|rfl|(simp[errW_none,errW_some]<;>rfl))|(simp[*,errW_none,errW_some]<;>rfl),by repeat(first|(with_reducible first|exact HB.out|apply below_alloc|apply pw_below_drewN|apply below_drew1|refine below_set ?_ GE490.out)|exact HB.out)⟩
end Go.Proofs.Ytkcpanpdipmmmaa.P
namespace Go.Proofs.Ytkcpanpdipmmmaa.P
open Go.RowKit Go.Proofs.YtkcpanpdipmmmaaW.PrintWords Go.Proofs.YtkcpanpdipmmmaaW.PrintLast Go.Proofs.YtkcpanpdipmmmaaW.PrintMore
attribute [local go_sem] max2_int min2_int max_two min_two max_three min_three max_four min_four
def maxflow_Value.l0:Nat→Int→List Int→Int→List (S74)→Int→Int→Option (Int)
 |0,_,_,_,_,_,_=>none
 |k+1,x1,x2,x7,x11,x12,x13=>if x13<x12 then(if 0≤x13 then(if x13<(x11.length:Int) then(if ((rd_T74 x11 x13).f0)=x1 then(if x13<(x2.length:Int) then(if ((rd_T74 x11 x13).f1)=x1 then(maxflow_Value.l0 k x1 x2 (wrap64 ((wrap64 (x7+(rd x2 x13))) - (rd x2 x13))) x11 x12 (wrap64 (x13+1))) else(maxflow_Value.l0 k x1 x2 (wrap64 (x7+(rd x2 x13))) x11 x12 (wrap64 (x13+1)))) else(none)) else(if ((rd_T74 x11 x13).f1)=x1 then(if x13<(x2.length:Int) then(maxflow_Value.l0 k x1 x2 (wrap64 (x7 - (rd x2 x13))) x11 x12 (wrap64 (x13+1))) else(none)) else(maxflow_Value.l0 k x1 x2 x7 x11 x12 (wrap64 (x13+1))))) else(none)) else(none)) else(some x7)
def maxflow_Value.f (k:Nat) (a0_0:Int) (a0_1:Bool) (l0_2:List (S74)) (a1:Int) (l2:List Int):Option (Int):=maxflow_Value.l0 k a1 l2 0 l0_2 (l0_2.length:Int) 0
set_option maxHeartbeats 8000000 in
set_option maxRecDepth 100000 in
theorem maxflow_Value.calls (k:Nat) (a0_0:Int) (a0_1:Bool) (A0_2:Option Addr) (c0_2:Nat) (l0_2:List (S74)) (a1:Int) (A2:Option Addr) (c2:Nat) (l2:List Int) (r:Int) (w:World) (hr0_2:Kd.C k74 w A0_2 l0_2.length l0_2) (hc0_2:l0_2.length≤c0_2) (hr2:Kd.C (Kd.int .i64) w A2 l2.length l2) (hc2:l2.length≤c2) (h:maxflow_Value.f k a0_0 a0_1 l0_2 a1 l2=some r):
  Calls Try.prog 119 #[.agg #[.int .i64 a0_0, .bool a0_1, .slice A0_2 l0_2.length c0_2], .int .i64 a1, .slice A2 l2.length c2] w fun e w'=>e= .returned (.int .i64 r)∧Below w.heap.size w w':=by
 have hu24:=Try.underlying24
 have hu74:=Try.underlying74
 have HR0_2:=Aside0.mk hr0_2
 have HC0_2:=Aside0.mk hc0_2
 clear hr0_2 hc0_2
 have HR2:=Aside0.mk hr2
 have HC2:=Aside0.mk hc2
 clear hr2 hc2
 have HB:=Aside0.mk (Below.refl w.heap.size w)
 have H:(maxflow_Value.l0 k a1 l2 0 l0_2 (l0_2.length:Int) 0)=some r:=h
 clear h
 have H':=Aside0.mk H
 clear H
 go_enter Try.func119,Try.ntmps119
 go_wp2_with (first|((with_reducible refine gate_dst (N:=3) rfl ?_);refine box_event ?hg (N:=3) ?hd (cs:= #[.int .i64 a0_0, .bool a0_1, .slice A0_2 l0_2.length c0_2]) (t:=24) ?hr ?_;(case hd=>rfl);(case hg=>rfl);(case hr=>first|(go_simp;done)|(go_simp;rfl));intro gb758 hg w4 hbox hb;have n0_:=Aside0.mk (below_step HB.out hb);have n1_:=Aside0.mk (hbox);have n2_:=Aside0.mk ((by rw[hg];exact(below_size HB.out):w.heap.size≤gb758));have n3_:=Aside0.mk ((by rw[hg];exact(below_size HB.out):w.heap.size≤gb758));clear HB;have HB:=n0_;have BK758:=n1_;have GW758:=n2_;have GE758:=n3_;clear n0_ n1_ n2_ n3_;clear hb hbox hg;have hcz5_0:w4.cell? ⟨gb758,0,none⟩=some (.int .i64 a0_0):=(blk_cell BK758.out 0).trans rfl;have hcz5_1:w4.cell? ⟨gb758,1,none⟩=some (.bool a0_1):=(blk_cell BK758.out 1).trans rfl;have hcz5_2:w4.cell? ⟨gb758,2,none⟩=some (.slice A0_2 l0_2.length c0_2):=(blk_cell BK758.out 2).trans rfl;have hfz5_0:=blk_frozen BK758.out 0;have hfz5_1:=blk_frozen BK758.out 1;have hfz5_2:=blk_frozen BK758.out 2))
 go_loopg [7,13] k (fun kq v7 v13 w'=> ∃ (x7_1:Int) (x13_1:Int),v7= .int .i64 x7_1∧v13= .int .i64 x13_1∧Aside0 (maxflow_Value.l0 kq a1 l2 x7_1 l0_2 (l0_2.length:Int) x13_1=some r)∧Aside0 (kq≤k)∧Aside0 (w'.heap[gb758]? =some (.cells #[.int .i64 a0_0, .bool a0_1,(.slice A0_2 l0_2.length c0_2)] 24 (0,0)))∧Aside0 (Below w.heap.size w w'))
 case atStart=>exact⟨(0),(0),(by first|rfl|(simp;done)|(simp[*];done)),(by first|rfl|(simp;done)|(simp[*];done)),H',⟨Nat.le_refl _⟩,⟨BK758.out⟩,⟨HB.out⟩⟩
 case round=>
  clear H'
  try clear c1
  try clear c2
  try clear p2
  try clear hcz5_0
  try clear hcz5_1
  try clear hcz5_2
  try clear hfz5_0
  try clear hfz5_1
  try clear hfz5_2
  obtain⟨x7_1,x13_1,rfl,rfl,HA,HK1,BK758,HB⟩:=hrel
  cases gk with
  |zero=>exact absurd HA.out (by simp[maxflow_Value.l0])
  |succ k1=>
   have H:=HA.out
   clear HA
   simp only[maxflow_Value.l0] at H
   by_cases c6:x13_1<(l0_2.length:Int)
   rotate_left
   ·rw[if_neg c6] at H
    have c6b0:decide (x13_1<(l0_2.length:Int))=false:=decide_eq_false c6
    clear c6
    obtain rfl:=Option.some.inj H
    go_wp2
    go_ret
    exact⟨by first|rfl|(simp[errW_none,errW_some]<;>rfl)|(simp[*,errW_none,errW_some]<;>rfl),HB.out⟩
   rw[if_pos c6] at H
   have c6b0:decide (x13_1<(l0_2.length:Int))=true:=decide_eq_true c6
   clear c6
   by_cases c7:0≤x13_1
   rotate_left
   ·rw[if_neg c7] at H
    exact absurd H (by simp)
   rw[if_pos c7] at H
   have c7b0:decide (0≤x13_1)=true:=decide_eq_true c7
   clear c7
   by_cases c8:x13_1<(l0_2.length:Int)
   rotate_left
   ·rw[if_neg c8] at H
    exact absurd H (by simp)
   rw[if_pos c8] at H
   have c8b0:decide (x13_1<(l0_2.length:Int))=true:=decide_eq_true c8
   clear c8
   by_cases c9:((rd_T74 l0_2 x13_1).f0)=a1
   rotate_left
   ·rw[if_neg c9] at H
    have c9b0:(((rd_T74 l0_2 x13_1).f0) == a1)=false:=beq_eq_false_iff_ne.mpr c9
    have c9b1:(((rd_T74 l0_2 x13_1).f0) != a1)=true:=bne_iff_ne.mpr c9
    by_cases c18:((rd_T74 l0_2 x13_1).f1)=a1
    rotate_left
    ·rw[if_neg c18] at H
     have c18b0:(((rd_T74 l0_2 x13_1).f1) == a1)=false:=beq_eq_false_iff_ne.mpr c18
     have c18b1:(((rd_T74 l0_2 x13_1).f1) != a1)=true:=bne_iff_ne.mpr c18
     have H':=Aside0.mk H
     clear H
     have p759:0≤(x13_1:Int):=of_decide_eq_true (by first|(with_reducible assumption)|assumption)
     have q759:x13_1<(l0_2.length:Int):=of_decide_eq_true (by first|(with_reducible assumption)|assumption)
     obtain⟨ad759,e759,hx759_0,hx759_1,hx759_2,hx759_3⟩:=at_T74 HR0_2.out x13_1 p759 q759
     cases e759
     replace hx759_0:=(HB.out.cell (World.block_lt_of_cell? w _ hx759_0)).trans hx759_0
     replace hx759_1:=(HB.out.cell (World.block_lt_of_cell? w _ hx759_1)).trans hx759_1
     replace hx759_2:=(HB.out.cell (World.block_lt_of_cell? w _ hx759_2)).trans hx759_2
     replace hx759_3:=(HB.out.cell (World.block_lt_of_cell? w _ hx759_3)).trans hx759_3
     replace p759:=eq_true p759
     replace q759:=eq_true q759
     go_wp2_with (first|((with_reducible refine gate_dst (N:=9) rfl ?_);refine box_event ?hg (N:=9) ?hd (cs:= #[.int .i64 0, .int .i64 0, .int .i64 0, .int .i64 0]) (t:=74) ?hr ?_;(case hd=>rfl);(case hg=>rfl);(case hr=>first|(go_simp;done)|(go_simp;rfl));intro gb760 hg w23 hbox hb;have n0_:=Aside0.mk (blk_below BK758.out hb);have n1_:=Aside0.mk (below_step HB.out hb);have n2_:=Aside0.mk (hbox);have n3_:=Aside0.mk ((by rw[hg];exact(below_size HB.out):w.heap.size≤gb760));have n4_:=Aside0.mk ((by rw[hg];exact(below_size HB.out):w.heap.size≤gb760));have n5_:=Aside0.mk ((by rw[hg];exact Nat.ne_of_lt (blk_lt BK758.out):gb758≠gb760));have n6_:=Aside0.mk ((by rw[hg];exact Nat.ne_of_gt (blk_lt BK758.out):gb760≠gb758));clear BK758;clear HB;have BK758:=n0_;have HB:=n1_;have BK760:=n2_;have GW760:=n3_;have GE760:=n4_;have NB758_760:=n5_;have NB760_758:=n6_;clear n0_ n1_ n2_ n3_ n4_ n5_ n6_;clear hb hbox hg;have hnb24:=NB760_758.out;have hnc24:=NB758_760.out;have hcz25_0:w23.cell? ⟨gb760,0,none⟩=some (.int .i64 0):=(blk_cell BK760.out 0).trans rfl;have hcz25_1:w23.cell? ⟨gb760,1,none⟩=some (.int .i64 0):=(blk_cell BK760.out 1).trans rfl;have hcz25_2:w23.cell? ⟨gb760,2,none⟩=some (.int .i64 0):=(blk_cell BK760.out 2).trans rfl;have hcz25_3:w23.cell? ⟨gb760,3,none⟩=some (.int .i64 0):=(blk_cell BK760.out 3).trans rfl;have hfz25_0:=blk_frozen BK760.out 0;have hfz25_1:=blk_frozen BK760.out 1;have hfz25_2:=blk_frozen BK760.out 2;have hfz25_3:=blk_frozen BK760.out 3))
     go_roundg k1
     case measure=>have:=HK1.out;omega
     case rel=>exact⟨(x7_1),(wrap64 (x13_1+1)),(by first|rfl|(simp;done)|(simp[*];done)),(by first|rfl|(simp;done)|(simp[*];done)),H',⟨by have:=HK1.out;omega⟩,⟨by(with_reducible repeat(first|refine blk_drewN ?_ _|refine blk_drew ?_|refine blk_alloc ?_ _));refine blk_far ?_ NB758_760.out _;(with_reducible repeat(first|refine blk_drewN ?_ _|refine blk_drew ?_|refine blk_alloc ?_ _));refine blk_far ?_ NB758_760.out _;(with_reducible repeat(first|refine blk_drewN ?_ _|refine blk_drew ?_|refine blk_alloc ?_ _));refine blk_far ?_ NB758_760.out _;(with_reducible repeat(first|refine blk_drewN ?_ _|refine blk_drew ?_|refine blk_alloc ?_ _));refine blk_far ?_ NB758_760.out _;(with_reducible repeat(first|refine blk_drewN ?_ _|refine blk_drew ?_|refine blk_alloc ?_ _));exact BK758.out⟩,⟨by repeat(first|(with_reducible first|exact HB.out|apply below_alloc|apply pw_below_drewN|apply below_drew1|refine below_set ?_ GE758.out|refine below_set ?_ GE760.out)|exact HB.out)⟩⟩
    rw[if_pos c18] at H
    have c18b0:(((rd_T74 l0_2 x13_1).f1) == a1)=true:=beq_iff_eq.mpr c18
    have c18b1:(((rd_T74 l0_2 x13_1).f1) != a1)=false:=bne_eq_false_iff_eq.mpr c18
    clear c18
    by_cases c19:x13_1<(l2.length:Int)
    rotate_left
    ·rw[if_neg c19] at H
     exact absurd H (by simp)
    rw[if_pos c19] at H
    have c19b0:decide (x13_1<(l2.length:Int))=true:=decide_eq_true c19
    clear c19
    have H':=Aside0.mk H
    clear H
    have p759:0≤(x13_1:Int):=of_decide_eq_true (by first|(with_reducible assumption)|assumption)
    have q759:x13_1<(l0_2.length:Int):=of_decide_eq_true (by first|(with_reducible assumption)|assumption)
    obtain⟨ad759,e759,hx759_0,hx759_1,hx759_2,hx759_3⟩:=at_T74 HR0_2.out x13_1 p759 q759
    cases e759
    replace hx759_0:=(HB.out.cell (World.block_lt_of_cell? w _ hx759_0)).trans hx759_0
    replace hx759_1:=(HB.out.cell (World.block_lt_of_cell? w _ hx759_1)).trans hx759_1
    replace hx759_2:=(HB.out.cell (World.block_lt_of_cell? w _ hx759_2)).trans hx759_2
    replace hx759_3:=(HB.out.cell (World.block_lt_of_cell? w _ hx759_3)).trans hx759_3
    replace p759:=eq_true p759
    replace q759:=eq_true q759
    go_wp2_with (first|((with_reducible refine gate_dst (N:=9) rfl ?_);refine box_event ?hg (N:=9) ?hd (cs:= #[.int .i64 0, .int .i64 0, .int .i64 0, .int .i64 0]) (t:=74) ?hr ?_;(case hd=>rfl);(case hg=>rfl);(case hr=>first|(go_simp;done)|(go_simp;rfl));intro gb760 hg w20 hbox hb;have n0_:=Aside0.mk (blk_below BK758.out hb);have n1_:=Aside0.mk (below_step HB.out hb);have n2_:=Aside0.mk (hbox);have n3_:=Aside0.mk ((by rw[hg];exact(below_size HB.out):w.heap.size≤gb760));have n4_:=Aside0.mk ((by rw[hg];exact(below_size HB.out):w.heap.size≤gb760));have n5_:=Aside0.mk ((by rw[hg];exact Nat.ne_of_lt (blk_lt BK758.out):gb758≠gb760));have n6_:=Aside0.mk ((by rw[hg];exact Nat.ne_of_gt (blk_lt BK758.out):gb760≠gb758));clear BK758;clear HB;have BK758:=n0_;have HB:=n1_;have BK760:=n2_;have GW760:=n3_;have GE760:=n4_;have NB758_760:=n5_;have NB760_758:=n6_;clear n0_ n1_ n2_ n3_ n4_ n5_ n6_;clear hb hbox hg;have hnb21:=NB760_758.out;have hnc21:=NB758_760.out;have hcz22_0:w20.cell? ⟨gb760,0,none⟩=some (.int .i64 0):=(blk_cell BK760.out 0).trans rfl;have hcz22_1:w20.cell? ⟨gb760,1,none⟩=some (.int .i64 0):=(blk_cell BK760.out 1).trans rfl;have hcz22_2:w20.cell? ⟨gb760,2,none⟩=some (.int .i64 0):=(blk_cell BK760.out 2).trans rfl;have hcz22_3:w20.cell? ⟨gb760,3,none⟩=some (.int .i64 0):=(blk_cell BK760.out 3).trans rfl;have hfz22_0:=blk_frozen BK760.out 0;have hfz22_1:=blk_frozen BK760.out 1;have hfz22_2:=blk_frozen BK760.out 2;have hfz22_3:=blk_frozen BK760.out 3;have p763:0≤(x13_1:Int):=of_decide_eq_true (by first|(with_reducible assumption)|assumption);have q763:x13_1<(l2.length:Int):=of_decide_eq_true (by first|(with_reducible assumption)|assumption);obtain⟨ad763,e763,hx763_0⟩:=Kd.at_int HR2.out x13_1 p763 q763;cases e763;have hn763_0:ad763.block≠gb760:=Nat.ne_of_lt (Nat.lt_of_lt_of_le (by have:=World.block_lt_of_cell? _ _ hx763_0;first|rwa [add_block] at this|exact this) GW760.out);have hn763_1:ad763.block≠gb760:=Nat.ne_of_lt (Nat.lt_of_lt_of_le (by have:=World.block_lt_of_cell? _ _ hx763_0;first|rwa [add_block] at this|exact this) GW760.out);have hn763_2:ad763.block≠gb760:=Nat.ne_of_lt (Nat.lt_of_lt_of_le (by have:=World.block_lt_of_cell? _ _ hx763_0;first|rwa [add_block] at this|exact this) GW760.out);have hn763_3:ad763.block≠gb760:=Nat.ne_of_lt (Nat.lt_of_lt_of_le (by have:=World.block_lt_of_cell? _ _ hx763_0;first|rwa [add_block] at this|exact this) GW760.out);replace hx763_0:=(HB.out.cell (World.block_lt_of_cell? w _ hx763_0)).trans hx763_0;replace hx763_0:=(cell_far (p:=⟨gb760,0,none⟩) (by first|(rw[add_block];exact hn763_0)|(show (Addr.add _ _).block≠_;rw[add_block];exact hn763_0)|exact hn763_0) (.int .i64 ((rd_T74 l0_2 x13_1).f0))).trans hx763_0;replace hx763_0:=(cell_far (p:=⟨gb760,1,none⟩) (by first|(rw[add_block];exact hn763_1)|(show (Addr.add _ _).block≠_;rw[add_block];exact hn763_1)|exact hn763_1) (.int .i64 ((rd_T74 l0_2 x13_1).f1))).trans hx763_0;replace hx763_0:=(cell_far (p:=⟨gb760,2,none⟩) (by first|(rw[add_block];exact hn763_2)|(show (Addr.add _ _).block≠_;rw[add_block];exact hn763_2)|exact hn763_2) (.int .i64 ((rd_T74 l0_2 x13_1).f2))).trans hx763_0;replace hx763_0:=(cell_far (p:=⟨gb760,3,none⟩) (by first|(rw[add_block];exact hn763_3)|(show (Addr.add _ _).block≠_;rw[add_block];exact hn763_3)|exact hn763_3) (.int .i64 ((rd_T74 l0_2 x13_1).f3))).trans hx763_0;clear hn763_0;clear hn763_1;clear hn763_2;clear hn763_3;replace p763:=eq_true p763;replace q763:=eq_true q763))
    go_roundg k1
    case measure=>have:=HK1.out;omega
    case rel=>exact⟨(wrap64 (x7_1 - (rd l2 x13_1))),(wrap64 (x13_1+1)),(by first|rfl|(simp;done)|(simp[*];done)),(by first|rfl|(simp;done)|(simp[*];done)),H',⟨by have:=HK1.out;omega⟩,⟨by(with_reducible repeat(first|refine blk_drewN ?_ _|refine blk_drew ?_|refine blk_alloc ?_ _));refine blk_far ?_ NB758_760.out _;(with_reducible repeat(first|refine blk_drewN ?_ _|refine blk_drew ?_|refine blk_alloc ?_ _));refine blk_far ?_ NB758_760.out _;(with_reducible repeat(first|refine blk_drewN ?_ _|refine blk_drew ?_|refine blk_alloc ?_ _));refine blk_far ?_ NB758_760.out _;(with_reducible repeat(first|refine blk_drewN ?_ _|refine blk_drew ?_|refine blk_alloc ?_ _));refine blk_far ?_ NB758_760.out _;(with_reducible repeat(first|refine blk_drewN ?_ _|refine blk_drew ?_|refine blk_alloc ?_ _));exact BK758.out⟩,⟨by repeat(first|(with_reducible first|exact HB.out|apply below_alloc|apply pw_below_drewN|apply below_drew1|refine below_set ?_ GE758.out|refine below_set ?_ GE760.out)|exact HB.out)⟩⟩
   rw[if_pos c9] at H
   have c9b0:(((rd_T74 l0_2 x13_1).f0) == a1)=true:=beq_iff_eq.mpr c9
   have c9b1:(((rd_T74 l0_2 x13_1).f0) != a1)=false:=bne_eq_false_iff_eq.mpr c9
   clear c9
   by_cases c10:x13_1<(l2.length:Int)
   rotate_left
   ·rw[if_neg c10] at H
    exact absurd H (by simp)
   rw[if_pos c10] at H
   have c10b0:decide (x13_1<(l2.length:Int))=true:=decide_eq_true c10
   clear c10
   by_cases c11:((rd_T74 l0_2 x13_1).f1)=a1
   rotate_left
   ·rw[if_neg c11] at H
    have c11b0:(((rd_T74 l0_2 x13_1).f1) == a1)=false:=beq_eq_false_iff_ne.mpr c11
    have c11b1:(((rd_T74 l0_2 x13_1).f1) != a1)=true:=bne_iff_ne.mpr c11
    have H':=Aside0.mk H
    clear H
    have p759:0≤(x13_1:Int):=of_decide_eq_true (by first|(with_reducible assumption)|assumption)
    have q759:x13_1<(l0_2.length:Int):=of_decide_eq_true (by first|(with_reducible assumption)|assumption)
    obtain⟨ad759,e759,hx759_0,hx759_1,hx759_2,hx759_3⟩:=at_T74 HR0_2.out x13_1 p759 q759
    cases e759
    replace hx759_0:=(HB.out.cell (World.block_lt_of_cell? w _ hx759_0)).trans hx759_0
    replace hx759_1:=(HB.out.cell (World.block_lt_of_cell? w _ hx759_1)).trans hx759_1
    replace hx759_2:=(HB.out.cell (World.block_lt_of_cell? w _ hx759_2)).trans hx759_2
    replace hx759_3:=(HB.out.cell (World.block_lt_of_cell? w _ hx759_3)).trans hx759_3
    replace p759:=eq_true p759
    replace q759:=eq_true q759
    go_wp2_with (first|((with_reducible refine gate_dst (N:=9) rfl ?_);refine box_event ?hg (N:=9) ?hd (cs:= #[.int .i64 0, .int .i64 0, .int .i64 0, .int .i64 0]) (t:=74) ?hr ?_;(case hd=>rfl);(case hg=>rfl);(case hr=>first|(go_simp;done)|(go_simp;rfl));intro gb760 hg w15 hbox hb;have n0_:=Aside0.mk (blk_below BK758.out hb);have n1_:=Aside0.mk (below_step HB.out hb);have n2_:=Aside0.mk (hbox);have n3_:=Aside0.mk ((by rw[hg];exact(below_size HB.out):w.heap.size≤gb760));have n4_:=Aside0.mk ((by rw[hg];exact(below_size HB.out):w.heap.size≤gb760));have n5_:=Aside0.mk ((by rw[hg];exact Nat.ne_of_lt (blk_lt BK758.out):gb758≠gb760));have n6_:=Aside0.mk ((by rw[hg];exact Nat.ne_of_gt (blk_lt BK758.out):gb760≠gb758));clear BK758;clear HB;have BK758:=n0_;have HB:=n1_;have BK760:=n2_;have GW760:=n3_;have GE760:=n4_;have NB758_760:=n5_;have NB760_758:=n6_;clear n0_ n1_ n2_ n3_ n4_ n5_ n6_;clear hb hbox hg;have hnb16:=NB760_758.out;have hnc16:=NB758_760.out;have hcz17_0:w15.cell? ⟨gb760,0,none⟩=some (.int .i64 0):=(blk_cell BK760.out 0).trans rfl;have hcz17_1:w15.cell? ⟨gb760,1,none⟩=some (.int .i64 0):=(blk_cell BK760.out 1).trans rfl;have hcz17_2:w15.cell? ⟨gb760,2,none⟩=some (.int .i64 0):=(blk_cell BK760.out 2).trans rfl;have hcz17_3:w15.cell? ⟨gb760,3,none⟩=some (.int .i64 0):=(blk_cell BK760.out 3).trans rfl;have hfz17_0:=blk_frozen BK760.out 0;have hfz17_1:=blk_frozen BK760.out 1;have hfz17_2:=blk_frozen BK760.out 2;have hfz17_3:=blk_frozen BK760.out 3;have p761:0≤(x13_1:Int):=of_decide_eq_true (by first|(with_reducible assumption)|assumption);have q761:x13_1<(l2.length:Int):=of_decide_eq_true (by first|(with_reducible assumption)|assumption);obtain⟨ad761,e761,hx761_0⟩:=Kd.at_int HR2.out x13_1 p761 q761;cases e761;have hn761_0:ad761.block≠gb760:=Nat.ne_of_lt (Nat.lt_of_lt_of_le (by have:=World.block_lt_of_cell? _ _ hx761_0;first|rwa [add_block] at this|exact this) GW760.out);have hn761_1:ad761.block≠gb760:=Nat.ne_of_lt (Nat.lt_of_lt_of_le (by have:=World.block_lt_of_cell? _ _ hx761_0;first|rwa [add_block] at this|exact this) GW760.out);have hn761_2:ad761.block≠gb760:=Nat.ne_of_lt (Nat.lt_of_lt_of_le (by have:=World.block_lt_of_cell? _ _ hx761_0;first|rwa [add_block] at this|exact this) GW760.out);have hn761_3:ad761.block≠gb760:=Nat.ne_of_lt (Nat.lt_of_lt_of_le (by have:=World.block_lt_of_cell? _ _ hx761_0;first|rwa [add_block] at this|exact this) GW760.out);replace hx761_0:=(HB.out.cell (World.block_lt_of_cell? w _ hx761_0)).trans hx761_0;replace hx761_0:=(cell_far (p:=⟨gb760,0,none⟩) (by first|(rw[add_block];exact hn761_0)|(show (Addr.add _ _).block≠_;rw[add_block];exact hn761_0)|exact hn761_0) (.int .i64 ((rd_T74 l0_2 x13_1).f0))).trans hx761_0;replace hx761_0:=(cell_far (p:=⟨gb760,1,none⟩) (by first|(rw[add_block];exact hn761_1)|(show (Addr.add _ _).block≠_;rw[add_block];exact hn761_1)|exact hn761_1) (.int .i64 ((rd_T74 l0_2 x13_1).f1))).trans hx761_0;replace hx761_0:=(cell_far (p:=⟨gb760,2,none⟩) (by first|(rw[add_block];exact hn761_2)|(show (Addr.add _ _).block≠_;rw[add_block];exact hn761_2)|exact hn761_2) (.int .i64 ((rd_T74 l0_2 x13_1).f2))).trans hx761_0;replace hx761_0:=(cell_far (p:=⟨gb760,3,none⟩) (by first|(rw[add_block];exact hn761_3)|(show (Addr.add _ _).block≠_;rw[add_block];exact hn761_3)|exact hn761_3) (.int .i64 ((rd_T74 l0_2 x13_1).f3))).trans hx761_0;clear hn761_0;clear hn761_1;clear hn761_2;clear hn761_3;replace p761:=eq_true p761;replace q761:=eq_true q761))
    go_roundg k1
    case measure=>have:=HK1.out;omega
    case rel=>exact⟨(wrap64 (x7_1+(rd l2 x13_1))),(wrap64 (x13_1+1)),(by first|rfl|(simp;done)|(simp[*];done)),(by first|rfl|(simp;done)|(simp[*];done)),H',⟨by have:=HK1.out;omega⟩,⟨by(with_reducible repeat(first|refine blk_drewN ?_ _|refine blk_drew ?_|refine blk_alloc ?_ _));refine blk_far ?_ NB758_760.out _;(with_reducible repeat(first|refine blk_drewN ?_ _|refine blk_drew ?_|refine blk_alloc ?_ _));refine blk_far ?_ NB758_760.out _;(with_reducible repeat(first|refine blk_drewN ?_ _|refine blk_drew ?_|refine blk_alloc ?_ _));refine blk_far ?_ NB758_760.out _;(with_reducible repeat(first|refine blk_drewN ?_ _|refine blk_drew ?_|refine blk_alloc ?_ _));refine blk_far ?_ NB758_760.out _;(with_reducible repeat(first|refine blk_drewN ?_ _|refine blk_drew ?_|refine blk_alloc ?_ _));exact BK758.out⟩,⟨by repeat(first|(with_reducible first|exact HB.out|apply below_alloc|apply pw_below_drewN|apply below_drew1|refine below_set ?_ GE758.out|refine below_set ?_ GE760.out)|exact HB.out)⟩⟩
   rw[if_pos c11] at H
   have c11b0:(((rd_T74 l0_2 x13_1).f1) == a1)=true:=beq_iff_eq.mpr c11
   have c11b1:(((rd_T74 l0_2 x13_1).f1) != a1)=false:=bne_eq_false_iff_eq.mpr c11
   clear c11
   have H':=Aside0.mk H
   clear H
   have p759:0≤(x13_1:Int):=of_decide_eq_true (by first|(with_reducible assumption)|assumption)
   have q759:x13_1<(l0_2.length:Int):=of_decide_eq_true (by first|(with_reducible assumption)|assumption)
   obtain⟨ad759,e759,hx759_0,hx759_1,hx759_2,hx759_3⟩:=at_T74 HR0_2.out x13_1 p759 q759
   cases e759
   replace hx759_0:=(HB.out.cell (World.block_lt_of_cell? w _ hx759_0)).trans hx759_0
   replace hx759_1:=(HB.out.cell (World.block_lt_of_cell? w _ hx759_1)).trans hx759_1
   replace hx759_2:=(HB.out.cell (World.block_lt_of_cell? w _ hx759_2)).trans hx759_2
   replace hx759_3:=(HB.out.cell (World.block_lt_of_cell? w _ hx759_3)).trans hx759_3
   replace p759:=eq_true p759
   replace q759:=eq_true q759
   go_wp2_with (first|((with_reducible refine gate_dst (N:=9) rfl ?_);refine box_event ?hg (N:=9) ?hd (cs:= #[.int .i64 0, .int .i64 0, .int .i64 0, .int .i64 0]) (t:=74) ?hr ?_;(case hd=>rfl);(case hg=>rfl);(case hr=>first|(go_simp;done)|(go_simp;rfl));intro gb760 hg w12 hbox hb;have n0_:=Aside0.mk (blk_below BK758.out hb);have n1_:=Aside0.mk (below_step HB.out hb);have n2_:=Aside0.mk (hbox);have n3_:=Aside0.mk ((by rw[hg];exact(below_size HB.out):w.heap.size≤gb760));have n4_:=Aside0.mk ((by rw[hg];exact(below_size HB.out):w.heap.size≤gb760));have n5_:=Aside0.mk ((by rw[hg];exact Nat.ne_of_lt (blk_lt BK758.out):gb758≠gb760));have n6_:=Aside0.mk ((by rw[hg];exact Nat.ne_of_gt (blk_lt BK758.out):gb760≠gb758));clear BK758;clear HB;have BK758:=n0_;have HB:=n1_;have BK760:=n2_;have GW760:=n3_;have GE760:=n4_;have NB758_760:=n5_;have NB760_758:=n6_;clear n0_ n1_ n2_ n3_ n4_ n5_ n6_;clear hb hbox hg;have hnb13:=NB760_758.out;have hnc13:=NB758_760.out;have hcz14_0:w12.cell? ⟨gb760,0,none⟩=some (.int .i64 0):=(blk_cell BK760.out 0).trans rfl;have hcz14_1:w12.cell? ⟨gb760,1,none⟩=some (.int .i64 0):=(blk_cell BK760.out 1).trans rfl;have hcz14_2:w12.cell? ⟨gb760,2,none⟩=some (.int .i64 0):=(blk_cell BK760.out 2).trans rfl;have hcz14_3:w12.cell? ⟨gb760,3,none⟩=some (.int .i64 0):=(blk_cell BK760.out 3).trans rfl;have hfz14_0:=blk_frozen BK760.out 0;have hfz14_1:=blk_frozen BK760.out 1;have hfz14_2:=blk_frozen BK760.out 2;have hfz14_3:=blk_frozen BK760.out 3;have p761:0≤(x13_1:Int):=of_decide_eq_true (by first|(with_reducible assumption)|assumption);have q761:x13_1<(l2.length:Int):=of_decide_eq_true (by first|(with_reducible assumption)|assumption);obtain⟨ad761,e761,hx761_0⟩:=Kd.at_int HR2.out x13_1 p761 q761;cases e761;have hn761_0:ad761.block≠gb760:=Nat.ne_of_lt (Nat.lt_of_lt_of_le (by have:=World.block_lt_of_cell? _ _ hx761_0;first|rwa [add_block] at this|exact this) GW760.out);have hn761_1:ad761.block≠gb760:=Nat.ne_of_lt (Nat.lt_of_lt_of_le (by have:=World.block_lt_of_cell? _ _ hx761_0;first|rwa [add_block] at this|exact this) GW760.out);have hn761_2:ad761.block≠gb760:=Nat.ne_of_lt (Nat.lt_of_lt_of_le (by have:=World.block_lt_of_cell? _ _ hx761_0;first|rwa [add_block] at this|exact this) GW760.out);have hn761_3:ad761.block≠gb760:=Nat.ne_of_lt (Nat.lt_of_lt_of_le (by have:=World.block_lt_of_cell? _ _ hx761_0;first|rwa [add_block] at this|exact this) GW760.out);replace hx761_0:=(HB.out.cell (World.block_lt_of_cell? w _ hx761_0)).trans hx761_0;replace hx761_0:=(cell_far (p:=⟨gb760,0,none⟩) (by first|(rw[add_block];exact hn761_0)|(show (Addr.add _ _).block≠_;rw[add_block];exact hn761_0)|exact hn761_0) (.int .i64 ((rd_T74 l0_2 x13_1).f0))).trans hx761_0;replace hx761_0:=(cell_far (p:=⟨gb760,1,none⟩) (by first|(rw[add_block];exact hn761_1)|(show (Addr.add _ _).block≠_;rw[add_block];exact hn761_1)|exact hn761_1) (.int .i64 ((rd_T74 l0_2 x13_1).f1))).trans hx761_0;replace hx761_0:=(cell_far (p:=⟨gb760,2,none⟩) (by first|(rw[add_block];exact hn761_2)|(show (Addr.add _ _).block≠_;rw[add_block];exact hn761_2)|exact hn761_2) (.int .i64 ((rd_T74 l0_2 x13_1).f2))).trans hx761_0;replace hx761_0:=(cell_far (p:=⟨gb760,3,none⟩) (by first|(rw[add_block];exact hn761_3)|(show (Addr.add _ _).block≠_;rw[add_block];exact hn761_3)|exact hn761_3) (.int .i64 ((rd_T74 l0_2 x13_1).f3))).trans hx761_0;clear hn761_0;clear hn761_1;clear hn761_2;clear hn761_3;replace p761:=eq_true p761;replace q761:=eq_true q761;have p762:0≤(x13_1:Int):=of_decide_eq_true (by first|(with_reducible assumption)|assumption);have q762:x13_1<(l2.length:Int):=of_decide_eq_true (by first|(with_reducible assumption)|assumption);obtain⟨ad762,e762,hx762_0⟩:=Kd.at_int HR2.out x13_1 p762 q762;obtain rfl:ad761=ad762:=(by injection e762);have hn762_0:ad761.block≠gb760:=Nat.ne_of_lt (Nat.lt_of_lt_of_le (by have:=World.block_lt_of_cell? _ _ hx762_0;first|rwa [add_block] at this|exact this) GW760.out);have hn762_1:ad761.block≠gb760:=Nat.ne_of_lt (Nat.lt_of_lt_of_le (by have:=World.block_lt_of_cell? _ _ hx762_0;first|rwa [add_block] at this|exact this) GW760.out);have hn762_2:ad761.block≠gb760:=Nat.ne_of_lt (Nat.lt_of_lt_of_le (by have:=World.block_lt_of_cell? _ _ hx762_0;first|rwa [add_block] at this|exact this) GW760.out);have hn762_3:ad761.block≠gb760:=Nat.ne_of_lt (Nat.lt_of_lt_of_le (by have:=World.block_lt_of_cell? _ _ hx762_0;first|rwa [add_block] at this|exact this) GW760.out);replace hx762_0:=(HB.out.cell (World.block_lt_of_cell? w _ hx762_0)).trans hx762_0;replace hx762_0:=(cell_far (p:=⟨gb760,0,none⟩) (by first|(rw[add_block];exact hn762_0)|(show (Addr.add _ _).block≠_;rw[add_block];exact hn762_0)|exact hn762_0) (.int .i64 ((rd_T74 l0_2 x13_1).f0))).trans hx762_0;replace hx762_0:=(cell_far (p:=⟨gb760,1,none⟩) (by first|(rw[add_block];exact hn762_1)|(show (Addr.add _ _).block≠_;rw[add_block];exact hn762_1)|exact hn762_1) (.int .i64 ((rd_T74 l0_2 x13_1).f1))).trans hx762_0;replace hx762_0:=(cell_far (p:=⟨gb760,2,none⟩) (by first|(rw[add_block];exact hn762_2)|(show (Addr.add _ _).block≠_;rw[add_block];exact hn762_2)|exact hn762_2) (.int .i64 ((rd_T74 l0_2 x13_1).f2))).trans hx762_0;replace hx762_0:=(cell_far (p:=⟨gb760,3,none⟩) (by first|(rw[add_block];exact hn762_3)|(show (Addr.add _ _).block≠_;rw[add_block];exact hn762_3)|exact hn762_3) (.int .i64 ((rd_T74 l0_2 x13_1).f3))).trans hx762_0;clear hn762_0;clear hn762_1;clear hn762_2;clear hn762_3;replace p762:=eq_true p762;replace q762:=eq_true q762))
   go_roundg k1
   case measure=>have:=HK1.out;omega
   case rel=>exact⟨(wrap64 ((wrap64 (x7_1+(rd l2 x13_1))) - (rd l2 x13_1))),(wrap64 (x13_1+1)),(by first|rfl|(simp;done)|(simp[*];done)),(by first|rfl|(simp;done)|(simp[*];done)),H',⟨by have:=HK1.out;omega⟩,⟨by(with_reducible repeat(first|refine blk_drewN ?_ _|refine blk_drew ?_|refine blk_alloc ?_ _));refine blk_far ?_ NB758_760.out _;(with_reducible repeat(first|refine blk_drewN ?_ _|refine blk_drew ?_|refine blk_alloc ?_ _));refine blk_far ?_ NB758_760.out _;(with_reducible repeat(first|refine blk_drewN ?_ _|refine blk_drew ?_|refine blk_alloc ?_ _));refine blk_far ?_ NB758_760.out _;(with_reducible repeat(first|refine blk_drewN ?_ _|refine blk_drew ?_|refine blk_alloc ?_ _));refine blk_far ?_ NB758_760.out _;(with_reducible repeat(first|refine blk_drewN ?_ _|refine blk_drew ?_|refine blk_alloc ?_ _));exact BK758.out⟩,⟨by repeat(first|(with_reducible first|exact HB.out|apply below_alloc|apply pw_below_drewN|apply below_drew1|refine below_set ?_ GE758.out|refine below_set ?_ GE760.out)|exact HB.out)⟩⟩
end Go.Proofs.Ytkcpanpdipmmmaa.P
namespace Go.Proofs.Ytkcpanpdipmmmaa.P
open Go.RowKit Go.Proofs.YtkcpanpdipmmmaaW.PrintWords Go.Proofs.YtkcpanpdipmmmaaW.PrintLast Go.Proofs.YtkcpanpdipmmmaaW.PrintMore
attribute [local go_sem] max2_int min2_int max_two min_two max_three min_three max_four min_four
def static_Flowing_From.f (a0_0:Int) (a0_1:Bool) (l0_2:List (S74)) (l0_3:List Int) (a1_0:Int) (a1_1:Bool):Option (Int):=if a1_1=true then(if 0≤a1_0 then(if a1_0<(l0_2.length:Int) then(some ((rd_T74 l0_2 a1_0).f1)) else(none)) else(none)) else(if 0≤a1_0 then(if a1_0<(l0_2.length:Int) then(some ((rd_T74 l0_2 a1_0).f0)) else(none)) else(none))
set_option maxHeartbeats 8000000 in
set_option maxRecDepth 100000 in
theorem static_Flowing_From.calls (a0_0:Int) (a0_1:Bool) (A0_2:Option Addr) (c0_2:Nat) (l0_2:List (S74)) (A0_3:Option Addr) (c0_3:Nat) (l0_3:List Int) (a1_0:Int) (a1_1:Bool) (r:Int) (w:World) (hr0_2:Kd.C k74 w A0_2 l0_2.length l0_2) (hc0_2:l0_2.length≤c0_2) (hr0_3:Kd.C (Kd.int .i64) w A0_3 l0_3.length l0_3) (hc0_3:l0_3.length≤c0_3) (h:static_Flowing_From.f a0_0 a0_1 l0_2 l0_3 a1_0 a1_1=some r):
  Calls Try.prog 106 #[.agg #[.int .i64 a0_0, .bool a0_1, .slice A0_2 l0_2.length c0_2, .slice A0_3 l0_3.length c0_3], .agg #[.int .i64 a1_0, .bool a1_1]] w fun e w'=>e= .returned (.int .i64 r)∧Below w.heap.size w w':=by
 have hu115:=Try.underlying115
 have hu38:=Try.underlying38
 have HR0_2:=Aside0.mk hr0_2
 have HC0_2:=Aside0.mk hc0_2
 clear hr0_2 hc0_2
 have HR0_3:=Aside0.mk hr0_3
 have HC0_3:=Aside0.mk hc0_3
 clear hr0_3 hc0_3
 have HB:=Aside0.mk (Below.refl w.heap.size w)
 have H:(if a1_1=true then(if 0≤a1_0 then(if a1_0<(l0_2.length:Int) then(some ((rd_T74 l0_2 a1_0).f1)) else(none)) else(none)) else(if 0≤a1_0 then(if a1_0<(l0_2.length:Int) then(some ((rd_T74 l0_2 a1_0).f0)) else(none)) else(none)))=some r:=h
 clear h
 by_cases c3:a1_1=true
 ·subst c3
  have H1:(if 0≤a1_0 then(if a1_0<(l0_2.length:Int) then(some ((rd_T74 l0_2 a1_0).f1)) else(none)) else(none))=some r:=by first|(rw[if_pos rfl] at H;exact H)|(rw[if_pos trivial] at H;exact H)
  clear H
  have H:=H1
  clear H1
  by_cases c4:0≤a1_0
  rotate_left
  ·rw[if_neg c4] at H
   exact absurd H (by simp)
  rw[if_pos c4] at H
  have c4b0:decide (0≤a1_0)=true:=decide_eq_true c4
  clear c4
  by_cases c5:a1_0<(l0_2.length:Int)
  rotate_left
  ·rw[if_neg c5] at H
   exact absurd H (by simp)
  rw[if_pos c5] at H
  have c5b0:decide (a1_0<(l0_2.length:Int))=true:=decide_eq_true c5
  clear c5
  obtain rfl:=Option.some.inj H
  go_enter Try.func106,Try.ntmps106
  go_wp2_with (first|((with_reducible refine gate_dst (N:=2) rfl ?_);refine box_event ?hg (N:=2) ?hd (cs:= #[.int .i64 a0_0, .bool a0_1, .slice A0_2 l0_2.length c0_2, .slice A0_3 l0_3.length c0_3]) (t:=115) ?hr ?_;(case hd=>rfl);(case hg=>rfl);(case hr=>first|(go_simp;done)|(go_simp;rfl));intro gb380 hg w6 hbox hb;have n0_:=Aside0.mk (below_step (by repeat(first|(with_reducible first|exact HB.out|apply below_alloc|apply pw_below_drewN|apply below_drew1)|exact HB.out)) hb);have n1_:=Aside0.mk (hbox);have n2_:=Aside0.mk ((by rw[hg];exact(below_size (by repeat(first|(with_reducible first|exact HB.out|apply below_alloc|apply pw_below_drewN|apply below_drew1)|exact HB.out))):w.heap.size≤gb380));have n3_:=Aside0.mk ((by rw[hg];exact(below_size (by repeat(first|(with_reducible first|exact HB.out|apply below_alloc|apply pw_below_drewN|apply below_drew1)|exact HB.out))):w.heap.size≤gb380));clear HB;have HB:=n0_;have BK380:=n1_;have GW380:=n2_;have GE380:=n3_;clear n0_ n1_ n2_ n3_;clear hb hbox hg)|((with_reducible refine gate_dst (N:=3) rfl ?_);refine box_event ?hg (N:=3) ?hd (cs:= #[.int .i64 a1_0, .bool true]) (t:=38) ?hr ?_;(case hd=>rfl);(case hg=>rfl);(case hr=>first|(go_simp;done)|(go_simp;rfl));intro gb381 hg w7 hbox hb;have n0_:=Aside0.mk (blk_below (g:=gb380) (o:= .cells #[.int .i64 a0_0, .bool a0_1, .slice A0_2 l0_2.length c0_2, .slice A0_3 l0_3.length c0_3] 115 (0,0)) (by(with_reducible repeat(first|refine blk_drewN ?_ _|refine blk_drew ?_|refine blk_alloc ?_ _));exact BK380.out) hb);have n1_:=Aside0.mk (below_step (by repeat(first|(with_reducible first|exact HB.out|apply below_alloc|apply pw_below_drewN|apply below_drew1|refine below_set ?_ GE380.out)|exact HB.out)) hb);have n2_:=Aside0.mk (hbox);have n3_:=Aside0.mk ((by rw[hg];exact(below_size (by repeat(first|(with_reducible first|exact HB.out|apply below_alloc|apply pw_below_drewN|apply below_drew1|refine below_set ?_ GE380.out)|exact HB.out))):w.heap.size≤gb381));have n4_:=Aside0.mk ((by rw[hg];exact(below_size (by repeat(first|(with_reducible first|exact HB.out|apply below_alloc|apply pw_below_drewN|apply below_drew1|refine below_set ?_ GE380.out)|exact HB.out))):w.heap.size≤gb381));have n5_:=Aside0.mk ((by rw[hg];exact Nat.ne_of_lt (blk_lt (g:=gb380) (o:= .cells #[.int .i64 a0_0, .bool a0_1, .slice A0_2 l0_2.length c0_2, .slice A0_3 l0_3.length c0_3] 115 (0,0)) (by(with_reducible repeat(first|refine blk_drewN ?_ _|refine blk_drew ?_|refine blk_alloc ?_ _));exact BK380.out)):gb380≠gb381));have n6_:=Aside0.mk ((by rw[hg];exact Nat.ne_of_gt (blk_lt (g:=gb380) (o:= .cells #[.int .i64 a0_0, .bool a0_1, .slice A0_2 l0_2.length c0_2, .slice A0_3 l0_3.length c0_3] 115 (0,0)) (by(with_reducible repeat(first|refine blk_drewN ?_ _|refine blk_drew ?_|refine blk_alloc ?_ _));exact BK380.out)):gb381≠gb380));clear BK380;clear HB;have BK380:=n0_;have HB:=n1_;have BK381:=n2_;have GW381:=n3_;have GE381:=n4_;have NB380_381:=n5_;have NB381_380:=n6_;clear n0_ n1_ n2_ n3_ n4_ n5_ n6_;clear hb hbox hg;have hnb8:=NB381_380.out;have hnc8:=NB380_381.out;have hcz9_0:w7.cell? ⟨gb381,0,none⟩=some (.int .i64 a1_0):=(blk_cell BK381.out 0).trans rfl;have hcz9_1:w7.cell? ⟨gb381,1,none⟩=some (.bool true):=(blk_cell BK381.out 1).trans rfl;have hfz9_0:=blk_frozen BK381.out 0;have hfz9_1:=blk_frozen BK381.out 1;have hcz10_0:w7.cell? ⟨gb380,0,none⟩=some (.int .i64 a0_0):=(blk_cell BK380.out 0).trans rfl;have hcz10_1:w7.cell? ⟨gb380,1,none⟩=some (.bool a0_1):=(blk_cell BK380.out 1).trans rfl;have hcz10_2:w7.cell? ⟨gb380,2,none⟩=some (.slice A0_2 l0_2.length c0_2):=(blk_cell BK380.out 2).trans rfl;have hcz10_3:w7.cell? ⟨gb380,3,none⟩=some (.slice A0_3 l0_3.length c0_3):=(blk_cell BK380.out 3).trans rfl;have hfz10_0:=blk_frozen BK380.out 0;have hfz10_1:=blk_frozen BK380.out 1;have hfz10_2:=blk_frozen BK380.out 2;have hfz10_3:=blk_frozen BK380.out 3;have p382:0≤(a1_0:Int):=of_decide_eq_true (by first|(with_reducible assumption)|assumption);have q382:a1_0<(l0_2.length:Int):=of_decide_eq_true (by first|(with_reducible assumption)|assumption);obtain⟨ad382,e382,hx382_0,hx382_1,hx382_2,hx382_3⟩:=at_T74 HR0_2.out a1_0 p382 q382;cases e382;replace hx382_0:=(HB.out.cell (World.block_lt_of_cell? w _ hx382_0)).trans hx382_0;replace hx382_1:=(HB.out.cell (World.block_lt_of_cell? w _ hx382_1)).trans hx382_1;replace hx382_2:=(HB.out.cell (World.block_lt_of_cell? w _ hx382_2)).trans hx382_2;replace hx382_3:=(HB.out.cell (World.block_lt_of_cell? w _ hx382_3)).trans hx382_3;replace p382:=eq_true p382;replace q382:=eq_true q382))
  go_ret
  exact⟨by first|rfl|(simp[errW_none,errW_some]<;>rfl)|(simp[*,errW_none,errW_some]<;>rfl),by repeat(first|(with_reducible first|exact HB.out|apply below_alloc|apply pw_below_drewN|apply below_drew1|refine below_set ?_ GE380.out|refine below_set ?_ GE381.out)|exact HB.out)⟩
 replace c3:=Bool.eq_false_iff.mpr c3
 subst c3
 have H1:(if 0≤a1_0 then(if a1_0<(l0_2.length:Int) then(some ((rd_T74 l0_2 a1_0).f0)) else(none)) else(none))=some r:=by rw[if_neg (show ¬ (false=true) by decide)] at H;exact H
 clear H
 have H:=H1
 clear H1
 by_cases c11:0≤a1_0
 rotate_left
 ·rw[if_neg c11] at H
  exact absurd H (by simp)
 rw[if_pos c11] at H
 have c11b0:decide (0≤a1_0)=true:=decide_eq_true c11
 clear c11
 by_cases c12:a1_0<(l0_2.length:Int)
 rotate_left
 ·rw[if_neg c12] at H
  exact absurd H (by simp)
 rw[if_pos c12] at H
 have c12b0:decide (a1_0<(l0_2.length:Int))=true:=decide_eq_true c12
 clear c12
 obtain rfl:=Option.some.inj H
 go_enter Try.func106,Try.ntmps106
 go_wp2_with (first|((with_reducible refine gate_dst (N:=2) rfl ?_);refine box_event ?hg (N:=2) ?hd (cs:= #[.int .i64 a0_0, .bool a0_1, .slice A0_2 l0_2.length c0_2, .slice A0_3 l0_3.length c0_3]) (t:=115) ?hr ?_;(case hd=>rfl);(case hg=>rfl);(case hr=>first|(go_simp;done)|(go_simp;rfl));intro gb380 hg w13 hbox hb;have n0_:=Aside0.mk (below_step (by repeat(first|(with_reducible first|exact HB.out|apply below_alloc|apply pw_below_drewN|apply below_drew1)|exact HB.out)) hb);have n1_:=Aside0.mk (hbox);have n2_:=Aside0.mk ((by rw[hg];exact(below_size (by repeat(first|(with_reducible first|exact HB.out|apply below_alloc|apply pw_below_drewN|apply below_drew1)|exact HB.out))):w.heap.size≤gb380));have n3_:=Aside0.mk ((by rw[hg];exact(below_size (by repeat(first|(with_reducible first|exact HB.out|apply below_alloc|apply pw_below_drewN|apply below_drew1)|exact HB.out))):w.heap.size≤gb380));clear HB;have HB:=n0_;have BK380:=n1_;have GW380:=n2_;have GE380:=n3_;clear n0_ n1_ n2_ n3_;clear hb hbox hg)|((with_reducible refine gate_dst (N:=3) rfl ?_);refine box_event ?hg (N:=3) ?hd (cs:= #[.int .i64 a1_0, .bool false]) (t:=38) ?hr ?_;(case hd=>rfl);(case hg=>rfl);(case hr=>first|(go_simp;done)|(go_simp;rfl));intro gb381 hg w14 hbox hb;have n0_:=Aside0.mk (blk_below (g:=gb380) (o:= .cells #[.int .i64 a0_0, .bool a0_1, .slice A0_2 l0_2.length c0_2, .slice A0_3 l0_3.length c0_3] 115 (0,0)) (by(with_reducible repeat(first|refine blk_drewN ?_ _|refine blk_drew ?_|refine blk_alloc ?_ _));exact BK380.out) hb);have n1_:=Aside0.mk (below_step (by repeat(first|(with_reducible first|exact HB.out|apply below_alloc|apply pw_below_drewN|apply below_drew1|refine below_set ?_ GE380.out)|exact HB.out)) hb);have n2_:=Aside0.mk (hbox);have n3_:=Aside0.mk ((by rw[hg];exact(below_size (by repeat(first|(with_reducible first|exact HB.out|apply below_alloc|apply pw_below_drewN|apply below_drew1|refine below_set ?_ GE380.out)|exact HB.out))):w.heap.size≤gb381));have n4_:=Aside0.mk ((by rw[hg];exact(below_size (by repeat(first|(with_reducible first|exact HB.out|apply below_alloc|apply pw_below_drewN|apply below_drew1|refine below_set ?_ GE380.out)|exact HB.out))):w.heap.size≤gb381));have n5_:=Aside0.mk ((by rw[hg];exact Nat.ne_of_lt (blk_lt (g:=gb380) (o:= .cells #[.int .i64 a0_0, .bool a0_1, .slice A0_2 l0_2.length c0_2, .slice A0_3 l0_3.length c0_3] 115 (0,0)) (by(with_reducible repeat(first|refine blk_drewN ?_ _|refine blk_drew ?_|refine blk_alloc ?_ _));exact BK380.out)):gb380≠gb381));have n6_:=Aside0.mk ((by rw[hg];exact Nat.ne_of_gt (blk_lt (g:=gb380) (o:= .cells #[.int .i64 a0_0, .bool a0_1, .slice A0_2 l0_2.length c0_2, .slice A0_3 l0_3.length c0_3] 115 (0,0)) (by(with_reducible repeat(first|refine blk_drewN ?_ _|refine blk_drew ?_|refine blk_alloc ?_ _));exact BK380.out)):gb381≠gb380));clear BK380;clear HB;have BK380:=n0_;have HB:=n1_;have BK381:=n2_;have GW381:=n3_;have GE381:=n4_;have NB380_381:=n5_;have NB381_380:=n6_;clear n0_ n1_ n2_ n3_ n4_ n5_ n6_;clear hb hbox hg;have hnb15:=NB381_380.out;have hnc15:=NB380_381.out;have hcz16_0:w14.cell? ⟨gb381,0,none⟩=some (.int .i64 a1_0):=(blk_cell BK381.out 0).trans rfl;have hcz16_1:w14.cell? ⟨gb381,1,none⟩=some (.bool false):=(blk_cell BK381.out 1).trans rfl;have hfz16_0:=blk_frozen BK381.out 0;have hfz16_1:=blk_frozen BK381.out 1;have hcz17_0:w14.cell? ⟨gb380,0,none⟩=some (.int .i64 a0_0):=(blk_cell BK380.out 0).trans rfl;have hcz17_1:w14.cell? ⟨gb380,1,none⟩=some (.bool a0_1):=(blk_cell BK380.out 1).trans rfl;have hcz17_2:w14.cell? ⟨gb380,2,none⟩=some (.slice A0_2 l0_2.length c0_2):=(blk_cell BK380.out 2).trans rfl;have hcz17_3:w14.cell? ⟨gb380,3,none⟩=some (.slice A0_3 l0_3.length c0_3):=(blk_cell BK380.out 3).trans rfl;have hfz17_0:=blk_frozen BK380.out 0;have hfz17_1:=blk_frozen BK380.out 1;have hfz17_2:=blk_frozen BK380.out 2;have hfz17_3:=blk_frozen BK380.out 3;have p383:0≤(a1_0:Int):=of_decide_eq_true (by first|(with_reducible assumption)|assumption);have q383:a1_0<(l0_2.length:Int):=of_decide_eq_true (by first|(with_reducible assumption)|assumption);obtain⟨ad383,e383,hx383_0,hx383_1,hx383_2,hx383_3⟩:=at_T74 HR0_2.out a1_0 p383 q383;cases e383;replace hx383_0:=(HB.out.cell (World.block_lt_of_cell? w _ hx383_0)).trans hx383_0;replace hx383_1:=(HB.out.cell (World.block_lt_of_cell? w _ hx383_1)).trans hx383_1;replace hx383_2:=(HB.out.cell (World.block_lt_of_cell? w _ hx383_2)).trans hx383_2;replace hx383_3:=(HB.out.cell (World.block_lt_of_cell? w _ hx383_3)).trans hx383_3;replace p383:=eq_true p383;replace q383:=eq_true q383))
 go_ret
 exact⟨by first|rfl|(simp[errW_none,errW_some]<;>rfl)|(simp[*,errW_none,errW_some]<;>rfl),by repeat(first|(with_reducible first|exact HB.out|apply below_alloc|apply pw_below_drewN|apply below_drew1|refine below_set ?_ GE380.out|refine below_set ?_ GE381.out)|exact HB.out)⟩
end Go.Proofs.Ytkcpanpdipmmmaa.P
namespace Go.Proofs.Ytkcpanpdipmmmaa.P
open Go.RowKit Go.Proofs.YtkcpanpdipmmmaaW.PrintWords Go.Proofs.YtkcpanpdipmmmaaW.PrintLast Go.Proofs.YtkcpanpdipmmmaaW.PrintMore
attribute [local go_sem] max2_int min2_int max_two min_two max_three min_three max_four min_four
def static_Flowing_To.f (a0_0:Int) (a0_1:Bool) (l0_2:List (S74)) (l0_3:List Int) (a1_0:Int) (a1_1:Bool):Option (Int):=(static_Flowing_From.f a0_0 a0_1 l0_2 l0_3 a1_0 (!a1_1)).bind fun t386=>(some t386)
set_option maxHeartbeats 8000000 in
set_option maxRecDepth 100000 in
theorem static_Flowing_To.calls (a0_0:Int) (a0_1:Bool) (A0_2:Option Addr) (c0_2:Nat) (l0_2:List (S74)) (A0_3:Option Addr) (c0_3:Nat) (l0_3:List Int) (a1_0:Int) (a1_1:Bool) (r:Int) (w:World) (hr0_2:Kd.C k74 w A0_2 l0_2.length l0_2) (hc0_2:l0_2.length≤c0_2) (hr0_3:Kd.C (Kd.int .i64) w A0_3 l0_3.length l0_3) (hc0_3:l0_3.length≤c0_3) (h:static_Flowing_To.f a0_0 a0_1 l0_2 l0_3 a1_0 a1_1=some r):
  Calls Try.prog 105 #[.agg #[.int .i64 a0_0, .bool a0_1, .slice A0_2 l0_2.length c0_2, .slice A0_3 l0_3.length c0_3], .agg #[.int .i64 a1_0, .bool a1_1]] w fun e w'=>e= .returned (.int .i64 r)∧Below w.heap.size w w':=by
 have hu115:=Try.underlying115
 have hu38:=Try.underlying38
 have HR0_2:=Aside0.mk hr0_2
 have HC0_2:=Aside0.mk hc0_2
 clear hr0_2 hc0_2
 have HR0_3:=Aside0.mk hr0_3
 have HC0_3:=Aside0.mk hc0_3
 clear hr0_3 hc0_3
 have HB:=Aside0.mk (Below.refl w.heap.size w)
 have H:((static_Flowing_From.f a0_0 a0_1 l0_2 l0_3 a1_0 (!a1_1)).bind fun t386=>(some t386))=some r:=h
 clear h
 replace H:=Option.bind_eq_some_iff.mp H
 obtain⟨t386,A30,H⟩:=H
 replace H:(some t386)=some r:=H
 have A3:=Aside0.mk A30
 clear A30
 obtain rfl:=Option.some.inj H
 go_enter Try.func105,Try.ntmps105
 go_wp2_with (first|((with_reducible refine gate_dst (N:=2) rfl ?_);refine box_event ?hg (N:=2) ?hd (cs:= #[.int .i64 a0_0, .bool a0_1, .slice A0_2 l0_2.length c0_2, .slice A0_3 l0_3.length c0_3]) (t:=115) ?hr ?_;(case hd=>rfl);(case hg=>rfl);(case hr=>first|(go_simp;done)|(go_simp;rfl));intro gb384 hg w4 hbox hb;have n0_:=Aside0.mk (below_step (by repeat(first|(with_reducible first|exact HB.out|apply below_alloc|apply pw_below_drewN|apply below_drew1)|exact HB.out)) hb);have n1_:=Aside0.mk (hbox);have n2_:=Aside0.mk ((by rw[hg];exact(below_size (by repeat(first|(with_reducible first|exact HB.out|apply below_alloc|apply pw_below_drewN|apply below_drew1)|exact HB.out))):w.heap.size≤gb384));have n3_:=Aside0.mk ((by rw[hg];exact(below_size (by repeat(first|(with_reducible first|exact HB.out|apply below_alloc|apply pw_below_drewN|apply below_drew1)|exact HB.out))):w.heap.size≤gb384));clear HB;have HB:=n0_;have BK384:=n1_;have GW384:=n2_;have GE384:=n3_;clear n0_ n1_ n2_ n3_;clear hb hbox hg)|((with_reducible refine gate_dst (N:=3) rfl ?_);refine box_event ?hg (N:=3) ?hd (cs:= #[.int .i64 a1_0, .bool a1_1]) (t:=38) ?hr ?_;(case hd=>rfl);(case hg=>rfl);(case hr=>first|(go_simp;done)|(go_simp;rfl));intro gb385 hg w5 hbox hb;have n0_:=Aside0.mk (blk_below (g:=gb384) (o:= .cells #[.int .i64 a0_0, .bool a0_1, .slice A0_2 l0_2.length c0_2, .slice A0_3 l0_3.length c0_3] 115 (0,0)) (by(with_reducible repeat(first|refine blk_drewN ?_ _|refine blk_drew ?_|refine blk_alloc ?_ _));exact BK384.out) hb);have n1_:=Aside0.mk (below_step (by repeat(first|(with_reducible first|exact HB.out|apply below_alloc|apply pw_below_drewN|apply below_drew1|refine below_set ?_ GE384.out)|exact HB.out)) hb);have n2_:=Aside0.mk (hbox);have n3_:=Aside0.mk ((by rw[hg];exact(below_size (by repeat(first|(with_reducible first|exact HB.out|apply below_alloc|apply pw_below_drewN|apply below_drew1|refine below_set ?_ GE384.out)|exact HB.out))):w.heap.size≤gb385));have n4_:=Aside0.mk ((by rw[hg];exact(below_size (by repeat(first|(with_reducible first|exact HB.out|apply below_alloc|apply pw_below_drewN|apply below_drew1|refine below_set ?_ GE384.out)|exact HB.out))):w.heap.size≤gb385));have n5_:=Aside0.mk ((by rw[hg];exact Nat.ne_of_lt (blk_lt (g:=gb384) (o:= .cells #[.int .i64 a0_0, .bool a0_1, .slice A0_2 l0_2.length c0_2, .slice A0_3 l0_3.length c0_3] 115 (0,0)) (by(with_reducible repeat(first|refine blk_drewN ?_ _|refine blk_drew ?_|refine blk_alloc ?_ _));exact BK384.out)):gb384≠gb385));have n6_:=Aside0.mk ((by rw[hg];exact Nat.ne_of_gt (blk_lt (g:=gb384) (o:= .cells #[.int .i64 a0_0, .bool a0_1, .slice A0_2 l0_2.length c0_2, .slice A0_3 l0_3.length c0_3] 115 (0,0)) (by(with_reducible repeat(first|refine blk_drewN ?_ _|refine blk_drew ?_|refine blk_alloc ?_ _));exact BK384.out)):gb385≠gb384));clear BK384;clear HB;have BK384:=n0_;have HB:=n1_;have BK385:=n2_;have GW385:=n3_;have GE385:=n4_;have NB384_385:=n5_;have NB385_384:=n6_;clear n0_ n1_ n2_ n3_ n4_ n5_ n6_;clear hb hbox hg;have hnb6:=NB385_384.out;have hnc6:=NB384_385.out;have hcz7_0:w5.cell? ⟨gb385,0,none⟩=some (.int .i64 a1_0):=(blk_cell BK385.out 0).trans rfl;have hcz7_1:w5.cell? ⟨gb385,1,none⟩=some (.bool a1_1):=(blk_cell BK385.out 1).trans rfl;have hfz7_0:=blk_frozen BK385.out 0;have hfz7_1:=blk_frozen BK385.out 1;have hcz8_0:w5.cell? ⟨gb384,0,none⟩=some (.int .i64 a0_0):=(blk_cell BK384.out 0).trans rfl;have hcz8_1:w5.cell? ⟨gb384,1,none⟩=some (.bool a0_1):=(blk_cell BK384.out 1).trans rfl;have hcz8_2:w5.cell? ⟨gb384,2,none⟩=some (.slice A0_2 l0_2.length c0_2):=(blk_cell BK384.out 2).trans rfl;have hcz8_3:w5.cell? ⟨gb384,3,none⟩=some (.slice A0_3 l0_3.length c0_3):=(blk_cell BK384.out 3).trans rfl;have hfz8_0:=blk_frozen BK384.out 0;have hfz8_1:=blk_frozen BK384.out 1;have hfz8_2:=blk_frozen BK384.out 2;have hfz8_3:=blk_frozen BK384.out 3)|((with_reducible refine gate_callee (f:=106) rfl ?_);refine goesL_ (some 11) rfl rfl Try.func106 (by kernel_rfl) rfl #[.agg #[.int .i64 a0_0, .bool a0_1, .slice A0_2 l0_2.length c0_2, .slice A0_3 l0_3.length c0_3], .agg #[.int .i64 a1_0, .bool (!a1_1)]] rfl (by(try simp only[List.map_toArray,List.map_cons,List.map_nil]);first|done|rfl|(simp only[List.length_drop,List.length_take];rfl)) ?_;(with_reducible refine(static_Flowing_From.calls a0_0 a0_1 _ _ l0_2 _ _ l0_3 a1_0 (!a1_1) t386 _ ?side1 ?side2 ?side3 ?side4 A3.out).mono ?_);(case side1=>exact Kd.C_below HR0_2.out (by repeat(first|(with_reducible first|exact HB.out|apply below_alloc|apply pw_below_drewN|apply below_drew1|refine below_set ?_ GE384.out|refine below_set ?_ GE385.out)|exact HB.out)));(case side2=>exact HC0_2.out);(case side3=>exact Kd.C_below HR0_3.out (by repeat(first|(with_reducible first|exact HB.out|apply below_alloc|apply pw_below_drewN|apply below_drew1|refine below_set ?_ GE384.out|refine below_set ?_ GE385.out)|exact HB.out)));(case side4=>exact HC0_3.out);rintro e w9 ⟨rfl,hb⟩;refine⟨_,rfl,?_⟩;have n0_:=Aside0.mk (blk_below (g:=gb384) (o:= .cells #[.int .i64 a0_0, .bool a0_1, .slice A0_2 l0_2.length c0_2, .slice A0_3 l0_3.length c0_3] 115 (0,0)) (by(with_reducible repeat(first|refine blk_drewN ?_ _|refine blk_drew ?_|refine blk_alloc ?_ _));refine blk_far ?_ NB384_385.out _;(with_reducible repeat(first|refine blk_drewN ?_ _|refine blk_drew ?_|refine blk_alloc ?_ _));exact BK384.out) hb);have n1_:=Aside0.mk (blk_below (g:=gb385) (o:= .cells #[.int .i64 a1_0, .bool (!a1_1)] 38 (0,0)) (by(with_reducible repeat(first|refine blk_drewN ?_ _|refine blk_drew ?_|refine blk_alloc ?_ _));refine blk_put (cs:= #[.int .i64 a1_0, .bool a1_1]) ?_ 1 _ rfl;(with_reducible repeat(first|refine blk_drewN ?_ _|refine blk_drew ?_|refine blk_alloc ?_ _));exact BK385.out) hb);have n2_:=Aside0.mk (below_step (by repeat(first|(with_reducible first|exact HB.out|apply below_alloc|apply pw_below_drewN|apply below_drew1|refine below_set ?_ GE384.out|refine below_set ?_ GE385.out)|exact HB.out)) hb);clear BK384;clear BK385;clear HB;have BK384:=n0_;have BK385:=n1_;have HB:=n2_;clear n0_ n1_ n2_;(try clear hb);(try clear hb2);(try clear hk);(try clear hi)))
 go_ret
 exact⟨by first|rfl|(simp[errW_none,errW_some]<;>rfl)|(simp[*,errW_none,errW_some]<;>rfl),by repeat(first|(with_reducible first|exact HB.out|apply below_alloc|apply pw_below_drewN|apply below_drew1|refine below_set ?_ GE384.out|refine below_set ?_ GE385.out)|exact HB.out)⟩
end Go.Proofs.Ytkcpanpdipmmmaa.P
namespace Go.Proofs.Ytkcpanpdipmmmaa.P
open Go.RowKit Go.Proofs.YtkcpanpdipmmmaaW.PrintWords Go.Proofs.YtkcpanpdipmmmaaW.PrintLast Go.Proofs.YtkcpanpdipmmmaaW.PrintMore
attribute [local go_sem] max2_int min2_int max_two min_two max_three min_three max_four min_four
def static_Flowing_Room.f (a0_0:Int) (a0_1:Bool) (l0_2:List (S74)) (l0_3:List Int) (a1_0:Int) (a1_1:Bool):Option (Int):=if a1_1=true then(if 0≤a1_0 then(if a1_0<(l0_3.length:Int) then(some (rd l0_3 a1_0)) else(none)) else(none)) else(if 0≤a1_0 then(if a1_0<(l0_2.length:Int) then(if a1_0<(l0_3.length:Int) then(some (wrap64 (((rd_T74 l0_2 a1_0).f2) - (rd l0_3 a1_0)))) else(none)) else(none)) else(none))
set_option maxHeartbeats 8000000 in
set_option maxRecDepth 100000 in
theorem static_Flowing_Room.calls (a0_0:Int) (a0_1:Bool) (A0_2:Option Addr) (c0_2:Nat) (l0_2:List (S74)) (A0_3:Option Addr) (c0_3:Nat) (l0_3:List Int) (a1_0:Int) (a1_1:Bool) (r:Int) (w:World) (hr0_2:Kd.C k74 w A0_2 l0_2.length l0_2) (hc0_2:l0_2.length≤c0_2) (hr0_3:Kd.C (Kd.int .i64) w A0_3 l0_3.length l0_3) (hc0_3:l0_3.length≤c0_3) (h:static_Flowing_Room.f a0_0 a0_1 l0_2 l0_3 a1_0 a1_1=some r):
  Calls Try.prog 104 #[.agg #[.int .i64 a0_0, .bool a0_1, .slice A0_2 l0_2.length c0_2, .slice A0_3 l0_3.length c0_3], .agg #[.int .i64 a1_0, .bool a1_1]] w fun e w'=>e= .returned (.int .i64 r)∧Below w.heap.size w w':=by
 have hu115:=Try.underlying115
 have hu38:=Try.underlying38
 have HR0_2:=Aside0.mk hr0_2
 have HC0_2:=Aside0.mk hc0_2
 clear hr0_2 hc0_2
 have HR0_3:=Aside0.mk hr0_3
 have HC0_3:=Aside0.mk hc0_3
 clear hr0_3 hc0_3
 have HB:=Aside0.mk (Below.refl w.heap.size w)
 have H:(if a1_1=true then(if 0≤a1_0 then(if a1_0<(l0_3.length:Int) then(some (rd l0_3 a1_0)) else(none)) else(none)) else(if 0≤a1_0 then(if a1_0<(l0_2.length:Int) then(if a1_0<(l0_3.length:Int) then(some (wrap64 (((rd_T74 l0_2 a1_0).f2) - (rd l0_3 a1_0)))) else(none)) else(none)) else(none)))=some r:=h
 clear h
 by_cases c3:a1_1=true
 ·subst c3
  have H1:(if 0≤a1_0 then(if a1_0<(l0_3.length:Int) then(some (rd l0_3 a1_0)) else(none)) else(none))=some r:=by first|(rw[if_pos rfl] at H;exact H)|(rw[if_pos trivial] at H;exact H)
  clear H
  have H:=H1
  clear H1
  by_cases c4:0≤a1_0
  rotate_left
  ·rw[if_neg c4] at H
   exact absurd H (by simp)
  rw[if_pos c4] at H
  have c4b0:decide (0≤a1_0)=true:=decide_eq_true c4
  clear c4
  by_cases c5:a1_0<(l0_3.length:Int)
  rotate_left
  ·rw[if_neg c5] at H
   exact absurd H (by simp)
  rw[if_pos c5] at H
  have c5b0:decide (a1_0<(l0_3.length:Int))=true:=decide_eq_true c5
  clear c5
  obtain rfl:=Option.some.inj H
  go_enter Try.func104,Try.ntmps104
  go_wp2_with (first|((with_reducible refine gate_dst (N:=2) rfl ?_);refine box_event ?hg (N:=2) ?hd (cs:= #[.int .i64 a0_0, .bool a0_1, .slice A0_2 l0_2.length c0_2, .slice A0_3 l0_3.length c0_3]) (t:=115) ?hr ?_;(case hd=>rfl);(case hg=>rfl);(case hr=>first|(go_simp;done)|(go_simp;rfl));intro gb375 hg w6 hbox hb;have n0_:=Aside0.mk (below_step HB.out hb);have n1_:=Aside0.mk (hbox);have n2_:=Aside0.mk ((by rw[hg];exact(below_size HB.out):w.heap.size≤gb375));have n3_:=Aside0.mk ((by rw[hg];exact(below_size HB.out):w.heap.size≤gb375));clear HB;have HB:=n0_;have BK375:=n1_;have GW375:=n2_;have GE375:=n3_;clear n0_ n1_ n2_ n3_;clear hb hbox hg)|((with_reducible refine gate_dst (N:=3) rfl ?_);refine box_event ?hg (N:=3) ?hd (cs:= #[.int .i64 a1_0, .bool true]) (t:=38) ?hr ?_;(case hd=>rfl);(case hg=>rfl);(case hr=>first|(go_simp;done)|(go_simp;rfl));intro gb376 hg w7 hbox hb;have n0_:=Aside0.mk (blk_below BK375.out hb);have n1_:=Aside0.mk (below_step HB.out hb);have n2_:=Aside0.mk (hbox);have n3_:=Aside0.mk ((by rw[hg];exact(below_size HB.out):w.heap.size≤gb376));have n4_:=Aside0.mk ((by rw[hg];exact(below_size HB.out):w.heap.size≤gb376));have n5_:=Aside0.mk ((by rw[hg];exact Nat.ne_of_lt (blk_lt BK375.out):gb375≠gb376));have n6_:=Aside0.mk ((by rw[hg];exact Nat.ne_of_gt (blk_lt BK375.out):gb376≠gb375));clear BK375;clear HB;have BK375:=n0_;have HB:=n1_;have BK376:=n2_;have GW376:=n3_;have GE376:=n4_;have NB375_376:=n5_;have NB376_375:=n6_;clear n0_ n1_ n2_ n3_ n4_ n5_ n6_;clear hb hbox hg;have hnb8:=NB376_375.out;have hnc8:=NB375_376.out;have hcz9_0:w7.cell? ⟨gb376,0,none⟩=some (.int .i64 a1_0):=(blk_cell BK376.out 0).trans rfl;have hcz9_1:w7.cell? ⟨gb376,1,none⟩=some (.bool true):=(blk_cell BK376.out 1).trans rfl;have hfz9_0:=blk_frozen BK376.out 0;have hfz9_1:=blk_frozen BK376.out 1;have hcz10_0:w7.cell? ⟨gb375,0,none⟩=some (.int .i64 a0_0):=(blk_cell BK375.out 0).trans rfl;have hcz10_1:w7.cell? ⟨gb375,1,none⟩=some (.bool a0_1):=(blk_cell BK375.out 1).trans rfl;have hcz10_2:w7.cell? ⟨gb375,2,none⟩=some (.slice A0_2 l0_2.length c0_2):=(blk_cell BK375.out 2).trans rfl;have hcz10_3:w7.cell? ⟨gb375,3,none⟩=some (.slice A0_3 l0_3.length c0_3):=(blk_cell BK375.out 3).trans rfl;have hfz10_0:=blk_frozen BK375.out 0;have hfz10_1:=blk_frozen BK375.out 1;have hfz10_2:=blk_frozen BK375.out 2;have hfz10_3:=blk_frozen BK375.out 3;have p377:0≤(a1_0:Int):=of_decide_eq_true (by first|(with_reducible assumption)|assumption);have q377:a1_0<(l0_3.length:Int):=of_decide_eq_true (by first|(with_reducible assumption)|assumption);obtain⟨ad377,e377,hx377_0⟩:=Kd.at_int HR0_3.out a1_0 p377 q377;cases e377;replace hx377_0:=(HB.out.cell (World.block_lt_of_cell? w _ hx377_0)).trans hx377_0;replace p377:=eq_true p377;replace q377:=eq_true q377))
  repeat(go_quiet (first|((with_reducible refine gate_dst (N:=2) rfl ?_);refine box_event ?hg (N:=2) ?hd (cs:= #[.int .i64 a0_0, .bool a0_1, .slice A0_2 l0_2.length c0_2, .slice A0_3 l0_3.length c0_3]) (t:=115) ?hr ?_;(case hd=>rfl);(case hg=>rfl);(case hr=>first|(go_simp;done)|(go_simp;rfl));intro gb375 hg w6 hbox hb;have n0_:=Aside0.mk (below_step HB.out hb);have n1_:=Aside0.mk (hbox);have n2_:=Aside0.mk ((by rw[hg];exact(below_size HB.out):w.heap.size≤gb375));have n3_:=Aside0.mk ((by rw[hg];exact(below_size HB.out):w.heap.size≤gb375));clear HB;have HB:=n0_;have BK375:=n1_;have GW375:=n2_;have GE375:=n3_;clear n0_ n1_ n2_ n3_;clear hb hbox hg)|((with_reducible refine gate_dst (N:=3) rfl ?_);refine box_event ?hg (N:=3) ?hd (cs:= #[.int .i64 a1_0, .bool true]) (t:=38) ?hr ?_;(case hd=>rfl);(case hg=>rfl);(case hr=>first|(go_simp;done)|(go_simp;rfl));intro gb376 hg w7 hbox hb;have n0_:=Aside0.mk (blk_below BK375.out hb);have n1_:=Aside0.mk (below_step HB.out hb);have n2_:=Aside0.mk (hbox);have n3_:=Aside0.mk ((by rw[hg];exact(below_size HB.out):w.heap.size≤gb376));have n4_:=Aside0.mk ((by rw[hg];exact(below_size HB.out):w.heap.size≤gb376));have n5_:=Aside0.mk ((by rw[hg];exact Nat.ne_of_lt (blk_lt BK375.out):gb375≠gb376));have n6_:=Aside0.mk ((by rw[hg];exact Nat.ne_of_gt (blk_lt BK375.out):gb376≠gb375));clear BK375;clear HB;have BK375:=n0_;have HB:=n1_;have BK376:=n2_;have GW376:=n3_;have GE376:=n4_;have NB375_376:=n5_;have NB376_375:=n6_;clear n0_ n1_ n2_ n3_ n4_ n5_ n6_;clear hb hbox hg;have hnb8:=NB376_375.out;have hnc8:=NB375_376.out;have hcz9_0:w7.cell? ⟨gb376,0,none⟩=some (.int .i64 a1_0):=(blk_cell BK376.out 0).trans rfl;have hcz9_1:w7.cell? ⟨gb376,1,none⟩=some (.bool true):=(blk_cell BK376.out 1).trans rfl;have hfz9_0:=blk_frozen BK376.out 0;have hfz9_1:=blk_frozen BK376.out 1;have hcz10_0:w7.cell? ⟨gb375,0,none⟩=some (.int .i64 a0_0):=(blk_cell BK375.out 0).trans rfl;have hcz10_1:w7.cell? ⟨gb375,1,none⟩=some (.bool a0_1):=(blk_cell BK375.out 1).trans rfl;have hcz10_2:w7.cell? ⟨gb375,2,none⟩=some (.slice A0_2 l0_2.length c0_2):=(blk_cell BK375.out 2).trans rfl;have hcz10_3:w7.cell? ⟨gb375,3,none⟩=some (.slice A0_3 l0_3.length c0_3):=(blk_cell BK375.out 3).trans rfl;have hfz10_0:=blk_frozen BK375.out 0;have hfz10_1:=blk_frozen BK375.out 1;have hfz10_2:=blk_frozen BK375.out 2;have hfz10_3:=blk_frozen BK375.out 3;have p377:0≤(a1_0:Int):=of_decide_eq_true (by first|(with_reducible assumption)|assumption);have q377:a1_0<(l0_3.length:Int):=of_decide_eq_true (by first|(with_reducible assumption)|assumption);obtain⟨ad377,e377,hx377_0⟩:=Kd.at_int HR0_3.out a1_0 p377 q377;cases e377;replace hx377_0:=(HB.out.cell (World.block_lt_of_cell? w _ hx377_0)).trans hx377_0;replace p377:=eq_true p377;replace q377:=eq_true q377));try go_wp2_with (first|((with_reducible refine gate_dst (N:=2) rfl ?_);refine box_event ?hg (N:=2) ?hd (cs:= #[.int .i64 a0_0, .bool a0_1, .slice A0_2 l0_2.length c0_2, .slice A0_3 l0_3.length c0_3]) (t:=115) ?hr ?_;(case hd=>rfl);(case hg=>rfl);(case hr=>first|(go_simp;done)|(go_simp;rfl));intro gb375 hg w6 hbox hb;have n0_:=Aside0.mk (below_step HB.out hb);have n1_:=Aside0.mk (hbox);have n2_:=Aside0.mk ((by rw[hg];exact(below_size HB.out):w.heap.size≤gb375));have n3_:=Aside0.mk ((by rw[hg];exact(below_size HB.out):w.heap.size≤gb375));clear HB;have HB:=n0_;have BK375:=n1_;have GW375:=n2_;have GE375:=n3_;clear n0_ n1_ n2_ n3_;clear hb hbox hg)|((with_reducible refine gate_dst (N:=3) rfl ?_);refine box_event ?hg (N:=3) ?hd (cs:= #[.int .i64 a1_0, .bool true]) (t:=38) ?hr ?_;(case hd=>rfl);(case hg=>rfl);(case hr=>first|(go_simp;done)|(go_simp;rfl));intro gb376 hg w7 hbox hb;have n0_:=Aside0.mk (blk_below BK375.out hb);have n1_:=Aside0.mk (below_step HB.out hb);have n2_:=Aside0.mk (hbox);have n3_:=Aside0.mk ((by rw[hg];exact(below_size HB.out):w.heap.size≤gb376));have n4_:=Aside0.mk ((by rw[hg];exact(below_size HB.out):w.heap.size≤gb376));have n5_:=Aside0.mk ((by rw[hg];exact Nat.ne_of_lt (blk_lt BK375.out):gb375≠gb376));have n6_:=Aside0.mk ((by rw[hg];exact Nat.ne_of_gt (blk_lt BK375.out):gb376≠gb375));clear BK375;clear HB;have BK375:=n0_;have HB:=n1_;have BK376:=n2_;have GW376:=n3_;have GE376:=n4_;have NB375_376:=n5_;have NB376_375:=n6_;clear n0_ n1_ n2_ n3_ n4_ n5_ n6_;clear hb hbox hg;have hnb8:=NB376_375.out;have hnc8:=NB375_376.out;have hcz9_0:w7.cell? ⟨gb376,0,none⟩=some (.int .i64 a1_0):=(blk_cell BK376.out 0).trans rfl;have hcz9_1:w7.cell? ⟨gb376,1,none⟩=some (.bool true):=(blk_cell BK376.out 1).trans rfl;have hfz9_0:=blk_frozen BK376.out 0;have hfz9_1:=blk_frozen BK376.out 1;have hcz10_0:w7.cell? ⟨gb375,0,none⟩=some (.int .i64 a0_0):=(blk_cell BK375.out 0).trans rfl;have hcz10_1:w7.cell? ⟨gb375,1,none⟩=some (.bool a0_1):=(blk_cell BK375.out 1).trans rfl;have hcz10_2:w7.cell? ⟨gb375,2,none⟩=some (.slice A0_2 l0_2.length c0_2):=(blk_cell BK375.out 2).trans rfl;have hcz10_3:w7.cell? ⟨gb375,3,none⟩=some (.slice A0_3 l0_3.length c0_3):=(blk_cell BK375.out 3).trans rfl;have hfz10_0:=blk_frozen BK375.out 0;have hfz10_1:=blk_frozen BK375.out 1;have hfz10_2:=blk_frozen BK375.out 2;have hfz10_3:=blk_frozen BK375.out 3;have p377:0≤(a1_0:Int):=of_decide_eq_true (by first|(with_reducible assumption)|assumption);have q377:a1_0<(l0_3.length:Int):=of_decide_eq_true (by first|(with_reducible assumption)|assumption);obtain⟨ad377,e377,hx377_0⟩:=Kd.at_int HR0_3.out a1_0 p377 q377;cases e377;replace hx377_0:=(HB.out.cell (World.block_lt_of_cell? w _ hx377_0)).trans hx377_0;replace p377:=eq_true p377;replace q377:=eq_true q377)))
  go_ret
  exact⟨by first|rfl|(simp[errW_none,errW_some]<;>rfl)|(simp[*,errW_none,errW_some]<;>rfl),HB.out⟩
 replace c3:=Bool.eq_false_iff.mpr c3
 subst c3
 have H1:(if 0≤a1_0 then(if a1_0<(l0_2.length:Int) then(if a1_0<(l0_3.length:Int) then(some (wrap64 (((rd_T74 l0_2 a1_0).f2) - (rd l0_3 a1_0)))) else(none)) else(none)) else(none))=some r:=by rw[if_neg (show ¬ (false=true) by decide)] at H;exact H
 clear H
 have H:=H1
 clear H1
 by_cases c11:0≤a1_0
 rotate_left
 ·rw[if_neg c11] at H
  exact absurd H (by simp)
 rw[if_pos c11] at H
 have c11b0:decide (0≤a1_0)=true:=decide_eq_true c11
 clear c11
 by_cases c12:a1_0<(l0_2.length:Int)
 rotate_left
 ·rw[if_neg c12] at H
  exact absurd H (by simp)
 rw[if_pos c12] at H
 have c12b0:decide (a1_0<(l0_2.length:Int))=true:=decide_eq_true c12
 clear c12
 by_cases c13:a1_0<(l0_3.length:Int)
 rotate_left
 ·rw[if_neg c13] at H
  exact absurd H (by simp)
 rw[if_pos c13] at H
 have c13b0:decide (a1_0<(l0_3.length:Int))=true:=decide_eq_true c13
 clear c13
 obtain rfl:=Option.some.inj H
 go_enter Try.func104,Try.ntmps104
 go_wp2_with (first|((with_reducible refine gate_dst (N:=2) rfl ?_);refine box_event ?hg (N:=2) ?hd (cs:= #[.int .i64 a0_0, .bool a0_1, .slice A0_2 l0_2.length c0_2, .slice A0_3 l0_3.length c0_3]) (t:=115) ?hr ?_;(case hd=>rfl);(case hg=>rfl);(case hr=>first|(go_simp;done)|(go_simp;rfl));intro gb375 hg w14 hbox hb;have n0_:=Aside0.mk (below_step HB.out hb);have n1_:=Aside0.mk (hbox);have n2_:=Aside0.mk ((by rw[hg];exact(below_size HB.out):w.heap.size≤gb375));have n3_:=Aside0.mk ((by rw[hg];exact(below_size HB.out):w.heap.size≤gb375));clear HB;have HB:=n0_;have BK375:=n1_;have GW375:=n2_;have GE375:=n3_;clear n0_ n1_ n2_ n3_;clear hb hbox hg)|((with_reducible refine gate_dst (N:=3) rfl ?_);refine box_event ?hg (N:=3) ?hd (cs:= #[.int .i64 a1_0, .bool false]) (t:=38) ?hr ?_;(case hd=>rfl);(case hg=>rfl);(case hr=>first|(go_simp;done)|(go_simp;rfl));intro gb376 hg w15 hbox hb;have n0_:=Aside0.mk (blk_below BK375.out hb);have n1_:=Aside0.mk (below_step HB.out hb);have n2_:=Aside0.mk (hbox);have n3_:=Aside0.mk ((by rw[hg];exact(below_size HB.out):w.heap.size≤gb376));have n4_:=Aside0.mk ((by rw[hg];exact(below_size HB.out):w.heap.size≤gb376));have n5_:=Aside0.mk ((by rw[hg];exact Nat.ne_of_lt (blk_lt BK375.out):gb375≠gb376));have n6_:=Aside0.mk ((by rw[hg];exact Nat.ne_of_gt (blk_lt BK375.out):gb376≠gb375));clear BK375;clear HB;have BK375:=n0_;have HB:=n1_;have BK376:=n2_;have GW376:=n3_;have GE376:=n4_;have NB375_376:=n5_;have NB376_375:=n6_;clear n0_ n1_ n2_ n3_ n4_ n5_ n6_;clear hb hbox hg;have hnb16:=NB376_375.out;have hnc16:=NB375_376.out;have hcz17_0:w15.cell? ⟨gb376,0,none⟩=some (.int .i64 a1_0):=(blk_cell BK376.out 0).trans rfl;have hcz17_1:w15.cell? ⟨gb376,1,none⟩=some (.bool false):=(blk_cell BK376.out 1).trans rfl;have hfz17_0:=blk_frozen BK376.out 0;have hfz17_1:=blk_frozen BK376.out 1;have hcz18_0:w15.cell? ⟨gb375,0,none⟩=some (.int .i64 a0_0):=(blk_cell BK375.out 0).trans rfl;have hcz18_1:w15.cell? ⟨gb375,1,none⟩=some (.bool a0_1):=(blk_cell BK375.out 1).trans rfl;have hcz18_2:w15.cell? ⟨gb375,2,none⟩=some (.slice A0_2 l0_2.length c0_2):=(blk_cell BK375.out 2).trans rfl;have hcz18_3:w15.cell? ⟨gb375,3,none⟩=some (.slice A0_3 l0_3.length c0_3):=(blk_cell BK375.out 3).trans rfl;have hfz18_0:=blk_frozen BK375.out 0;have hfz18_1:=blk_frozen BK375.out 1;have hfz18_2:=blk_frozen BK375.out 2;have hfz18_3:=blk_frozen BK375.out 3;have p378:0≤(a1_0:Int):=of_decide_eq_true (by first|(with_reducible assumption)|assumption);have q378:a1_0<(l0_2.length:Int):=of_decide_eq_true (by first|(with_reducible assumption)|assumption);obtain⟨ad378,e378,hx378_0,hx378_1,hx378_2,hx378_3⟩:=at_T74 HR0_2.out a1_0 p378 q378;cases e378;replace hx378_0:=(HB.out.cell (World.block_lt_of_cell? w _ hx378_0)).trans hx378_0;replace hx378_1:=(HB.out.cell (World.block_lt_of_cell? w _ hx378_1)).trans hx378_1;replace hx378_2:=(HB.out.cell (World.block_lt_of_cell? w _ hx378_2)).trans hx378_2;replace hx378_3:=(HB.out.cell (World.block_lt_of_cell? w _ hx378_3)).trans hx378_3;replace p378:=eq_true p378;replace q378:=eq_true q378;have p379:0≤(a1_0:Int):=of_decide_eq_true (by first|(with_reducible assumption)|assumption);have q379:a1_0<(l0_3.length:Int):=of_decide_eq_true (by first|(with_reducible assumption)|assumption);obtain⟨ad379,e379,hx379_0⟩:=Kd.at_int HR0_3.out a1_0 p379 q379;cases e379;replace hx379_0:=(HB.out.cell (World.block_lt_of_cell? w _ hx379_0)).trans hx379_0;replace p379:=eq_true p379;replace q379:=eq_true q379))
 repeat(go_quiet (first|((with_reducible refine gate_dst (N:=2) rfl ?_);refine box_event ?hg (N:=2) ?hd (cs:= #[.int .i64 a0_0, .bool a0_1, .slice A0_2 l0_2.length c0_2, .slice A0_3 l0_3.length c0_3]) (t:=115) ?hr ?_;(case hd=>rfl);(case hg=>rfl);(case hr=>first|(go_simp;done)|(go_simp;rfl));intro gb375 hg w14 hbox hb;have n0_:=Aside0.mk (below_step HB.out hb);have n1_:=Aside0.mk (hbox);have n2_:=Aside0.mk ((by rw[hg];exact(below_size HB.out):w.heap.size≤gb375));have n3_:=Aside0.mk ((by rw[hg];exact(below_size HB.out):w.heap.size≤gb375));clear HB;have HB:=n0_;have BK375:=n1_;have GW375:=n2_;have GE375:=n3_;clear n0_ n1_ n2_ n3_;clear hb hbox hg)|((with_reducible refine gate_dst (N:=3) rfl ?_);refine box_event ?hg (N:=3) ?hd (cs:= #[.int .i64 a1_0, .bool false]) (t:=38) ?hr ?_;(case hd=>rfl);(case hg=>rfl);(case hr=>first|(go_simp;done)|(go_simp;rfl));intro gb376 hg w15 hbox hb;have n0_:=Aside0.mk (blk_below BK375.out hb);have n1_:=Aside0.mk (below_step HB.out hb);have n2_:=Aside0.mk (hbox);have n3_:=Aside0.mk ((by rw[hg];exact(below_size HB.out):w.heap.size≤gb376));have n4_:=Aside0.mk ((by rw[hg];exact(below_size HB.out):w.heap.size≤gb376));have n5_:=Aside0.mk ((by rw[hg];exact Nat.ne_of_lt (blk_lt BK375.out):gb375≠gb376));have n6_:=Aside0.mk ((by rw[hg];exact Nat.ne_of_gt (blk_lt BK375.out):gb376≠gb375));clear BK375;clear HB;have BK375:=n0_;have HB:=n1_;have BK376:=n2_;have GW376:=n3_;have GE376:=n4_;have NB375_376:=n5_;have NB376_375:=n6_;clear n0_ n1_ n2_ n3_ n4_ n5_ n6_;clear hb hbox hg;have hnb16:=NB376_375.out;have hnc16:=NB375_376.out;have hcz17_0:w15.cell? ⟨gb376,0,none⟩=some (.int .i64 a1_0):=(blk_cell BK376.out 0).trans rfl;have hcz17_1:w15.cell? ⟨gb376,1,none⟩=some (.bool false):=(blk_cell BK376.out 1).trans rfl;have hfz17_0:=blk_frozen BK376.out 0;have hfz17_1:=blk_frozen BK376.out 1;have hcz18_0:w15.cell? ⟨gb375,0,none⟩=some (.int .i64 a0_0):=(blk_cell BK375.out 0).trans rfl;have hcz18_1:w15.cell? ⟨gb375,1,none⟩=some (.bool a0_1):=(blk_cell BK375.out 1).trans rfl;have hcz18_2:w15.cell? ⟨gb375,2,none⟩=some (.slice A0_2 l0_2.length c0_2):=(blk_cell BK375.out 2).trans rfl;have hcz18_3:w15.cell? ⟨gb375,3,none⟩=some (.slice A0_3 l0_3.length c0_3):=(blk_cell BK375.out 3).trans rfl;have hfz18_0:=blk_frozen BK375.out 0;have hfz18_1:=blk_frozen BK375.out 1;have hfz18_2:=blk_frozen BK375.out 2;have hfz18_3:=blk_frozen BK375.out 3;have p378:0≤(a1_0:Int):=of_decide_eq_true (by first|(with_reducible assumption)|assumption);have q378:a1_0<(l0_2.length:Int):=of_decide_eq_true (by first|(with_reducible assumption)|assumption);obtain⟨ad378,e378,hx378_0,hx378_1,hx378_2,hx378_3⟩:=at_T74 HR0_2.out a1_0 p378 q378;cases e378;replace hx378_0:=(HB.out.cell (World.block_lt_of_cell? w _ hx378_0)).trans hx378_0;replace hx378_1:=(HB.out.cell (World.block_lt_of_cell? w _ hx378_1)).trans hx378_1;replace hx378_2:=(HB.out.cell (World.block_lt_of_cell? w _ hx378_2)).trans hx378_2;replace hx378_3:=(HB.out.cell (World.block_lt_of_cell? w _ hx378_3)).trans hx378_3;replace p378:=eq_true p378;replace q378:=eq_true q378;have p379:0≤(a1_0:Int):=of_decide_eq_true (by first|(with_reducible assumption)|assumption);have q379:a1_0<(l0_3.length:Int):=of_decide_eq_true (by first|(with_reducible assumption)|assumption);obtain⟨ad379,e379,hx379_0⟩:=Kd.at_int HR0_3.out a1_0 p379 q379;cases e379;replace hx379_0:=(HB.out.cell (World.block_lt_of_cell? w _ hx379_0)).trans hx379_0;replace p379:=eq_true p379;replace q379:=eq_true q379));try go_wp2_with (first|((with_reducible refine gate_dst (N:=2) rfl ?_);refine box_event ?hg (N:=2) ?hd (cs:= #[.int .i64 a0_0, .bool a0_1, .slice A0_2 l0_2.length c0_2, .slice A0_3 l0_3.length c0_3]) (t:=115) ?hr ?_;(case hd=>rfl);(case hg=>rfl);(case hr=>first|(go_simp;done)|(go_simp;rfl));intro gb375 hg w14 hbox hb;have n0_:=Aside0.mk (below_step HB.out hb);have n1_:=Aside0.mk (hbox);have n2_:=Aside0.mk ((by rw[hg];exact(below_size HB.out):w.heap.size≤gb375));have n3_:=Aside0.mk ((by rw[hg];exact(below_size HB.out):w.heap.size≤gb375));clear HB;have HB:=n0_;have BK375:=n1_;have GW375:=n2_;have GE375:=n3_;clear n0_ n1_ n2_ n3_;clear hb hbox hg)|((with_reducible refine gate_dst (N:=3) rfl ?_);refine box_event ?hg (N:=3) ?hd (cs:= #[.int .i64 a1_0, .bool false]) (t:=38) ?hr ?_;(case hd=>rfl);(case hg=>rfl);(case hr=>first|(go_simp;done)|(go_simp;rfl));intro gb376 hg w15 hbox hb;have n0_:=Aside0.mk (blk_below BK375.out hb);have n1_:=Aside0.mk (below_step HB.out hb);have n2_:=Aside0.mk (hbox);have n3_:=Aside0.mk ((by rw[hg];exact(below_size HB.out):w.heap.size≤gb376));have n4_:=Aside0.mk ((by rw[hg];exact(below_size HB.out):w.heap.size≤gb376));have n5_:=Aside0.mk ((by rw[hg];exact Nat.ne_of_lt (blk_lt BK375.out):gb375≠gb376));have n6_:=Aside0.mk ((by rw[hg];exact Nat.ne_of_gt (blk_lt BK375.out):gb376≠gb375));clear BK375;clear HB;have BK375:=n0_;have HB:=n1_;have BK376:=n2_;have GW376:=n3_;have GE376:=n4_;have NB375_376:=n5_;have NB376_375:=n6_;clear n0_ n1_ n2_ n3_ n4_ n5_ n6_;clear hb hbox hg;have hnb16:=NB376_375.out;have hnc16:=NB375_376.out;have hcz17_0:w15.cell? ⟨gb376,0,none⟩=some (.int .i64 a1_0):=(blk_cell BK376.out 0).trans rfl;have hcz17_1:w15.cell? ⟨gb376,1,none⟩=some (.bool false):=(blk_cell BK376.out 1).trans rfl;have hfz17_0:=blk_frozen BK376.out 0;have hfz17_1:=blk_frozen BK376.out 1;have hcz18_0:w15.cell? ⟨gb375,0,none⟩=some (.int .i64 a0_0):=(blk_cell BK375.out 0).trans rfl;have hcz18_1:w15.cell? ⟨gb375,1,none⟩=some (.bool a0_1):=(blk_cell BK375.out 1).trans rfl;have hcz18_2:w15.cell? ⟨gb375,2,none⟩=some (.slice A0_2 l0_2.length c0_2):=(blk_cell BK375.out 2).trans rfl;have hcz18_3:w15.cell? ⟨gb375,3,none⟩=some (.slice A0_3 l0_3.length c0_3):=(blk_cell BK375.out 3).trans rfl;have hfz18_0:=blk_frozen BK375.out 0;have hfz18_1:=blk_frozen BK375.out 1;have hfz18_2:=blk_frozen BK375.out 2;have hfz18_3:=blk_frozen BK375.out 3;have p378:0≤(a1_0:Int):=of_decide_eq_true (by first|(with_reducible assumption)|assumption);have q378:a1_0<(l0_2.length:Int):=of_decide_eq_true (by first|(with_reducible assumption)|assumption);obtain⟨ad378,e378,hx378_0,hx378_1,hx378_2,hx378_3⟩:=at_T74 HR0_2.out a1_0 p378 q378;cases e378;replace hx378_0:=(HB.out.cell (World.block_lt_of_cell? w _ hx378_0)).trans hx378_0;replace hx378_1:=(HB.out.cell (World.block_lt_of_cell? w _ hx378_1)).trans hx378_1;replace hx378_2:=(HB.out.cell (World.block_lt_of_cell? w _ hx378_2)).trans hx378_2;replace hx378_3:=(HB.out.cell (World.block_lt_of_cell? w _ hx378_3)).trans hx378_3;replace p378:=eq_true p378;replace q378:=eq_true q378;have p379:0≤(a1_0:Int):=of_decide_eq_true (by first|(with_reducible assumption)|assumption);have q379:a1_0<(l0_3.length:Int):=of_decide_eq_true (by first|(with_reducible assumption)|assumption);obtain⟨ad379,e379,hx379_0⟩:=Kd.at_int HR0_3.out a1_0 p379 q379;cases e379;replace hx379_0:=(HB.out.cell (World.block_lt_of_cell? w _ hx379_0)).trans hx379_0;replace p379:=eq_true p379;replace q379:=eq_true q379)))
 go_ret
 exact⟨by first|rfl|(simp[errW_none,errW_some]<;>rfl)|(simp[*,errW_none,errW_some]<;>rfl),by repeat(first|(with_reducible first|exact HB.out|apply below_alloc|apply pw_below_drewN|apply below_drew1|refine below_set ?_ GE375.out|refine below_set ?_ GE376.out)|exact HB.out)⟩
end Go.Proofs.Ytkcpanpdipmmmaa.P
namespace Go.Proofs.Ytkcpanpdipmmmaa.H
abbrev Ed:=Nat × Nat × Int
abbrev Tm:=Nat→Option Int
def trig (σ:Tm) (e:Ed):Bool:=
 match σ e.1 with
 |none=>false
 |some x=>match σ e.2.1 with
  |none=>true
  |some y=>decide (x+e.2.2<y)
def relax (σ:Tm) (e:Ed):Tm:=if trig σ e then(fun v=>if v=e.2.1 then some ((σ e.1).getD 0+e.2.2) else σ v) else σ
def pass (E:List Ed) (σ:Tm):Tm:=E.foldl relax σ
def Path (E:List Ed):Nat→List Ed→Nat→Prop
 |a,[],b=>a=b
 |a,e::l,b=>e∈E∧e.1=a∧Path E e.2.1 l b
def long:List Ed→Int
 |[]=>0
 |e::l=>e.2.2+long l
theorem long_app (l m:List Ed):long (l ++ m)=long l+long m:=by
 induction l with
 |nil=>simp[long]
 |cons e l ih=>simp only[List.cons_append,long,ih];omega
def its (E:List Ed):Nat→Tm→Tm
 |0,σ=>σ
 |k+1,σ=>its E k (pass E σ)
structure NoGain (E:List Ed) (r:Nat→Prop):Prop where
 on: ∀ e,e∈E→r e.1→r e.2.1
 cyc: ∀ (a:Nat) (l:List Ed),r a→Path E a l a→0≤long l
def visits (a:Nat) (l:List Ed):List Nat:=a::l.map (fun e=>e.2.1)
theorem path_split {E:List Ed} {a b x:Nat} {l:List Ed} (h:Path E a l b) (hx:x∈visits a l): ∃ l1 l2,l=l1 ++ l2∧Path E a l1 x∧Path E x l2 b:=by
 induction l generalizing a with
 |nil=>
  rcases List.mem_cons.1 hx with rfl|hx
  ·exact⟨[],[],rfl,rfl,h⟩
  ·cases hx
 |cons e l ih=>
  rcases List.mem_cons.1 hx with rfl|hx
  ·exact⟨[],e::l,rfl,rfl,h⟩
  ·obtain⟨he,hu,hp⟩:=h
   have hx':x∈visits e.2.1 l:=by simpa [visits] using hx
   obtain⟨l1,l2,e1,h1,h2⟩:=ih hp hx'
   exact⟨e::l1,l2,by rw[e1];rfl,⟨he,hu,h1⟩,h2⟩
theorem cut_or {E:List Ed} {r:Nat→Prop} (ht:NoGain E r) {a b:Nat} {l:List Ed} (h:Path E a l b) (ha:r a):
  (∃ l',l'.length<l.length∧Path E a l' b∧long l'≤long l)∨(visits a l).Nodup:=by
 induction l generalizing a with
 |nil=>right;simp[visits]
 |cons e l ih=>
  obtain⟨he,hu,hp⟩:=h
  have hr:=ht.on e he (hu▸ha)
  by_cases hm:a∈visits e.2.1 l
  ·left
   obtain⟨l1,l2,e1,h1,h2⟩:=path_split hp hm
   refine⟨l2,by rw[e1];simp;omega,h2,?_⟩
   have hc:=ht.cyc a (e::l1) ha ⟨he,hu,h1⟩
   rw[e1]
   simp only[long,long_app] at hc ⊢
   omega
  ·rcases ih hp hr with ⟨l',h1,h2,h3⟩|hn
   ·left
    refine⟨e::l',by simp;omega,⟨he,hu,h2⟩,?_⟩
    simp only[long]
    omega
   ·right
    show (a::visits e.2.1 l).Nodup
    exact List.nodup_cons.2 ⟨hm,hn⟩
theorem pigeon (n:Nat): ∀ L:List Nat,L.Nodup→(∀ x,x∈L→x<n)→L.length≤n:=by
 induction n with
 |zero=>
  intro L _ h
  cases L with
  |nil=>simp
  |cons x L=>exact absurd (h x List.mem_cons_self) (Nat.not_lt_zero _)
 |succ n ih=>
  intro L hn h
  by_cases hm:n∈L
  ·have h1:=ih (L.erase n) (hn.erase n) (fun x hx=>by
    have h2:=(hn.mem_erase_iff).1 hx
    have:=h x h2.2
    have:=h2.1
    omega)
   rw[List.length_erase_of_mem hm] at h1
   omega
  ·have:=ih L hn (fun x hx=>by
    have h1:=h x hx
    have:x≠n:=fun e=>hm (e▸hx)
    omega)
   omega
theorem path_nodes {E:List Ed} {n:Nat} (hE: ∀ e,e∈E→e.1<n∧e.2.1<n) {a b:Nat} {l:List Ed} (h:Path E a l b) (ha:a<n): ∀ x,x∈visits a l→x<n:=by
 induction l generalizing a with
 |nil=>intro x hx;rcases List.mem_cons.1 hx with rfl|hx;exact ha;cases hx
 |cons e l ih=>
  intro x hx
  obtain⟨he,hu,hp⟩:=h
  rcases List.mem_cons.1 hx with rfl|hx
  ·exact ha
  ·exact ih hp (hE e he).2 x (by simpa [visits] using hx)
theorem short {E:List Ed} {n:Nat} (hE: ∀ e,e∈E→e.1<n∧e.2.1<n) {r:Nat→Prop} (ht:NoGain E r) {a b:Nat} (ha:r a) (han:a<n):
  ∀ (m:Nat) (l:List Ed),l.length≤m→Path E a l b→ ∃ l',l'.length<n∧Path E a l' b∧long l'≤long l:=by
 intro m
 induction m with
 |zero=>
  intro l hl h
  exact⟨l,by omega,h,Int.le_refl _⟩
 |succ m ih=>
  intro l hl h
  rcases cut_or ht h ha with ⟨l',h1,h2,h3⟩|hn
  ·obtain⟨l2,h4,h5,h6⟩:=ih l' (by omega) h2
   exact⟨l2,h4,h5,Int.le_trans h6 h3⟩
  ·refine⟨l,?_,h,Int.le_refl _⟩
   have:=pigeon n _ hn (path_nodes hE h han)
   simp[visits] at this
   omega
end Go.Proofs.Ytkcpanpdipmmmaa.H
namespace Go.Proofs.Ytkcpanpdipmmmaa.H
open Go.RowKit Go.Proofs.YtkcpanpdipmmmaaW.PrintWords Go.Proofs.YtkcpanpdipmmmaaW.PrintLast Go.Proofs.YtkcpanpdipmmmaaW.PrintMore Go.Proofs.Ytkcpanpdipmmmaa.P
def Arr (w:World) (g N:Nat) (M:Nat→S38):Prop:=
 ∃ cells:Array Value,w.heap[g]? =some (.cells cells 38 (0,0))∧ ∀ x,x<N→cells[x * 2]? =some (.int .i64 (M x).f0)∧cells[x * 2+1]? =some (.bool (M x).f1)
theorem Arr.cell0 {w:World} {g N:Nat} {M:Nat→S38} (h:Arr w g N M) {x:Nat} (hx:x<N):w.cell? ⟨g,x * 2,none⟩=some (.int .i64 (M x).f0):=by
 obtain⟨cells,hb,hc⟩:=h
 simp[World.cell?,hb,(hc x hx).1]
theorem Arr.cell1 {w:World} {g N:Nat} {M:Nat→S38} (h:Arr w g N M) {x:Nat} (hx:x<N):w.cell? ⟨g,x * 2+1,none⟩=some (.bool (M x).f1):=by
 obtain⟨cells,hb,hc⟩:=h
 simp[World.cell?,hb,(hc x hx).2]
theorem Arr.free {w:World} {g N:Nat} {M:Nat→S38} (h:Arr w g N M) (j:Nat):w.frozen? ⟨g,j,none⟩=false:=by
 obtain⟨cells,hb,_⟩:=h
 simp[World.frozen?,hb]
theorem Arr.lt {w:World} {g N:Nat} {M:Nat→S38} (h:Arr w g N M):g<w.heap.size:=by
 obtain⟨cells,hb,_⟩:=h
 exact(Array.getElem?_eq_some_iff.1 hb).1
theorem Arr.congr {w:World} {g N:Nat} {M M':Nat→S38} (h:Arr w g N M) (e: ∀ x,x<N→M' x=M x):Arr w g N M':=by
 obtain⟨cells,hb,hc⟩:=h
 exact⟨cells,hb,fun x hx=>by rw[e x hx];exact hc x hx⟩
theorem Arr.same {w w':World} {g N:Nat} {M:Nat→S38} (h:Arr w g N M) (e:w'.heap[g]? =w.heap[g]?):Arr w' g N M:=by
 obtain⟨cells,hb,hc⟩:=h
 exact⟨cells,e.trans hb,hc⟩
theorem Arr.below {w w':World} {g N:Nat} {M:Nat→S38} (h:Arr w g N M) (hb:Below w.heap.size w w'):Arr w' g N M:=h.same (hb.block g h.lt)
def upd (M:Nat→S38) (x:Nat) (s:S38) (y:Nat):S38:=if y=x then s else M y
theorem Arr.put {w:World} {g N:Nat} {M:Nat→S38} (h:Arr w g N M) {x:Nat} (hx:x<N) (s:S38):Arr ((w.setCell ⟨g,x * 2,none⟩ (.int .i64 s.f0)).setCell ⟨g,x * 2+1,none⟩ (.bool s.f1)) g N (upd M x s):=by
 obtain⟨cells,hb,hc⟩:=h
 refine⟨_,blk_set (blk_set hb _ _) _ _,fun y hy=> ?_⟩
 have hs0:=(Array.getElem?_eq_some_iff.1 (hc x hx).1).1
 have hs1:=(Array.getElem?_eq_some_iff.1 (hc x hx).2).1
 simp only[Array.getElem?_setIfInBounds,Array.size_setIfInBounds]
 unfold upd
 by_cases e:y=x
 ·subst e
  constructor
  ·rw[if_neg (by omega),if_pos rfl,if_pos hs0,if_pos rfl]
  ·rw[if_pos rfl,if_pos hs1,if_pos rfl]
 ·rw[if_neg e]
  constructor
  ·rw[if_neg (by omega),if_neg (by omega)];exact(hc y hy).1
  ·rw[if_neg (by omega),if_neg (by omega)];exact(hc y hy).2
theorem Arr.drew {w:World} {g N:Nat} {M:Nat→S38} (h:Arr w g N M):Arr w.drew g N M:=h.same rfl
def Fr (w w':World) (g:Nat):Prop:=w.grownBy w' (some g)∧ ∀ cells t ro,w.heap[g]? =some (.cells cells t ro)→ ∃ cells',w'.heap[g]? =some (.cells cells' t ro)∧cells'.size=cells.size
theorem grow_set {w w':World} {g:Nat} (h:Fr w w' g) (j:Nat) (u:Value):Fr w (w'.setCell ⟨g,j,none⟩ u) g:=
 ⟨⟨h.1.os,h.1.tape,h.1.output,by simpa [World.setCell] using h.1.size,fun k hk hne=>(Below.heap_setCell w' ⟨g,j,none⟩ u k (fun e=>hne (by rw[e]))).trans (h.1.block k hk hne)⟩,
  fun cells t ro hb=>by
  obtain⟨c',h1,h2⟩:=h.2 cells t ro hb
  refine⟨c'.setIfInBounds j u,?_,by simpa using h2⟩
  simp[World.setCell,Array.getElem?_modify,h1]⟩
theorem grow_drew {w w':World} {g:Nat} (h:Fr w w' g):Fr w w'.drew g:=⟨⟨h.1.os,h.1.tape,h.1.output,h.1.size,h.1.block⟩,h.2⟩
theorem grow_refl (w:World) (g:Nat):Fr w w g:=⟨⟨rfl,rfl,rfl,Nat.le_refl _,fun _ _ _=>rfl⟩,fun cells t ro hb=>⟨cells,hb,rfl⟩⟩
theorem grow_trans {w w' w'':World} {g:Nat} (h:Fr w w' g) (k:Fr w' w'' g):Fr w w'' g:=
 ⟨⟨k.1.os.trans h.1.os,k.1.tape.trans h.1.tape,k.1.output.trans h.1.output,Nat.le_trans h.1.size k.1.size,fun i hi hne=>(k.1.block i (Nat.lt_of_lt_of_le hi h.1.size) hne).trans (h.1.block i hi hne)⟩,
  fun cells t ro hb=>by
  obtain⟨c',h1,h2⟩:=h.2 cells t ro hb
  obtain⟨c2,h3,h4⟩:=k.2 c' t ro h1
  exact⟨c2,h3,h4.trans h2⟩⟩
theorem grow_below {w w':World} {g:Nat} (h:Below w.heap.size w w'):Fr w w' g:=
 ⟨grown_of_below h _,fun cells t ro hb=>⟨cells,(h.block g (Array.getElem?_eq_some_iff.1 hb).1).trans hb,rfl⟩⟩
def swapM (M:Nat→S38) (a b n:Nat) (x:Nat):S38:=if a≤x∧x<a+n then M (x - a+b) else if b≤x∧x<b+n then M (x - b+a) else M x
set_option maxHeartbeats 2000000 in
set_option maxRecDepth 100000 in
theorem swapRange_calls (g N cap:Nat) (M:Nat→S38) (a b n:Nat) (f:Value) (w:World) (h:Arr w g N M) (hN:N≤1000000) (ha:a+n≤b) (hb:b+n≤N):
  Calls Try.prog 178 #[.slice (some ⟨g,0,none⟩) N cap, .int .i64 (a:Int), .int .i64 (b:Int), .int .i64 (n:Int),f] w fun e w'=>e= .returned (.tuple #[])∧Arr w' g N (swapM M a b n)∧Fr w w' g:=by
 have HA:=Aside0.mk h
 clear h
 go_enter Try.func178,Try.ntmps178
 go_wp2
 go_loopw [10] (fun i wr=> ∃ k:Nat,k≤n∧i= .int .i64 k∧Aside0 (Arr wr g N (swapM M a b k))∧Aside0 (Fr w wr g)) (fun i _=>n - (intOf i).toNat)
 case atStart=>exact⟨0,Nat.zero_le _,rfl,⟨HA.out.congr fun x _=>by unfold swapM;rw[if_neg (by omega),if_neg (by omega)]⟩,⟨grow_refl _ _⟩⟩
 case round=>
  obtain⟨k,hk,rfl,HA1,HG⟩:=hrel
  by_cases hlt:k<n
  ·have c0:=HA1.out.cell0 (x:=b+k) (by omega)
   have c1:=HA1.out.cell1 (x:=b+k) (by omega)
   have d0:=HA1.out.cell0 (x:=a+k) (by omega)
   have d1:=HA1.out.cell1 (x:=a+k) (by omega)
   have f0:=HA1.out.free
   obtain⟨s1,hs1⟩: ∃ s,swapM M a b k (b+k)=s:=⟨_,rfl⟩
   obtain⟨s2,hs2⟩: ∃ s,swapM M a b k (a+k)=s:=⟨_,rfl⟩
   rw[hs1] at c0 c1
   rw[hs2] at d0 d1
   have HE:Aside0 (∀ x,upd (upd (swapM M a b k) (a+k) s1) (b+k) s2 x=swapM M a b (k+1) x):=⟨fun x=>by
    rw[← hs1, ← hs2]
    unfold upd swapM
    by_cases e1:x=b+k
    ·subst e1
     rw[if_pos rfl,if_neg (by omega),if_neg (by omega),if_neg (by omega),if_pos (by omega)]
     congr 1;omega
    ·rw[if_neg e1]
     by_cases e2:x=a+k
     ·subst e2
      rw[if_pos rfl,if_neg (by omega),if_neg (by omega),if_pos (by omega)]
      congr 1;omega
     ·rw[if_neg e2]
      by_cases e3:a≤x∧x<a+k
      ·rw[if_pos e3,if_pos (by omega)]
      ·rw[if_neg e3,if_neg (show ¬ (a≤x∧x<a+(k+1)) by omega)]
       by_cases e4:b≤x∧x<b+k
       ·rw[if_pos e4,if_pos (by omega)]
       ·rw[if_neg e4,if_neg (by omega)]⟩
   clear hs1 hs2
   go_wp2
   go_region
   have HA2:Aside0 (Arr (((((wr.setCell ⟨g,(a+k) * 2,none⟩ (.int .i64 s1.f0)).setCell ⟨g,(a+k) * 2+1,none⟩ (.bool s1.f1)).setCell ⟨g,(b+k) * 2,none⟩ (.int .i64 s2.f0)).setCell ⟨g,(b+k) * 2+1,none⟩ (.bool s2.f1)).drew) g N (swapM M a b (k+1))):=
    ⟨(((HA1.out.put (by omega) s1).put (by omega) s2).drew).congr fun x _=>(HE.out x).symm⟩
   have HG2:=Aside0.mk (grow_drew (grow_set (grow_set (grow_set (grow_set HG.out ((a+k) * 2) (.int .i64 s1.f0)) ((a+k) * 2+1) (.bool s1.f1)) ((b+k) * 2) (.int .i64 s2.f0)) ((b+k) * 2+1) (.bool s2.f1)))
   clear c0 c1 d0 d1 f0 HA1 HG HE
   go_wp2
   go_roundw
   case rel=>exact⟨k+1,by omega,by go_num,HA2,HG2⟩
   case measure=>simp[intOf];omega
  ·have e:k=n:=by omega
   subst e
   go_wp2
   go_end0
   exact⟨rfl,HA1.out,HG.out⟩
def rotM (M:Nat→S38) (a m b:Nat) (x:Nat):S38:=if a≤x∧x<b then(if x<a+(b - m) then M (x+(m - a)) else M (x - (b - m))) else M x
def RotAt (M K:Nat→S38) (a m b i j:Nat):Prop:=
 (∀ x, ¬ (m - i≤x∧x<m+j)→K x=rotM M a m b x)∧(∀ x,m - i≤x→x<m - i+j→rotM M a m b x=K (x+i))∧(∀ x,m - i+j≤x→x<m+j→rotM M a m b x=K (x - j))
theorem rot_start (M:Nat→S38) {a m b:Nat} (h1:a≤m) (h2:m≤b):RotAt M M a m b (m - a) (b - m):=by
 refine⟨fun x hx=> ?_,fun x h3 h4=> ?_,fun x h3 h4=> ?_⟩
 ·unfold rotM;rw[if_neg (by omega)]
 ·unfold rotM;rw[if_pos (by omega),if_pos (by omega)]
 ·unfold rotM;rw[if_pos (by omega),if_neg (by omega)]
theorem rot_left {M K:Nat→S38} {a m b i j:Nat} (h:RotAt M K a m b i j) (hj:0<j) (hij:j<i) (him:i≤m):RotAt M (swapM K (m - i) m j) a m b (i - j) j:=by
 obtain⟨h1,h2,h3⟩:=h
 refine⟨fun x hx=> ?_,fun x h4 h5=> ?_,fun x h4 h5=> ?_⟩
 ·unfold swapM
  by_cases e:m - i≤x∧x<m - i+j
  ·rw[if_pos e,h2 x e.1 e.2]
   congr 1;omega
  ·rw[if_neg e,if_neg (by omega)]
   exact h1 x (by omega)
 ·rw[h3 x (by omega) (by omega)]
  unfold swapM
  rw[if_neg (by omega),if_pos (by omega)]
  congr 1;omega
 ·rw[h3 x (by omega) (by omega)]
  unfold swapM
  rw[if_neg (by omega),if_neg (by omega)]
theorem rot_right {M K:Nat→S38} {a m b i j:Nat} (h:RotAt M K a m b i j) (hi:0<i) (hij:i<j) (him:i≤m):RotAt M (swapM K (m - i) (m+j - i) i) a m b i (j - i):=by
 obtain⟨h1,h2,h3⟩:=h
 refine⟨fun x hx=> ?_,fun x h4 h5=> ?_,fun x h4 h5=> ?_⟩
 ·unfold swapM
  rw[if_neg (by omega)]
  by_cases e:m+j - i≤x∧x<m+j - i+i
  ·rw[if_pos e,h3 x (by omega) (by omega)]
   congr 1;omega
  ·rw[if_neg e]
   exact h1 x (by omega)
 ·rw[h2 x (by omega) (by omega)]
  unfold swapM
  rw[if_neg (by omega),if_neg (by omega)]
 ·rw[h2 x (by omega) (by omega)]
  unfold swapM
  rw[if_pos (by omega)]
  congr 1;omega
theorem rot_last {M K:Nat→S38} {a m b i:Nat} (h:RotAt M K a m b i i) (him:i≤m) (x:Nat):swapM K (m - i) m i x=rotM M a m b x:=by
 obtain⟨h1,h2,h3⟩:=h
 unfold swapM
 by_cases e:m - i≤x∧x<m - i+i
 ·rw[if_pos e,h2 x e.1 e.2]
  congr 1;omega
 ·rw[if_neg e]
  by_cases e2:m≤x∧x<m+i
  ·rw[if_pos e2,h3 x (by omega) (by omega)]
   congr 1;omega
  ·rw[if_neg e2]
   exact h1 x (by omega)
set_option maxHeartbeats 2000000 in
set_option maxRecDepth 100000 in
theorem rotate_calls (g N cap:Nat) (M:Nat→S38) (a m b:Nat) (f:Value) (w:World) (h:Arr w g N M) (hN:N≤1000000) (ham:a<m) (hmb:m<b) (hb:b≤N):
  Calls Try.prog 175 #[.slice (some ⟨g,0,none⟩) N cap, .int .i64 (a:Int), .int .i64 (m:Int), .int .i64 (b:Int),f] w fun e w'=>e= .returned (.tuple #[])∧Arr w' g N (rotM M a m b)∧Fr w w' g:=by
 have HA:=Aside0.mk h
 clear h
 go_enter Try.func175,Try.ntmps175
 go_wp2
 go_loopw [10,11] (fun vi vj wr=> ∃ i j:Nat,0<i∧0<j∧i≤m - a∧j≤b - m∧vi= .int .i64 i∧vj= .int .i64 j∧(∃ K,Aside0 (RotAt M K a m b i j)∧Aside0 (Arr wr g N K))∧Aside0 (Fr w wr g)) (fun vi vj _=>(intOf vi).toNat+(intOf vj).toNat)
 case atStart=>exact⟨m - a,b - m,by omega,by omega,Nat.le_refl _,Nat.le_refl _,by rw[Int.natCast_sub (by omega)],by rw[Int.natCast_sub (by omega)],⟨M,⟨rot_start M (by omega) (by omega)⟩,HA⟩,⟨grow_refl _ _⟩⟩
 case round=>
  obtain⟨i,j,hi,hj,him,hjb,rfl,rfl,⟨K,HK,HA1⟩,HG⟩:=hrel
  have e0:(m:Int) - (i:Int)=((m - i:Nat):Int):=by omega
  have E0:=Aside0.mk e0
  by_cases hij:i=j
  ·subst hij
   have hne:((i:Int) != (i:Int))=false:=by simp
   clear e0
   go_wp2_with fail
   rw[E0.out]
   refine(swapRange_calls g N cap K (m - i) m i f _ HA1.out hN (by omega) (by omega)).mono ?_
   rintro e w1 ⟨rfl,ha1,hg1⟩
   have HA2:=Aside0.mk ha1
   have HG2:=Aside0.mk (grow_trans HG.out hg1)
   clear ha1 hg1
   go_wp2_with fail
   go_end0
   exact⟨rfl,HA2.out.congr fun x _=>(rot_last HK.out (by omega) x).symm,HG2.out⟩
  ·have hne:((i:Int) != (j:Int))=true:=by rw[bne_iff_ne];omega
   by_cases hlt:j<i
   ·have e1:(i:Int) - (j:Int)=((i - j:Nat):Int):=by omega
    have E1:=Aside0.mk e1
    clear e0 e1
    go_wp2_with fail
    rw[E0.out]
    refine(swapRange_calls g N cap K (m - i) m j f _ HA1.out hN (by omega) (by omega)).mono ?_
    rintro e w1 ⟨rfl,ha1,hg1⟩
    have HA2:=Aside0.mk ha1
    have HG2:=Aside0.mk (grow_trans HG.out hg1)
    clear ha1 hg1
    go_wp2_with fail
    go_roundw
    case rel=>exact⟨i - j,j,by omega,hj,by omega,hjb,by rw[E1.out],rfl,⟨_,⟨rot_left HK.out hj hlt (by omega)⟩,HA2⟩,HG2⟩
    case measure=>simp[intOf];omega
   ·have e1:(j:Int) - (i:Int)=((j - i:Nat):Int):=by omega
    have E1:=Aside0.mk e1
    have e2:(m:Int)+(j:Int) - (i:Int)=((m+j - i:Nat):Int):=by omega
    have E2:=Aside0.mk e2
    clear e0 e1 e2
    go_wp2_with fail
    rw[E0.out,E2.out]
    refine(swapRange_calls g N cap K (m - i) (m+j - i) i f _ HA1.out hN (by omega) (by omega)).mono ?_
    rintro e w1 ⟨rfl,ha1,hg1⟩
    have HA2:=Aside0.mk ha1
    have HG2:=Aside0.mk (grow_trans HG.out hg1)
    clear ha1 hg1
    go_wp2_with fail
    go_roundw
    case rel=>exact⟨i,j - i,hi,by omega,him,by omega,rfl,by rw[E1.out],⟨_,⟨rot_right HK.out hi (by omega) (by omega)⟩,HA2⟩,HG2⟩
    case measure=>simp[intOf];omega
end Go.Proofs.Ytkcpanpdipmmmaa.H
