/- What the law's row needs of these texts, taken out of them by wip/tool/mini.py: P0 P14 P15 P16 P71 P47 P48 P46 QBfLaw QSortArr QSortLaw P21 P23 QLists QStepsLaw QSetLaw QQuietB QSortIns QSymLo QSymHi. -/
import Derived.Test.YtkcpanpdipmmmaaProg
import Derived.Below
import Derived.Deep.Draws
import Derived.Deep.AppendLies
import Derived.Maps.AppendAt
import Derived.OwnWalk
import Derived.Laws.BytesArg
import Derived.Laws.MakeOwn
import Derived.Laws.OwnMore
import Derived.Deep.OwnRows
import Derived.Tactics
import Derived.Lib.ConvBytes
import Derived.Laws.Slices
import Derived.WalkKit
import Derived.KernelRfl
import Derived.RowKit3
import Derived.Deep.LoopGhost
import Derived.Deep.QuietTactic
import Derived.BigQuiet
import Derived.WideLaws
import Derived.Deep.DeepCutAuto
import Derived.Deep.CutBlock
import Derived.Deep.RegionHeld3
import Derived.Laws.Rows
import Derived.Lib.AppendStr
import Derived.ArgAppend
import Derived.Laws.IdiomCopy
import Derived.OrdersHeld
import Derived.Laws.BitsLemmas
import Derived.RowKit
import Derived.Test.YtkcpanpdipmmmaaVcljknl
import Derived.Laws.StructEq
import Derived.RegionTactic
import Derived.ChangeAlike
import Derived.BigRegion
import Derived.LoopTactic
import Derived.Laws.AppendOwn
import Derived.Deep.RegionWith
import Derived.StillTailTactics
set_option linter.unusedVariables false
set_option linter.unusedSimpArgs false
open Go.RowKit Go.Proofs.YtkcpanpdipmmmaaW.PrintWords Go.Proofs.YtkcpanpdipmmmaaW.PrintLast Go.Proofs.YtkcpanpdipmmmaaW.PrintMore
namespace Go.Proofs.Ytkcpanpdipmmmaa
namespace P
attribute [local go_sem] max2_int min2_int max_two min_two max_three min_three max_four min_four
def errW:Option Int→Value
 |none=> .nilIface
 |some c=> .iface 0 (.int .i64 c)
theorem errW_none:errW none= .nilIface:=rfl
theorem errW_some (c:Int):errW (some c)= .iface 0 (.int .i64 c):=rfl
theorem info3:(Try.prog.info? 3).map (fun i=>(i.zero,i.size,i.bytes))=some (some (.int .i64 0),1,8):=by kernel_rfl
theorem info4:(Try.prog.info? 4).map (fun i=>(i.zero,i.size,i.bytes))=some (some (.bool false),1,1):=by kernel_rfl
theorem info38:(Try.prog.info? 38).map (fun i=>(i.zero,i.size,i.bytes))=some (some (.agg #[(.int .i64 0),(.bool false)]),2,16):=by kernel_rfl
structure S74 where
 f0:Int
 f1:Int
 f2:Int
 f3:Int
def z74:S74:=⟨(0:Int),(0:Int),(0:Int),(0:Int)⟩
def k74:Kd S74:=Kd.iso (Kd.pair (Kd.int .i64) (Kd.pair (Kd.int .i64) (Kd.pair (Kd.int .i64) (Kd.int .i64)))) (fun x:S74=>(x.f0,x.f1,x.f2,x.f3))
theorem k74_open {w:World} {x:S74} {cs:List Value} (h:k74.K w x cs):cs=[.int .i64 x.f0, .int .i64 x.f1, .int .i64 x.f2, .int .i64 x.f3]:=by
 obtain⟨_,_,rfl,rfl,⟨_,_,rfl,rfl,⟨_,_,rfl,rfl,rfl⟩⟩⟩:=h;exact rfl
theorem k74_mkM (w:World) (base:Nat) (ok:Nat→Prop) (x:S74)  :k74.M w base ok x [.int .i64 x.f0, .int .i64 x.f1, .int .i64 x.f2, .int .i64 x.f3]:=⟨[.int .i64 x.f0],[.int .i64 x.f1, .int .i64 x.f2, .int .i64 x.f3],rfl,rfl,⟨[.int .i64 x.f1],[.int .i64 x.f2, .int .i64 x.f3],rfl,rfl,⟨[.int .i64 x.f2],[.int .i64 x.f3],rfl,rfl,rfl⟩⟩⟩
def rd_T74 (xs:List S74) (i:Int):S74:=xs.getD i.toNat z74
theorem at_T74 {w:World} {A:Option Addr} {n:Nat} {xs:List S74} (h:Kd.C k74 w A n xs) (i:Int) (h0:0≤i) (h1:i<n): ∃ ad ,A=some ad∧w.cell? (ad.add (i.toNat * 4))=some (.int .i64 (rd_T74 xs i).f0)∧w.cell? ⟨(ad.add (i.toNat * 4)).block,(ad.add (i.toNat * 4)).off+1,none⟩=some (.int .i64 (rd_T74 xs i).f1)∧w.cell? ⟨(ad.add (i.toNat * 4)).block,(ad.add (i.toNat * 4)).off+2,none⟩=some (.int .i64 (rd_T74 xs i).f2)∧w.cell? ⟨(ad.add (i.toNat * 4)).block,(ad.add (i.toNat * 4)).off+3,none⟩=some (.int .i64 (rd_T74 xs i).f3):=by
 obtain⟨ad,c,e,_,hK,hc0⟩:=Kd.C_get h z74 i h0 h1;have hc: ∀ j u,c[j]? =some u→w.cell? (ad.add (i.toNat * 4+j))=some u:=hc0;obtain rfl:=k74_open hK;exact⟨ad,e,hc 0 _ rfl,by rw[← add_field _ _ 1 (by omega)];exact hc 1 _ rfl,by rw[← add_field _ _ 2 (by omega)];exact hc 2 _ rfl,by rw[← add_field _ _ 3 (by omega)];exact hc 3 _ rfl⟩
structure S38 where
 f0:Int
 f1:Bool
def z38:S38:=⟨(0:Int),false⟩
def k38:Kd S38:=Kd.iso (Kd.pair (Kd.int .i64) Kd.bool) (fun x:S38=>(x.f0,x.f1))
theorem k38_open {w:World} {x:S38} {cs:List Value} (h:k38.K w x cs):cs=[.int .i64 x.f0, .bool x.f1]:=by
 obtain⟨_,_,rfl,rfl,rfl⟩:=h;exact rfl
theorem k38_openM {w:World} {base:Nat} {ok:Nat→Prop} {x:S38} {cs:List Value} (h:k38.M w base ok x cs):cs=[.int .i64 x.f0, .bool x.f1]:=by
 obtain⟨_,_,rfl,rfl,rfl⟩:=h;exact rfl
theorem k38_mkM (w:World) (base:Nat) (ok:Nat→Prop) (x:S38)  :k38.M w base ok x [.int .i64 x.f0, .bool x.f1]:=⟨[.int .i64 x.f0],[.bool x.f1],rfl,rfl,rfl⟩
def rd_T38 (xs:List S38) (i:Int):S38:=xs.getD i.toNat z38
theorem at_T38 {w:World} {A:Option Addr} {n:Nat} {xs:List S38} (h:Kd.C k38 w A n xs) (i:Int) (h0:0≤i) (h1:i<n): ∃ ad ,A=some ad∧w.cell? (ad.add (i.toNat * 2))=some (.int .i64 (rd_T38 xs i).f0)∧w.cell? ⟨(ad.add (i.toNat * 2)).block,(ad.add (i.toNat * 2)).off+1,none⟩=some (.bool (rd_T38 xs i).f1):=by
 obtain⟨ad,c,e,_,hK,hc0⟩:=Kd.C_get h z38 i h0 h1;have hc: ∀ j u,c[j]? =some u→w.cell? (ad.add (i.toNat * 2+j))=some u:=hc0;obtain rfl:=k38_open hK;exact⟨ad,e,hc 0 _ rfl,by rw[← add_field _ _ 1 (by omega)];exact hc 1 _ rfl⟩
def rd_L4 (xs:List (List S38)) (i:Int):(List S38):=xs.getD i.toNat ([]:List S38)
def rd_L7 (xs:List (List Int)) (i:Int):(List Int):=xs.getD i.toNat ([]:List Int)
theorem at_L7 {w:World} {A:Option Addr} {n:Nat} {xs:List (List Int)} (h:Kd.C (Kd.slice 3 (Kd.int .i64)) w A n xs) (i:Int) (h0:0≤i) (h1:i<n): ∃ ad A0 c0,A=some ad∧w.cell? (ad.add i.toNat)=some (.slice A0 (rd_L7 xs i).length c0)∧(rd_L7 xs i).length≤c0∧(Kd.int .i64).C w A0 (rd_L7 xs i).length (rd_L7 xs i):=by
 obtain⟨ad,c,e,_,hK,hc0⟩:=Kd.C_get h ([]:List Int) i h0 h1;have hc: ∀ j u,c[j]? =some u→w.cell? (ad.add (i.toNat * 1+j))=some u:=hc0;obtain⟨A0,c0,rfl,l0,g0⟩:=hK;exact⟨ad,A0,c0,e,by have hq:=hc 0 _ rfl;rwa [Nat.mul_one,Nat.add_zero] at hq,l0,g0⟩
end P
namespace P
attribute [local go_sem] max2_int min2_int max_two min_two max_three min_three max_four min_four
def netfmt_nodes.f (a0:Int):Option (Int):=if a0<1 then(some 51) else(if a0>50 then(some 2) else(some 0))
set_option maxHeartbeats 8000000 in
set_option maxRecDepth 100000 in
theorem netfmt_nodes.calls (a0:Int) (r:Int) (w:World) (h:netfmt_nodes.f a0=some r):
  Calls Try.prog 156 #[.int .i64 a0] w fun e w'=>e= .returned (.int .i64 r)∧Drawn0 w w':=by
 have H:(if a0<1 then(some 51) else(if a0>50 then(some 2) else(some 0)))=some r:=h;clear h;by_cases c2:a0<1
 ·rw[Yx c2] at H
  have c2b0:decide (a0<1)=true:=Yv c2;clear c2;obtain rfl:=Option.some.inj H;go_enter Try.func156,Try.ntmps156;go_wp2;go_ret;exact⟨by first|rfl|(simp;done)|(simp[*];done),by repeat(first|exact Drawn0.refl _|apply Drawn0.step)⟩
 rw[Yy c2] at H;have c2b0:decide (a0<1)=false:=Yw c2;clear c2;by_cases c3:a0>50
 rotate_left
 ·rw[Yy c3] at H
  have c3b0:decide (50<a0)=false:=Yw c3;clear c3;obtain rfl:=Option.some.inj H;go_enter Try.func156,Try.ntmps156;go_wp2;go_ret;exact⟨by first|rfl|(simp;done)|(simp[*];done),by repeat(first|exact Drawn0.refl _|apply Drawn0.step)⟩
 rw[Yx c3] at H;have c3b0:decide (50<a0)=true:=Yv c3;clear c3;obtain rfl:=Option.some.inj H;go_enter Try.func156,Try.ntmps156;go_wp2;go_ret;exact⟨by first|rfl|(simp;done)|(simp[*];done),by repeat(first|exact Drawn0.refl _|apply Drawn0.step)⟩
end P
namespace P
attribute [local go_sem] max2_int min2_int max_two min_two max_three min_three max_four min_four
def netfmt_arc.j0:Nat→Bool→Int→Int→Int→Int→Option (Int)
 |0,_,_,_,_,_=>none
 |k+1,x5,x179000,x179001,x179002,x179003=>if x5=true then(some 51) else(if x179002>1048576 then(some 2) else(if x179003>1048576 then(some 2) else(some 0)))
def netfmt_arc.f (k:Nat) (a0:Int) (Zg:Int) (Xd:Int) (Wa:Int) (Wb:Int):Option (Int):=if (mn (mn (mn Zg Xd) Wa) Wb)<0 then(netfmt_arc.j0 k true Zg Xd Wa Wb) else(netfmt_arc.j0 k (decide ((mx Zg Xd)≥a0)) Zg Xd Wa Wb)
set_option maxHeartbeats 8000000 in
set_option maxRecDepth 100000 in
theorem netfmt_arc.calls (k:Nat) (a0:Int) (Zg:Int) (Xd:Int) (Wa:Int) (Wb:Int) (r:Int) (w:World) (h:netfmt_arc.f k a0 Zg Xd Wa Wb=some r):
  Calls Try.prog 157 #[.int .i64 a0, .agg #[.int .i64 Zg, .int .i64 Xd, .int .i64 Wa, .int .i64 Wb]] w fun e w'=>e= .returned (.int .i64 r)∧Below w.heap.size w w':=by
 have hu74:=Try.underlying74;have HB:=Ya (Yo w.heap.size w);have H:(if (mn (mn (mn Zg Xd) Wa) Wb)<0 then(netfmt_arc.j0 k true Zg Xd Wa Wb) else(netfmt_arc.j0 k (decide ((mx Zg Xd)≥a0)) Zg Xd Wa Wb))=some r:=h;clear h;have HC3:=Ya H;clear H;go_enter Try.func157,Try.ntmps157;go_upto_region 1 with (first|((with_reducible refine gate_dst (N:=3) rfl ?_);(try (refine gate_guard (by rfl) ?_;dsimp only));refine Yz ?hg (N:=3) ?hd (cs:= #[.int .i64 Zg, .int .i64 Xd, .int .i64 Wa, .int .i64 Wb]) (t:=74) ?hr ?_;(case hd=>rfl);(case hg=>rfl);(case hr=>first|(go_simp;done)|(go_simp;rfl));intro Uz hg w4 Zf hb;have n0_:=Ya (Yk (by repeat(first|(with_reducible first|exact HB.out|apply Ye|apply Yd|apply Yg)|exact HB.out)) hb);have n1_:=Ya (Zf);have n2_:=Ya ((by rw[hg];exact(Yi (by repeat(first|(with_reducible first|exact HB.out|apply Ye|apply Yd|apply Yg)|exact HB.out))):w.heap.size≤Uz));have n3_:=Ya ((by rw[hg];exact(Yi (by repeat(first|(with_reducible first|exact HB.out|apply Ye|apply Yd|apply Yg)|exact HB.out))):w.heap.size≤Uz));clear HB;have HB:=n0_;have Wd:=n1_;have GW178:=n2_;have GE178:=n3_;clear n0_ n1_ n2_ n3_;clear hb Zf hg))
 (try simp only[Act.put,List.setIfInBounds_toArray,List.set_cons_zero,List.set_cons_succ])
 go_cut [5] (fun v5 wc=> ∃ (kq:Nat) (x5_2:Bool),v5= .bool x5_2∧Aside0 (netfmt_arc.j0 kq x5_2 Zg Xd Wa Wb=some r)∧Aside0 (kq≤k)∧Aside0 (wc.heap[Uz]? =some (.cells #[.int .i64 Zg, .int .i64 Xd, .int .i64 Wa, .int .i64 Wb] 74 (0,0)))∧Aside0 (Below w.heap.size w wc))
 case first=>
  have H:=HC3.out;clear HC3;obtain⟨ji5,hji5⟩: ∃ j_:Int,(mn Zg Xd)=j_:=⟨_,rfl⟩;replace H:(if (mn (mn (ji5) Wa) Wb)<0 then(netfmt_arc.j0 k true Zg Xd Wa Wb) else(netfmt_arc.j0 k (decide ((mx Zg Xd)≥a0)) Zg Xd Wa Wb))=some r:=by first|(rw[hji5] at H;exact H)|(simp only[hji5] at H ⊢;exact H)
  have hji5_:(if Xd<Zg then Xd else Zg)=ji5:=hji5;obtain⟨ji6,hji6⟩: ∃ j_:Int,(mn (ji5) Wa)=j_:=⟨_,rfl⟩;replace H:(if (mn (ji6) Wb)<0 then(netfmt_arc.j0 k true Zg Xd Wa Wb) else(netfmt_arc.j0 k (decide ((mx Zg Xd)≥a0)) Zg Xd Wa Wb))=some r:=by first|(rw[hji6] at H;exact H)|(simp only[hji6] at H ⊢;exact H)
  have hji6_:(if Wa<(ji5) then Wa else(ji5))=ji6:=hji6;obtain⟨ji7,hji7⟩: ∃ j_:Int,(mn (ji6) Wb)=j_:=⟨_,rfl⟩;replace H:(if (ji7)<0 then(netfmt_arc.j0 k true Zg Xd Wa Wb) else(netfmt_arc.j0 k (decide ((mx Zg Xd)≥a0)) Zg Xd Wa Wb))=some r:=by first|(rw[hji7] at H;exact H)|(simp only[hji7] at H ⊢;exact H)
  have hji7_:(if Wb<(ji6) then Wb else(ji6))=ji7:=hji7;by_cases c8:(ji7)<0
  ·rw[Yx c8] at H
   have c8b0:decide ((ji7)<0)=true:=Yv c8;clear c8
   (first|rw[c8b0]|(simp only[i64_w,i32_w];rw[c8b0])|skip)
   have H':=Ya H;clear H;have hcz9_0:w4.cell? ⟨Uz,0,none⟩=some (.int .i64 Zg):=(Yc Wd.out 0).trans rfl;have hcz9_1:w4.cell? ⟨Uz,1,none⟩=some (.int .i64 Xd):=(Yc Wd.out 1).trans rfl;have hcz9_2:w4.cell? ⟨Uz,2,none⟩=some (.int .i64 Wa):=(Yc Wd.out 2).trans rfl;have hcz9_3:w4.cell? ⟨Uz,3,none⟩=some (.int .i64 Wb):=(Yc Wd.out 3).trans rfl;have hfz9_0:=Yf Wd.out 0;have hfz9_1:=Yf Wd.out 1;have hfz9_2:=Yf Wd.out 2;have hfz9_3:=Yf Wd.out 3;go_wp2;go_meet
   case rel=>exact⟨_,(true),(by first|rfl|(simp;done)|(simp[*];done)),H',⟨by first|omega|exact Nat.le_refl _⟩,⟨by(with_reducible repeat(first|refine Yl ?_ _|refine Ym ?_|refine Yj ?_ _));exact Wd.out⟩,⟨by repeat(first|(with_reducible first|exact HB.out|apply Ye|apply Yd|apply Yg|refine Yh ?_ GE178.out)|exact HB.out)⟩⟩
  rw[Yy c8] at H;have c8b0:decide ((ji7)<0)=false:=Yw c8;clear c8
  (first|rw[c8b0]|(simp only[i64_w,i32_w];rw[c8b0])|skip)
  obtain⟨ji10,hji10⟩: ∃ j_:Int,(mx Zg Xd)=j_:=⟨_,rfl⟩;replace H:(netfmt_arc.j0 k (decide ((ji10)≥a0)) Zg Xd Wa Wb)=some r:=by first|(rw[hji10] at H;exact H)|(simp only[hji10] at H ⊢;exact H)
  have hji10_:(if Zg<Xd then Xd else Zg)=ji10:=hji10;have H':=Ya H;clear H;have hcz11_0:w4.cell? ⟨Uz,0,none⟩=some (.int .i64 Zg):=(Yc Wd.out 0).trans rfl;have hcz11_1:w4.cell? ⟨Uz,1,none⟩=some (.int .i64 Xd):=(Yc Wd.out 1).trans rfl;have hcz11_2:w4.cell? ⟨Uz,2,none⟩=some (.int .i64 Wa):=(Yc Wd.out 2).trans rfl;have hcz11_3:w4.cell? ⟨Uz,3,none⟩=some (.int .i64 Wb):=(Yc Wd.out 3).trans rfl;have hfz11_0:=Yf Wd.out 0;have hfz11_1:=Yf Wd.out 1;have hfz11_2:=Yf Wd.out 2;have hfz11_3:=Yf Wd.out 3;go_wp2;go_meet
  case rel=>exact⟨_,(decide ((ji10)≥a0)),(by first|rfl|(simp;done)|(simp only[← hji10]<;>(first|rfl|simp))|(simp[*];done)),H',⟨by first|omega|exact Nat.le_refl _⟩,⟨by(with_reducible repeat(first|refine Yl ?_ _|refine Ym ?_|refine Yj ?_ _));exact Wd.out⟩,⟨by repeat(first|(with_reducible first|exact HB.out|apply Ye|apply Yd|apply Yg|refine Yh ?_ GE178.out)|exact HB.out)⟩⟩
 case rest=>
  clear HC3;try clear c1
  try clear p2
  try clear c8
  try clear c8b0
  try clear hcz11_0
  try clear hcz11_1
  try clear hcz11_2
  try clear hcz11_3
  try clear hcz9_0
  try clear hcz9_1
  try clear hcz9_2
  try clear hcz9_3
  try clear hfz11_0
  try clear hfz11_1
  try clear hfz11_2
  try clear hfz11_3
  try clear hfz9_0
  try clear hfz9_1
  try clear hfz9_2
  try clear hfz9_3
  obtain⟨kq,x5_2,rfl,HA,HJ2,Wd,HB⟩:=hcut;cases kq with
  |zero=>exact absurd HA.out (by simp[netfmt_arc.j0])
  |succ kj2=>
   have H:=HA.out;clear HA;simp only[netfmt_arc.j0] at H;by_cases c12:x5_2=true
   ·subst c12
    have H1:(some 51)=some r:=by first|(rw[Yx rfl] at H;exact H)|(rw[Yx trivial] at H;exact H)
    clear H;have H:=H1;clear H1;obtain rfl:=Option.some.inj H;go_wp2;go_ret;exact⟨by first|rfl|(simp[errW_none,errW_some]<;>rfl)|(simp[*,errW_none,errW_some]<;>rfl),by repeat(first|(with_reducible first|exact HB.out|apply Ye|apply Yd|apply Yg|refine Yh ?_ GE178.out)|exact HB.out)⟩
   replace c12:=Bool.eq_false_iff.mpr c12;subst c12;have H1:(if Wa>1048576 then(some 2) else(if Wb>1048576 then(some 2) else(some 0)))=some r:=by rw[Yy (show ¬ (false=true) by decide)] at H;exact H
   clear H;have H:=H1;clear H1;by_cases c13:Wa>1048576
   ·rw[Yx c13] at H
    have c13b0:decide (1048576<Wa)=true:=Yv c13;clear c13;obtain rfl:=Option.some.inj H;have Ug:wc.cell? ⟨Uz,0,none⟩=some (.int .i64 Zg):=(Yc Wd.out 0).trans rfl;have Uh:wc.cell? ⟨Uz,1,none⟩=some (.int .i64 Xd):=(Yc Wd.out 1).trans rfl;have Jz:wc.cell? ⟨Uz,2,none⟩=some (.int .i64 Wa):=(Yc Wd.out 2).trans rfl;have hcz14_3:wc.cell? ⟨Uz,3,none⟩=some (.int .i64 Wb):=(Yc Wd.out 3).trans rfl;have Ui:=Yf Wd.out 0;have Uj:=Yf Wd.out 1;have hfz14_2:=Yf Wd.out 2;have hfz14_3:=Yf Wd.out 3;go_wp2;go_ret;exact⟨by first|rfl|(simp[errW_none,errW_some]<;>rfl)|(simp[*,errW_none,errW_some]<;>rfl),by repeat(first|(with_reducible first|exact HB.out|apply Ye|apply Yd|apply Yg|refine Yh ?_ GE178.out)|exact HB.out)⟩
   rw[Yy c13] at H;have c13b0:decide (1048576<Wa)=false:=Yw c13;clear c13;by_cases c15:Wb>1048576
   rotate_left
   ·rw[Yy c15] at H
    have c15b0:decide (1048576<Wb)=false:=Yw c15;clear c15;obtain rfl:=Option.some.inj H;have Uk:wc.cell? ⟨Uz,0,none⟩=some (.int .i64 Zg):=(Yc Wd.out 0).trans rfl;have Ul:wc.cell? ⟨Uz,1,none⟩=some (.int .i64 Xd):=(Yc Wd.out 1).trans rfl;have hcz17_2:wc.cell? ⟨Uz,2,none⟩=some (.int .i64 Wa):=(Yc Wd.out 2).trans rfl;have hcz17_3:wc.cell? ⟨Uz,3,none⟩=some (.int .i64 Wb):=(Yc Wd.out 3).trans rfl;have Um:=Yf Wd.out 0;have Un:=Yf Wd.out 1;have hfz17_2:=Yf Wd.out 2;have hfz17_3:=Yf Wd.out 3;go_wp2;go_ret;exact⟨by first|rfl|(simp[errW_none,errW_some]<;>rfl)|(simp[*,errW_none,errW_some]<;>rfl),by repeat(first|(with_reducible first|exact HB.out|apply Ye|apply Yd|apply Yg|refine Yh ?_ GE178.out)|exact HB.out)⟩
   rw[Yx c15] at H;have c15b0:decide (1048576<Wb)=true:=Yv c15;clear c15;obtain rfl:=Option.some.inj H;have hcz16_0:wc.cell? ⟨Uz,0,none⟩=some (.int .i64 Zg):=(Yc Wd.out 0).trans rfl;have hcz16_1:wc.cell? ⟨Uz,1,none⟩=some (.int .i64 Xd):=(Yc Wd.out 1).trans rfl;have hcz16_2:wc.cell? ⟨Uz,2,none⟩=some (.int .i64 Wa):=(Yc Wd.out 2).trans rfl;have hcz16_3:wc.cell? ⟨Uz,3,none⟩=some (.int .i64 Wb):=(Yc Wd.out 3).trans rfl;have hfz16_0:=Yf Wd.out 0;have hfz16_1:=Yf Wd.out 1;have hfz16_2:=Yf Wd.out 2;have hfz16_3:=Yf Wd.out 3;go_wp2;go_ret;exact⟨by first|rfl|(simp[errW_none,errW_some]<;>rfl)|(simp[*,errW_none,errW_some]<;>rfl),by repeat(first|(with_reducible first|exact HB.out|apply Ye|apply Yd|apply Yg|refine Yh ?_ GE178.out)|exact HB.out)⟩
end P
namespace P
attribute [local go_sem] max2_int min2_int max_two min_two max_three min_three max_four min_four
def netfmt_Check.l0:Nat→List (S74)→Int→Int→Int→Bool→List (S74)→Option (Int)
 |0,_,_,_,_,_,_=>none
 |k+1,x18,x19,x20,x180000,x180001,x180002=>if x20<x19 then(if 0≤x20 then(if x20<(x18.length:Int) then((netfmt_arc.f k x180000 ((rd_T74 x18 x20).f0) ((rd_T74 x18 x20).f1) ((rd_T74 x18 x20).f2) ((rd_T74 x18 x20).f3)).bind fun t183=>(if t183=0 then(netfmt_Check.l0 k x18 x19 (wrap64 (x20+1)) x180000 x180001 x180002) else(some t183))) else(none)) else(none)) else(some 0)
def netfmt_Check.f (k:Nat) (Zc:Int) (Zb:Bool) (Za:List (S74)):Option (Int):=(netfmt_nodes.f Zc).bind fun t180=>(if t180=0 then(if (Za.length:Int)>200 then(some 2) else(netfmt_Check.l0 k Za (Za.length:Int) 0 Zc Zb Za)) else(some t180))
set_option maxHeartbeats 8000000 in
set_option maxRecDepth 100000 in
theorem netfmt_Check.calls (k:Nat) (Zc:Int) (Zb:Bool) (Ze:Option Addr) (Zd:Nat) (Za:List (S74)) (r:Int) (w:World) (Zr:Kd.C k74 w Ze Za.length Za) (Zs:Za.length≤Zd) (h:netfmt_Check.f k Zc Zb Za=some r):
  Calls Try.prog 127 #[.agg #[.int .i64 Zc, .bool Zb, .slice Ze Za.length Zd]] w fun e w'=>e= .returned (.int .i64 r)∧Below w.heap.size w w':=by
 have hu24:=Try.underlying24;have hu74:=Try.underlying74;have Zl:=Ya Zr;have Zv:=Ya Zs;clear Zr Zs;have HB:=Ya (Yo w.heap.size w);have H:((netfmt_nodes.f Zc).bind fun t180=>(if t180=0 then(if (Za.length:Int)>200 then(some 2) else(netfmt_Check.l0 k Za (Za.length:Int) 0 Zc Zb Za)) else(some t180)))=some r:=h;clear h;replace H:=Option.bind_eq_some_iff.mp H;obtain⟨t180,A20,H⟩:=H;replace H:(if t180=0 then(if (Za.length:Int)>200 then(some 2) else(netfmt_Check.l0 k Za (Za.length:Int) 0 Zc Zb Za)) else(some t180))=some r:=H;have A2:=Ya A20;clear A20;by_cases c3:t180=0
 rotate_left
 ·rw[Yy c3] at H
  have c3b0:(t180 == 0)=false:=beq_eq_false_iff_ne.mpr c3;have c3b1:(t180 != 0)=true:=bne_iff_ne.mpr c3;obtain rfl:=Option.some.inj H;go_enter Try.func127,Try.ntmps127;go_wp2_with (first|((with_reducible refine gate_dst (N:=1) rfl ?_);refine Yz ?hg (N:=1) ?hd (cs:= #[.int .i64 Zc, .bool Zb, .slice Ze Za.length Zd]) (t:=24) ?hr ?_;(case hd=>rfl);(case hg=>rfl);(case hr=>first|(go_simp;done)|(go_simp;rfl));intro Ws hg w24 Zf hb;have n0_:=Ya (Yk (by repeat(first|(with_reducible first|exact HB.out|apply Ye|apply Yd|apply Yg)|exact HB.out)) hb);have n1_:=Ya (Zf);have n2_:=Ya ((by rw[hg];exact(Yi (by repeat(first|(with_reducible first|exact HB.out|apply Ye|apply Yd|apply Yg)|exact HB.out))):w.heap.size≤Ws));have n3_:=Ya ((by rw[hg];exact(Yi (by repeat(first|(with_reducible first|exact HB.out|apply Ye|apply Yd|apply Yg)|exact HB.out))):w.heap.size≤Ws));clear HB;have HB:=n0_;have Xw:=n1_;have GW179:=n2_;have GE179:=n3_;clear n0_ n1_ n2_ n3_;clear hb Zf hg;have hcz25_0:w24.cell? ⟨Ws,0,none⟩=some (.int .i64 Zc):=(Yc Xw.out 0).trans rfl;have hcz25_1:w24.cell? ⟨Ws,1,none⟩=some (.bool Zb):=(Yc Xw.out 1).trans rfl;have hcz25_2:w24.cell? ⟨Ws,2,none⟩=some (.slice Ze Za.length Zd):=(Yc Xw.out 2).trans rfl;have hfz25_0:=Yf Xw.out 0;have hfz25_1:=Yf Xw.out 1;have hfz25_2:=Yf Xw.out 2)|((with_reducible refine gate_callee (f:=156) rfl ?_);refine goesL_ (some 9) rfl rfl Try.func156 (by kernel_rfl) rfl #[.int .i64 Zc] rfl (by(try simp only[List.map_toArray,List.map_cons,List.map_nil]);first|done|rfl|(simp only[List.length_drop,List.length_take];rfl)) ?_;(with_reducible refine(netfmt_nodes.calls Zc t180 _ A2.out).mono ?_);rintro e w' ⟨rfl,⟨nd,rfl⟩⟩;refine⟨_,rfl,?_⟩));go_ret;exact⟨by first|rfl|(simp[errW_none,errW_some]<;>rfl)|(simp[*,errW_none,errW_some]<;>rfl),by repeat(first|(with_reducible first|exact HB.out|apply Ye|apply Yd|apply Yg|refine Yh ?_ GE179.out)|exact HB.out)⟩
 rw[Yx c3] at H;have c3b0:(t180 == 0)=true:=beq_iff_eq.mpr c3;have c3b1:(t180 != 0)=false:=bne_eq_false_iff_eq.mpr c3;clear c3;by_cases c4:(Za.length:Int)>200
 ·rw[Yx c4] at H
  have c4b0:decide (200<(Za.length:Int))=true:=Yv c4;have c4b1:decide (200<Za.length)=true:=Yv (by omega);clear c4;obtain rfl:=Option.some.inj H;go_enter Try.func127,Try.ntmps127;go_wp2_with (first|((with_reducible refine gate_dst (N:=1) rfl ?_);refine Yz ?hg (N:=1) ?hd (cs:= #[.int .i64 Zc, .bool Zb, .slice Ze Za.length Zd]) (t:=24) ?hr ?_;(case hd=>rfl);(case hg=>rfl);(case hr=>first|(go_simp;done)|(go_simp;rfl));intro Ws hg w5 Zf hb;have n0_:=Ya (Yk (by repeat(first|(with_reducible first|exact HB.out|apply Ye|apply Yd|apply Yg)|exact HB.out)) hb);have n1_:=Ya (Zf);have n2_:=Ya ((by rw[hg];exact(Yi (by repeat(first|(with_reducible first|exact HB.out|apply Ye|apply Yd|apply Yg)|exact HB.out))):w.heap.size≤Ws));have n3_:=Ya ((by rw[hg];exact(Yi (by repeat(first|(with_reducible first|exact HB.out|apply Ye|apply Yd|apply Yg)|exact HB.out))):w.heap.size≤Ws));clear HB;have HB:=n0_;have Xw:=n1_;have GW179:=n2_;have GE179:=n3_;clear n0_ n1_ n2_ n3_;clear hb Zf hg;have hcz6_0:w5.cell? ⟨Ws,0,none⟩=some (.int .i64 Zc):=(Yc Xw.out 0).trans rfl;have hcz6_1:w5.cell? ⟨Ws,1,none⟩=some (.bool Zb):=(Yc Xw.out 1).trans rfl;have hcz6_2:w5.cell? ⟨Ws,2,none⟩=some (.slice Ze Za.length Zd):=(Yc Xw.out 2).trans rfl;have hfz6_0:=Yf Xw.out 0;have hfz6_1:=Yf Xw.out 1;have hfz6_2:=Yf Xw.out 2)|((with_reducible refine gate_callee (f:=156) rfl ?_);refine goesL_ (some 9) rfl rfl Try.func156 (by kernel_rfl) rfl #[.int .i64 Zc] rfl (by(try simp only[List.map_toArray,List.map_cons,List.map_nil]);first|done|rfl|(simp only[List.length_drop,List.length_take];rfl)) ?_;(with_reducible refine(netfmt_nodes.calls Zc t180 _ A2.out).mono ?_);rintro e w' ⟨rfl,⟨nd,rfl⟩⟩;refine⟨_,rfl,?_⟩));go_ret;exact⟨by first|rfl|(simp[errW_none,errW_some]<;>rfl)|(simp[*,errW_none,errW_some]<;>rfl),by repeat(first|(with_reducible first|exact HB.out|apply Ye|apply Yd|apply Yg|refine Yh ?_ GE179.out)|exact HB.out)⟩
 rw[Yy c4] at H;have c4b0:decide (200<(Za.length:Int))=false:=Yw c4;have c4b1:decide (200<Za.length)=false:=Yw (by omega);clear c4;have H':=Ya H;clear H;go_enter Try.func127,Try.ntmps127;go_wp2_with (first|((with_reducible refine gate_dst (N:=1) rfl ?_);refine Yz ?hg (N:=1) ?hd (cs:= #[.int .i64 Zc, .bool Zb, .slice Ze Za.length Zd]) (t:=24) ?hr ?_;(case hd=>rfl);(case hg=>rfl);(case hr=>first|(go_simp;done)|(go_simp;rfl));intro Ws hg w7 Zf hb;have n0_:=Ya (Yk (by repeat(first|(with_reducible first|exact HB.out|apply Ye|apply Yd|apply Yg)|exact HB.out)) hb);have n1_:=Ya (Zf);have n2_:=Ya ((by rw[hg];exact(Yi (by repeat(first|(with_reducible first|exact HB.out|apply Ye|apply Yd|apply Yg)|exact HB.out))):w.heap.size≤Ws));have n3_:=Ya ((by rw[hg];exact(Yi (by repeat(first|(with_reducible first|exact HB.out|apply Ye|apply Yd|apply Yg)|exact HB.out))):w.heap.size≤Ws));clear HB;have HB:=n0_;have Xw:=n1_;have GW179:=n2_;have GE179:=n3_;clear n0_ n1_ n2_ n3_;clear hb Zf hg;have hcz8_0:w7.cell? ⟨Ws,0,none⟩=some (.int .i64 Zc):=(Yc Xw.out 0).trans rfl;have hcz8_1:w7.cell? ⟨Ws,1,none⟩=some (.bool Zb):=(Yc Xw.out 1).trans rfl;have hcz8_2:w7.cell? ⟨Ws,2,none⟩=some (.slice Ze Za.length Zd):=(Yc Xw.out 2).trans rfl;have hfz8_0:=Yf Xw.out 0;have hfz8_1:=Yf Xw.out 1;have hfz8_2:=Yf Xw.out 2)|((with_reducible refine gate_callee (f:=156) rfl ?_);refine goesL_ (some 9) rfl rfl Try.func156 (by kernel_rfl) rfl #[.int .i64 Zc] rfl (by(try simp only[List.map_toArray,List.map_cons,List.map_nil]);first|done|rfl|(simp only[List.length_drop,List.length_take];rfl)) ?_;(with_reducible refine(netfmt_nodes.calls Zc t180 _ A2.out).mono ?_);rintro e w' ⟨rfl,⟨nd,rfl⟩⟩;refine⟨_,rfl,?_⟩));go_loopg [20] k (fun kq v20 w'=> ∃ (Xs:Int),v20= .int .i64 Xs∧Aside0 (netfmt_Check.l0 kq Za (Za.length:Int) Xs Zc Zb Za=some r)∧Aside0 (kq≤k)∧Aside0 (w'.heap[Ws]? =some (.cells #[.int .i64 Zc, .bool Zb,(.slice Ze Za.length Zd)] 24 (0,0)))∧Aside0 (Below w.heap.size w w'))
 case atStart=>exact⟨(0),(by first|rfl|(simp;done)|(simp[*];done)),H',⟨Nat.le_refl _⟩,⟨by(with_reducible repeat(first|refine Yl ?_ _|refine Ym ?_|refine Yj ?_ _));exact Xw.out⟩,⟨by repeat(first|(with_reducible first|exact HB.out|apply Ye|apply Yd|apply Yg|refine Yh ?_ GE179.out)|exact HB.out)⟩⟩
 case round=>
  clear H';try clear c1
  try clear p2
  try clear c3
  try clear c3b0
  try clear c3b1
  try clear c4
  try clear c4b0
  try clear c4b1
  try clear hcz6_0
  try clear hcz6_1
  try clear hcz6_2
  try clear hcz8_0
  try clear hcz8_1
  try clear hcz8_2
  try clear hfz6_0
  try clear hfz6_1
  try clear hfz6_2
  try clear hfz8_0
  try clear hfz8_1
  try clear hfz8_2
  obtain⟨Xs,rfl,HA,HK1,Xw,HB⟩:=hrel;cases gk with
  |zero=>exact absurd HA.out (by simp[netfmt_Check.l0])
  |succ k1=>
   have H:=HA.out;clear HA;simp only[netfmt_Check.l0] at H;by_cases c9:Xs<(Za.length:Int)
   rotate_left
   ·rw[Yy c9] at H
    have c9b0:decide (Xs<(Za.length:Int))=false:=Yw c9;clear c9;obtain rfl:=Option.some.inj H;go_wp2;go_ret;exact⟨by first|rfl|(simp[errW_none,errW_some]<;>rfl)|(simp[*,errW_none,errW_some]<;>rfl),by repeat(first|(with_reducible first|exact HB.out|apply Ye|apply Yd|apply Yg|refine Yh ?_ GE179.out)|exact HB.out)⟩
   rw[Yx c9] at H;have c9b0:decide (Xs<(Za.length:Int))=true:=Yv c9;clear c9;by_cases c10:0≤Xs
   rotate_left
   ·rw[Yy c10] at H
    exact absurd H (by simp)
   rw[Yx c10] at H;have c10b0:decide (0≤Xs)=true:=Yv c10;clear c10;by_cases c11:Xs<(Za.length:Int)
   rotate_left
   ·rw[Yy c11] at H
    exact absurd H (by simp)
   rw[Yx c11] at H;have c11b0:decide (Xs<(Za.length:Int))=true:=Yv c11;clear c11;replace H:=Option.bind_eq_some_iff.mp H;obtain⟨t183,A120,H⟩:=H;replace H:(if t183=0 then(netfmt_Check.l0 k1 Za (Za.length:Int) (wrap64 (Xs+1)) Zc Zb Za) else(some t183))=some r:=H;have A12:=Ya A120;clear A120;by_cases c13:t183=0
   rotate_left
   ·rw[Yy c13] at H
    have c13b0:(t183 == 0)=false:=beq_eq_false_iff_ne.mpr c13;have c13b1:(t183 != 0)=true:=bne_iff_ne.mpr c13;obtain rfl:=Option.some.inj H;have p181:0≤(Xs:Int):=Yu (by first|(with_reducible assumption)|assumption);have q181:Xs<(Za.length:Int):=Yu (by first|(with_reducible assumption)|assumption);obtain⟨ad181,e181,hx181_0,hx181_1,hx181_2,hx181_3⟩:=at_T74 Zl.out Xs p181 q181;cases e181;replace hx181_0:=(HB.out.cell (Yb w _ hx181_0)).trans hx181_0;replace hx181_1:=(HB.out.cell (Yb w _ hx181_1)).trans hx181_1;replace hx181_2:=(HB.out.cell (Yb w _ hx181_2)).trans hx181_2;replace hx181_3:=(HB.out.cell (Yb w _ hx181_3)).trans hx181_3;replace p181:=eq_true p181;replace q181:=eq_true q181;go_wp2_with (first|((with_reducible refine gate_dst (N:=5) rfl ?_);refine Yz ?hg (N:=5) ?hd (cs:= #[.int .i64 0, .int .i64 0, .int .i64 0, .int .i64 0]) (t:=74) ?hr ?_;(case hd=>rfl);(case hg=>rfl);(case hr=>first|(go_simp;done)|(go_simp;rfl));intro gb182 hg w19 Zf hb;have n0_:=Ya (Yn (g:=Ws) (o:= .cells #[.int .i64 Zc, .bool Zb, .slice (some ad181) Za.length Zd] 24 (0,0)) (by(with_reducible repeat(first|refine Yl ?_ _|refine Ym ?_|refine Yj ?_ _));exact Xw.out) hb);have n1_:=Ya (Yk (by repeat(first|(with_reducible first|exact HB.out|apply Ye|apply Yd|apply Yg|refine Yh ?_ GE179.out)|exact HB.out)) hb);have n2_:=Ya (Zf);have n3_:=Ya ((by rw[hg];exact(Yi (by repeat(first|(with_reducible first|exact HB.out|apply Ye|apply Yd|apply Yg|refine Yh ?_ GE179.out)|exact HB.out))):w.heap.size≤gb182));have n4_:=Ya ((by rw[hg];exact(Yi (by repeat(first|(with_reducible first|exact HB.out|apply Ye|apply Yd|apply Yg|refine Yh ?_ GE179.out)|exact HB.out))):w.heap.size≤gb182));have n5_:=Ya ((by rw[hg];exact Nat.ne_of_lt (blk_lt (g:=Ws) (o:= .cells #[.int .i64 Zc, .bool Zb, .slice (some ad181) Za.length Zd] 24 (0,0)) (by(with_reducible repeat(first|refine Yl ?_ _|refine Ym ?_|refine Yj ?_ _));exact Xw.out)):Ws≠gb182));have n6_:=Ya ((by rw[hg];exact Nat.ne_of_gt (blk_lt (g:=Ws) (o:= .cells #[.int .i64 Zc, .bool Zb, .slice (some ad181) Za.length Zd] 24 (0,0)) (by(with_reducible repeat(first|refine Yl ?_ _|refine Ym ?_|refine Yj ?_ _));exact Xw.out)):gb182≠Ws));clear Xw;clear HB;have Xw:=n0_;have HB:=n1_;have Ja:=n2_;have GW182:=n3_;have GE182:=n4_;have Vw:=n5_;have NB182_179:=n6_;clear n0_ n1_ n2_ n3_ n4_ n5_ n6_;clear hb Zf hg;have hnb20:=NB182_179.out;have hnc20:=Vw.out;have hcz21_0:w19.cell? ⟨gb182,0,none⟩=some (.int .i64 0):=(Yc Ja.out 0).trans rfl;have hcz21_1:w19.cell? ⟨gb182,1,none⟩=some (.int .i64 0):=(Yc Ja.out 1).trans rfl;have hcz21_2:w19.cell? ⟨gb182,2,none⟩=some (.int .i64 0):=(Yc Ja.out 2).trans rfl;have hcz21_3:w19.cell? ⟨gb182,3,none⟩=some (.int .i64 0):=(Yc Ja.out 3).trans rfl;have hfz21_0:=Yf Ja.out 0;have hfz21_1:=Yf Ja.out 1;have hfz21_2:=Yf Ja.out 2;have hfz21_3:=Yf Ja.out 3;have hcz22_0:w19.cell? ⟨Ws,0,none⟩=some (.int .i64 Zc):=(Yc Xw.out 0).trans rfl;have hcz22_1:w19.cell? ⟨Ws,1,none⟩=some (.bool Zb):=(Yc Xw.out 1).trans rfl;have hcz22_2:w19.cell? ⟨Ws,2,none⟩=some (.slice (some ad181) Za.length Zd):=(Yc Xw.out 2).trans rfl;have hfz22_0:=Yf Xw.out 0;have hfz22_1:=Yf Xw.out 1;have hfz22_2:=Yf Xw.out 2)|((with_reducible refine gate_callee (f:=157) rfl ?_);refine goesL_ (some 27) rfl rfl Try.func157 (by kernel_rfl) rfl #[.int .i64 Zc, .agg #[.int .i64 ((rd_T74 Za Xs).f0), .int .i64 ((rd_T74 Za Xs).f1), .int .i64 ((rd_T74 Za Xs).f2), .int .i64 ((rd_T74 Za Xs).f3)]] rfl (by(try simp only[List.map_toArray,List.map_cons,List.map_nil]);first|done|rfl|(simp only[List.length_drop,List.length_take];rfl)) ?_;(with_reducible refine(netfmt_arc.calls k1 Zc ((rd_T74 Za Xs).f0) ((rd_T74 Za Xs).f1) ((rd_T74 Za Xs).f2) ((rd_T74 Za Xs).f3) t183 _ A12.out).mono ?_);rintro e w23 ⟨rfl,hb⟩;refine⟨_,rfl,?_⟩;have n0_:=Ya (Yn (g:=Ws) (o:= .cells #[.int .i64 Zc, .bool Zb, .slice (some ad181) Za.length Zd] 24 (0,0)) (by(with_reducible repeat(first|refine Yl ?_ _|refine Ym ?_|refine Yj ?_ _));refine blk_far ?_ Vw.out _;(with_reducible repeat(first|refine Yl ?_ _|refine Ym ?_|refine Yj ?_ _));refine blk_far ?_ Vw.out _;(with_reducible repeat(first|refine Yl ?_ _|refine Ym ?_|refine Yj ?_ _));refine blk_far ?_ Vw.out _;(with_reducible repeat(first|refine Yl ?_ _|refine Ym ?_|refine Yj ?_ _));refine blk_far ?_ Vw.out _;(with_reducible repeat(first|refine Yl ?_ _|refine Ym ?_|refine Yj ?_ _));exact Xw.out) hb);have n1_:=Ya (Yn (g:=gb182) (o:= .cells #[.int .i64 ((rd_T74 Za Xs).f0), .int .i64 ((rd_T74 Za Xs).f1), .int .i64 ((rd_T74 Za Xs).f2), .int .i64 ((rd_T74 Za Xs).f3)] 74 (0,0)) (by(with_reducible repeat(first|refine Yl ?_ _|refine Ym ?_|refine Yj ?_ _));refine YA (cs:= #[.int .i64 ((rd_T74 Za Xs).f0), .int .i64 ((rd_T74 Za Xs).f1), .int .i64 ((rd_T74 Za Xs).f2), .int .i64 0]) ?_ 3 _ rfl;(with_reducible repeat(first|refine Yl ?_ _|refine Ym ?_|refine Yj ?_ _));refine YA (cs:= #[.int .i64 ((rd_T74 Za Xs).f0), .int .i64 ((rd_T74 Za Xs).f1), .int .i64 0, .int .i64 0]) ?_ 2 _ rfl;(with_reducible repeat(first|refine Yl ?_ _|refine Ym ?_|refine Yj ?_ _));refine YA (cs:= #[.int .i64 ((rd_T74 Za Xs).f0), .int .i64 0, .int .i64 0, .int .i64 0]) ?_ 1 _ rfl;(with_reducible repeat(first|refine Yl ?_ _|refine Ym ?_|refine Yj ?_ _));refine YA (cs:= #[.int .i64 0, .int .i64 0, .int .i64 0, .int .i64 0]) ?_ 0 _ rfl;(with_reducible repeat(first|refine Yl ?_ _|refine Ym ?_|refine Yj ?_ _));exact Ja.out) hb);have n2_:=Ya (Yk (by repeat(first|(with_reducible first|exact HB.out|apply Ye|apply Yd|apply Yg|refine Yh ?_ GE179.out|refine Yh ?_ GE182.out)|exact HB.out)) hb);clear Xw;clear Ja;clear HB;have Xw:=n0_;have Ja:=n1_;have HB:=n2_;clear n0_ n1_ n2_;(try clear hb);(try clear hb2);(try clear hk);(try clear hi)));go_ret;exact⟨by first|rfl|(simp[errW_none,errW_some]<;>rfl)|(simp[*,errW_none,errW_some]<;>rfl),by repeat(first|(with_reducible first|exact HB.out|apply Ye|apply Yd|apply Yg|refine Yh ?_ GE179.out|refine Yh ?_ GE182.out)|exact HB.out)⟩
   rw[Yx c13] at H;have c13b0:(t183 == 0)=true:=beq_iff_eq.mpr c13;have c13b1:(t183 != 0)=false:=bne_eq_false_iff_eq.mpr c13;clear c13;have H':=Ya H;clear H;have p181:0≤(Xs:Int):=Yu (by first|(with_reducible assumption)|assumption);have q181:Xs<(Za.length:Int):=Yu (by first|(with_reducible assumption)|assumption);obtain⟨ad181,e181,hx181_0,hx181_1,hx181_2,hx181_3⟩:=at_T74 Zl.out Xs p181 q181;cases e181;replace hx181_0:=(HB.out.cell (Yb w _ hx181_0)).trans hx181_0;replace hx181_1:=(HB.out.cell (Yb w _ hx181_1)).trans hx181_1;replace hx181_2:=(HB.out.cell (Yb w _ hx181_2)).trans hx181_2;replace hx181_3:=(HB.out.cell (Yb w _ hx181_3)).trans hx181_3;replace p181:=eq_true p181;replace q181:=eq_true q181;go_wp2_with (first|((with_reducible refine gate_dst (N:=5) rfl ?_);refine Yz ?hg (N:=5) ?hd (cs:= #[.int .i64 0, .int .i64 0, .int .i64 0, .int .i64 0]) (t:=74) ?hr ?_;(case hd=>rfl);(case hg=>rfl);(case hr=>first|(go_simp;done)|(go_simp;rfl));intro gb182 hg w14 Zf hb;have n0_:=Ya (Yn (g:=Ws) (o:= .cells #[.int .i64 Zc, .bool Zb, .slice (some ad181) Za.length Zd] 24 (0,0)) (by(with_reducible repeat(first|refine Yl ?_ _|refine Ym ?_|refine Yj ?_ _));exact Xw.out) hb);have n1_:=Ya (Yk (by repeat(first|(with_reducible first|exact HB.out|apply Ye|apply Yd|apply Yg|refine Yh ?_ GE179.out)|exact HB.out)) hb);have n2_:=Ya (Zf);have n3_:=Ya ((by rw[hg];exact(Yi (by repeat(first|(with_reducible first|exact HB.out|apply Ye|apply Yd|apply Yg|refine Yh ?_ GE179.out)|exact HB.out))):w.heap.size≤gb182));have n4_:=Ya ((by rw[hg];exact(Yi (by repeat(first|(with_reducible first|exact HB.out|apply Ye|apply Yd|apply Yg|refine Yh ?_ GE179.out)|exact HB.out))):w.heap.size≤gb182));have n5_:=Ya ((by rw[hg];exact Nat.ne_of_lt (blk_lt (g:=Ws) (o:= .cells #[.int .i64 Zc, .bool Zb, .slice (some ad181) Za.length Zd] 24 (0,0)) (by(with_reducible repeat(first|refine Yl ?_ _|refine Ym ?_|refine Yj ?_ _));exact Xw.out)):Ws≠gb182));have n6_:=Ya ((by rw[hg];exact Nat.ne_of_gt (blk_lt (g:=Ws) (o:= .cells #[.int .i64 Zc, .bool Zb, .slice (some ad181) Za.length Zd] 24 (0,0)) (by(with_reducible repeat(first|refine Yl ?_ _|refine Ym ?_|refine Yj ?_ _));exact Xw.out)):gb182≠Ws));clear Xw;clear HB;have Xw:=n0_;have HB:=n1_;have Ja:=n2_;have GW182:=n3_;have GE182:=n4_;have Vw:=n5_;have NB182_179:=n6_;clear n0_ n1_ n2_ n3_ n4_ n5_ n6_;clear hb Zf hg;have hnb15:=NB182_179.out;have hnc15:=Vw.out;have hcz16_0:w14.cell? ⟨gb182,0,none⟩=some (.int .i64 0):=(Yc Ja.out 0).trans rfl;have hcz16_1:w14.cell? ⟨gb182,1,none⟩=some (.int .i64 0):=(Yc Ja.out 1).trans rfl;have hcz16_2:w14.cell? ⟨gb182,2,none⟩=some (.int .i64 0):=(Yc Ja.out 2).trans rfl;have hcz16_3:w14.cell? ⟨gb182,3,none⟩=some (.int .i64 0):=(Yc Ja.out 3).trans rfl;have hfz16_0:=Yf Ja.out 0;have hfz16_1:=Yf Ja.out 1;have hfz16_2:=Yf Ja.out 2;have hfz16_3:=Yf Ja.out 3;have Uk:w14.cell? ⟨Ws,0,none⟩=some (.int .i64 Zc):=(Yc Xw.out 0).trans rfl;have Ul:w14.cell? ⟨Ws,1,none⟩=some (.bool Zb):=(Yc Xw.out 1).trans rfl;have hcz17_2:w14.cell? ⟨Ws,2,none⟩=some (.slice (some ad181) Za.length Zd):=(Yc Xw.out 2).trans rfl;have Um:=Yf Xw.out 0;have Un:=Yf Xw.out 1;have hfz17_2:=Yf Xw.out 2)|((with_reducible refine gate_callee (f:=157) rfl ?_);refine goesL_ (some 27) rfl rfl Try.func157 (by kernel_rfl) rfl #[.int .i64 Zc, .agg #[.int .i64 ((rd_T74 Za Xs).f0), .int .i64 ((rd_T74 Za Xs).f1), .int .i64 ((rd_T74 Za Xs).f2), .int .i64 ((rd_T74 Za Xs).f3)]] rfl (by(try simp only[List.map_toArray,List.map_cons,List.map_nil]);first|done|rfl|(simp only[List.length_drop,List.length_take];rfl)) ?_;(with_reducible refine(netfmt_arc.calls k1 Zc ((rd_T74 Za Xs).f0) ((rd_T74 Za Xs).f1) ((rd_T74 Za Xs).f2) ((rd_T74 Za Xs).f3) t183 _ A12.out).mono ?_);rintro e w18 ⟨rfl,hb⟩;refine⟨_,rfl,?_⟩;have n0_:=Ya (Yn (g:=Ws) (o:= .cells #[.int .i64 Zc, .bool Zb, .slice (some ad181) Za.length Zd] 24 (0,0)) (by(with_reducible repeat(first|refine Yl ?_ _|refine Ym ?_|refine Yj ?_ _));refine blk_far ?_ Vw.out _;(with_reducible repeat(first|refine Yl ?_ _|refine Ym ?_|refine Yj ?_ _));refine blk_far ?_ Vw.out _;(with_reducible repeat(first|refine Yl ?_ _|refine Ym ?_|refine Yj ?_ _));refine blk_far ?_ Vw.out _;(with_reducible repeat(first|refine Yl ?_ _|refine Ym ?_|refine Yj ?_ _));refine blk_far ?_ Vw.out _;(with_reducible repeat(first|refine Yl ?_ _|refine Ym ?_|refine Yj ?_ _));exact Xw.out) hb);have n1_:=Ya (Yn (g:=gb182) (o:= .cells #[.int .i64 ((rd_T74 Za Xs).f0), .int .i64 ((rd_T74 Za Xs).f1), .int .i64 ((rd_T74 Za Xs).f2), .int .i64 ((rd_T74 Za Xs).f3)] 74 (0,0)) (by(with_reducible repeat(first|refine Yl ?_ _|refine Ym ?_|refine Yj ?_ _));refine YA (cs:= #[.int .i64 ((rd_T74 Za Xs).f0), .int .i64 ((rd_T74 Za Xs).f1), .int .i64 ((rd_T74 Za Xs).f2), .int .i64 0]) ?_ 3 _ rfl;(with_reducible repeat(first|refine Yl ?_ _|refine Ym ?_|refine Yj ?_ _));refine YA (cs:= #[.int .i64 ((rd_T74 Za Xs).f0), .int .i64 ((rd_T74 Za Xs).f1), .int .i64 0, .int .i64 0]) ?_ 2 _ rfl;(with_reducible repeat(first|refine Yl ?_ _|refine Ym ?_|refine Yj ?_ _));refine YA (cs:= #[.int .i64 ((rd_T74 Za Xs).f0), .int .i64 0, .int .i64 0, .int .i64 0]) ?_ 1 _ rfl;(with_reducible repeat(first|refine Yl ?_ _|refine Ym ?_|refine Yj ?_ _));refine YA (cs:= #[.int .i64 0, .int .i64 0, .int .i64 0, .int .i64 0]) ?_ 0 _ rfl;(with_reducible repeat(first|refine Yl ?_ _|refine Ym ?_|refine Yj ?_ _));exact Ja.out) hb);have n2_:=Ya (Yk (by repeat(first|(with_reducible first|exact HB.out|apply Ye|apply Yd|apply Yg|refine Yh ?_ GE179.out|refine Yh ?_ GE182.out)|exact HB.out)) hb);clear Xw;clear Ja;clear HB;have Xw:=n0_;have Ja:=n1_;have HB:=n2_;clear n0_ n1_ n2_;(try clear hb);(try clear hb2);(try clear hk);(try clear hi)));go_roundg k1
   case measure=>have:=HK1.out;omega
   case rel=>exact⟨(wrap64 (Xs+1)),(by first|rfl|(simp;done)|(simp[*];done)),H',⟨by have:=HK1.out;omega⟩,⟨by(with_reducible repeat(first|refine Yl ?_ _|refine Ym ?_|refine Yj ?_ _));exact Xw.out⟩,⟨by repeat(first|(with_reducible first|exact HB.out|apply Ye|apply Yd|apply Yg|refine Yh ?_ GE179.out|refine Yh ?_ GE182.out)|exact HB.out)⟩⟩
end P
namespace P
attribute [local go_sem] max2_int min2_int max_two min_two max_three min_three max_four min_four
def static_Ends.f (k:Nat) (Zc:Int) (Zb:Bool) (Za:List (S74)) (a1:Int) (a2:Int):Option (Int):=(netfmt_Check.f k Zc Zb Za).bind fun t491=>(if t491=0 then(if (mn a1 a2)<0 then(some 70) else(if (mx a1 a2)≥Zc then(some 70) else(if a1=a2 then(some 70) else(some 0)))) else(some t491))
set_option maxHeartbeats 8000000 in
set_option maxRecDepth 100000 in
theorem static_Ends.calls (k:Nat) (Zc:Int) (Zb:Bool) (Ze:Option Addr) (Zd:Nat) (Za:List (S74)) (a1:Int) (a2:Int) (r:Int) (w:World) (Zr:Kd.C k74 w Ze Za.length Za) (Zs:Za.length≤Zd) (h:static_Ends.f k Zc Zb Za a1 a2=some r):
  Calls Try.prog 111 #[.agg #[.int .i64 Zc, .bool Zb, .slice Ze Za.length Zd], .int .i64 a1, .int .i64 a2] w fun e w'=>e= .returned (.int .i64 r)∧Below w.heap.size w w':=by
 have hu24:=Try.underlying24;have Zl:=Ya Zr;have Zv:=Ya Zs;clear Zr Zs;have HB:=Ya (Yo w.heap.size w);have H:((netfmt_Check.f k Zc Zb Za).bind fun t491=>(if t491=0 then(if (mn a1 a2)<0 then(some 70) else(if (mx a1 a2)≥Zc then(some 70) else(if a1=a2 then(some 70) else(some 0)))) else(some t491)))=some r:=h;clear h;replace H:=Option.bind_eq_some_iff.mp H;obtain⟨t491,A40,H⟩:=H;replace H:(if t491=0 then(if (mn a1 a2)<0 then(some 70) else(if (mx a1 a2)≥Zc then(some 70) else(if a1=a2 then(some 70) else(some 0)))) else(some t491))=some r:=H;have A4:=Ya A40;clear A40;by_cases c5:t491=0
 rotate_left
 ·rw[Yy c5] at H
  have c5b0:(t491 == 0)=false:=beq_eq_false_iff_ne.mpr c5;have c5b1:(t491 != 0)=true:=bne_iff_ne.mpr c5;obtain rfl:=Option.some.inj H;go_enter Try.func111,Try.ntmps111;go_wp2_with (first|((with_reducible refine gate_dst (N:=3) rfl ?_);(try (refine gate_guard (by rfl) ?_;dsimp only));refine Yz ?hg (N:=3) ?hd (cs:= #[.int .i64 Zc, .bool Zb, .slice Ze Za.length Zd]) (t:=24) ?hr ?_;(case hd=>rfl);(case hg=>rfl);(case hr=>first|(go_simp;done)|(go_simp;rfl));intro We hg w26 Zf hb;have n0_:=Ya (Yk (by repeat(first|(with_reducible first|exact HB.out|apply Ye|apply Yd|apply Yg)|exact HB.out)) hb);have n1_:=Ya (Zf);have n2_:=Ya ((by rw[hg];exact(Yi (by repeat(first|(with_reducible first|exact HB.out|apply Ye|apply Yd|apply Yg)|exact HB.out))):w.heap.size≤We));have n3_:=Ya ((by rw[hg];exact(Yi (by repeat(first|(with_reducible first|exact HB.out|apply Ye|apply Yd|apply Yg)|exact HB.out))):w.heap.size≤We));clear HB;have HB:=n0_;have Xg:=n1_;have GW490:=n2_;have GE490:=n3_;clear n0_ n1_ n2_ n3_;clear hb Zf hg;have hcz27_0:w26.cell? ⟨We,0,none⟩=some (.int .i64 Zc):=(Yc Xg.out 0).trans rfl;have hcz27_1:w26.cell? ⟨We,1,none⟩=some (.bool Zb):=(Yc Xg.out 1).trans rfl;have hcz27_2:w26.cell? ⟨We,2,none⟩=some (.slice Ze Za.length Zd):=(Yc Xg.out 2).trans rfl;have hfz27_0:=Yf Xg.out 0;have hfz27_1:=Yf Xg.out 1;have hfz27_2:=Yf Xg.out 2)|((with_reducible refine gate_callee (f:=127) rfl ?_);refine goesL_ (some 9) rfl rfl Try.func127 (by kernel_rfl) rfl #[.agg #[.int .i64 Zc, .bool Zb, .slice Ze Za.length Zd]] rfl (by(try simp only[List.map_toArray,List.map_cons,List.map_nil]);first|done|rfl|(simp only[List.length_drop,List.length_take];rfl)) ?_;(with_reducible refine(netfmt_Check.calls k Zc Zb _ _ Za t491 _ ?side1 ?side2 A4.out).mono ?_);(case side1=>repeat(first|exact(Yt Zl.out HB.out)|(with_reducible refine Kd.C_alloc ?_ _)|(with_reducible refine Kd.C_drewN ?_ _)|(with_reducible refine Kd.C_drew ?_)));(case side2=>exact Zv.out);rintro e w28 ⟨rfl,hb⟩;refine⟨_,rfl,?_⟩;have n0_:=Ya (Yn (g:=We) (o:= .cells #[.int .i64 Zc, .bool Zb, .slice Ze Za.length Zd] 24 (0,0)) (by(with_reducible repeat(first|refine Yl ?_ _|refine Ym ?_|refine Yj ?_ _));exact Xg.out) hb);have n1_:=Ya (Yk (by repeat(first|(with_reducible first|exact HB.out|apply Ye|apply Yd|apply Yg|refine Yh ?_ GE490.out)|exact HB.out)) hb);clear Xg;clear HB;have Xg:=n0_;have HB:=n1_;clear n0_ n1_;(try clear hb);(try clear hb2);(try clear hk);(try clear hi)));go_ret;exact⟨by first|rfl|(simp[errW_none,errW_some]<;>rfl)|(simp[*,errW_none,errW_some]<;>rfl),by repeat(first|(with_reducible first|exact HB.out|apply Ye|apply Yd|apply Yg|refine Yh ?_ GE490.out)|exact HB.out)⟩
 rw[Yx c5] at H;have c5b0:(t491 == 0)=true:=beq_iff_eq.mpr c5;have c5b1:(t491 != 0)=false:=bne_eq_false_iff_eq.mpr c5;clear c5;obtain⟨ji6,hji6⟩: ∃ j_:Int,(mn a1 a2)=j_:=⟨_,rfl⟩;replace H:(if (ji6)<0 then(some 70) else(if (mx a1 a2)≥Zc then(some 70) else(if a1=a2 then(some 70) else(some 0))))=some r:=by first|(rw[hji6] at H;exact H)|(simp only[hji6] at H ⊢;exact H)
 (try rw[hji6] at A4)
 have hji6_:(if a2<a1 then a2 else a1)=ji6:=hji6;by_cases c7:(ji6)<0
 ·rw[Yx c7] at H
  have c7b0:decide ((ji6)<0)=true:=Yv c7;clear c7;obtain rfl:=Option.some.inj H;go_enter Try.func111,Try.ntmps111;go_wp2_with (first|((with_reducible refine gate_dst (N:=3) rfl ?_);(try (refine gate_guard (by rfl) ?_;dsimp only));refine Yz ?hg (N:=3) ?hd (cs:= #[.int .i64 Zc, .bool Zb, .slice Ze Za.length Zd]) (t:=24) ?hr ?_;(case hd=>rfl);(case hg=>rfl);(case hr=>first|(go_simp;done)|(go_simp;rfl));intro We hg w8 Zf hb;have n0_:=Ya (Yk (by repeat(first|(with_reducible first|exact HB.out|apply Ye|apply Yd|apply Yg)|exact HB.out)) hb);have n1_:=Ya (Zf);have n2_:=Ya ((by rw[hg];exact(Yi (by repeat(first|(with_reducible first|exact HB.out|apply Ye|apply Yd|apply Yg)|exact HB.out))):w.heap.size≤We));have n3_:=Ya ((by rw[hg];exact(Yi (by repeat(first|(with_reducible first|exact HB.out|apply Ye|apply Yd|apply Yg)|exact HB.out))):w.heap.size≤We));clear HB;have HB:=n0_;have Xg:=n1_;have GW490:=n2_;have GE490:=n3_;clear n0_ n1_ n2_ n3_;clear hb Zf hg;have hcz9_0:w8.cell? ⟨We,0,none⟩=some (.int .i64 Zc):=(Yc Xg.out 0).trans rfl;have hcz9_1:w8.cell? ⟨We,1,none⟩=some (.bool Zb):=(Yc Xg.out 1).trans rfl;have hcz9_2:w8.cell? ⟨We,2,none⟩=some (.slice Ze Za.length Zd):=(Yc Xg.out 2).trans rfl;have hfz9_0:=Yf Xg.out 0;have hfz9_1:=Yf Xg.out 1;have hfz9_2:=Yf Xg.out 2)|((with_reducible refine gate_callee (f:=127) rfl ?_);refine goesL_ (some 9) rfl rfl Try.func127 (by kernel_rfl) rfl #[.agg #[.int .i64 Zc, .bool Zb, .slice Ze Za.length Zd]] rfl (by(try simp only[List.map_toArray,List.map_cons,List.map_nil]);first|done|rfl|(simp only[List.length_drop,List.length_take];rfl)) ?_;(with_reducible refine(netfmt_Check.calls k Zc Zb _ _ Za t491 _ ?side1 ?side2 A4.out).mono ?_);(case side1=>repeat(first|exact(Yt Zl.out HB.out)|(with_reducible refine Kd.C_alloc ?_ _)|(with_reducible refine Kd.C_drewN ?_ _)|(with_reducible refine Kd.C_drew ?_)));(case side2=>exact Zv.out);rintro e w10 ⟨rfl,hb⟩;refine⟨_,rfl,?_⟩;have n0_:=Ya (Yn (g:=We) (o:= .cells #[.int .i64 Zc, .bool Zb, .slice Ze Za.length Zd] 24 (0,0)) (by(with_reducible repeat(first|refine Yl ?_ _|refine Ym ?_|refine Yj ?_ _));exact Xg.out) hb);have n1_:=Ya (Yk (by repeat(first|(with_reducible first|exact HB.out|apply Ye|apply Yd|apply Yg|refine Yh ?_ GE490.out)|exact HB.out)) hb);clear Xg;clear HB;have Xg:=n0_;have HB:=n1_;clear n0_ n1_;(try clear hb);(try clear hb2);(try clear hk);(try clear hi)));go_ret;exact⟨by first|rfl|(simp[errW_none,errW_some]<;>rfl)|(simp only[← hji6];first|rfl|(simp[errW_none,errW_some]<;>rfl))|(simp[*,errW_none,errW_some]<;>rfl),by repeat(first|(with_reducible first|exact HB.out|apply Ye|apply Yd|apply Yg|refine Yh ?_ GE490.out)|exact HB.out)⟩
 rw[Yy c7] at H;have c7b0:decide ((ji6)<0)=false:=Yw c7;clear c7;obtain⟨ji11,hji11⟩: ∃ j_:Int,(mx a1 a2)=j_:=⟨_,rfl⟩;replace H:(if (ji11)≥Zc then(some 70) else(if a1=a2 then(some 70) else(some 0)))=some r:=by first|(rw[hji11] at H;exact H)|(simp only[hji11] at H ⊢;exact H)
 (try rw[hji11] at A4)
 have hji11_:(if a1<a2 then a2 else a1)=ji11:=hji11;by_cases c12:(ji11)≥Zc
 ·rw[Yx c12] at H
  have c12b0:decide (Zc≤(ji11))=true:=Yv c12;clear c12;obtain rfl:=Option.some.inj H;go_enter Try.func111,Try.ntmps111;go_wp2_with (first|((with_reducible refine gate_dst (N:=3) rfl ?_);(try (refine gate_guard (by rfl) ?_;dsimp only));refine Yz ?hg (N:=3) ?hd (cs:= #[.int .i64 Zc, .bool Zb, .slice Ze Za.length Zd]) (t:=24) ?hr ?_;(case hd=>rfl);(case hg=>rfl);(case hr=>first|(go_simp;done)|(go_simp;rfl));intro We hg w13 Zf hb;have n0_:=Ya (Yk (by repeat(first|(with_reducible first|exact HB.out|apply Ye|apply Yd|apply Yg)|exact HB.out)) hb);have n1_:=Ya (Zf);have n2_:=Ya ((by rw[hg];exact(Yi (by repeat(first|(with_reducible first|exact HB.out|apply Ye|apply Yd|apply Yg)|exact HB.out))):w.heap.size≤We));have n3_:=Ya ((by rw[hg];exact(Yi (by repeat(first|(with_reducible first|exact HB.out|apply Ye|apply Yd|apply Yg)|exact HB.out))):w.heap.size≤We));clear HB;have HB:=n0_;have Xg:=n1_;have GW490:=n2_;have GE490:=n3_;clear n0_ n1_ n2_ n3_;clear hb Zf hg;have Ug:w13.cell? ⟨We,0,none⟩=some (.int .i64 Zc):=(Yc Xg.out 0).trans rfl;have Uh:w13.cell? ⟨We,1,none⟩=some (.bool Zb):=(Yc Xg.out 1).trans rfl;have Jz:w13.cell? ⟨We,2,none⟩=some (.slice Ze Za.length Zd):=(Yc Xg.out 2).trans rfl;have Ui:=Yf Xg.out 0;have Uj:=Yf Xg.out 1;have hfz14_2:=Yf Xg.out 2)|((with_reducible refine gate_callee (f:=127) rfl ?_);refine goesL_ (some 9) rfl rfl Try.func127 (by kernel_rfl) rfl #[.agg #[.int .i64 Zc, .bool Zb, .slice Ze Za.length Zd]] rfl (by(try simp only[List.map_toArray,List.map_cons,List.map_nil]);first|done|rfl|(simp only[List.length_drop,List.length_take];rfl)) ?_;(with_reducible refine(netfmt_Check.calls k Zc Zb _ _ Za t491 _ ?side1 ?side2 A4.out).mono ?_);(case side1=>repeat(first|exact(Yt Zl.out HB.out)|(with_reducible refine Kd.C_alloc ?_ _)|(with_reducible refine Kd.C_drewN ?_ _)|(with_reducible refine Kd.C_drew ?_)));(case side2=>exact Zv.out);rintro e w15 ⟨rfl,hb⟩;refine⟨_,rfl,?_⟩;have n0_:=Ya (Yn (g:=We) (o:= .cells #[.int .i64 Zc, .bool Zb, .slice Ze Za.length Zd] 24 (0,0)) (by(with_reducible repeat(first|refine Yl ?_ _|refine Ym ?_|refine Yj ?_ _));exact Xg.out) hb);have n1_:=Ya (Yk (by repeat(first|(with_reducible first|exact HB.out|apply Ye|apply Yd|apply Yg|refine Yh ?_ GE490.out)|exact HB.out)) hb);clear Xg;clear HB;have Xg:=n0_;have HB:=n1_;clear n0_ n1_;(try clear hb);(try clear hb2);(try clear hk);(try clear hi);have hcz16_0:w15.cell? ⟨We,0,none⟩=some (.int .i64 Zc):=(Yc Xg.out 0).trans rfl;have hcz16_1:w15.cell? ⟨We,1,none⟩=some (.bool Zb):=(Yc Xg.out 1).trans rfl;have hcz16_2:w15.cell? ⟨We,2,none⟩=some (.slice Ze Za.length Zd):=(Yc Xg.out 2).trans rfl;have hfz16_0:=Yf Xg.out 0;have hfz16_1:=Yf Xg.out 1;have hfz16_2:=Yf Xg.out 2));go_ret;exact⟨by first|rfl|(simp[errW_none,errW_some]<;>rfl)|(simp only[← hji6, ← hji11];first|rfl|(simp[errW_none,errW_some]<;>rfl))|(simp[*,errW_none,errW_some]<;>rfl),by repeat(first|(with_reducible first|exact HB.out|apply Ye|apply Yd|apply Yg|refine Yh ?_ GE490.out)|exact HB.out)⟩
 rw[Yy c12] at H;have c12b0:decide (Zc≤(ji11))=false:=Yw c12;clear c12;by_cases c17:a1=a2
 rotate_left
 ·rw[Yy c17] at H
  have c17b0:(a1 == a2)=false:=beq_eq_false_iff_ne.mpr c17;have c17b1:(a1 != a2)=true:=bne_iff_ne.mpr c17;obtain rfl:=Option.some.inj H;go_enter Try.func111,Try.ntmps111;go_wp2_with (first|((with_reducible refine gate_dst (N:=3) rfl ?_);(try (refine gate_guard (by rfl) ?_;dsimp only));refine Yz ?hg (N:=3) ?hd (cs:= #[.int .i64 Zc, .bool Zb, .slice Ze Za.length Zd]) (t:=24) ?hr ?_;(case hd=>rfl);(case hg=>rfl);(case hr=>first|(go_simp;done)|(go_simp;rfl));intro We hg w22 Zf hb;have n0_:=Ya (Yk (by repeat(first|(with_reducible first|exact HB.out|apply Ye|apply Yd|apply Yg)|exact HB.out)) hb);have n1_:=Ya (Zf);have n2_:=Ya ((by rw[hg];exact(Yi (by repeat(first|(with_reducible first|exact HB.out|apply Ye|apply Yd|apply Yg)|exact HB.out))):w.heap.size≤We));have n3_:=Ya ((by rw[hg];exact(Yi (by repeat(first|(with_reducible first|exact HB.out|apply Ye|apply Yd|apply Yg)|exact HB.out))):w.heap.size≤We));clear HB;have HB:=n0_;have Xg:=n1_;have GW490:=n2_;have GE490:=n3_;clear n0_ n1_ n2_ n3_;clear hb Zf hg;have hcz23_0:w22.cell? ⟨We,0,none⟩=some (.int .i64 Zc):=(Yc Xg.out 0).trans rfl;have hcz23_1:w22.cell? ⟨We,1,none⟩=some (.bool Zb):=(Yc Xg.out 1).trans rfl;have hcz23_2:w22.cell? ⟨We,2,none⟩=some (.slice Ze Za.length Zd):=(Yc Xg.out 2).trans rfl;have hfz23_0:=Yf Xg.out 0;have hfz23_1:=Yf Xg.out 1;have hfz23_2:=Yf Xg.out 2)|((with_reducible refine gate_callee (f:=127) rfl ?_);refine goesL_ (some 9) rfl rfl Try.func127 (by kernel_rfl) rfl #[.agg #[.int .i64 Zc, .bool Zb, .slice Ze Za.length Zd]] rfl (by(try simp only[List.map_toArray,List.map_cons,List.map_nil]);first|done|rfl|(simp only[List.length_drop,List.length_take];rfl)) ?_;(with_reducible refine(netfmt_Check.calls k Zc Zb _ _ Za t491 _ ?side1 ?side2 A4.out).mono ?_);(case side1=>repeat(first|exact(Yt Zl.out HB.out)|(with_reducible refine Kd.C_alloc ?_ _)|(with_reducible refine Kd.C_drewN ?_ _)|(with_reducible refine Kd.C_drew ?_)));(case side2=>exact Zv.out);rintro e w24 ⟨rfl,hb⟩;refine⟨_,rfl,?_⟩;have n0_:=Ya (Yn (g:=We) (o:= .cells #[.int .i64 Zc, .bool Zb, .slice Ze Za.length Zd] 24 (0,0)) (by(with_reducible repeat(first|refine Yl ?_ _|refine Ym ?_|refine Yj ?_ _));exact Xg.out) hb);have n1_:=Ya (Yk (by repeat(first|(with_reducible first|exact HB.out|apply Ye|apply Yd|apply Yg|refine Yh ?_ GE490.out)|exact HB.out)) hb);clear Xg;clear HB;have Xg:=n0_;have HB:=n1_;clear n0_ n1_;(try clear hb);(try clear hb2);(try clear hk);(try clear hi);have hcz25_0:w24.cell? ⟨We,0,none⟩=some (.int .i64 Zc):=(Yc Xg.out 0).trans rfl;have hcz25_1:w24.cell? ⟨We,1,none⟩=some (.bool Zb):=(Yc Xg.out 1).trans rfl;have hcz25_2:w24.cell? ⟨We,2,none⟩=some (.slice Ze Za.length Zd):=(Yc Xg.out 2).trans rfl;have hfz25_0:=Yf Xg.out 0;have hfz25_1:=Yf Xg.out 1;have hfz25_2:=Yf Xg.out 2));go_ret;exact⟨by first|rfl|(simp[errW_none,errW_some]<;>rfl)|(simp only[← hji6, ← hji11];first|rfl|(simp[errW_none,errW_some]<;>rfl))|(simp[*,errW_none,errW_some]<;>rfl),by repeat(first|(with_reducible first|exact HB.out|apply Ye|apply Yd|apply Yg|refine Yh ?_ GE490.out)|exact HB.out)⟩
 rw[Yx c17] at H;have c17b0:(a1 == a2)=true:=beq_iff_eq.mpr c17;have c17b1:(a1 != a2)=false:=bne_eq_false_iff_eq.mpr c17;clear c17;obtain rfl:=Option.some.inj H;go_enter Try.func111,Try.ntmps111;go_wp2_with (first|((with_reducible refine gate_dst (N:=3) rfl ?_);(try (refine gate_guard (by rfl) ?_;dsimp only));refine Yz ?hg (N:=3) ?hd (cs:= #[.int .i64 Zc, .bool Zb, .slice Ze Za.length Zd]) (t:=24) ?hr ?_;(case hd=>rfl);(case hg=>rfl);(case hr=>first|(go_simp;done)|(go_simp;rfl));intro We hg w18 Zf hb;have n0_:=Ya (Yk (by repeat(first|(with_reducible first|exact HB.out|apply Ye|apply Yd|apply Yg)|exact HB.out)) hb);have n1_:=Ya (Zf);have n2_:=Ya ((by rw[hg];exact(Yi (by repeat(first|(with_reducible first|exact HB.out|apply Ye|apply Yd|apply Yg)|exact HB.out))):w.heap.size≤We));have n3_:=Ya ((by rw[hg];exact(Yi (by repeat(first|(with_reducible first|exact HB.out|apply Ye|apply Yd|apply Yg)|exact HB.out))):w.heap.size≤We));clear HB;have HB:=n0_;have Xg:=n1_;have GW490:=n2_;have GE490:=n3_;clear n0_ n1_ n2_ n3_;clear hb Zf hg;have hcz19_0:w18.cell? ⟨We,0,none⟩=some (.int .i64 Zc):=(Yc Xg.out 0).trans rfl;have hcz19_1:w18.cell? ⟨We,1,none⟩=some (.bool Zb):=(Yc Xg.out 1).trans rfl;have hcz19_2:w18.cell? ⟨We,2,none⟩=some (.slice Ze Za.length Zd):=(Yc Xg.out 2).trans rfl;have hfz19_0:=Yf Xg.out 0;have hfz19_1:=Yf Xg.out 1;have hfz19_2:=Yf Xg.out 2)|((with_reducible refine gate_callee (f:=127) rfl ?_);refine goesL_ (some 9) rfl rfl Try.func127 (by kernel_rfl) rfl #[.agg #[.int .i64 Zc, .bool Zb, .slice Ze Za.length Zd]] rfl (by(try simp only[List.map_toArray,List.map_cons,List.map_nil]);first|done|rfl|(simp only[List.length_drop,List.length_take];rfl)) ?_;(with_reducible refine(netfmt_Check.calls k Zc Zb _ _ Za t491 _ ?side1 ?side2 A4.out).mono ?_);(case side1=>repeat(first|exact(Yt Zl.out HB.out)|(with_reducible refine Kd.C_alloc ?_ _)|(with_reducible refine Kd.C_drewN ?_ _)|(with_reducible refine Kd.C_drew ?_)));(case side2=>exact Zv.out);rintro e w20 ⟨rfl,hb⟩;refine⟨_,rfl,?_⟩;have n0_:=Ya (Yn (g:=We) (o:= .cells #[.int .i64 Zc, .bool Zb, .slice Ze Za.length Zd] 24 (0,0)) (by(with_reducible repeat(first|refine Yl ?_ _|refine Ym ?_|refine Yj ?_ _));exact Xg.out) hb);have n1_:=Ya (Yk (by repeat(first|(with_reducible first|exact HB.out|apply Ye|apply Yd|apply Yg|refine Yh ?_ GE490.out)|exact HB.out)) hb);clear Xg;clear HB;have Xg:=n0_;have HB:=n1_;clear n0_ n1_;(try clear hb);(try clear hb2);(try clear hk);(try clear hi);have hcz21_0:w20.cell? ⟨We,0,none⟩=some (.int .i64 Zc):=(Yc Xg.out 0).trans rfl;have hcz21_1:w20.cell? ⟨We,1,none⟩=some (.bool Zb):=(Yc Xg.out 1).trans rfl;have hcz21_2:w20.cell? ⟨We,2,none⟩=some (.slice Ze Za.length Zd):=(Yc Xg.out 2).trans rfl;have hfz21_0:=Yf Xg.out 0;have hfz21_1:=Yf Xg.out 1;have hfz21_2:=Yf Xg.out 2));go_ret;exact⟨by first|rfl|(simp[errW_none,errW_some]<;>rfl)|(simp only[← hji6, ← hji11];first|rfl|(simp[errW_none,errW_some]<;>rfl))|(simp[*,errW_none,errW_some]<;>rfl),by repeat(first|(with_reducible first|exact HB.out|apply Ye|apply Yd|apply Yg|refine Yh ?_ GE490.out)|exact HB.out)⟩
end P
namespace P
attribute [local go_sem] max2_int min2_int max_two min_two max_three min_three max_four min_four
def static_Flowing_From.f (Zc:Int) (Zb:Bool) (Za:List (S74)) (Xm:List Int) (Zg:Int) (Xd:Bool):Option (Int):=if Xd=true then(if 0≤Zg then(if Zg<(Za.length:Int) then(some ((rd_T74 Za Zg).f1)) else(none)) else(none)) else(if 0≤Zg then(if Zg<(Za.length:Int) then(some ((rd_T74 Za Zg).f0)) else(none)) else(none))
set_option maxHeartbeats 8000000 in
set_option maxRecDepth 100000 in
theorem static_Flowing_From.calls (Zc:Int) (Zb:Bool) (Ze:Option Addr) (Zd:Nat) (Za:List (S74)) (Wp:Option Addr) (Wq:Nat) (Xm:List Int) (Zg:Int) (Xd:Bool) (r:Int) (w:World) (Zr:Kd.C k74 w Ze Za.length Za) (Zs:Za.length≤Zd) (hr0_3:Kd.C (Kd.int .i64) w Wp Xm.length Xm) (hc0_3:Xm.length≤Wq) (h:static_Flowing_From.f Zc Zb Za Xm Zg Xd=some r):
  Calls Try.prog 106 #[.agg #[.int .i64 Zc, .bool Zb, .slice Ze Za.length Zd, .slice Wp Xm.length Wq], .agg #[.int .i64 Zg, .bool Xd]] w fun e w'=>e= .returned (.int .i64 r)∧Below w.heap.size w w':=by
 have hu115:=Try.underlying115;have hu38:=Try.underlying38;have Zl:=Ya Zr;have Zv:=Ya Zs;clear Zr Zs;have HR0_3:=Ya hr0_3;have HC0_3:=Ya hc0_3;clear hr0_3 hc0_3;have HB:=Ya (Yo w.heap.size w);have H:(if Xd=true then(if 0≤Zg then(if Zg<(Za.length:Int) then(some ((rd_T74 Za Zg).f1)) else(none)) else(none)) else(if 0≤Zg then(if Zg<(Za.length:Int) then(some ((rd_T74 Za Zg).f0)) else(none)) else(none)))=some r:=h;clear h;by_cases c3:Xd=true
 ·subst c3
  have H1:(if 0≤Zg then(if Zg<(Za.length:Int) then(some ((rd_T74 Za Zg).f1)) else(none)) else(none))=some r:=by first|(rw[Yx rfl] at H;exact H)|(rw[Yx trivial] at H;exact H)
  clear H;have H:=H1;clear H1;by_cases c4:0≤Zg
  rotate_left
  ·rw[Yy c4] at H
   exact absurd H (by simp)
  rw[Yx c4] at H;have c4b0:decide (0≤Zg)=true:=Yv c4;clear c4;by_cases c5:Zg<(Za.length:Int)
  rotate_left
  ·rw[Yy c5] at H
   exact absurd H (by simp)
  rw[Yx c5] at H;have c5b0:decide (Zg<(Za.length:Int))=true:=Yv c5;clear c5;obtain rfl:=Option.some.inj H;go_enter Try.func106,Try.ntmps106;go_wp2_with (first|((with_reducible refine gate_dst (N:=2) rfl ?_);refine Yz ?hg (N:=2) ?hd (cs:= #[.int .i64 Zc, .bool Zb, .slice Ze Za.length Zd, .slice Wp Xm.length Wq]) (t:=115) ?hr ?_;(case hd=>rfl);(case hg=>rfl);(case hr=>first|(go_simp;done)|(go_simp;rfl));intro Jb hg w6 Zf hb;have n0_:=Ya (Yk (by repeat(first|(with_reducible first|exact HB.out|apply Ye|apply Yd|apply Yg)|exact HB.out)) hb);have n1_:=Ya (Zf);have n2_:=Ya ((by rw[hg];exact(Yi (by repeat(first|(with_reducible first|exact HB.out|apply Ye|apply Yd|apply Yg)|exact HB.out))):w.heap.size≤Jb));have n3_:=Ya ((by rw[hg];exact(Yi (by repeat(first|(with_reducible first|exact HB.out|apply Ye|apply Yd|apply Yg)|exact HB.out))):w.heap.size≤Jb));clear HB;have HB:=n0_;have Vx:=n1_;have GW380:=n2_;have GE380:=n3_;clear n0_ n1_ n2_ n3_;clear hb Zf hg)|((with_reducible refine gate_dst (N:=3) rfl ?_);refine Yz ?hg (N:=3) ?hd (cs:= #[.int .i64 Zg, .bool true]) (t:=38) ?hr ?_;(case hd=>rfl);(case hg=>rfl);(case hr=>first|(go_simp;done)|(go_simp;rfl));intro gb381 hg w7 Zf hb;have n0_:=Ya (Yn (g:=Jb) (o:= .cells #[.int .i64 Zc, .bool Zb, .slice Ze Za.length Zd, .slice Wp Xm.length Wq] 115 (0,0)) (by(with_reducible repeat(first|refine Yl ?_ _|refine Ym ?_|refine Yj ?_ _));exact Vx.out) hb);have n1_:=Ya (Yk (by repeat(first|(with_reducible first|exact HB.out|apply Ye|apply Yd|apply Yg|refine Yh ?_ GE380.out)|exact HB.out)) hb);have n2_:=Ya (Zf);have n3_:=Ya ((by rw[hg];exact(Yi (by repeat(first|(with_reducible first|exact HB.out|apply Ye|apply Yd|apply Yg|refine Yh ?_ GE380.out)|exact HB.out))):w.heap.size≤gb381));have n4_:=Ya ((by rw[hg];exact(Yi (by repeat(first|(with_reducible first|exact HB.out|apply Ye|apply Yd|apply Yg|refine Yh ?_ GE380.out)|exact HB.out))):w.heap.size≤gb381));have n5_:=Ya ((by rw[hg];exact Nat.ne_of_lt (blk_lt (g:=Jb) (o:= .cells #[.int .i64 Zc, .bool Zb, .slice Ze Za.length Zd, .slice Wp Xm.length Wq] 115 (0,0)) (by(with_reducible repeat(first|refine Yl ?_ _|refine Ym ?_|refine Yj ?_ _));exact Vx.out)):Jb≠gb381));have n6_:=Ya ((by rw[hg];exact Nat.ne_of_gt (blk_lt (g:=Jb) (o:= .cells #[.int .i64 Zc, .bool Zb, .slice Ze Za.length Zd, .slice Wp Xm.length Wq] 115 (0,0)) (by(with_reducible repeat(first|refine Yl ?_ _|refine Ym ?_|refine Yj ?_ _));exact Vx.out)):gb381≠Jb));clear Vx;clear HB;have Vx:=n0_;have HB:=n1_;have BK381:=n2_;have GW381:=n3_;have GE381:=n4_;have NB380_381:=n5_;have NB381_380:=n6_;clear n0_ n1_ n2_ n3_ n4_ n5_ n6_;clear hb Zf hg;have hnb8:=NB381_380.out;have hnc8:=NB380_381.out;have hcz9_0:w7.cell? ⟨gb381,0,none⟩=some (.int .i64 Zg):=(Yc BK381.out 0).trans rfl;have hcz9_1:w7.cell? ⟨gb381,1,none⟩=some (.bool true):=(Yc BK381.out 1).trans rfl;have hfz9_0:=Yf BK381.out 0;have hfz9_1:=Yf BK381.out 1;have Vs:w7.cell? ⟨Jb,0,none⟩=some (.int .i64 Zc):=(Yc Vx.out 0).trans rfl;have Vt:w7.cell? ⟨Jb,1,none⟩=some (.bool Zb):=(Yc Vx.out 1).trans rfl;have Jq:w7.cell? ⟨Jb,2,none⟩=some (.slice Ze Za.length Zd):=(Yc Vx.out 2).trans rfl;have hcz10_3:w7.cell? ⟨Jb,3,none⟩=some (.slice Wp Xm.length Wq):=(Yc Vx.out 3).trans rfl;have Vu:=Yf Vx.out 0;have Vv:=Yf Vx.out 1;have Jr:=Yf Vx.out 2;have hfz10_3:=Yf Vx.out 3;have p382:0≤(Zg:Int):=Yu (by first|(with_reducible assumption)|assumption);have q382:Zg<(Za.length:Int):=Yu (by first|(with_reducible assumption)|assumption);obtain⟨ad382,e382,hx382_0,hx382_1,hx382_2,hx382_3⟩:=at_T74 Zl.out Zg p382 q382;cases e382;replace hx382_0:=(HB.out.cell (Yb w _ hx382_0)).trans hx382_0;replace hx382_1:=(HB.out.cell (Yb w _ hx382_1)).trans hx382_1;replace hx382_2:=(HB.out.cell (Yb w _ hx382_2)).trans hx382_2;replace hx382_3:=(HB.out.cell (Yb w _ hx382_3)).trans hx382_3;replace p382:=eq_true p382;replace q382:=eq_true q382));go_ret;exact⟨by first|rfl|(simp[errW_none,errW_some]<;>rfl)|(simp[*,errW_none,errW_some]<;>rfl),by repeat(first|(with_reducible first|exact HB.out|apply Ye|apply Yd|apply Yg|refine Yh ?_ GE380.out|refine Yh ?_ GE381.out)|exact HB.out)⟩
 replace c3:=Bool.eq_false_iff.mpr c3;subst c3;have H1:(if 0≤Zg then(if Zg<(Za.length:Int) then(some ((rd_T74 Za Zg).f0)) else(none)) else(none))=some r:=by rw[Yy (show ¬ (false=true) by decide)] at H;exact H
 clear H;have H:=H1;clear H1;by_cases c11:0≤Zg
 rotate_left
 ·rw[Yy c11] at H
  exact absurd H (by simp)
 rw[Yx c11] at H;have c11b0:decide (0≤Zg)=true:=Yv c11;clear c11;by_cases c12:Zg<(Za.length:Int)
 rotate_left
 ·rw[Yy c12] at H
  exact absurd H (by simp)
 rw[Yx c12] at H;have c12b0:decide (Zg<(Za.length:Int))=true:=Yv c12;clear c12;obtain rfl:=Option.some.inj H;go_enter Try.func106,Try.ntmps106;go_wp2_with (first|((with_reducible refine gate_dst (N:=2) rfl ?_);refine Yz ?hg (N:=2) ?hd (cs:= #[.int .i64 Zc, .bool Zb, .slice Ze Za.length Zd, .slice Wp Xm.length Wq]) (t:=115) ?hr ?_;(case hd=>rfl);(case hg=>rfl);(case hr=>first|(go_simp;done)|(go_simp;rfl));intro Jb hg w13 Zf hb;have n0_:=Ya (Yk (by repeat(first|(with_reducible first|exact HB.out|apply Ye|apply Yd|apply Yg)|exact HB.out)) hb);have n1_:=Ya (Zf);have n2_:=Ya ((by rw[hg];exact(Yi (by repeat(first|(with_reducible first|exact HB.out|apply Ye|apply Yd|apply Yg)|exact HB.out))):w.heap.size≤Jb));have n3_:=Ya ((by rw[hg];exact(Yi (by repeat(first|(with_reducible first|exact HB.out|apply Ye|apply Yd|apply Yg)|exact HB.out))):w.heap.size≤Jb));clear HB;have HB:=n0_;have Vx:=n1_;have GW380:=n2_;have GE380:=n3_;clear n0_ n1_ n2_ n3_;clear hb Zf hg)|((with_reducible refine gate_dst (N:=3) rfl ?_);refine Yz ?hg (N:=3) ?hd (cs:= #[.int .i64 Zg, .bool false]) (t:=38) ?hr ?_;(case hd=>rfl);(case hg=>rfl);(case hr=>first|(go_simp;done)|(go_simp;rfl));intro gb381 hg w14 Zf hb;have n0_:=Ya (Yn (g:=Jb) (o:= .cells #[.int .i64 Zc, .bool Zb, .slice Ze Za.length Zd, .slice Wp Xm.length Wq] 115 (0,0)) (by(with_reducible repeat(first|refine Yl ?_ _|refine Ym ?_|refine Yj ?_ _));exact Vx.out) hb);have n1_:=Ya (Yk (by repeat(first|(with_reducible first|exact HB.out|apply Ye|apply Yd|apply Yg|refine Yh ?_ GE380.out)|exact HB.out)) hb);have n2_:=Ya (Zf);have n3_:=Ya ((by rw[hg];exact(Yi (by repeat(first|(with_reducible first|exact HB.out|apply Ye|apply Yd|apply Yg|refine Yh ?_ GE380.out)|exact HB.out))):w.heap.size≤gb381));have n4_:=Ya ((by rw[hg];exact(Yi (by repeat(first|(with_reducible first|exact HB.out|apply Ye|apply Yd|apply Yg|refine Yh ?_ GE380.out)|exact HB.out))):w.heap.size≤gb381));have n5_:=Ya ((by rw[hg];exact Nat.ne_of_lt (blk_lt (g:=Jb) (o:= .cells #[.int .i64 Zc, .bool Zb, .slice Ze Za.length Zd, .slice Wp Xm.length Wq] 115 (0,0)) (by(with_reducible repeat(first|refine Yl ?_ _|refine Ym ?_|refine Yj ?_ _));exact Vx.out)):Jb≠gb381));have n6_:=Ya ((by rw[hg];exact Nat.ne_of_gt (blk_lt (g:=Jb) (o:= .cells #[.int .i64 Zc, .bool Zb, .slice Ze Za.length Zd, .slice Wp Xm.length Wq] 115 (0,0)) (by(with_reducible repeat(first|refine Yl ?_ _|refine Ym ?_|refine Yj ?_ _));exact Vx.out)):gb381≠Jb));clear Vx;clear HB;have Vx:=n0_;have HB:=n1_;have BK381:=n2_;have GW381:=n3_;have GE381:=n4_;have NB380_381:=n5_;have NB381_380:=n6_;clear n0_ n1_ n2_ n3_ n4_ n5_ n6_;clear hb Zf hg;have hnb15:=NB381_380.out;have hnc15:=NB380_381.out;have hcz16_0:w14.cell? ⟨gb381,0,none⟩=some (.int .i64 Zg):=(Yc BK381.out 0).trans rfl;have hcz16_1:w14.cell? ⟨gb381,1,none⟩=some (.bool false):=(Yc BK381.out 1).trans rfl;have hfz16_0:=Yf BK381.out 0;have hfz16_1:=Yf BK381.out 1;have Uk:w14.cell? ⟨Jb,0,none⟩=some (.int .i64 Zc):=(Yc Vx.out 0).trans rfl;have Ul:w14.cell? ⟨Jb,1,none⟩=some (.bool Zb):=(Yc Vx.out 1).trans rfl;have hcz17_2:w14.cell? ⟨Jb,2,none⟩=some (.slice Ze Za.length Zd):=(Yc Vx.out 2).trans rfl;have hcz17_3:w14.cell? ⟨Jb,3,none⟩=some (.slice Wp Xm.length Wq):=(Yc Vx.out 3).trans rfl;have Um:=Yf Vx.out 0;have Un:=Yf Vx.out 1;have hfz17_2:=Yf Vx.out 2;have hfz17_3:=Yf Vx.out 3;have p383:0≤(Zg:Int):=Yu (by first|(with_reducible assumption)|assumption);have q383:Zg<(Za.length:Int):=Yu (by first|(with_reducible assumption)|assumption);obtain⟨ad383,e383,hx383_0,hx383_1,hx383_2,hx383_3⟩:=at_T74 Zl.out Zg p383 q383;cases e383;replace hx383_0:=(HB.out.cell (Yb w _ hx383_0)).trans hx383_0;replace hx383_1:=(HB.out.cell (Yb w _ hx383_1)).trans hx383_1;replace hx383_2:=(HB.out.cell (Yb w _ hx383_2)).trans hx383_2;replace hx383_3:=(HB.out.cell (Yb w _ hx383_3)).trans hx383_3;replace p383:=eq_true p383;replace q383:=eq_true q383));go_ret;exact⟨by first|rfl|(simp[errW_none,errW_some]<;>rfl)|(simp[*,errW_none,errW_some]<;>rfl),by repeat(first|(with_reducible first|exact HB.out|apply Ye|apply Yd|apply Yg|refine Yh ?_ GE380.out|refine Yh ?_ GE381.out)|exact HB.out)⟩
end P
namespace P
attribute [local go_sem] max2_int min2_int max_two min_two max_three min_three max_four min_four
def static_Flowing_To.f (Zc:Int) (Zb:Bool) (Za:List (S74)) (Xm:List Int) (Zg:Int) (Xd:Bool):Option (Int):=(static_Flowing_From.f Zc Zb Za Xm Zg (!Xd)).bind fun t386=>(some t386)
set_option maxHeartbeats 8000000 in
set_option maxRecDepth 100000 in
theorem static_Flowing_To.calls (Zc:Int) (Zb:Bool) (Ze:Option Addr) (Zd:Nat) (Za:List (S74)) (Wp:Option Addr) (Wq:Nat) (Xm:List Int) (Zg:Int) (Xd:Bool) (r:Int) (w:World) (Zr:Kd.C k74 w Ze Za.length Za) (Zs:Za.length≤Zd) (hr0_3:Kd.C (Kd.int .i64) w Wp Xm.length Xm) (hc0_3:Xm.length≤Wq) (h:static_Flowing_To.f Zc Zb Za Xm Zg Xd=some r):
  Calls Try.prog 105 #[.agg #[.int .i64 Zc, .bool Zb, .slice Ze Za.length Zd, .slice Wp Xm.length Wq], .agg #[.int .i64 Zg, .bool Xd]] w fun e w'=>e= .returned (.int .i64 r)∧Below w.heap.size w w':=by
 have hu115:=Try.underlying115;have hu38:=Try.underlying38;have Zl:=Ya Zr;have Zv:=Ya Zs;clear Zr Zs;have HR0_3:=Ya hr0_3;have HC0_3:=Ya hc0_3;clear hr0_3 hc0_3;have HB:=Ya (Yo w.heap.size w);have H:((static_Flowing_From.f Zc Zb Za Xm Zg (!Xd)).bind fun t386=>(some t386))=some r:=h;clear h;replace H:=Option.bind_eq_some_iff.mp H;obtain⟨t386,A30,H⟩:=H;replace H:(some t386)=some r:=H;have A3:=Ya A30;clear A30;obtain rfl:=Option.some.inj H;go_enter Try.func105,Try.ntmps105;go_wp2_with (first|((with_reducible refine gate_dst (N:=2) rfl ?_);refine Yz ?hg (N:=2) ?hd (cs:= #[.int .i64 Zc, .bool Zb, .slice Ze Za.length Zd, .slice Wp Xm.length Wq]) (t:=115) ?hr ?_;(case hd=>rfl);(case hg=>rfl);(case hr=>first|(go_simp;done)|(go_simp;rfl));intro gb384 hg w4 Zf hb;have n0_:=Ya (Yk (by repeat(first|(with_reducible first|exact HB.out|apply Ye|apply Yd|apply Yg)|exact HB.out)) hb);have n1_:=Ya (Zf);have n2_:=Ya ((by rw[hg];exact(Yi (by repeat(first|(with_reducible first|exact HB.out|apply Ye|apply Yd|apply Yg)|exact HB.out))):w.heap.size≤gb384));have n3_:=Ya ((by rw[hg];exact(Yi (by repeat(first|(with_reducible first|exact HB.out|apply Ye|apply Yd|apply Yg)|exact HB.out))):w.heap.size≤gb384));clear HB;have HB:=n0_;have BK384:=n1_;have GW384:=n2_;have GE384:=n3_;clear n0_ n1_ n2_ n3_;clear hb Zf hg)|((with_reducible refine gate_dst (N:=3) rfl ?_);refine Yz ?hg (N:=3) ?hd (cs:= #[.int .i64 Zg, .bool Xd]) (t:=38) ?hr ?_;(case hd=>rfl);(case hg=>rfl);(case hr=>first|(go_simp;done)|(go_simp;rfl));intro gb385 hg w5 Zf hb;have n0_:=Ya (Yn (g:=gb384) (o:= .cells #[.int .i64 Zc, .bool Zb, .slice Ze Za.length Zd, .slice Wp Xm.length Wq] 115 (0,0)) (by(with_reducible repeat(first|refine Yl ?_ _|refine Ym ?_|refine Yj ?_ _));exact BK384.out) hb);have n1_:=Ya (Yk (by repeat(first|(with_reducible first|exact HB.out|apply Ye|apply Yd|apply Yg|refine Yh ?_ GE384.out)|exact HB.out)) hb);have n2_:=Ya (Zf);have n3_:=Ya ((by rw[hg];exact(Yi (by repeat(first|(with_reducible first|exact HB.out|apply Ye|apply Yd|apply Yg|refine Yh ?_ GE384.out)|exact HB.out))):w.heap.size≤gb385));have n4_:=Ya ((by rw[hg];exact(Yi (by repeat(first|(with_reducible first|exact HB.out|apply Ye|apply Yd|apply Yg|refine Yh ?_ GE384.out)|exact HB.out))):w.heap.size≤gb385));have n5_:=Ya ((by rw[hg];exact Nat.ne_of_lt (blk_lt (g:=gb384) (o:= .cells #[.int .i64 Zc, .bool Zb, .slice Ze Za.length Zd, .slice Wp Xm.length Wq] 115 (0,0)) (by(with_reducible repeat(first|refine Yl ?_ _|refine Ym ?_|refine Yj ?_ _));exact BK384.out)):gb384≠gb385));have n6_:=Ya ((by rw[hg];exact Nat.ne_of_gt (blk_lt (g:=gb384) (o:= .cells #[.int .i64 Zc, .bool Zb, .slice Ze Za.length Zd, .slice Wp Xm.length Wq] 115 (0,0)) (by(with_reducible repeat(first|refine Yl ?_ _|refine Ym ?_|refine Yj ?_ _));exact BK384.out)):gb385≠gb384));clear BK384;clear HB;have BK384:=n0_;have HB:=n1_;have BK385:=n2_;have GW385:=n3_;have GE385:=n4_;have NB384_385:=n5_;have NB385_384:=n6_;clear n0_ n1_ n2_ n3_ n4_ n5_ n6_;clear hb Zf hg;have hnb6:=NB385_384.out;have hnc6:=NB384_385.out;have hcz7_0:w5.cell? ⟨gb385,0,none⟩=some (.int .i64 Zg):=(Yc BK385.out 0).trans rfl;have hcz7_1:w5.cell? ⟨gb385,1,none⟩=some (.bool Xd):=(Yc BK385.out 1).trans rfl;have hfz7_0:=Yf BK385.out 0;have hfz7_1:=Yf BK385.out 1;have hcz8_0:w5.cell? ⟨gb384,0,none⟩=some (.int .i64 Zc):=(Yc BK384.out 0).trans rfl;have hcz8_1:w5.cell? ⟨gb384,1,none⟩=some (.bool Zb):=(Yc BK384.out 1).trans rfl;have hcz8_2:w5.cell? ⟨gb384,2,none⟩=some (.slice Ze Za.length Zd):=(Yc BK384.out 2).trans rfl;have hcz8_3:w5.cell? ⟨gb384,3,none⟩=some (.slice Wp Xm.length Wq):=(Yc BK384.out 3).trans rfl;have hfz8_0:=Yf BK384.out 0;have hfz8_1:=Yf BK384.out 1;have hfz8_2:=Yf BK384.out 2;have hfz8_3:=Yf BK384.out 3)|((with_reducible refine gate_callee (f:=106) rfl ?_);refine goesL_ (some 11) rfl rfl Try.func106 (by kernel_rfl) rfl #[.agg #[.int .i64 Zc, .bool Zb, .slice Ze Za.length Zd, .slice Wp Xm.length Wq], .agg #[.int .i64 Zg, .bool (!Xd)]] rfl (by(try simp only[List.map_toArray,List.map_cons,List.map_nil]);first|done|rfl|(simp only[List.length_drop,List.length_take];rfl)) ?_;(with_reducible refine(static_Flowing_From.calls Zc Zb _ _ Za _ _ Xm Zg (!Xd) t386 _ ?side1 ?side2 ?side3 ?side4 A3.out).mono ?_);(case side1=>exact Yt Zl.out (by repeat(first|(with_reducible first|exact HB.out|apply Ye|apply Yd|apply Yg|refine Yh ?_ GE384.out|refine Yh ?_ GE385.out)|exact HB.out)));(case side2=>exact Zv.out);(case side3=>exact Yt HR0_3.out (by repeat(first|(with_reducible first|exact HB.out|apply Ye|apply Yd|apply Yg|refine Yh ?_ GE384.out|refine Yh ?_ GE385.out)|exact HB.out)));(case side4=>exact HC0_3.out);rintro e w9 ⟨rfl,hb⟩;refine⟨_,rfl,?_⟩;have n0_:=Ya (Yn (g:=gb384) (o:= .cells #[.int .i64 Zc, .bool Zb, .slice Ze Za.length Zd, .slice Wp Xm.length Wq] 115 (0,0)) (by(with_reducible repeat(first|refine Yl ?_ _|refine Ym ?_|refine Yj ?_ _));refine blk_far ?_ NB384_385.out _;(with_reducible repeat(first|refine Yl ?_ _|refine Ym ?_|refine Yj ?_ _));exact BK384.out) hb);have n1_:=Ya (Yn (g:=gb385) (o:= .cells #[.int .i64 Zg, .bool (!Xd)] 38 (0,0)) (by(with_reducible repeat(first|refine Yl ?_ _|refine Ym ?_|refine Yj ?_ _));refine YA (cs:= #[.int .i64 Zg, .bool Xd]) ?_ 1 _ rfl;(with_reducible repeat(first|refine Yl ?_ _|refine Ym ?_|refine Yj ?_ _));exact BK385.out) hb);have n2_:=Ya (Yk (by repeat(first|(with_reducible first|exact HB.out|apply Ye|apply Yd|apply Yg|refine Yh ?_ GE384.out|refine Yh ?_ GE385.out)|exact HB.out)) hb);clear BK384;clear BK385;clear HB;have BK384:=n0_;have BK385:=n1_;have HB:=n2_;clear n0_ n1_ n2_;(try clear hb);(try clear hb2);(try clear hk);(try clear hi)));go_ret;exact⟨by first|rfl|(simp[errW_none,errW_some]<;>rfl)|(simp[*,errW_none,errW_some]<;>rfl),by repeat(first|(with_reducible first|exact HB.out|apply Ye|apply Yd|apply Yg|refine Yh ?_ GE384.out|refine Yh ?_ GE385.out)|exact HB.out)⟩
end P
namespace P
attribute [local go_sem] max2_int min2_int max_two min_two max_three min_three max_four min_four
def static_Flowing_Room.f (Zc:Int) (Zb:Bool) (Za:List (S74)) (Xm:List Int) (Zg:Int) (Xd:Bool):Option (Int):=if Xd=true then(if 0≤Zg then(if Zg<(Xm.length:Int) then(some (rd Xm Zg)) else(none)) else(none)) else(if 0≤Zg then(if Zg<(Za.length:Int) then(if Zg<(Xm.length:Int) then(some (wrap64 (((rd_T74 Za Zg).f2) - (rd Xm Zg)))) else(none)) else(none)) else(none))
set_option maxHeartbeats 8000000 in
set_option maxRecDepth 100000 in
theorem static_Flowing_Room.calls (Zc:Int) (Zb:Bool) (Ze:Option Addr) (Zd:Nat) (Za:List (S74)) (Wp:Option Addr) (Wq:Nat) (Xm:List Int) (Zg:Int) (Xd:Bool) (r:Int) (w:World) (Zr:Kd.C k74 w Ze Za.length Za) (Zs:Za.length≤Zd) (hr0_3:Kd.C (Kd.int .i64) w Wp Xm.length Xm) (hc0_3:Xm.length≤Wq) (h:static_Flowing_Room.f Zc Zb Za Xm Zg Xd=some r):
  Calls Try.prog 104 #[.agg #[.int .i64 Zc, .bool Zb, .slice Ze Za.length Zd, .slice Wp Xm.length Wq], .agg #[.int .i64 Zg, .bool Xd]] w fun e w'=>e= .returned (.int .i64 r)∧Below w.heap.size w w':=by
 have hu115:=Try.underlying115;have hu38:=Try.underlying38;have Zl:=Ya Zr;have Zv:=Ya Zs;clear Zr Zs;have HR0_3:=Ya hr0_3;have HC0_3:=Ya hc0_3;clear hr0_3 hc0_3;have HB:=Ya (Yo w.heap.size w);have H:(if Xd=true then(if 0≤Zg then(if Zg<(Xm.length:Int) then(some (rd Xm Zg)) else(none)) else(none)) else(if 0≤Zg then(if Zg<(Za.length:Int) then(if Zg<(Xm.length:Int) then(some (wrap64 (((rd_T74 Za Zg).f2) - (rd Xm Zg)))) else(none)) else(none)) else(none)))=some r:=h;clear h;by_cases c3:Xd=true
 ·subst c3
  have H1:(if 0≤Zg then(if Zg<(Xm.length:Int) then(some (rd Xm Zg)) else(none)) else(none))=some r:=by first|(rw[Yx rfl] at H;exact H)|(rw[Yx trivial] at H;exact H)
  clear H;have H:=H1;clear H1;by_cases c4:0≤Zg
  rotate_left
  ·rw[Yy c4] at H
   exact absurd H (by simp)
  rw[Yx c4] at H;have c4b0:decide (0≤Zg)=true:=Yv c4;clear c4;by_cases c5:Zg<(Xm.length:Int)
  rotate_left
  ·rw[Yy c5] at H
   exact absurd H (by simp)
  rw[Yx c5] at H;have c5b0:decide (Zg<(Xm.length:Int))=true:=Yv c5;clear c5;obtain rfl:=Option.some.inj H;go_enter Try.func104,Try.ntmps104;go_wp2_with (first|((with_reducible refine gate_dst (N:=2) rfl ?_);refine Yz ?hg (N:=2) ?hd (cs:= #[.int .i64 Zc, .bool Zb, .slice Ze Za.length Zd, .slice Wp Xm.length Wq]) (t:=115) ?hr ?_;(case hd=>rfl);(case hg=>rfl);(case hr=>first|(go_simp;done)|(go_simp;rfl));intro Xe hg w6 Zf hb;have n0_:=Ya (Yk (by repeat(first|(with_reducible first|exact HB.out|apply Ye|apply Yd|apply Yg)|exact HB.out)) hb);have n1_:=Ya (Zf);have n2_:=Ya ((by rw[hg];exact(Yi (by repeat(first|(with_reducible first|exact HB.out|apply Ye|apply Yd|apply Yg)|exact HB.out))):w.heap.size≤Xe));have n3_:=Ya ((by rw[hg];exact(Yi (by repeat(first|(with_reducible first|exact HB.out|apply Ye|apply Yd|apply Yg)|exact HB.out))):w.heap.size≤Xe));clear HB;have HB:=n0_;have Zz:=n1_;have GW375:=n2_;have Ut:=n3_;clear n0_ n1_ n2_ n3_;clear hb Zf hg)|((with_reducible refine gate_dst (N:=3) rfl ?_);refine Yz ?hg (N:=3) ?hd (cs:= #[.int .i64 Zg, .bool true]) (t:=38) ?hr ?_;(case hd=>rfl);(case hg=>rfl);(case hr=>first|(go_simp;done)|(go_simp;rfl));intro Wg hg w7 Zf hb;have n0_:=Ya (Yn (g:=Xe) (o:= .cells #[.int .i64 Zc, .bool Zb, .slice Ze Za.length Zd, .slice Wp Xm.length Wq] 115 (0,0)) (by(with_reducible repeat(first|refine Yl ?_ _|refine Ym ?_|refine Yj ?_ _));exact Zz.out) hb);have n1_:=Ya (Yk (by repeat(first|(with_reducible first|exact HB.out|apply Ye|apply Yd|apply Yg|refine Yh ?_ Ut.out)|exact HB.out)) hb);have n2_:=Ya (Zf);have n3_:=Ya ((by rw[hg];exact(Yi (by repeat(first|(with_reducible first|exact HB.out|apply Ye|apply Yd|apply Yg|refine Yh ?_ Ut.out)|exact HB.out))):w.heap.size≤Wg));have n4_:=Ya ((by rw[hg];exact(Yi (by repeat(first|(with_reducible first|exact HB.out|apply Ye|apply Yd|apply Yg|refine Yh ?_ Ut.out)|exact HB.out))):w.heap.size≤Wg));have n5_:=Ya ((by rw[hg];exact Nat.ne_of_lt (blk_lt (g:=Xe) (o:= .cells #[.int .i64 Zc, .bool Zb, .slice Ze Za.length Zd, .slice Wp Xm.length Wq] 115 (0,0)) (by(with_reducible repeat(first|refine Yl ?_ _|refine Ym ?_|refine Yj ?_ _));exact Zz.out)):Xe≠Wg));have n6_:=Ya ((by rw[hg];exact Nat.ne_of_gt (blk_lt (g:=Xe) (o:= .cells #[.int .i64 Zc, .bool Zb, .slice Ze Za.length Zd, .slice Wp Xm.length Wq] 115 (0,0)) (by(with_reducible repeat(first|refine Yl ?_ _|refine Ym ?_|refine Yj ?_ _));exact Zz.out)):Wg≠Xe));clear Zz;clear HB;have Zz:=n0_;have HB:=n1_;have Vj:=n2_;have GW376:=n3_;have GE376:=n4_;have Vy:=n5_;have Vz:=n6_;clear n0_ n1_ n2_ n3_ n4_ n5_ n6_;clear hb Zf hg;have hnb8:=Vz.out;have hnc8:=Vy.out;have hcz9_0:w7.cell? ⟨Wg,0,none⟩=some (.int .i64 Zg):=(Yc Vj.out 0).trans rfl;have hcz9_1:w7.cell? ⟨Wg,1,none⟩=some (.bool true):=(Yc Vj.out 1).trans rfl;have hfz9_0:=Yf Vj.out 0;have hfz9_1:=Yf Vj.out 1;have Vs:w7.cell? ⟨Xe,0,none⟩=some (.int .i64 Zc):=(Yc Zz.out 0).trans rfl;have Vt:w7.cell? ⟨Xe,1,none⟩=some (.bool Zb):=(Yc Zz.out 1).trans rfl;have Jq:w7.cell? ⟨Xe,2,none⟩=some (.slice Ze Za.length Zd):=(Yc Zz.out 2).trans rfl;have hcz10_3:w7.cell? ⟨Xe,3,none⟩=some (.slice Wp Xm.length Wq):=(Yc Zz.out 3).trans rfl;have Vu:=Yf Zz.out 0;have Vv:=Yf Zz.out 1;have Jr:=Yf Zz.out 2;have hfz10_3:=Yf Zz.out 3;have p377:0≤(Zg:Int):=Yu (by first|(with_reducible assumption)|assumption);have q377:Zg<(Xm.length:Int):=Yu (by first|(with_reducible assumption)|assumption);obtain⟨ad377,e377,hx377_0⟩:=Kd.at_int HR0_3.out Zg p377 q377;cases e377;replace hx377_0:=(HB.out.cell (Yb w _ hx377_0)).trans hx377_0;replace p377:=eq_true p377;replace q377:=eq_true q377));repeat(go_quiet (first|((with_reducible refine gate_dst (N:=2) rfl ?_);refine Yz ?hg (N:=2) ?hd (cs:= #[.int .i64 Zc, .bool Zb, .slice Ze Za.length Zd, .slice Wp Xm.length Wq]) (t:=115) ?hr ?_;(case hd=>rfl);(case hg=>rfl);(case hr=>first|(go_simp;done)|(go_simp;rfl));intro Xe hg w6 Zf hb;have n0_:=Ya (Yk (by repeat(first|(with_reducible first|exact HB.out|apply Ye|apply Yd|apply Yg)|exact HB.out)) hb);have n1_:=Ya (Zf);have n2_:=Ya ((by rw[hg];exact(Yi (by repeat(first|(with_reducible first|exact HB.out|apply Ye|apply Yd|apply Yg)|exact HB.out))):w.heap.size≤Xe));have n3_:=Ya ((by rw[hg];exact(Yi (by repeat(first|(with_reducible first|exact HB.out|apply Ye|apply Yd|apply Yg)|exact HB.out))):w.heap.size≤Xe));clear HB;have HB:=n0_;have Zz:=n1_;have GW375:=n2_;have Ut:=n3_;clear n0_ n1_ n2_ n3_;clear hb Zf hg)|((with_reducible refine gate_dst (N:=3) rfl ?_);refine Yz ?hg (N:=3) ?hd (cs:= #[.int .i64 Zg, .bool true]) (t:=38) ?hr ?_;(case hd=>rfl);(case hg=>rfl);(case hr=>first|(go_simp;done)|(go_simp;rfl));intro Wg hg w7 Zf hb;have n0_:=Ya (Yn (g:=Xe) (o:= .cells #[.int .i64 Zc, .bool Zb, .slice Ze Za.length Zd, .slice Wp Xm.length Wq] 115 (0,0)) (by(with_reducible repeat(first|refine Yl ?_ _|refine Ym ?_|refine Yj ?_ _));exact Zz.out) hb);have n1_:=Ya (Yk (by repeat(first|(with_reducible first|exact HB.out|apply Ye|apply Yd|apply Yg|refine Yh ?_ Ut.out)|exact HB.out)) hb);have n2_:=Ya (Zf);have n3_:=Ya ((by rw[hg];exact(Yi (by repeat(first|(with_reducible first|exact HB.out|apply Ye|apply Yd|apply Yg|refine Yh ?_ Ut.out)|exact HB.out))):w.heap.size≤Wg));have n4_:=Ya ((by rw[hg];exact(Yi (by repeat(first|(with_reducible first|exact HB.out|apply Ye|apply Yd|apply Yg|refine Yh ?_ Ut.out)|exact HB.out))):w.heap.size≤Wg));have n5_:=Ya ((by rw[hg];exact Nat.ne_of_lt (blk_lt (g:=Xe) (o:= .cells #[.int .i64 Zc, .bool Zb, .slice Ze Za.length Zd, .slice Wp Xm.length Wq] 115 (0,0)) (by(with_reducible repeat(first|refine Yl ?_ _|refine Ym ?_|refine Yj ?_ _));exact Zz.out)):Xe≠Wg));have n6_:=Ya ((by rw[hg];exact Nat.ne_of_gt (blk_lt (g:=Xe) (o:= .cells #[.int .i64 Zc, .bool Zb, .slice Ze Za.length Zd, .slice Wp Xm.length Wq] 115 (0,0)) (by(with_reducible repeat(first|refine Yl ?_ _|refine Ym ?_|refine Yj ?_ _));exact Zz.out)):Wg≠Xe));clear Zz;clear HB;have Zz:=n0_;have HB:=n1_;have Vj:=n2_;have GW376:=n3_;have GE376:=n4_;have Vy:=n5_;have Vz:=n6_;clear n0_ n1_ n2_ n3_ n4_ n5_ n6_;clear hb Zf hg;have hnb8:=Vz.out;have hnc8:=Vy.out;have hcz9_0:w7.cell? ⟨Wg,0,none⟩=some (.int .i64 Zg):=(Yc Vj.out 0).trans rfl;have hcz9_1:w7.cell? ⟨Wg,1,none⟩=some (.bool true):=(Yc Vj.out 1).trans rfl;have hfz9_0:=Yf Vj.out 0;have hfz9_1:=Yf Vj.out 1;have Vs:w7.cell? ⟨Xe,0,none⟩=some (.int .i64 Zc):=(Yc Zz.out 0).trans rfl;have Vt:w7.cell? ⟨Xe,1,none⟩=some (.bool Zb):=(Yc Zz.out 1).trans rfl;have Jq:w7.cell? ⟨Xe,2,none⟩=some (.slice Ze Za.length Zd):=(Yc Zz.out 2).trans rfl;have hcz10_3:w7.cell? ⟨Xe,3,none⟩=some (.slice Wp Xm.length Wq):=(Yc Zz.out 3).trans rfl;have Vu:=Yf Zz.out 0;have Vv:=Yf Zz.out 1;have Jr:=Yf Zz.out 2;have hfz10_3:=Yf Zz.out 3;have p377:0≤(Zg:Int):=Yu (by first|(with_reducible assumption)|assumption);have q377:Zg<(Xm.length:Int):=Yu (by first|(with_reducible assumption)|assumption);obtain⟨ad377,e377,hx377_0⟩:=Kd.at_int HR0_3.out Zg p377 q377;cases e377;replace hx377_0:=(HB.out.cell (Yb w _ hx377_0)).trans hx377_0;replace p377:=eq_true p377;replace q377:=eq_true q377));try go_wp2_with (first|((with_reducible refine gate_dst (N:=2) rfl ?_);refine Yz ?hg (N:=2) ?hd (cs:= #[.int .i64 Zc, .bool Zb, .slice Ze Za.length Zd, .slice Wp Xm.length Wq]) (t:=115) ?hr ?_;(case hd=>rfl);(case hg=>rfl);(case hr=>first|(go_simp;done)|(go_simp;rfl));intro Xe hg w6 Zf hb;have n0_:=Ya (Yk (by repeat(first|(with_reducible first|exact HB.out|apply Ye|apply Yd|apply Yg)|exact HB.out)) hb);have n1_:=Ya (Zf);have n2_:=Ya ((by rw[hg];exact(Yi (by repeat(first|(with_reducible first|exact HB.out|apply Ye|apply Yd|apply Yg)|exact HB.out))):w.heap.size≤Xe));have n3_:=Ya ((by rw[hg];exact(Yi (by repeat(first|(with_reducible first|exact HB.out|apply Ye|apply Yd|apply Yg)|exact HB.out))):w.heap.size≤Xe));clear HB;have HB:=n0_;have Zz:=n1_;have GW375:=n2_;have Ut:=n3_;clear n0_ n1_ n2_ n3_;clear hb Zf hg)|((with_reducible refine gate_dst (N:=3) rfl ?_);refine Yz ?hg (N:=3) ?hd (cs:= #[.int .i64 Zg, .bool true]) (t:=38) ?hr ?_;(case hd=>rfl);(case hg=>rfl);(case hr=>first|(go_simp;done)|(go_simp;rfl));intro Wg hg w7 Zf hb;have n0_:=Ya (Yn (g:=Xe) (o:= .cells #[.int .i64 Zc, .bool Zb, .slice Ze Za.length Zd, .slice Wp Xm.length Wq] 115 (0,0)) (by(with_reducible repeat(first|refine Yl ?_ _|refine Ym ?_|refine Yj ?_ _));exact Zz.out) hb);have n1_:=Ya (Yk (by repeat(first|(with_reducible first|exact HB.out|apply Ye|apply Yd|apply Yg|refine Yh ?_ Ut.out)|exact HB.out)) hb);have n2_:=Ya (Zf);have n3_:=Ya ((by rw[hg];exact(Yi (by repeat(first|(with_reducible first|exact HB.out|apply Ye|apply Yd|apply Yg|refine Yh ?_ Ut.out)|exact HB.out))):w.heap.size≤Wg));have n4_:=Ya ((by rw[hg];exact(Yi (by repeat(first|(with_reducible first|exact HB.out|apply Ye|apply Yd|apply Yg|refine Yh ?_ Ut.out)|exact HB.out))):w.heap.size≤Wg));have n5_:=Ya ((by rw[hg];exact Nat.ne_of_lt (blk_lt (g:=Xe) (o:= .cells #[.int .i64 Zc, .bool Zb, .slice Ze Za.length Zd, .slice Wp Xm.length Wq] 115 (0,0)) (by(with_reducible repeat(first|refine Yl ?_ _|refine Ym ?_|refine Yj ?_ _));exact Zz.out)):Xe≠Wg));have n6_:=Ya ((by rw[hg];exact Nat.ne_of_gt (blk_lt (g:=Xe) (o:= .cells #[.int .i64 Zc, .bool Zb, .slice Ze Za.length Zd, .slice Wp Xm.length Wq] 115 (0,0)) (by(with_reducible repeat(first|refine Yl ?_ _|refine Ym ?_|refine Yj ?_ _));exact Zz.out)):Wg≠Xe));clear Zz;clear HB;have Zz:=n0_;have HB:=n1_;have Vj:=n2_;have GW376:=n3_;have GE376:=n4_;have Vy:=n5_;have Vz:=n6_;clear n0_ n1_ n2_ n3_ n4_ n5_ n6_;clear hb Zf hg;have hnb8:=Vz.out;have hnc8:=Vy.out;have hcz9_0:w7.cell? ⟨Wg,0,none⟩=some (.int .i64 Zg):=(Yc Vj.out 0).trans rfl;have hcz9_1:w7.cell? ⟨Wg,1,none⟩=some (.bool true):=(Yc Vj.out 1).trans rfl;have hfz9_0:=Yf Vj.out 0;have hfz9_1:=Yf Vj.out 1;have Vs:w7.cell? ⟨Xe,0,none⟩=some (.int .i64 Zc):=(Yc Zz.out 0).trans rfl;have Vt:w7.cell? ⟨Xe,1,none⟩=some (.bool Zb):=(Yc Zz.out 1).trans rfl;have Jq:w7.cell? ⟨Xe,2,none⟩=some (.slice Ze Za.length Zd):=(Yc Zz.out 2).trans rfl;have hcz10_3:w7.cell? ⟨Xe,3,none⟩=some (.slice Wp Xm.length Wq):=(Yc Zz.out 3).trans rfl;have Vu:=Yf Zz.out 0;have Vv:=Yf Zz.out 1;have Jr:=Yf Zz.out 2;have hfz10_3:=Yf Zz.out 3;have p377:0≤(Zg:Int):=Yu (by first|(with_reducible assumption)|assumption);have q377:Zg<(Xm.length:Int):=Yu (by first|(with_reducible assumption)|assumption);obtain⟨ad377,e377,hx377_0⟩:=Kd.at_int HR0_3.out Zg p377 q377;cases e377;replace hx377_0:=(HB.out.cell (Yb w _ hx377_0)).trans hx377_0;replace p377:=eq_true p377;replace q377:=eq_true q377)))
  go_ret;exact⟨by first|rfl|(simp[errW_none,errW_some]<;>rfl)|(simp[*,errW_none,errW_some]<;>rfl),by repeat(first|(with_reducible first|exact HB.out|apply Ye|apply Yd|apply Yg|refine Yh ?_ Ut.out|refine Yh ?_ GE376.out)|exact HB.out)⟩
 replace c3:=Bool.eq_false_iff.mpr c3;subst c3;have H1:(if 0≤Zg then(if Zg<(Za.length:Int) then(if Zg<(Xm.length:Int) then(some (wrap64 (((rd_T74 Za Zg).f2) - (rd Xm Zg)))) else(none)) else(none)) else(none))=some r:=by rw[Yy (show ¬ (false=true) by decide)] at H;exact H
 clear H;have H:=H1;clear H1;by_cases c11:0≤Zg
 rotate_left
 ·rw[Yy c11] at H
  exact absurd H (by simp)
 rw[Yx c11] at H;have c11b0:decide (0≤Zg)=true:=Yv c11;clear c11;by_cases c12:Zg<(Za.length:Int)
 rotate_left
 ·rw[Yy c12] at H
  exact absurd H (by simp)
 rw[Yx c12] at H;have c12b0:decide (Zg<(Za.length:Int))=true:=Yv c12;clear c12;by_cases c13:Zg<(Xm.length:Int)
 rotate_left
 ·rw[Yy c13] at H
  exact absurd H (by simp)
 rw[Yx c13] at H;have c13b0:decide (Zg<(Xm.length:Int))=true:=Yv c13;clear c13;obtain rfl:=Option.some.inj H;go_enter Try.func104,Try.ntmps104;go_wp2_with (first|((with_reducible refine gate_dst (N:=2) rfl ?_);refine Yz ?hg (N:=2) ?hd (cs:= #[.int .i64 Zc, .bool Zb, .slice Ze Za.length Zd, .slice Wp Xm.length Wq]) (t:=115) ?hr ?_;(case hd=>rfl);(case hg=>rfl);(case hr=>first|(go_simp;done)|(go_simp;rfl));intro Xe hg w14 Zf hb;have n0_:=Ya (Yk (by repeat(first|(with_reducible first|exact HB.out|apply Ye|apply Yd|apply Yg)|exact HB.out)) hb);have n1_:=Ya (Zf);have n2_:=Ya ((by rw[hg];exact(Yi (by repeat(first|(with_reducible first|exact HB.out|apply Ye|apply Yd|apply Yg)|exact HB.out))):w.heap.size≤Xe));have n3_:=Ya ((by rw[hg];exact(Yi (by repeat(first|(with_reducible first|exact HB.out|apply Ye|apply Yd|apply Yg)|exact HB.out))):w.heap.size≤Xe));clear HB;have HB:=n0_;have Zz:=n1_;have GW375:=n2_;have Ut:=n3_;clear n0_ n1_ n2_ n3_;clear hb Zf hg)|((with_reducible refine gate_dst (N:=3) rfl ?_);refine Yz ?hg (N:=3) ?hd (cs:= #[.int .i64 Zg, .bool false]) (t:=38) ?hr ?_;(case hd=>rfl);(case hg=>rfl);(case hr=>first|(go_simp;done)|(go_simp;rfl));intro Wg hg w15 Zf hb;have n0_:=Ya (Yn (g:=Xe) (o:= .cells #[.int .i64 Zc, .bool Zb, .slice Ze Za.length Zd, .slice Wp Xm.length Wq] 115 (0,0)) (by(with_reducible repeat(first|refine Yl ?_ _|refine Ym ?_|refine Yj ?_ _));exact Zz.out) hb);have n1_:=Ya (Yk (by repeat(first|(with_reducible first|exact HB.out|apply Ye|apply Yd|apply Yg|refine Yh ?_ Ut.out)|exact HB.out)) hb);have n2_:=Ya (Zf);have n3_:=Ya ((by rw[hg];exact(Yi (by repeat(first|(with_reducible first|exact HB.out|apply Ye|apply Yd|apply Yg|refine Yh ?_ Ut.out)|exact HB.out))):w.heap.size≤Wg));have n4_:=Ya ((by rw[hg];exact(Yi (by repeat(first|(with_reducible first|exact HB.out|apply Ye|apply Yd|apply Yg|refine Yh ?_ Ut.out)|exact HB.out))):w.heap.size≤Wg));have n5_:=Ya ((by rw[hg];exact Nat.ne_of_lt (blk_lt (g:=Xe) (o:= .cells #[.int .i64 Zc, .bool Zb, .slice Ze Za.length Zd, .slice Wp Xm.length Wq] 115 (0,0)) (by(with_reducible repeat(first|refine Yl ?_ _|refine Ym ?_|refine Yj ?_ _));exact Zz.out)):Xe≠Wg));have n6_:=Ya ((by rw[hg];exact Nat.ne_of_gt (blk_lt (g:=Xe) (o:= .cells #[.int .i64 Zc, .bool Zb, .slice Ze Za.length Zd, .slice Wp Xm.length Wq] 115 (0,0)) (by(with_reducible repeat(first|refine Yl ?_ _|refine Ym ?_|refine Yj ?_ _));exact Zz.out)):Wg≠Xe));clear Zz;clear HB;have Zz:=n0_;have HB:=n1_;have Vj:=n2_;have GW376:=n3_;have GE376:=n4_;have Vy:=n5_;have Vz:=n6_;clear n0_ n1_ n2_ n3_ n4_ n5_ n6_;clear hb Zf hg;have hnb16:=Vz.out;have hnc16:=Vy.out;have Uk:w15.cell? ⟨Wg,0,none⟩=some (.int .i64 Zg):=(Yc Vj.out 0).trans rfl;have Ul:w15.cell? ⟨Wg,1,none⟩=some (.bool false):=(Yc Vj.out 1).trans rfl;have Um:=Yf Vj.out 0;have Un:=Yf Vj.out 1;have hcz18_0:w15.cell? ⟨Xe,0,none⟩=some (.int .i64 Zc):=(Yc Zz.out 0).trans rfl;have hcz18_1:w15.cell? ⟨Xe,1,none⟩=some (.bool Zb):=(Yc Zz.out 1).trans rfl;have hcz18_2:w15.cell? ⟨Xe,2,none⟩=some (.slice Ze Za.length Zd):=(Yc Zz.out 2).trans rfl;have hcz18_3:w15.cell? ⟨Xe,3,none⟩=some (.slice Wp Xm.length Wq):=(Yc Zz.out 3).trans rfl;have hfz18_0:=Yf Zz.out 0;have hfz18_1:=Yf Zz.out 1;have hfz18_2:=Yf Zz.out 2;have hfz18_3:=Yf Zz.out 3;have p378:0≤(Zg:Int):=Yu (by first|(with_reducible assumption)|assumption);have q378:Zg<(Za.length:Int):=Yu (by first|(with_reducible assumption)|assumption);obtain⟨ad378,e378,hx378_0,hx378_1,hx378_2,hx378_3⟩:=at_T74 Zl.out Zg p378 q378;cases e378;replace hx378_0:=(HB.out.cell (Yb w _ hx378_0)).trans hx378_0;replace hx378_1:=(HB.out.cell (Yb w _ hx378_1)).trans hx378_1;replace hx378_2:=(HB.out.cell (Yb w _ hx378_2)).trans hx378_2;replace hx378_3:=(HB.out.cell (Yb w _ hx378_3)).trans hx378_3;replace p378:=eq_true p378;replace q378:=eq_true q378;have p379:0≤(Zg:Int):=Yu (by first|(with_reducible assumption)|assumption);have q379:Zg<(Xm.length:Int):=Yu (by first|(with_reducible assumption)|assumption);obtain⟨ad379,e379,hx379_0⟩:=Kd.at_int HR0_3.out Zg p379 q379;cases e379;replace hx379_0:=(HB.out.cell (Yb w _ hx379_0)).trans hx379_0;replace p379:=eq_true p379;replace q379:=eq_true q379));repeat(go_quiet (first|((with_reducible refine gate_dst (N:=2) rfl ?_);refine Yz ?hg (N:=2) ?hd (cs:= #[.int .i64 Zc, .bool Zb, .slice Ze Za.length Zd, .slice Wp Xm.length Wq]) (t:=115) ?hr ?_;(case hd=>rfl);(case hg=>rfl);(case hr=>first|(go_simp;done)|(go_simp;rfl));intro Xe hg w14 Zf hb;have n0_:=Ya (Yk (by repeat(first|(with_reducible first|exact HB.out|apply Ye|apply Yd|apply Yg)|exact HB.out)) hb);have n1_:=Ya (Zf);have n2_:=Ya ((by rw[hg];exact(Yi (by repeat(first|(with_reducible first|exact HB.out|apply Ye|apply Yd|apply Yg)|exact HB.out))):w.heap.size≤Xe));have n3_:=Ya ((by rw[hg];exact(Yi (by repeat(first|(with_reducible first|exact HB.out|apply Ye|apply Yd|apply Yg)|exact HB.out))):w.heap.size≤Xe));clear HB;have HB:=n0_;have Zz:=n1_;have GW375:=n2_;have Ut:=n3_;clear n0_ n1_ n2_ n3_;clear hb Zf hg)|((with_reducible refine gate_dst (N:=3) rfl ?_);refine Yz ?hg (N:=3) ?hd (cs:= #[.int .i64 Zg, .bool false]) (t:=38) ?hr ?_;(case hd=>rfl);(case hg=>rfl);(case hr=>first|(go_simp;done)|(go_simp;rfl));intro Wg hg w15 Zf hb;have n0_:=Ya (Yn (g:=Xe) (o:= .cells #[.int .i64 Zc, .bool Zb, .slice Ze Za.length Zd, .slice Wp Xm.length Wq] 115 (0,0)) (by(with_reducible repeat(first|refine Yl ?_ _|refine Ym ?_|refine Yj ?_ _));exact Zz.out) hb);have n1_:=Ya (Yk (by repeat(first|(with_reducible first|exact HB.out|apply Ye|apply Yd|apply Yg|refine Yh ?_ Ut.out)|exact HB.out)) hb);have n2_:=Ya (Zf);have n3_:=Ya ((by rw[hg];exact(Yi (by repeat(first|(with_reducible first|exact HB.out|apply Ye|apply Yd|apply Yg|refine Yh ?_ Ut.out)|exact HB.out))):w.heap.size≤Wg));have n4_:=Ya ((by rw[hg];exact(Yi (by repeat(first|(with_reducible first|exact HB.out|apply Ye|apply Yd|apply Yg|refine Yh ?_ Ut.out)|exact HB.out))):w.heap.size≤Wg));have n5_:=Ya ((by rw[hg];exact Nat.ne_of_lt (blk_lt (g:=Xe) (o:= .cells #[.int .i64 Zc, .bool Zb, .slice Ze Za.length Zd, .slice Wp Xm.length Wq] 115 (0,0)) (by(with_reducible repeat(first|refine Yl ?_ _|refine Ym ?_|refine Yj ?_ _));exact Zz.out)):Xe≠Wg));have n6_:=Ya ((by rw[hg];exact Nat.ne_of_gt (blk_lt (g:=Xe) (o:= .cells #[.int .i64 Zc, .bool Zb, .slice Ze Za.length Zd, .slice Wp Xm.length Wq] 115 (0,0)) (by(with_reducible repeat(first|refine Yl ?_ _|refine Ym ?_|refine Yj ?_ _));exact Zz.out)):Wg≠Xe));clear Zz;clear HB;have Zz:=n0_;have HB:=n1_;have Vj:=n2_;have GW376:=n3_;have GE376:=n4_;have Vy:=n5_;have Vz:=n6_;clear n0_ n1_ n2_ n3_ n4_ n5_ n6_;clear hb Zf hg;have hnb16:=Vz.out;have hnc16:=Vy.out;have Uk:w15.cell? ⟨Wg,0,none⟩=some (.int .i64 Zg):=(Yc Vj.out 0).trans rfl;have Ul:w15.cell? ⟨Wg,1,none⟩=some (.bool false):=(Yc Vj.out 1).trans rfl;have Um:=Yf Vj.out 0;have Un:=Yf Vj.out 1;have hcz18_0:w15.cell? ⟨Xe,0,none⟩=some (.int .i64 Zc):=(Yc Zz.out 0).trans rfl;have hcz18_1:w15.cell? ⟨Xe,1,none⟩=some (.bool Zb):=(Yc Zz.out 1).trans rfl;have hcz18_2:w15.cell? ⟨Xe,2,none⟩=some (.slice Ze Za.length Zd):=(Yc Zz.out 2).trans rfl;have hcz18_3:w15.cell? ⟨Xe,3,none⟩=some (.slice Wp Xm.length Wq):=(Yc Zz.out 3).trans rfl;have hfz18_0:=Yf Zz.out 0;have hfz18_1:=Yf Zz.out 1;have hfz18_2:=Yf Zz.out 2;have hfz18_3:=Yf Zz.out 3;have p378:0≤(Zg:Int):=Yu (by first|(with_reducible assumption)|assumption);have q378:Zg<(Za.length:Int):=Yu (by first|(with_reducible assumption)|assumption);obtain⟨ad378,e378,hx378_0,hx378_1,hx378_2,hx378_3⟩:=at_T74 Zl.out Zg p378 q378;cases e378;replace hx378_0:=(HB.out.cell (Yb w _ hx378_0)).trans hx378_0;replace hx378_1:=(HB.out.cell (Yb w _ hx378_1)).trans hx378_1;replace hx378_2:=(HB.out.cell (Yb w _ hx378_2)).trans hx378_2;replace hx378_3:=(HB.out.cell (Yb w _ hx378_3)).trans hx378_3;replace p378:=eq_true p378;replace q378:=eq_true q378;have p379:0≤(Zg:Int):=Yu (by first|(with_reducible assumption)|assumption);have q379:Zg<(Xm.length:Int):=Yu (by first|(with_reducible assumption)|assumption);obtain⟨ad379,e379,hx379_0⟩:=Kd.at_int HR0_3.out Zg p379 q379;cases e379;replace hx379_0:=(HB.out.cell (Yb w _ hx379_0)).trans hx379_0;replace p379:=eq_true p379;replace q379:=eq_true q379));try go_wp2_with (first|((with_reducible refine gate_dst (N:=2) rfl ?_);refine Yz ?hg (N:=2) ?hd (cs:= #[.int .i64 Zc, .bool Zb, .slice Ze Za.length Zd, .slice Wp Xm.length Wq]) (t:=115) ?hr ?_;(case hd=>rfl);(case hg=>rfl);(case hr=>first|(go_simp;done)|(go_simp;rfl));intro Xe hg w14 Zf hb;have n0_:=Ya (Yk (by repeat(first|(with_reducible first|exact HB.out|apply Ye|apply Yd|apply Yg)|exact HB.out)) hb);have n1_:=Ya (Zf);have n2_:=Ya ((by rw[hg];exact(Yi (by repeat(first|(with_reducible first|exact HB.out|apply Ye|apply Yd|apply Yg)|exact HB.out))):w.heap.size≤Xe));have n3_:=Ya ((by rw[hg];exact(Yi (by repeat(first|(with_reducible first|exact HB.out|apply Ye|apply Yd|apply Yg)|exact HB.out))):w.heap.size≤Xe));clear HB;have HB:=n0_;have Zz:=n1_;have GW375:=n2_;have Ut:=n3_;clear n0_ n1_ n2_ n3_;clear hb Zf hg)|((with_reducible refine gate_dst (N:=3) rfl ?_);refine Yz ?hg (N:=3) ?hd (cs:= #[.int .i64 Zg, .bool false]) (t:=38) ?hr ?_;(case hd=>rfl);(case hg=>rfl);(case hr=>first|(go_simp;done)|(go_simp;rfl));intro Wg hg w15 Zf hb;have n0_:=Ya (Yn (g:=Xe) (o:= .cells #[.int .i64 Zc, .bool Zb, .slice Ze Za.length Zd, .slice Wp Xm.length Wq] 115 (0,0)) (by(with_reducible repeat(first|refine Yl ?_ _|refine Ym ?_|refine Yj ?_ _));exact Zz.out) hb);have n1_:=Ya (Yk (by repeat(first|(with_reducible first|exact HB.out|apply Ye|apply Yd|apply Yg|refine Yh ?_ Ut.out)|exact HB.out)) hb);have n2_:=Ya (Zf);have n3_:=Ya ((by rw[hg];exact(Yi (by repeat(first|(with_reducible first|exact HB.out|apply Ye|apply Yd|apply Yg|refine Yh ?_ Ut.out)|exact HB.out))):w.heap.size≤Wg));have n4_:=Ya ((by rw[hg];exact(Yi (by repeat(first|(with_reducible first|exact HB.out|apply Ye|apply Yd|apply Yg|refine Yh ?_ Ut.out)|exact HB.out))):w.heap.size≤Wg));have n5_:=Ya ((by rw[hg];exact Nat.ne_of_lt (blk_lt (g:=Xe) (o:= .cells #[.int .i64 Zc, .bool Zb, .slice Ze Za.length Zd, .slice Wp Xm.length Wq] 115 (0,0)) (by(with_reducible repeat(first|refine Yl ?_ _|refine Ym ?_|refine Yj ?_ _));exact Zz.out)):Xe≠Wg));have n6_:=Ya ((by rw[hg];exact Nat.ne_of_gt (blk_lt (g:=Xe) (o:= .cells #[.int .i64 Zc, .bool Zb, .slice Ze Za.length Zd, .slice Wp Xm.length Wq] 115 (0,0)) (by(with_reducible repeat(first|refine Yl ?_ _|refine Ym ?_|refine Yj ?_ _));exact Zz.out)):Wg≠Xe));clear Zz;clear HB;have Zz:=n0_;have HB:=n1_;have Vj:=n2_;have GW376:=n3_;have GE376:=n4_;have Vy:=n5_;have Vz:=n6_;clear n0_ n1_ n2_ n3_ n4_ n5_ n6_;clear hb Zf hg;have hnb16:=Vz.out;have hnc16:=Vy.out;have Uk:w15.cell? ⟨Wg,0,none⟩=some (.int .i64 Zg):=(Yc Vj.out 0).trans rfl;have Ul:w15.cell? ⟨Wg,1,none⟩=some (.bool false):=(Yc Vj.out 1).trans rfl;have Um:=Yf Vj.out 0;have Un:=Yf Vj.out 1;have hcz18_0:w15.cell? ⟨Xe,0,none⟩=some (.int .i64 Zc):=(Yc Zz.out 0).trans rfl;have hcz18_1:w15.cell? ⟨Xe,1,none⟩=some (.bool Zb):=(Yc Zz.out 1).trans rfl;have hcz18_2:w15.cell? ⟨Xe,2,none⟩=some (.slice Ze Za.length Zd):=(Yc Zz.out 2).trans rfl;have hcz18_3:w15.cell? ⟨Xe,3,none⟩=some (.slice Wp Xm.length Wq):=(Yc Zz.out 3).trans rfl;have hfz18_0:=Yf Zz.out 0;have hfz18_1:=Yf Zz.out 1;have hfz18_2:=Yf Zz.out 2;have hfz18_3:=Yf Zz.out 3;have p378:0≤(Zg:Int):=Yu (by first|(with_reducible assumption)|assumption);have q378:Zg<(Za.length:Int):=Yu (by first|(with_reducible assumption)|assumption);obtain⟨ad378,e378,hx378_0,hx378_1,hx378_2,hx378_3⟩:=at_T74 Zl.out Zg p378 q378;cases e378;replace hx378_0:=(HB.out.cell (Yb w _ hx378_0)).trans hx378_0;replace hx378_1:=(HB.out.cell (Yb w _ hx378_1)).trans hx378_1;replace hx378_2:=(HB.out.cell (Yb w _ hx378_2)).trans hx378_2;replace hx378_3:=(HB.out.cell (Yb w _ hx378_3)).trans hx378_3;replace p378:=eq_true p378;replace q378:=eq_true q378;have p379:0≤(Zg:Int):=Yu (by first|(with_reducible assumption)|assumption);have q379:Zg<(Xm.length:Int):=Yu (by first|(with_reducible assumption)|assumption);obtain⟨ad379,e379,hx379_0⟩:=Kd.at_int HR0_3.out Zg p379 q379;cases e379;replace hx379_0:=(HB.out.cell (Yb w _ hx379_0)).trans hx379_0;replace p379:=eq_true p379;replace q379:=eq_true q379)))
 go_ret;exact⟨by first|rfl|(simp[errW_none,errW_some]<;>rfl)|(simp[*,errW_none,errW_some]<;>rfl),by repeat(first|(with_reducible first|exact HB.out|apply Ye|apply Yd|apply Yg|refine Yh ?_ Ut.out|refine Yh ?_ GE376.out)|exact HB.out)⟩
end P
namespace H
abbrev Ed:=Nat × Nat × Int
abbrev Tm:=Nat→Option Int
def trig (σ:Tm) (e:Ed):Bool:=
 match σ e.1 with
 |none=>false
 |some x=>match σ e.2.1 with
  |none=>true
  |some y=>decide (x+e.2.2<y)
def relax (σ:Tm) (e:Ed):Tm:=if trig σ e then(fun v=>if v=e.2.1 then some ((σ e.1).getD 0+e.2.2) else σ v) else σ
def pass (E:List Ed) (σ:Tm):Tm:=E.foldl relax σ
def Path (E:List Ed):Nat→List Ed→Nat→Prop
 |a,[],b=>a=b
 |a,e::l,b=>e∈E∧e.1=a∧Path E e.2.1 l b
def long:List Ed→Int
 |[]=>0
 |e::l=>e.2.2+long l
theorem long_app (l m:List Ed):long (l ++ m)=long l+long m:=by
 induction l with
 |nil=>simp[long]
 |cons e l ih=>simp only[List.cons_append,long,ih];omega
def its (E:List Ed):Nat→Tm→Tm
 |0,σ=>σ
 |k+1,σ=>its E k (pass E σ)
structure NoGain (E:List Ed) (r:Nat→Prop):Prop where
 on: ∀ e,e∈E→r e.1→r e.2.1
 cyc: ∀ (a:Nat) (l:List Ed),r a→Path E a l a→0≤long l
def visits (a:Nat) (l:List Ed):List Nat:=a::l.map (fun e=>e.2.1)
theorem path_split {E:List Ed} {a b x:Nat} {l:List Ed} (h:Path E a l b) (hx:x∈visits a l): ∃ l1 l2,l=l1 ++ l2∧Path E a l1 x∧Path E x l2 b:=by
 induction l generalizing a with
 |nil=>
  rcases List.mem_cons.1 hx with rfl|hx
  ·exact⟨[],[],rfl,rfl,h⟩
  ·cases hx
 |cons e l ih=>
  rcases List.mem_cons.1 hx with rfl|hx
  ·exact⟨[],e::l,rfl,rfl,h⟩
  ·obtain⟨he,hu,hp⟩:=h
   have hx':x∈visits e.2.1 l:=by simpa [visits] using hx
   obtain⟨l1,l2,e1,h1,h2⟩:=ih hp hx';exact⟨e::l1,l2,by rw[e1];rfl,⟨he,hu,h1⟩,h2⟩
theorem cut_or {E:List Ed} {r:Nat→Prop} (ht:NoGain E r) {a b:Nat} {l:List Ed} (h:Path E a l b) (ha:r a):
  (∃ l',l'.length<l.length∧Path E a l' b∧long l'≤long l)∨(visits a l).Nodup:=by
 induction l generalizing a with
 |nil=>right;simp[visits]
 |cons e l ih=>
  obtain⟨he,hu,hp⟩:=h;have hr:=ht.on e he (hu▸ha);by_cases hm:a∈visits e.2.1 l
  ·left
   obtain⟨l1,l2,e1,h1,h2⟩:=path_split hp hm;refine⟨l2,by rw[e1];simp;omega,h2,?_⟩;have hc:=ht.cyc a (e::l1) ha ⟨he,hu,h1⟩;rw[e1];simp only[long,long_app] at hc ⊢;omega
  ·rcases ih hp hr with ⟨l',h1,h2,h3⟩|hn
   ·left
    refine⟨e::l',by simp;omega,⟨he,hu,h2⟩,?_⟩;simp only[long];omega
   ·right
    show (a::visits e.2.1 l).Nodup;exact List.nodup_cons.2 ⟨hm,hn⟩
theorem pigeon (n:Nat): ∀ L:List Nat,L.Nodup→(∀ x,x∈L→x<n)→L.length≤n:=by
 induction n with
 |zero=>
  intro L _ h;cases L with
  |nil=>simp
  |cons x L=>exact absurd (h x List.mem_cons_self) (Nat.not_lt_zero _)
 |succ n ih=>
  intro L hn h;by_cases hm:n∈L
  ·have h1:=ih (L.erase n) (hn.erase n) (fun x hx=>by
    have h2:=(hn.mem_erase_iff).1 hx;have:=h x h2.2;have:=h2.1;omega)
   rw[List.length_erase_of_mem hm] at h1;omega
  ·have:=ih L hn (fun x hx=>by
    have h1:=h x hx;have:x≠n:=fun e=>hm (e▸hx)
    omega)
   omega
theorem path_nodes {E:List Ed} {n:Nat} (hE: ∀ e,e∈E→e.1<n∧e.2.1<n) {a b:Nat} {l:List Ed} (h:Path E a l b) (ha:a<n): ∀ x,x∈visits a l→x<n:=by
 induction l generalizing a with
 |nil=>intro x hx;rcases List.mem_cons.1 hx with rfl|hx;exact ha;cases hx
 |cons e l ih=>
  intro x hx;obtain⟨he,hu,hp⟩:=h;rcases List.mem_cons.1 hx with rfl|hx
  ·exact ha
  ·exact ih hp (hE e he).2 x (by simpa [visits] using hx)
theorem short {E:List Ed} {n:Nat} (hE: ∀ e,e∈E→e.1<n∧e.2.1<n) {r:Nat→Prop} (ht:NoGain E r) {a b:Nat} (ha:r a) (han:a<n):
  ∀ (m:Nat) (l:List Ed),l.length≤m→Path E a l b→ ∃ l',l'.length<n∧Path E a l' b∧long l'≤long l:=by
 intro m
 induction m with
 |zero=>
  intro l hl h;exact⟨l,by omega,h,Int.le_refl _⟩
 |succ m ih=>
  intro l hl h;rcases cut_or ht h ha with ⟨l',h1,h2,h3⟩|hn
  ·obtain⟨l2,h4,h5,h6⟩:=ih l' (by omega) h2
   exact⟨l2,h4,h5,Int.le_trans h6 h3⟩
  ·refine⟨l,?_,h,Int.le_refl _⟩
   have:=pigeon n _ hn (path_nodes hE h han);simp[visits] at this;omega
end H
namespace H
open P
def Arr (w:World) (g N:Nat) (M:Nat→S38):Prop:=
 ∃ cells:Array Value,w.heap[g]? =some (.cells cells 38 (0,0))∧ ∀ x,x<N→cells[x * 2]? =some (.int .i64 (M x).f0)∧cells[x * 2+1]? =some (.bool (M x).f1)
theorem Arr.cell0 {w:World} {g N:Nat} {M:Nat→S38} (h:Arr w g N M) {x:Nat} (hx:x<N):w.cell? ⟨g,x * 2,none⟩=some (.int .i64 (M x).f0):=by
 obtain⟨cells,hb,hc⟩:=h;simp[World.cell?,hb,(hc x hx).1]
theorem Arr.cell1 {w:World} {g N:Nat} {M:Nat→S38} (h:Arr w g N M) {x:Nat} (hx:x<N):w.cell? ⟨g,x * 2+1,none⟩=some (.bool (M x).f1):=by
 obtain⟨cells,hb,hc⟩:=h;simp[World.cell?,hb,(hc x hx).2]
theorem Arr.free {w:World} {g N:Nat} {M:Nat→S38} (h:Arr w g N M) (j:Nat):w.frozen? ⟨g,j,none⟩=false:=by
 obtain⟨cells,hb,_⟩:=h;simp[World.frozen?,hb]
theorem Arr.lt {w:World} {g N:Nat} {M:Nat→S38} (h:Arr w g N M):g<w.heap.size:=by
 obtain⟨cells,hb,_⟩:=h;exact(Array.getElem?_eq_some_iff.1 hb).1
theorem Arr.congr {w:World} {g N:Nat} {M M':Nat→S38} (h:Arr w g N M) (e: ∀ x,x<N→M' x=M x):Arr w g N M':=by
 obtain⟨cells,hb,hc⟩:=h;exact⟨cells,hb,fun x hx=>by rw[e x hx];exact hc x hx⟩
theorem Arr.same {w w':World} {g N:Nat} {M:Nat→S38} (h:Arr w g N M) (e:w'.heap[g]? =w.heap[g]?):Arr w' g N M:=by
 obtain⟨cells,hb,hc⟩:=h;exact⟨cells,e.trans hb,hc⟩
theorem Arr.below {w w':World} {g N:Nat} {M:Nat→S38} (h:Arr w g N M) (hb:Below w.heap.size w w'):Arr w' g N M:=h.same (hb.block g h.lt)
def upd (M:Nat→S38) (x:Nat) (s:S38) (y:Nat):S38:=if y=x then s else M y
theorem Arr.put {w:World} {g N:Nat} {M:Nat→S38} (h:Arr w g N M) {x:Nat} (hx:x<N) (s:S38):Arr ((w.setCell ⟨g,x * 2,none⟩ (.int .i64 s.f0)).setCell ⟨g,x * 2+1,none⟩ (.bool s.f1)) g N (upd M x s):=by
 obtain⟨cells,hb,hc⟩:=h;refine⟨_,blk_set (blk_set hb _ _) _ _,fun y hy=> ?_⟩;have hs0:=(Array.getElem?_eq_some_iff.1 (hc x hx).1).1;have hs1:=(Array.getElem?_eq_some_iff.1 (hc x hx).2).1;simp only[Array.getElem?_setIfInBounds,Array.size_setIfInBounds];unfold upd;by_cases e:y=x
 ·subst e
  constructor
  ·rw[Yy (by omega),Yx rfl,Yx hs0,Yx rfl]
  ·rw[Yx rfl,Yx hs1,Yx rfl]
 ·rw[Yy e]
  constructor
  ·rw[Yy (by omega),Yy (by omega)];exact(hc y hy).1
  ·rw[Yy (by omega),Yy (by omega)];exact(hc y hy).2
theorem Arr.drew {w:World} {g N:Nat} {M:Nat→S38} (h:Arr w g N M):Arr w.drew g N M:=h.same rfl
def Fr (w w':World) (g:Nat):Prop:=w.grownBy w' (some g)∧ ∀ cells t ro,w.heap[g]? =some (.cells cells t ro)→ ∃ cells',w'.heap[g]? =some (.cells cells' t ro)∧cells'.size=cells.size
theorem grow_set {w w':World} {g:Nat} (h:Fr w w' g) (j:Nat) (u:Value):Fr w (w'.setCell ⟨g,j,none⟩ u) g:=
 ⟨⟨h.1.os,h.1.tape,h.1.output,by simpa [World.setCell] using h.1.size,fun k hk hne=>(Below.heap_setCell w' ⟨g,j,none⟩ u k (fun e=>hne (by rw[e]))).trans (h.1.block k hk hne)⟩,
  fun cells t ro hb=>by
  obtain⟨c',h1,h2⟩:=h.2 cells t ro hb;refine⟨c'.setIfInBounds j u,?_,by simpa using h2⟩;simp[World.setCell,Array.getElem?_modify,h1]⟩
theorem grow_drew {w w':World} {g:Nat} (h:Fr w w' g):Fr w w'.drew g:=⟨⟨h.1.os,h.1.tape,h.1.output,h.1.size,h.1.block⟩,h.2⟩
theorem grow_refl (w:World) (g:Nat):Fr w w g:=⟨⟨rfl,rfl,rfl,Nat.le_refl _,fun _ _ _=>rfl⟩,fun cells t ro hb=>⟨cells,hb,rfl⟩⟩
theorem grow_trans {w w' w'':World} {g:Nat} (h:Fr w w' g) (k:Fr w' w'' g):Fr w w'' g:=
 ⟨⟨k.1.os.trans h.1.os,k.1.tape.trans h.1.tape,k.1.output.trans h.1.output,Nat.le_trans h.1.size k.1.size,fun i hi hne=>(k.1.block i (Nat.lt_of_lt_of_le hi h.1.size) hne).trans (h.1.block i hi hne)⟩,
  fun cells t ro hb=>by
  obtain⟨c',h1,h2⟩:=h.2 cells t ro hb;obtain⟨c2,h3,h4⟩:=k.2 c' t ro h1;exact⟨c2,h3,h4.trans h2⟩⟩
theorem grow_below {w w':World} {g:Nat} (h:Below w.heap.size w w'):Fr w w' g:=
 ⟨grown_of_below h _,fun cells t ro hb=>⟨cells,(h.block g (Array.getElem?_eq_some_iff.1 hb).1).trans hb,rfl⟩⟩
def swapM (M:Nat→S38) (a b n:Nat) (x:Nat):S38:=if a≤x∧x<a+n then M (x - a+b) else if b≤x∧x<b+n then M (x - b+a) else M x
set_option maxHeartbeats 2000000 in
set_option maxRecDepth 100000 in
theorem swapRange_calls (g N cap:Nat) (M:Nat→S38) (a b n:Nat) (f:Value) (w:World) (h:Arr w g N M) (hN:N≤1000000) (ha:a+n≤b) (hb:b+n≤N):
  Calls Try.prog 178 #[.slice (some ⟨g,0,none⟩) N cap, .int .i64 (a:Int), .int .i64 (b:Int), .int .i64 (n:Int),f] w fun e w'=>e= .returned (.tuple #[])∧Arr w' g N (swapM M a b n)∧Fr w w' g:=by
 have HA:=Ya h;clear h;go_enter Try.func178,Try.ntmps178;go_wp2;go_loopw [10] (fun i wr=> ∃ k:Nat,k≤n∧i= .int .i64 k∧Aside0 (Arr wr g N (swapM M a b k))∧Aside0 (Fr w wr g)) (fun i _=>n - (intOf i).toNat)
 case atStart=>exact⟨0,Nat.zero_le _,rfl,⟨HA.out.congr fun x _=>by unfold swapM;rw[Yy (by omega),Yy (by omega)]⟩,⟨grow_refl _ _⟩⟩
 case round=>
  obtain⟨k,hk,rfl,HA1,HG⟩:=hrel;by_cases hlt:k<n
  ·have c0:=HA1.out.cell0 (x:=b+k) (by omega)
   have c1:=HA1.out.cell1 (x:=b+k) (by omega);have d0:=HA1.out.cell0 (x:=a+k) (by omega);have d1:=HA1.out.cell1 (x:=a+k) (by omega);have f0:=HA1.out.free;obtain⟨s1,hs1⟩: ∃ s,swapM M a b k (b+k)=s:=⟨_,rfl⟩;obtain⟨s2,hs2⟩: ∃ s,swapM M a b k (a+k)=s:=⟨_,rfl⟩;rw[hs1] at c0 c1;rw[hs2] at d0 d1;have HE:Aside0 (∀ x,upd (upd (swapM M a b k) (a+k) s1) (b+k) s2 x=swapM M a b (k+1) x):=⟨fun x=>by
    rw[← hs1, ← hs2];unfold upd swapM;by_cases e1:x=b+k
    ·subst e1
     rw[Yx rfl,Yy (by omega),Yy (by omega),Yy (by omega),Yx (by omega)];congr 1;omega
    ·rw[Yy e1]
     by_cases e2:x=a+k
     ·subst e2
      rw[Yx rfl,Yy (by omega),Yy (by omega),Yx (by omega)];congr 1;omega
     ·rw[Yy e2]
      by_cases e3:a≤x∧x<a+k
      ·rw[Yx e3,Yx (by omega)]
      ·rw[Yy e3,Yy (show ¬ (a≤x∧x<a+(k+1)) by omega)]
       by_cases e4:b≤x∧x<b+k
       ·rw[Yx e4,Yx (by omega)]
       ·rw[Yy e4,Yy (by omega)]⟩
   clear hs1 hs2;go_wp2;go_region;have HA2:Aside0 (Arr (((((wr.setCell ⟨g,(a+k) * 2,none⟩ (.int .i64 s1.f0)).setCell ⟨g,(a+k) * 2+1,none⟩ (.bool s1.f1)).setCell ⟨g,(b+k) * 2,none⟩ (.int .i64 s2.f0)).setCell ⟨g,(b+k) * 2+1,none⟩ (.bool s2.f1)).drew) g N (swapM M a b (k+1))):=
    ⟨(((HA1.out.put (by omega) s1).put (by omega) s2).drew).congr fun x _=>(HE.out x).symm⟩
   have HG2:=Ya (grow_drew (grow_set (grow_set (grow_set (grow_set HG.out ((a+k) * 2) (.int .i64 s1.f0)) ((a+k) * 2+1) (.bool s1.f1)) ((b+k) * 2) (.int .i64 s2.f0)) ((b+k) * 2+1) (.bool s2.f1)));clear c0 c1 d0 d1 f0 HA1 HG HE;go_wp2;go_roundw
   case rel=>exact⟨k+1,by omega,by go_num,HA2,HG2⟩
   case measure=>simp[intOf];omega
  ·have e:k=n:=by omega
   subst e;go_wp2;go_end0;exact⟨rfl,HA1.out,HG.out⟩
def rotM (M:Nat→S38) (a m b:Nat) (x:Nat):S38:=if a≤x∧x<b then(if x<a+(b - m) then M (x+(m - a)) else M (x - (b - m))) else M x
def RotAt (M K:Nat→S38) (a m b i j:Nat):Prop:=
 (∀ x, ¬ (m - i≤x∧x<m+j)→K x=rotM M a m b x)∧(∀ x,m - i≤x→x<m - i+j→rotM M a m b x=K (x+i))∧(∀ x,m - i+j≤x→x<m+j→rotM M a m b x=K (x - j))
theorem rot_start (M:Nat→S38) {a m b:Nat} (h1:a≤m) (h2:m≤b):RotAt M M a m b (m - a) (b - m):=by
 refine⟨fun x hx=> ?_,fun x h3 h4=> ?_,fun x h3 h4=> ?_⟩
 ·unfold rotM;rw[Yy (by omega)]
 ·unfold rotM;rw[Yx (by omega),Yx (by omega)]
 ·unfold rotM;rw[Yx (by omega),Yy (by omega)]
theorem rot_left {M K:Nat→S38} {a m b i j:Nat} (h:RotAt M K a m b i j) (hj:0<j) (hij:j<i) (him:i≤m):RotAt M (swapM K (m - i) m j) a m b (i - j) j:=by
 obtain⟨h1,h2,h3⟩:=h;refine⟨fun x hx=> ?_,fun x h4 h5=> ?_,fun x h4 h5=> ?_⟩
 ·unfold swapM
  by_cases e:m - i≤x∧x<m - i+j
  ·rw[Yx e,h2 x e.1 e.2]
   congr 1;omega
  ·rw[Yy e,Yy (by omega)]
   exact h1 x (by omega)
 ·rw[h3 x (by omega) (by omega)]
  unfold swapM;rw[Yy (by omega),Yx (by omega)];congr 1;omega
 ·rw[h3 x (by omega) (by omega)]
  unfold swapM;rw[Yy (by omega),Yy (by omega)]
theorem rot_right {M K:Nat→S38} {a m b i j:Nat} (h:RotAt M K a m b i j) (hi:0<i) (hij:i<j) (him:i≤m):RotAt M (swapM K (m - i) (m+j - i) i) a m b i (j - i):=by
 obtain⟨h1,h2,h3⟩:=h;refine⟨fun x hx=> ?_,fun x h4 h5=> ?_,fun x h4 h5=> ?_⟩
 ·unfold swapM
  rw[Yy (by omega)];by_cases e:m+j - i≤x∧x<m+j - i+i
  ·rw[Yx e,h3 x (by omega) (by omega)]
   congr 1;omega
  ·rw[Yy e]
   exact h1 x (by omega)
 ·rw[h2 x (by omega) (by omega)]
  unfold swapM;rw[Yy (by omega),Yy (by omega)]
 ·rw[h2 x (by omega) (by omega)]
  unfold swapM;rw[Yx (by omega)];congr 1;omega
theorem rot_last {M K:Nat→S38} {a m b i:Nat} (h:RotAt M K a m b i i) (him:i≤m) (x:Nat):swapM K (m - i) m i x=rotM M a m b x:=by
 obtain⟨h1,h2,h3⟩:=h;unfold swapM;by_cases e:m - i≤x∧x<m - i+i
 ·rw[Yx e,h2 x e.1 e.2]
  congr 1;omega
 ·rw[Yy e]
  by_cases e2:m≤x∧x<m+i
  ·rw[Yx e2,h3 x (by omega) (by omega)]
   congr 1;omega
  ·rw[Yy e2]
   exact h1 x (by omega)
set_option maxHeartbeats 2000000 in
set_option maxRecDepth 100000 in
theorem rotate_calls (g N cap:Nat) (M:Nat→S38) (a m b:Nat) (f:Value) (w:World) (h:Arr w g N M) (hN:N≤1000000) (ham:a<m) (hmb:m<b) (hb:b≤N):
  Calls Try.prog 175 #[.slice (some ⟨g,0,none⟩) N cap, .int .i64 (a:Int), .int .i64 (m:Int), .int .i64 (b:Int),f] w fun e w'=>e= .returned (.tuple #[])∧Arr w' g N (rotM M a m b)∧Fr w w' g:=by
 have HA:=Ya h;clear h;go_enter Try.func175,Try.ntmps175;go_wp2;go_loopw [10,11] (fun vi vj wr=> ∃ i j:Nat,0<i∧0<j∧i≤m - a∧j≤b - m∧vi= .int .i64 i∧vj= .int .i64 j∧(∃ K,Aside0 (RotAt M K a m b i j)∧Aside0 (Arr wr g N K))∧Aside0 (Fr w wr g)) (fun vi vj _=>(intOf vi).toNat+(intOf vj).toNat)
 case atStart=>exact⟨m - a,b - m,by omega,by omega,Nat.le_refl _,Nat.le_refl _,by rw[Int.natCast_sub (by omega)],by rw[Int.natCast_sub (by omega)],⟨M,⟨rot_start M (by omega) (by omega)⟩,HA⟩,⟨grow_refl _ _⟩⟩
 case round=>
  obtain⟨i,j,hi,hj,him,hjb,rfl,rfl,⟨K,HK,HA1⟩,HG⟩:=hrel;have e0:(m:Int) - (i:Int)=((m - i:Nat):Int):=by omega
  have E0:=Ya e0;by_cases hij:i=j
  ·subst hij
   have hne:((i:Int) != (i:Int))=false:=by simp
   clear e0;go_wp2_with fail;rw[E0.out];refine(swapRange_calls g N cap K (m - i) m i f _ HA1.out hN (by omega) (by omega)).mono ?_;rintro e w1 ⟨rfl,ha1,hg1⟩;have HA2:=Ya ha1;have HG2:=Ya (grow_trans HG.out hg1);clear ha1 hg1;go_wp2_with fail;go_end0;exact⟨rfl,HA2.out.congr fun x _=>(rot_last HK.out (by omega) x).symm,HG2.out⟩
  ·have hne:((i:Int) != (j:Int))=true:=by rw[bne_iff_ne];omega
   by_cases hlt:j<i
   ·have e1:(i:Int) - (j:Int)=((i - j:Nat):Int):=by omega
    have E1:=Ya e1;clear e0 e1;go_wp2_with fail;rw[E0.out];refine(swapRange_calls g N cap K (m - i) m j f _ HA1.out hN (by omega) (by omega)).mono ?_;rintro e w1 ⟨rfl,ha1,hg1⟩;have HA2:=Ya ha1;have HG2:=Ya (grow_trans HG.out hg1);clear ha1 hg1;go_wp2_with fail;go_roundw
    case rel=>exact⟨i - j,j,by omega,hj,by omega,hjb,by rw[E1.out],rfl,⟨_,⟨rot_left HK.out hj hlt (by omega)⟩,HA2⟩,HG2⟩
    case measure=>simp[intOf];omega
   ·have e1:(j:Int) - (i:Int)=((j - i:Nat):Int):=by omega
    have E1:=Ya e1;have e2:(m:Int)+(j:Int) - (i:Int)=((m+j - i:Nat):Int):=by omega
    have E2:=Ya e2;clear e0 e1 e2;go_wp2_with fail;rw[E0.out,E2.out];refine(swapRange_calls g N cap K (m - i) (m+j - i) i f _ HA1.out hN (by omega) (by omega)).mono ?_;rintro e w1 ⟨rfl,ha1,hg1⟩;have HA2:=Ya ha1;have HG2:=Ya (grow_trans HG.out hg1);clear ha1 hg1;go_wp2_with fail;go_roundw
    case rel=>exact⟨i,j - i,hi,by omega,him,by omega,rfl,by rw[E1.out],⟨_,⟨rot_right HK.out hi (by omega) (by omega)⟩,HA2⟩,HG2⟩
    case measure=>simp[intOf];omega
end H
namespace H
open P
def Le (K:Nat→S38) (a b:Nat):Prop:= ∀ i j,a≤i→i<j→j<b→(K i).f0≤(K j).f0
def Stab (M:Nat→S38) (N:Nat):Prop:= ∀ i j,i<j→j<N→(M i).f0=(M j).f0→(M i).f1=false∧(M j).f1=true
def Small (M:Nat→S38) (N:Nat):Prop:= ∀ i,i<N→0≤(M i).f0∧(M i).f0≤1000000
def Mix (M K:Nat→S38) (a b:Nat):Prop:=
 (∀ x, ¬ (a≤x∧x<b)→K x=M x)∧(∀ x,a≤x→x<b→ ∃ y,a≤y∧y<b∧K x=M y)∧(∀ y,a≤y→y<b→ ∃ x,a≤x∧x<b∧K x=M y)
theorem mix_refl (M:Nat→S38) (a b:Nat):Mix M M a b:=⟨fun _ _=>rfl,fun x h1 h2=>⟨x,h1,h2,rfl⟩,fun x h1 h2=>⟨x,h1,h2,rfl⟩⟩
theorem mix_trans {M K L:Nat→S38} {a b:Nat} (h:Mix M K a b) (k:Mix K L a b):Mix M L a b:=by
 refine⟨fun x hx=>(k.1 x hx).trans (h.1 x hx),fun x h1 h2=> ?_,fun y h1 h2=> ?_⟩
 ·obtain⟨y,h3,h4,e⟩:=k.2.1 x h1 h2
  obtain⟨z,h5,h6,e2⟩:=h.2.1 y h3 h4;exact⟨z,h5,h6,e.trans e2⟩
 ·obtain⟨x,h3,h4,e⟩:=h.2.2 y h1 h2
  obtain⟨z,h5,h6,e2⟩:=k.2.2 x h3 h4;exact⟨z,h5,h6,e2.trans e⟩
theorem mix_wide {M K:Nat→S38} {a b a' b':Nat} (h:Mix M K a b) (ha:a'≤a) (hb:b≤b'):Mix M K a' b':=by
 refine⟨fun x hx=>h.1 x (by omega),fun x h1 h2=> ?_,fun y h1 h2=> ?_⟩
 ·by_cases e:a≤x∧x<b
  ·obtain⟨y,h3,h4,e⟩:=h.2.1 x e.1 e.2
   exact⟨y,by omega,by omega,e⟩
  ·exact⟨x,h1,h2,h.1 x e⟩
 ·by_cases e:a≤y∧y<b
  ·obtain⟨x,h3,h4,e⟩:=h.2.2 y e.1 e.2
   exact⟨x,by omega,by omega,e⟩
  ·exact⟨y,h1,h2,h.1 y e⟩
theorem mix_small {M K:Nat→S38} {a b N:Nat} (h:Mix M K a b) (hb:b≤N) (hs:Small M N):Small K N:=fun x hx=>by
 by_cases e:a≤x∧x<b
 ·obtain⟨y,h3,h4,e⟩:=h.2.1 x e.1 e.2
  rw[e];exact hs y (by omega)
 ·rw[h.1 x e];exact hs x hx
def sw (K:Nat→S38) (p x:Nat):S38:=if x=p then K (p+1) else if x=p+1 then K p else K x
theorem sw_put1 (K:Nat→S38) (p x:Nat):upd (upd K (p+1) (K p)) p (K (p+1)) x=sw K p x:=by
 unfold upd sw;rfl
theorem sw_put2 (K:Nat→S38) (p x:Nat):upd (upd K p (K (p+1))) (p+1) (K p) x=sw K p x:=by
 unfold upd sw;by_cases e:x=p
 ·subst e;rw[Yy (by omega),Yx rfl,Yx rfl]
 ·by_cases e2:x=p+1
  ·rw[Yx e2,Yy e,Yx e2]
  ·rw[Yy e2,Yy e,Yy e,Yy e2]
theorem sw_at (K:Nat→S38) (p:Nat):sw K p p=K (p+1):=Yx rfl
theorem sw_at1 (K:Nat→S38) (p:Nat):sw K p (p+1)=K p:=by unfold sw;rw[Yy (by omega),Yx rfl]
theorem sw_off (K:Nat→S38) (p x:Nat) (h:x≠p) (h1:x≠p+1):sw K p x=K x:=by unfold sw;rw[Yy h,Yy h1]
theorem sw_mix (K:Nat→S38) (p a b:Nat) (ha:a≤p) (hb:p+1<b):Mix K (sw K p) a b:=by
 refine⟨fun x hx=>sw_off K p x (by omega) (by omega),fun x h1 h2=> ?_,fun x h1 h2=> ?_⟩
 ·by_cases e:x=p
  ·subst e;exact⟨x+1,by omega,by omega,sw_at K x⟩
  ·by_cases e2:x=p+1
   ·subst e2;exact⟨p,by omega,by omega,sw_at1 K p⟩
   ·exact⟨x,h1,h2,sw_off K p x e e2⟩
 ·by_cases e:x=p
  ·subst e;exact⟨x+1,by omega,by omega,sw_at1 K x⟩
  ·by_cases e2:x=p+1
   ·subst e2;exact⟨p,by omega,by omega,sw_at K p⟩
   ·exact⟨x,h1,h2,sw_off K p x e e2⟩
theorem sw_stab {K:Nat→S38} {p N:Nat} (h:Stab K N) (hp:p+1<N) (hlt:(K (p+1)).f0<(K p).f0):Stab (sw K p) N:=by
 intro i j hij hj he;have h0: ∀ x,x=p∨x=p+1∨(x≠p∧x≠p+1):=fun x=>by omega
 rcases h0 i with rfl|rfl|⟨i1,i2⟩<;>rcases h0 j with e|e|⟨j1,j2⟩
 ·omega
 ·subst e;rw[sw_at,sw_at1] at he;omega
 ·rw[sw_at,sw_off _ _ _ j1 j2] at he ⊢;exact h _ _ (by omega) hj he
 ·omega
 ·omega
 ·rw[sw_at1,sw_off _ _ _ j1 j2] at he ⊢;exact h _ _ (by omega) hj he
 ·subst e;rw[sw_at,sw_off _ _ _ i1 i2] at he ⊢;exact h _ _ (by omega) (by omega) he
 ·subst e;rw[sw_at1,sw_off _ _ _ i1 i2] at he ⊢;exact h _ _ (by omega) (by omega) he
 ·rw[sw_off _ _ _ i1 i2,sw_off _ _ _ j1 j2] at he ⊢;exact h _ _ hij hj he
def Hole (K:Nat→S38) (a k j:Nat):Prop:=
 (∀ x y,a≤x→x<y→y≤k→x≠j→y≠j→(K x).f0≤(K y).f0)∧(∀ y,j<y→y≤k→(K j).f0≤(K y).f0)
theorem hole_start {K:Nat→S38} {a k:Nat} (h:Le K a k):Hole K a k k:=⟨fun x y h1 h2 h3 h4 h5=>h x y h1 h2 (by omega),fun y h1 h2=>by omega⟩
theorem hole_stop {K:Nat→S38} {a k j:Nat} (h:Hole K a k j) (hj:j=a∨(a<j∧(K (j - 1)).f0≤(K j).f0)):Le K a (k+1):=by
 intro x y h1 h2 h3;by_cases e1:x=j
 ·subst e1;exact h.2 y h2 (by omega)
 ·by_cases e2:y=j
  ·subst e2
   rcases hj with hj|⟨hj,hle⟩
   ·omega
   ·by_cases e3:x=y - 1
    ·subst e3;exact hle
    ·exact Int.le_trans (h.1 x (y - 1) h1 (by omega) (by omega) e1 (by omega)) hle
  ·exact h.1 x y h1 h2 (by omega) e1 e2
theorem hole_swap {K:Nat→S38} {a k p:Nat} (h:Hole K a k (p+1)) (ha:a≤p) (hk:p+1≤k) (hlt:(K (p+1)).f0<(K p).f0):Hole (sw K p) a k p:=by
 refine⟨fun x y h1 h2 h3 h4 h5=> ?_,fun y h1 h2=> ?_⟩
 ·by_cases e1:x=p+1
  ·subst e1;rw[sw_at1,sw_off _ _ _ h5 (by omega)];exact h.1 p y (by omega) (by omega) h3 (by omega) (by omega)
  ·by_cases e2:y=p+1
   ·subst e2;rw[sw_at1,sw_off _ _ _ h4 e1];exact h.1 x p h1 (by omega) (by omega) e1 (by omega)
   ·rw[sw_off _ _ _ h4 e1,sw_off _ _ _ h5 e2];exact h.1 x y h1 h2 h3 e1 e2
 ·rw[sw_at]
  by_cases e2:y=p+1
  ·subst e2;rw[sw_at1];omega
  ·rw[sw_off _ _ _ (by omega) e2];exact h.2 y (by omega) h2
def Sorted (M K:Nat→S38) (N a b:Nat):Prop:=Mix M K a b∧Stab K N∧Small K N∧Le K a b
theorem le_one (K:Nat→S38) (a b:Nat) (h:b≤a+1):Le K a b:=fun i j h1 h2 h3=>by omega
theorem rot_lo (M:Nat→S38) {s m e x:Nat} (h1:s≤x) (h2:x<s+(e - m)) (h3:m≤e) (h4:s≤m):rotM M s m e x=M (x+(m - s)):=by
 unfold rotM;rw[Yx (by omega),Yx h2]
theorem rot_hi (M:Nat→S38) {s m e x:Nat} (h1:s+(e - m)≤x) (h2:x<e) (h4:s≤m):rotM M s m e x=M (x - (e - m)):=by
 unfold rotM;rw[Yx (by omega),Yy (by omega)]
theorem rot_off (M:Nat→S38) {s m e x:Nat} (h: ¬ (s≤x∧x<e)):rotM M s m e x=M x:=by
 unfold rotM;rw[Yy h]
theorem rot_mix (M:Nat→S38) {s m e:Nat} (h1:s≤m) (h2:m≤e):Mix M (rotM M s m e) s e:=by
 refine⟨fun x hx=>rot_off M hx,fun x h3 h4=> ?_,fun x h3 h4=> ?_⟩
 ·by_cases c:x<s+(e - m)
  ·exact⟨x+(m - s),by omega,by omega,rot_lo M h3 c h2 h1⟩
  ·exact⟨x - (e - m),by omega,by omega,rot_hi M (by omega) h4 h1⟩
 ·by_cases c:x<m
  ·refine⟨x+(e - m),by omega,by omega,?_⟩
   rw[rot_hi M (by omega) (by omega) h1];congr 1;omega
  ·refine⟨x - (m - s),by omega,by omega,?_⟩
   rw[rot_lo M (by omega) (by omega) h2 h1];congr 1;omega
theorem rot_stab {M:Nat→S38} {N s m e:Nat} (h:Stab M N) (h1:s≤m) (h2:m≤e) (he:e≤N) (hc: ∀ x y,s≤x→x<m→m≤y→y<e→(M y).f0<(M x).f0):Stab (rotM M s m e) N:=by
 intro i j hij hj heq;have h0: ∀ x, ¬ (s≤x∧x<e)∨(s≤x∧x<s+(e - m))∨(s+(e - m)≤x∧x<e):=fun x=>by omega
 rcases h0 i with a1|⟨a1,a2⟩|⟨a1,a2⟩<;>rcases h0 j with b1|⟨b1,b2⟩|⟨b1,b2⟩
 ·rw[rot_off M a1,rot_off M b1] at heq ⊢;exact h _ _ hij hj heq
 ·rw[rot_off M a1,rot_lo M b1 b2 h2 h1] at heq ⊢;exact h _ _ (by omega) (by omega) heq
 ·rw[rot_off M a1,rot_hi M b1 b2 h1] at heq ⊢;exact h _ _ (by omega) (by omega) heq
 ·rw[rot_lo M a1 a2 h2 h1,rot_off M b1] at heq ⊢;exact h _ _ (by omega) (by omega) heq
 ·rw[rot_lo M a1 a2 h2 h1,rot_lo M b1 b2 h2 h1] at heq ⊢;exact h _ _ (by omega) (by omega) heq
 ·rw[rot_lo M a1 a2 h2 h1,rot_hi M b1 b2 h1] at heq;have:=hc (j - (e - m)) (i+(m - s)) (by omega) (by omega) (by omega) (by omega);omega
 ·rw[rot_hi M a1 a2 h1,rot_off M b1] at heq ⊢;exact h _ _ (by omega) (by omega) heq
 ·omega
 ·rw[rot_hi M a1 a2 h1,rot_hi M b1 b2 h1] at heq ⊢;exact h _ _ (by omega) (by omega) heq
theorem rot_none (M:Nat→S38) {s m e:Nat} (h1:s≤m) (h2:m≤e) (h:s=m∨m=e) (x:Nat):rotM M s m e x=M x:=by
 by_cases c:s≤x∧x<e
 ·rcases h with h|h
  ·subst h;rw[rot_lo M c.1 (by omega) h2 h1];congr 1;omega
  ·subst h;rw[rot_hi M (by omega) c.2 h1];congr 1;omega
 ·exact rot_off M c
theorem le_le {K:Nat→S38} {a b x y:Nat} (h:Le K a b) (h1:a≤x) (h2:x≤y) (h3:y<b):(K x).f0≤(K y).f0:=by
 by_cases e:x=y
 ·subst e;exact Int.le_refl _
 ·exact h x y h1 (by omega) h3
theorem le_join {K:Nat→S38} {a m b:Nat} (h1:Le K a m) (h2:Le K m b) (hc: ∀ x y,a≤x→x<m→m≤y→y<b→(K x).f0≤(K y).f0):Le K a b:=by
 intro i j hi hij hj;by_cases e:j<m
 ·exact h1 i j hi hij e
 ·by_cases e2:i<m
  ·exact hc i j hi e2 (by omega) hj
  ·exact h2 i j (by omega) hij hj
theorem rot_one_lo {M:Nat→S38} {a b i:Nat} (h:Le M (a+1) b) (h1:a+1≤i) (h2:i≤b) (hlt: ∀ y,a+1≤y→y<i→(M y).f0<(M a).f0) (hge: ∀ y,i≤y→y<b→(M a).f0≤(M y).f0):Le (rotM M a (a+1) i) a b:=by
 have lo: ∀ x,a≤x→x+1<i→rotM M a (a+1) i x=M (x+1):=fun x h3 h4=>by rw[rot_lo M h3 (by omega) h1 (by omega)];congr 1;omega
 have at_:rotM M a (a+1) i (i - 1)=M a:=by rw[rot_hi M (by omega) (by omega) (by omega)];congr 1;omega
 have hi: ∀ x,i≤x→rotM M a (a+1) i x=M x:=fun x h3=>rot_off M (by omega)
 intro x y h3 h4 h5;by_cases c1:x+1<i
 ·rw[lo x h3 c1]
  by_cases c2:y+1<i
  ·rw[lo y (by omega) c2];exact h _ _ (by omega) (by omega) (by omega)
  ·by_cases c3:y=i - 1
   ·subst c3;rw[at_];have:=hlt (x+1) (by omega) c1;omega
   ·rw[hi y (by omega)];exact h _ _ (by omega) (by omega) (by omega)
 ·by_cases c2:x=i - 1
  ·subst c2;rw[at_,hi y (by omega)];exact hge y (by omega) h5
  ·rw[hi x (by omega),hi y (by omega)];exact h _ _ (by omega) h4 h5
theorem rot_one_hi {M:Nat→S38} {a m i:Nat} (h:Le M a m) (h1:a≤i) (h2:i≤m) (hle: ∀ y,a≤y→y<i→(M y).f0≤(M m).f0) (hgt: ∀ y,i≤y→y<m→(M m).f0<(M y).f0):Le (rotM M i m (m+1)) a (m+1):=by
 have lo: ∀ x,x<i→rotM M i m (m+1) x=M x:=fun x h3=>rot_off M (by omega)
 have at_:rotM M i m (m+1) i=M m:=by rw[rot_lo M (Nat.le_refl _) (by omega) (by omega) h2];congr 1;omega
 have hi: ∀ x,i<x→x<m+1→rotM M i m (m+1) x=M (x - 1):=fun x h3 h4=>by rw[rot_hi M (by omega) h4 h2];congr 1;omega
 intro x y h3 h4 h5;by_cases c1:x<i
 ·rw[lo x c1]
  by_cases c2:y<i
  ·rw[lo y c2];exact h _ _ h3 h4 (by omega)
  ·by_cases c3:y=i
   ·subst c3;rw[at_];exact hle x h3 c1
   ·rw[hi y (by omega) h5];exact h _ _ h3 (by omega) (by omega)
 ·by_cases c2:x=i
  ·subst c2;rw[at_,hi y h4 h5];have:=hgt (y - 1) (by omega) (by omega);omega
  ·rw[hi x (by omega) (by omega),hi y (by omega) h5];exact h _ _ (by omega) (by omega) (by omega)
theorem sym_rot {M:Nat→S38} {a m b mid s e N:Nat} (h1:Le M a m) (h2:Le M m b) (has:a≤s) (hsm:s≤m) (hme:m≤e) (heb:e≤b) (hsum:s+e=mid+m) (hsmid:s≤mid) (hmide:mid≤e)
  (hge:a<s→e<b→(M (s - 1)).f0≤(M e).f0) (hlt:s<m→m<e→(M (e - 1)).f0<(M s).f0) (hst:Stab M N) (hb:b≤N):
  Stab (rotM M s m e) N∧Le (rotM M s m e) a s∧Le (rotM M s m e) s mid∧Le (rotM M s m e) mid e∧Le (rotM M s m e) e b∧ ∀ x y,a≤x→x<mid→mid≤y→y<b→(rotM M s m e x).f0≤(rotM M s m e y).f0:=by
 have hx: ∀ x y,s≤x→x<m→m≤y→y<e→(M y).f0<(M x).f0:=fun x y h3 h4 h5 h6=>by
  have k1:=hlt (by omega) (by omega);have k2:(M y).f0≤(M (e - 1)).f0:=le_le h2 h5 (by omega) (by omega);have k3:(M s).f0≤(M x).f0:=le_le h1 has h3 h4;omega
 have hy: ∀ x y,a≤x→x<s→e≤y→y<b→(M x).f0≤(M y).f0:=fun x y h3 h4 h5 h6=>by
  have k1:=hge (by omega) (by omega);have k2:(M x).f0≤(M (s - 1)).f0:=le_le h1 h3 (by omega) (by omega);have k3:(M e).f0≤(M y).f0:=le_le h2 hme h5 h6;omega
 have p1: ∀ x,x<s→rotM M s m e x=M x:=fun x h=>rot_off M (by omega)
 have p2: ∀ x,s≤x→x<mid→rotM M s m e x=M (x+(m - s)):=fun x h3 h4=>rot_lo M h3 (by omega) hme hsm
 have p3: ∀ x,mid≤x→x<e→rotM M s m e x=M (x - (e - m)):=fun x h3 h4=>rot_hi M (by omega) h4 hsm
 have p4: ∀ x,e≤x→rotM M s m e x=M x:=fun x h=>rot_off M (by omega)
 refine⟨rot_stab hst hsm hme (by omega) hx,?_,?_,?_,?_,?_⟩
 ·intro x y h3 h4 h5;rw[p1 x (by omega),p1 y h5];exact h1 _ _ h3 h4 (by omega)
 ·intro x y h3 h4 h5;rw[p2 x h3 (by omega),p2 y (by omega) h5];exact h2 _ _ (by omega) (by omega) (by omega)
 ·intro x y h3 h4 h5;rw[p3 x h3 (by omega),p3 y (by omega) h5];exact h1 _ _ (by omega) (by omega) (by omega)
 ·intro x y h3 h4 h5;rw[p4 x h3,p4 y (by omega)];exact h2 _ _ (by omega) h4 h5
 ·intro x y h3 h4 h5 h6
  by_cases c1:x<s
  ·rw[p1 x c1]
   by_cases c2:y<e
   ·rw[p3 y h5 c2];exact le_le h1 h3 (by omega) (by omega)
   ·rw[p4 y (by omega)];exact hy x y h3 c1 (by omega) h6
  ·rw[p2 x (by omega) h4]
   by_cases c2:y<e
   ·rw[p3 y h5 c2];exact Int.le_of_lt (hx _ _ (by omega) (by omega) (by omega) (by omega))
   ·rw[p4 y (by omega)];exact le_le h2 (by omega) (by omega) h6
theorem mix_cross {K L:Nat→S38} {a m b:Nat} (hc: ∀ x y,a≤x→x<m→m≤y→y<b→(K x).f0≤(K y).f0) (h:Mix K L a m∨Mix K L m b):
  ∀ x y,a≤x→x<m→m≤y→y<b→(L x).f0≤(L y).f0:=by
 intro x y h1 h2 h3 h4;rcases h with h|h
 ·obtain⟨z,h5,h6,e⟩:=h.2.1 x h1 h2
  rw[e,h.1 y (by omega)];exact hc z y h5 h6 h3 h4
 ·obtain⟨z,h5,h6,e⟩:=h.2.1 y h3 h4
  rw[e,h.1 x (by omega)];exact hc x z h1 h2 h5 h6
theorem mix_le {K L:Nat→S38} {a b c d:Nat} (h:Mix K L c d) (hd:b≤c∨d≤a) (hl:Le K a b):Le L a b:=fun i j h1 h2 h3=>by
 rw[h.1 i (by omega),h.1 j (by omega)];exact hl i j h1 h2 h3
theorem sw_rot_lo (M:Nat→S38) {a k:Nat} (h:a≤k) (x:Nat):sw (rotM M a (a+1) (k+1)) k x=rotM M a (a+1) (k+2) x:=by
 unfold sw rotM;by_cases e1:x=k
 ·subst e1;rw[Yx rfl,Yy (by omega),Yx (by omega),Yx (by omega)];congr 1;omega
 ·rw[Yy e1]
  by_cases e2:x=k+1
  ·subst e2;rw[Yx rfl,Yx (by omega),Yy (by omega),Yx (by omega),Yy (by omega)];congr 1;omega
  ·rw[Yy e2]
   by_cases e3:a≤x∧x<k
   ·rw[Yx (by omega),Yx (by omega),Yx (by omega),Yx (by omega)]
   ·rw[Yy (by omega),Yy (by omega)]
theorem sw_rot_hi (M:Nat→S38) {k m:Nat} (h:k<m) (x:Nat):sw (rotM M (k+1) m (m+1)) k x=rotM M k m (m+1) x:=by
 unfold sw rotM;by_cases e1:x=k
 ·subst e1;rw[Yx rfl,Yx (by omega),Yx (by omega),Yx (by omega),Yx (by omega)];congr 1;omega
 ·rw[Yy e1]
  by_cases e2:x=k+1
  ·subst e2;rw[Yx rfl,Yy (by omega),Yx (by omega),Yy (by omega)];congr 1;omega
  ·rw[Yy e2]
   by_cases e3:k≤x∧x<m+1
   ·rw[Yx (by omega),Yy (by omega),Yx (by omega),Yy (by omega)]
   ·rw[Yy (by omega),Yy (by omega)]
end H
namespace P
attribute [local go_sem] max2_int min2_int max_two min_two max_three min_three max_four min_four
def adj_from.f (Zc:Int) (Zb:Int) (a0_2:Int) (a0_3:Int):Option (Int):=some Zc
set_option maxHeartbeats 8000000 in
set_option maxRecDepth 100000 in
theorem adj_from.calls (Zc:Int) (Zb:Int) (a0_2:Int) (a0_3:Int) (r:Int) (w:World) (h:adj_from.f Zc Zb a0_2 a0_3=some r):
  Calls Try.prog 160 #[.agg #[.int .i64 Zc, .int .i64 Zb, .int .i64 a0_2, .int .i64 a0_3]] w fun e w'=>e= .returned (.int .i64 r)∧Below w.heap.size w w':=by
 have hu74:=Try.underlying74;have HB:=Ya (Yo w.heap.size w);have H:(some Zc)=some r:=h;clear h;obtain rfl:=Option.some.inj H;go_enter Try.func160,Try.ntmps160;go_wp2_with (first|((with_reducible refine gate_dst (N:=1) rfl ?_);refine Yz ?hg (N:=1) ?hd (cs:= #[.int .i64 Zc, .int .i64 Zb, .int .i64 a0_2, .int .i64 a0_3]) (t:=74) ?hr ?_;(case hd=>rfl);(case hg=>rfl);(case hr=>first|(go_simp;done)|(go_simp;rfl));intro gb192 hg w2 Zf hb;have n0_:=Ya (Yk (by repeat(first|(with_reducible first|exact HB.out|apply Ye|apply Yd|apply Yg)|exact HB.out)) hb);have n1_:=Ya (Zf);have n2_:=Ya ((by rw[hg];exact(Yi (by repeat(first|(with_reducible first|exact HB.out|apply Ye|apply Yd|apply Yg)|exact HB.out))):w.heap.size≤gb192));have n3_:=Ya ((by rw[hg];exact(Yi (by repeat(first|(with_reducible first|exact HB.out|apply Ye|apply Yd|apply Yg)|exact HB.out))):w.heap.size≤gb192));clear HB;have HB:=n0_;have BK192:=n1_;have GW192:=n2_;have GE192:=n3_;clear n0_ n1_ n2_ n3_;clear hb Zf hg;have hcz3_0:w2.cell? ⟨gb192,0,none⟩=some (.int .i64 Zc):=(Yc BK192.out 0).trans rfl;have hcz3_1:w2.cell? ⟨gb192,1,none⟩=some (.int .i64 Zb):=(Yc BK192.out 1).trans rfl;have hcz3_2:w2.cell? ⟨gb192,2,none⟩=some (.int .i64 a0_2):=(Yc BK192.out 2).trans rfl;have hcz3_3:w2.cell? ⟨gb192,3,none⟩=some (.int .i64 a0_3):=(Yc BK192.out 3).trans rfl;have hfz3_0:=Yf BK192.out 0;have hfz3_1:=Yf BK192.out 1;have hfz3_2:=Yf BK192.out 2;have hfz3_3:=Yf BK192.out 3));go_ret;exact⟨by first|rfl|(simp[errW_none,errW_some]<;>rfl)|(simp[*,errW_none,errW_some]<;>rfl),by repeat(first|(with_reducible first|exact HB.out|apply Ye|apply Yd|apply Yg|refine Yh ?_ GE192.out)|exact HB.out)⟩
end P
namespace P
attribute [local go_sem] max2_int min2_int max_two min_two max_three min_three max_four min_four
def adj_to.f (Zc:Int) (Zb:Int) (a0_2:Int) (a0_3:Int):Option (Int):=some Zb
set_option maxHeartbeats 8000000 in
set_option maxRecDepth 100000 in
theorem adj_to.calls (Zc:Int) (Zb:Int) (a0_2:Int) (a0_3:Int) (r:Int) (w:World) (h:adj_to.f Zc Zb a0_2 a0_3=some r):
  Calls Try.prog 161 #[.agg #[.int .i64 Zc, .int .i64 Zb, .int .i64 a0_2, .int .i64 a0_3]] w fun e w'=>e= .returned (.int .i64 r)∧Below w.heap.size w w':=by
 have hu74:=Try.underlying74;have HB:=Ya (Yo w.heap.size w);have H:(some Zb)=some r:=h;clear h;obtain rfl:=Option.some.inj H;go_enter Try.func161,Try.ntmps161;go_wp2_with (first|((with_reducible refine gate_dst (N:=1) rfl ?_);refine Yz ?hg (N:=1) ?hd (cs:= #[.int .i64 Zc, .int .i64 Zb, .int .i64 a0_2, .int .i64 a0_3]) (t:=74) ?hr ?_;(case hd=>rfl);(case hg=>rfl);(case hr=>first|(go_simp;done)|(go_simp;rfl));intro gb194 hg w2 Zf hb;have n0_:=Ya (Yk (by repeat(first|(with_reducible first|exact HB.out|apply Ye|apply Yd|apply Yg)|exact HB.out)) hb);have n1_:=Ya (Zf);have n2_:=Ya ((by rw[hg];exact(Yi (by repeat(first|(with_reducible first|exact HB.out|apply Ye|apply Yd|apply Yg)|exact HB.out))):w.heap.size≤gb194));have n3_:=Ya ((by rw[hg];exact(Yi (by repeat(first|(with_reducible first|exact HB.out|apply Ye|apply Yd|apply Yg)|exact HB.out))):w.heap.size≤gb194));clear HB;have HB:=n0_;have BK194:=n1_;have GW194:=n2_;have GE194:=n3_;clear n0_ n1_ n2_ n3_;clear hb Zf hg;have hcz3_0:w2.cell? ⟨gb194,0,none⟩=some (.int .i64 Zc):=(Yc BK194.out 0).trans rfl;have hcz3_1:w2.cell? ⟨gb194,1,none⟩=some (.int .i64 Zb):=(Yc BK194.out 1).trans rfl;have hcz3_2:w2.cell? ⟨gb194,2,none⟩=some (.int .i64 a0_2):=(Yc BK194.out 2).trans rfl;have hcz3_3:w2.cell? ⟨gb194,3,none⟩=some (.int .i64 a0_3):=(Yc BK194.out 3).trans rfl;have hfz3_0:=Yf BK194.out 0;have hfz3_1:=Yf BK194.out 1;have hfz3_2:=Yf BK194.out 2;have hfz3_3:=Yf BK194.out 3));go_ret;exact⟨by first|rfl|(simp[errW_none,errW_some]<;>rfl)|(simp[*,errW_none,errW_some]<;>rfl),by repeat(first|(with_reducible first|exact HB.out|apply Ye|apply Yd|apply Yg|refine Yh ?_ GE194.out)|exact HB.out)⟩
end P
namespace H
open P
theorem infoRow:(Try.prog.info? 25).map (fun i=>(i.zero,i.size,i.bytes))=some (some (.slice none 0 0),1,24):=by kernel_rfl
def eFrom (x:S74):Int:=x.f0
def eTo (x:S74):Int:=x.f1
def lsAt (E:S74→Int) (l:List S74) (n:Nat):Nat→List (List Int)
 |0=>List.replicate n []
 |k+1=>(lsAt E l n k).set (E (rd_T74 l k)).toNat (rd_L7 (lsAt E l n k) (E (rd_T74 l k)) ++ [(k:Int)])
theorem lsAt_len (E:S74→Int) (l:List S74) (n k:Nat):(lsAt E l n k).length=n:=by
 induction k with
 |zero=>exact List.length_replicate
 |succ k ih=>show (List.set _ _ _).length=n;rw[List.length_set,ih]
theorem lsAt_row (E:S74→Int) (l:List S74) (n k:Nat) (i:Int):(rd_L7 (lsAt E l n k) i).length≤k:=by
 induction k generalizing i with
 |zero=>
  unfold rd_L7 lsAt;rw[List.getD_eq_getElem?_getD,List.getElem?_replicate];split<;>simp
 |succ k ih=>
  unfold rd_L7;show ((List.set _ _ _).getD i.toNat []).length≤k+1;rw[List.getD_eq_getElem?_getD,List.getElem?_set];have hi:=ih i;unfold rd_L7 at hi;rw[List.getD_eq_getElem?_getD] at hi;split
  ·split
   ·have:=ih (E (rd_T74 l k))
    simp only[Option.getD_some,List.length_append,List.length_cons,List.length_nil];omega
   ·simp
  ·omega
set_option maxHeartbeats 4000000 in
set_option maxRecDepth 100000 in
theorem listsFrom_calls (Zc:Int) (Zb:Bool) (Ze:Option Addr) (Zd:Nat) (Za:List S74) (w:World) (Zr:Kd.C k74 w Ze Za.length Za) (Zs:Za.length≤Zd) (h0:0≤Zc) (h1:Zc≤1000000) (hl:Za.length≤1000000) (hE: ∀ k:Nat,k<Za.length→0≤eFrom (rd_T74 Za k)∧eFrom (rd_T74 Za k)<Zc):
  Calls Try.prog 159 #[.agg #[.int .i64 Zc, .bool Zb, .slice Ze Za.length Zd], .func (.func 160) #[] #[]] w fun e w'=> ∃ v0_:Value,e= .returned v0_∧Kd.S (Kd.slice 3 (Kd.int .i64)) 25 w' w.heap.size (fun _=>True) v0_ (lsAt eFrom Za Zc.toNat Za.length)∧Below w.heap.size w w':=by
 have hu24:=Try.underlying24;have hu74:=Try.underlying74;have Zl:=Ya Zr;have Zv:=Ya Zs;have HE:=Ya hE;clear Zr Zs hE;have HB:=Ya (Yo w.heap.size w);have c2b1:decide (0≤Zc)=true:=Yv h0;have c3b1:decide ((Zc:Int).toNat≤11728124029610)=true:=Yv (by omega);have c2b0:=eq_true h0;have c3b0:((Zc:Int).toNat≤11728124029610)=True:=eq_true (by omega);have HH0:=Ya h0;have HH1:=Ya h1;clear h0 h1;go_enter Try.func159,Try.ntmps159;go_wp2_with (first|((with_reducible refine gate_dst (N:=2) rfl ?_);refine Yz ?hg (N:=2) ?hd (cs:= #[.int .i64 Zc, .bool Zb, .slice Ze Za.length Zd]) (t:=24) ?hr ?_;(case hd=>rfl);(case hg=>rfl);(case hr=>first|(go_simp;done)|(go_simp;rfl));intro Wc hg w4 Zf hb;have n0_:=Ya (Yk (by repeat(first|(with_reducible first|exact HB.out|apply Ye|apply Yd|apply Yg)|exact HB.out)) hb);have n1_:=Ya (Zf);have n3_:=Ya ((by rw[hg];exact(Yi (by repeat(first|(with_reducible first|exact HB.out|apply Ye|apply Yd|apply Yg)|exact HB.out))):w.heap.size≤Wc));clear HB;have HB:=n0_;have Zx:=n1_;have Jc:=n3_;clear n0_ n1_ n3_;clear hb Zf hg;have hcz5_0:w4.cell? ⟨Wc,0,none⟩=some (.int .i64 Zc):=(Yc Zx.out 0).trans rfl;have hcz5_1:w4.cell? ⟨Wc,1,none⟩=some (.bool Zb):=(Yc Zx.out 1).trans rfl;have hcz5_2:w4.cell? ⟨Wc,2,none⟩=some (.slice Ze Za.length Zd):=(Yc Zx.out 2).trans rfl;have hfz5_0:=Yf Zx.out 0;have hfz5_1:=Yf Zx.out 1;have hfz5_2:=Yf Zx.out 2)|((with_reducible refine gate_dst (N:=11) rfl ?_);refine Kd.S_make (Kd.slice 3 (Kd.int .i64)) _ 25 rfl (N:=11) rfl 154 _ _ rfl Zc rfl rfl Try.underlying154 (.slice none 0 0) 24 infoRow rfl (by decide) (by omega) [] (ok:=fun _=>True) (okp:=fun _=>True) ⟨_,rfl,Kd.R_nil _ _ _ _ _⟩ (fun _ hk=>hk) trivial (Yu (by first|(with_reducible assumption)|assumption)) (Nat.le_trans (Nat.mul_le_mul_right _ (Yu (by first|(with_reducible assumption)|assumption):Zc.toNat≤11728124029610)) (by omega)) (Yo _ _) (Nat.le_refl _) ?_;intro v113 w6 ho7 hb hg_ hnew_;clear hg_ hnew_;have n0_:=Ya (Kd.S_lower ho7 (Yi (by repeat(first|(with_reducible first|exact HB.out|apply Ye|apply Yd|apply Yg|refine Yh ?_ Jc.out)|exact HB.out))));have n1_:=Ya (Yn (g:=Wc) (o:= .cells #[.int .i64 Zc, .bool Zb, .slice Ze Za.length Zd] 24 (0,0)) (by(with_reducible repeat(first|refine Yl ?_ _|refine Ym ?_|refine Yj ?_ _));exact Zx.out) hb);have n2_:=Ya (Yk (by repeat(first|(with_reducible first|exact HB.out|apply Ye|apply Yd|apply Yg|refine Yh ?_ Jc.out)|exact HB.out)) hb);clear Zx;clear HB;have HO114:=n0_;have Zx:=n1_;have HB:=n2_;clear n0_ n1_ n2_;clear hb ho7;have hcz8_0:w6.cell? ⟨Wc,0,none⟩=some (.int .i64 Zc):=(Yc Zx.out 0).trans rfl;have hcz8_1:w6.cell? ⟨Wc,1,none⟩=some (.bool Zb):=(Yc Zx.out 1).trans rfl;have hcz8_2:w6.cell? ⟨Wc,2,none⟩=some (.slice Ze Za.length Zd):=(Yc Zx.out 2).trans rfl;have hfz8_0:=Yf Zx.out 0;have hfz8_1:=Yf Zx.out 1;have hfz8_2:=Yf Zx.out 2));go_loopw [15] (fun v15 w'=> ∃ k:Nat,k≤Za.length∧v15= .int .i64 k∧Aside0 (Kd.S (Kd.slice 3 (Kd.int .i64)) 25 w' w.heap.size (fun _=>True) v113 (lsAt eFrom Za Zc.toNat k))∧Aside0 (w'.heap[Wc]? =some (.cells #[.int .i64 Zc, .bool Zb,(.slice Ze Za.length Zd)] 24 (0,0)))∧Aside0 (Below w.heap.size w w')) (fun v15 _=>Za.length - (intOf v15).toNat)
 case atStart=>exact⟨0,Nat.zero_le _,rfl,⟨by(with_reducible repeat(first|apply Kd.S_alloc|apply Kd.S_drewN|apply Kd.S_drew));exact HO114.out⟩,⟨by(with_reducible repeat(first|refine Yl ?_ _|refine Ym ?_|refine Yj ?_ _));exact Zx.out⟩,⟨(by repeat(first|(with_reducible first|exact HB.out|apply Ye|apply Yd|apply Yg|refine Yh ?_ Jc.out)|exact HB.out))⟩⟩
 case round=>
  try clear c2b0
  try clear c2b1
  try clear c3b0
  try clear c3b1
  try clear hcz5_0 hcz5_1 hcz5_2 hcz8_0 hcz8_1 hcz8_2 hfz5_0 hfz5_1 hfz5_2 hfz8_0 hfz8_1 hfz8_2
  clear HO114 Zx HB;obtain⟨k,hk,rfl,HO_3,Zx,HB⟩:=hrel;by_cases hlt:k<Za.length
  ·have hEk:=HE.out k hlt
   obtain⟨ex,hex0⟩: ∃ ex,eFrom (rd_T74 Za (k:Int))=ex:=⟨_,rfl⟩;have hex:=Ya hex0;have LSN:Aside0 (lsAt eFrom Za Zc.toNat (k+1)=(lsAt eFrom Za Zc.toNat k).set (ex:Int).toNat (rd_L7 (lsAt eFrom Za Zc.toNat k) ex ++ [(k:Int)])):=⟨by rw[← hex0];rfl⟩;rw[hex0] at hEk;clear hex0;have hlen:=lsAt_len eFrom Za Zc.toNat k;have c12b0:decide (0≤ex)=true:=Yv hEk.1;have c13b0:decide (ex<((lsAt eFrom Za Zc.toNat k).length:Int))=true:=Yv (by rw[hlen];have:=HH0.out;omega);have LMc14:Aside0 ((rd_L7 (lsAt eFrom Za Zc.toNat k) ex).length<17592186044416):=⟨by have:=lsAt_row eFrom Za Zc.toNat k ex;omega⟩;clear hEk hlen;have p115:0≤((k:Nat):Int):=by omega
   have q115:((k:Nat):Int)<(Za.length:Int):=by omega
   obtain⟨ad115,e115,hx115_0,hx115_1,hx115_2,hx115_3⟩:=at_T74 Zl.out (k:Int) p115 q115;simp only[Int.toNat_natCast] at hx115_0 hx115_1 hx115_2 hx115_3;cases e115;replace hx115_0:=(HB.out.cell (Yb w _ hx115_0)).trans hx115_0;replace hx115_1:=(HB.out.cell (Yb w _ hx115_1)).trans hx115_1;replace hx115_2:=(HB.out.cell (Yb w _ hx115_2)).trans hx115_2;replace hx115_3:=(HB.out.cell (Yb w _ hx115_3)).trans hx115_3;have c9b0:decide ((k:Int)<(Za.length:Int))=true:=Yv q115;go_wp2_with (first|((with_reducible refine gate_dst (N:=7) rfl ?_);refine Yz ?hg (N:=7) ?hd (cs:= #[.int .i64 0, .int .i64 0, .int .i64 0, .int .i64 0]) (t:=74) ?hr ?_;(case hd=>rfl);(case hg=>rfl);(case hr=>first|(go_simp;done)|(go_simp;rfl));intro Xr hg w16 Zf hb;have n0_:=Ya (Kd.S_below (by(with_reducible repeat(first|apply Kd.S_alloc|apply Kd.S_drewN|apply Kd.S_drew));exact HO_3.out) hb);have n1_:=Ya (Yn (g:=Wc) (o:=(.cells #[.int .i64 Zc, .bool Zb, .slice (some ad115) Za.length Zd] 24 (0,0))) (by(with_reducible repeat(first|refine Yl ?_ _|refine Ym ?_|refine Yj ?_ _));exact Zx.out) hb);have n2_:=Ya (Yk (by repeat(first|(with_reducible first|exact HB.out|apply Ye|apply Yd|apply Yg|refine Yh ?_ Jc.out)|exact HB.out)) hb);have n3_:=Ya (Zf);have n5_:=Ya ((by rw[hg];exact(Yi (by repeat(first|(with_reducible first|exact HB.out|apply Ye|apply Yd|apply Yg|refine Yh ?_ Jc.out)|exact HB.out))):w.heap.size≤Xr));have n6_:=Ya ((by rw[hg];exact Nat.ne_of_lt (blk_lt (g:=Wc) (o:=(.cells #[.int .i64 Zc, .bool Zb, .slice (some ad115) Za.length Zd] 24 (0,0))) (by(with_reducible repeat(first|refine Yl ?_ _|refine Ym ?_|refine Yj ?_ _));exact Zx.out)):Wc≠Xr));have n7_:=Ya ((by rw[hg];exact Nat.ne_of_gt (blk_lt (g:=Wc) (o:=(.cells #[.int .i64 Zc, .bool Zb, .slice (some ad115) Za.length Zd] 24 (0,0))) (by(with_reducible repeat(first|refine Yl ?_ _|refine Ym ?_|refine Yj ?_ _));exact Zx.out)):Xr≠Wc));clear HO_3;clear Zx;clear HB;have HO_3:=n0_;have Zx:=n1_;have HB:=n2_;have Xt:=n3_;have GE116:=n5_;have Ua:=n6_;have NB116_111:=n7_;clear n0_ n1_ n2_ n3_ n5_ n6_ n7_;clear hb Zf hg;have hnb17:=NB116_111.out;have hnc17:=Ua.out;have hcz18_0:w16.cell? ⟨Xr,0,none⟩=some (.int .i64 0):=(Yc Xt.out 0).trans rfl;have hcz18_1:w16.cell? ⟨Xr,1,none⟩=some (.int .i64 0):=(Yc Xt.out 1).trans rfl;have hcz18_2:w16.cell? ⟨Xr,2,none⟩=some (.int .i64 0):=(Yc Xt.out 2).trans rfl;have hcz18_3:w16.cell? ⟨Xr,3,none⟩=some (.int .i64 0):=(Yc Xt.out 3).trans rfl;have hfz18_0:=Yf Xt.out 0;have hfz18_1:=Yf Xt.out 1;have hfz18_2:=Yf Xt.out 2;have hfz18_3:=Yf Xt.out 3)|((with_reducible refine gate_store (t:=74) (p:=7) rfl ?_);refine store_event (t:=74) (p:=7) (v:= ?vo_w19) (w1:=((((w16.setCell ⟨Xr,0,none⟩ (.int .i64 (rd_T74 Za (k:Int)).f0)).setCell ⟨Xr,1,none⟩ (.int .i64 (rd_T74 Za (k:Int)).f1)).setCell ⟨Xr,2,none⟩ (.int .i64 (rd_T74 Za (k:Int)).f2)).setCell ⟨Xr,3,none⟩ (.int .i64 (rd_T74 Za (k:Int)).f3))) ?hg ?ho ?hn ?hr ?_;(case ho=>rfl);(case hg=>rfl);(case hn=>rfl);(case hr=>first|(go_simp;done)|(go_simp;rfl));intro w19 hw;have n0_:Aside0 (Kd.S (Kd.slice 3 (Kd.int .i64)) 25 w19 w.heap.size (fun _=>True) v113 (lsAt eFrom Za Zc.toNat k)):=⟨(by rw[hw];exact(by(with_reducible repeat(first|apply Kd.S_alloc|apply Kd.S_drewN|apply Kd.S_drew));exact Kd.S_mono (Kd.S_far (p:=⟨Xr,3,none⟩) (Kd.S_far (p:=⟨Xr,2,none⟩) (Kd.S_far (p:=⟨Xr,1,none⟩) (Kd.S_far (p:=⟨Xr,0,none⟩) (Kd.S_types HO_3.out Xt.out (by decide)) (fun _ hk=>hk.2) (.int .i64 (rd_T74 Za (k:Int)).f0)) (fun _ hk=>hk.2) (.int .i64 (rd_T74 Za (k:Int)).f1)) (fun _ hk=>hk.2) (.int .i64 (rd_T74 Za (k:Int)).f2)) (fun _ hk=>hk.2) (.int .i64 (rd_T74 Za (k:Int)).f3)) (fun _ hk=>trivial)))⟩;have n1_:Aside0 (w19.heap[Wc]? =some (.cells #[.int .i64 Zc, .bool Zb, .slice (some ad115) Za.length Zd] 24 (0,0))):=⟨(by rw[hw];exact(by(with_reducible repeat(first|refine Yl ?_ _|refine Ym ?_|refine Yj ?_ _));refine blk_far ?_ Ua.out _;(with_reducible repeat(first|refine Yl ?_ _|refine Ym ?_|refine Yj ?_ _));refine blk_far ?_ Ua.out _;(with_reducible repeat(first|refine Yl ?_ _|refine Ym ?_|refine Yj ?_ _));refine blk_far ?_ Ua.out _;(with_reducible repeat(first|refine Yl ?_ _|refine Ym ?_|refine Yj ?_ _));refine blk_far ?_ Ua.out _;(with_reducible repeat(first|refine Yl ?_ _|refine Ym ?_|refine Yj ?_ _));exact Zx.out))⟩;have n2_:Aside0 (w19.heap[Xr]? =some (.cells #[.int .i64 (rd_T74 Za (k:Int)).f0, .int .i64 (rd_T74 Za (k:Int)).f1, .int .i64 (rd_T74 Za (k:Int)).f2, .int .i64 (rd_T74 Za (k:Int)).f3] 74 (0,0))):=⟨(by rw[hw];exact(by(with_reducible repeat(first|refine Yl ?_ _|refine Ym ?_|refine Yj ?_ _));refine YA (cs:= #[.int .i64 (rd_T74 Za (k:Int)).f0, .int .i64 (rd_T74 Za (k:Int)).f1, .int .i64 (rd_T74 Za (k:Int)).f2, .int .i64 0]) ?_ 3 _ rfl;(with_reducible repeat(first|refine Yl ?_ _|refine Ym ?_|refine Yj ?_ _));refine YA (cs:= #[.int .i64 (rd_T74 Za (k:Int)).f0, .int .i64 (rd_T74 Za (k:Int)).f1, .int .i64 0, .int .i64 0]) ?_ 2 _ rfl;(with_reducible repeat(first|refine Yl ?_ _|refine Ym ?_|refine Yj ?_ _));refine YA (cs:= #[.int .i64 (rd_T74 Za (k:Int)).f0, .int .i64 0, .int .i64 0, .int .i64 0]) ?_ 1 _ rfl;(with_reducible repeat(first|refine Yl ?_ _|refine Ym ?_|refine Yj ?_ _));refine YA (cs:= #[.int .i64 0, .int .i64 0, .int .i64 0, .int .i64 0]) ?_ 0 _ rfl;(with_reducible repeat(first|refine Yl ?_ _|refine Ym ?_|refine Yj ?_ _));exact Xt.out))⟩;have n3_:Aside0 (Below w.heap.size w w19):=⟨(by rw[hw];exact(by repeat(first|(with_reducible first|exact HB.out|apply Ye|apply Yd|apply Yg|refine Yh ?_ Jc.out|refine Yh ?_ GE116.out)|exact HB.out)))⟩;clear hw;clear HO_3;clear Zx;clear Xt;clear HB;have HO_3:=n0_;have Zx:=n1_;have Xt:=n2_;have HB:=n3_;clear n0_ n1_ n2_ n3_;have hcz20_0:w19.cell? ⟨Xr,0,none⟩=some (.int .i64 (rd_T74 Za (k:Int)).f0):=(Yc Xt.out 0).trans rfl;have hcz20_1:w19.cell? ⟨Xr,1,none⟩=some (.int .i64 (rd_T74 Za (k:Int)).f1):=(Yc Xt.out 1).trans rfl;have hcz20_2:w19.cell? ⟨Xr,2,none⟩=some (.int .i64 (rd_T74 Za (k:Int)).f2):=(Yc Xt.out 2).trans rfl;have hcz20_3:w19.cell? ⟨Xr,3,none⟩=some (.int .i64 (rd_T74 Za (k:Int)).f3):=(Yc Xt.out 3).trans rfl;have hfz20_0:=Yf Xt.out 0;have hfz20_1:=Yf Xt.out 1;have hfz20_2:=Yf Xt.out 2;have hfz20_3:=Yf Xt.out 3)|(go_at_call 160;refine(adj_from.calls (rd_T74 Za (k:Int)).f0 (rd_T74 Za (k:Int)).f1 (rd_T74 Za (k:Int)).f2 (rd_T74 Za (k:Int)).f3 _ _ rfl).mono ?_;rintro e_ w20 ⟨rfl,hb⟩;rw[show (rd_T74 Za (k:Int)).f0=ex from hex.out];have n0_:=Ya (Kd.S_below (by(with_reducible repeat(first|apply Kd.S_alloc|apply Kd.S_drewN|apply Kd.S_drew));exact HO_3.out) hb);have n1_:=Ya (Yn (g:=Wc) (o:=(.cells #[.int .i64 Zc, .bool Zb, .slice (some ad115) Za.length Zd] 24 (0,0))) (by(with_reducible repeat(first|refine Yl ?_ _|refine Ym ?_|refine Yj ?_ _));exact Zx.out) hb);have n2_:=Ya (Yk (by repeat(first|(with_reducible first|exact HB.out|apply Ye|apply Yd|apply Yg|refine Yh ?_ Jc.out|refine Yh ?_ GE116.out)|exact HB.out)) hb);clear HO_3 Zx HB Xt hcz20_0 hcz20_1 hcz20_2 hcz20_3 hfz20_0 hfz20_1 hfz20_2 hfz20_3 hb;have HO_3:=n0_;have Zx:=n1_;have HB:=n2_;clear n0_ n1_ n2_;obtain⟨Ao21,co21,eo21⟩:=Kd.S_slice HO_3.out;subst eo21;have p117:0≤(ex:Int):=(Yu (by first|(with_reducible assumption)|assumption));have q117:ex<((lsAt eFrom Za Zc.toNat k).length:Int):=(Yu (by first|(with_reducible assumption)|assumption));obtain⟨ad117,A117_0,c117_0,e117,hx117_0,hl117_0,hi117_0⟩:=at_L7 (Kd.S_reads' HO_3.out).2.2 ex p117 q117;cases e117;obtain⟨ce117,hce117,hMe117,hcc117⟩:=Kd.S_get HO_3.out [] ex p117 (by first|exact q117|(have e_:=(Kd.S_reads' HO_3.out).1;omega));obtain⟨ve117_0,rfl,ge117_0⟩:=hMe117;have hv117_0:=hcc117 0 _ rfl;rw[Nat.add_zero,show ((Kd.slice 3 (Kd.int .i64))).sz=1 from rfl,Nat.mul_one] at hv117_0;replace hv117_0:=Option.some.inj (hv117_0.symm.trans hx117_0);rw[hv117_0] at ge117_0;have HL117_0:=Ya (show Kd.R (Kd.int .i64) 3 _ _ _ _ (rd_L7 (lsAt eFrom Za Zc.toNat k) ex) from ge117_0);clear hv117_0 ge117_0;have HX117_0:=Ya hx117_0;clear hcc117 hce117;have HR117_0:=Ya hi117_0;have HC117_0:=Ya hl117_0;clear hi117_0 hl117_0;replace p117:=eq_true p117;replace q117:=eq_true q117;obtain⟨go22,co22,eo22,gb22,gl22,cl22,HG22⟩:=Kd.S_form HO_3.out (by have h_:(ex:Int)<((lsAt eFrom Za Zc.toNat k).length:Int):=(Yu (by first|(with_reducible assumption)|assumption));have h2_:0≤(ex:Int):=(Yu (by first|(with_reducible assumption)|assumption));omega);(first|cases eo22|(injection eo22 with ea_ en_ ec_;(first|subst ea_|(injection ea_ with ea_;subst ea_));subst ec_;clear en_));have GB22:=Ya gb22;have GG22:=Ya HG22;clear gb22 gl22 HG22;(first|simp only[add_plain] at hx117_0|skip);obtain⟨oki22,ce22,hcl22,hM22,hcc22,_,_,hH22⟩:=Kd.S_elem HO_3.out [] (ex:Int) (Yu (by first|(with_reducible assumption)|assumption)) (by have h_:(ex:Int)<((lsAt eFrom Za Zc.toNat k).length:Int):=Yu (by first|(with_reducible assumption)|assumption);first|exact h_|(have e_:=(Kd.S_reads' HO_3.out).1;omega)|simpa using h_);obtain⟨ve22_0,rfl,ge22_0⟩:=hM22;have hv22:=hcc22 0 _ rfl;have hX22:=HX117_0.out;(try simp only[add_plain] at hX22);(try simp only[Nat.add_zero] at hv22);(try rw[show ((Kd.slice 3 (Kd.int .i64))).sz=1 from rfl,Nat.mul_one] at hv22);replace hv22:=Option.some.inj (hv22.symm.trans hX22);subst hv22;clear hX22 hcc22 hcl22;have UU22:=Ya (show Kd.R (Kd.int .i64) 3 _ w.heap.size oki22 (.slice A117_0 (rd_L7 (lsAt eFrom Za Zc.toNat k) ex).length c117_0) (rd_L7 (lsAt eFrom Za Zc.toNat k) ex) from ge22_0);have HH22:=Ya hH22;have HN22:=Ya (Kd.S_reads' HO_3.out).1;clear hH22 ge22_0)|((with_reducible refine gate_builtin (b:= .append) (xs:= #[.tmp 28, .tmp 30]) rfl ?_);at_builtin;refine Kd.R_append (Kd.int .i64) (w0:=w) w.heap.size rfl (.tmp 28) (.tmp 30) 25 3 (.int .i64 0) 8 rfl Try.underlying25 info3 rfl (by decide) (by omega) (.slice A117_0 (rd_L7 (lsAt eFrom Za Zc.toNat k) ex).length c117_0) (rd_L7 (lsAt eFrom Za Zc.toNat k) ex) (k:Int) [.int .i64 (k:Int)] (fun k_=>oki22 k_∨((fun _=>True)) k_∧w20.heap.size≤k_) (fun _=>False) rfl rfl ?aP (fun _ hk=>hk.elim) ?aF ?aO ?aB ?aS ?aL ?_;(case aP=>exact rfl);(case aB=>exact(by repeat(first|(with_reducible first|exact HB.out|apply Ye|apply Yd|apply Yg|refine Yh ?_ Jc.out)|exact HB.out)));(case aF=>exact(fun k_ hk=> .inr ⟨trivial,hk⟩));(case aO=>exact(by(with_reducible repeat(first|apply Yr|apply Yq|apply Yp));exact Kd.R_mono UU22.out (fun _ hk=> .inl hk)));(case aS=>exact(Yi (by repeat(first|(with_reducible first|exact HB.out|apply Ye|apply Yd|apply Yg|refine Yh ?_ Jc.out)|exact HB.out))));(case aL=>have:=LMc14.out;omega);intro v119 w23 ho hb hg hat;have n0_:=Ya (blk_grown (g:=Wc) (o:=(.cells #[.int .i64 Zc, .bool Zb, .slice (some ad115) Za.length Zd] 24 (0,0))) (by(with_reducible repeat(first|refine Yl ?_ _|refine Ym ?_|refine Yj ?_ _));exact Zx.out) hg (Kd.R_ne HL117_0.out Zx.out (by decide)));have n2_:=Ya (hb);have n3_:=Ya (Kd.H_grown (Kd.H_widen (by repeat(first|exact HH22.out|refine Kd.H_alloc ?_ _|refine Kd.H_drewN ?_ _|refine Kd.H_drew ?_))) hg (fun k_ e_=> .inl (UU22.out.1 k_ e_)));have n4_:=Ya (ho);clear Zx;clear HB;clear HH22;clear HO_3;clear UU22;clear HL117_0;have Zx:=n0_;have HB:=n2_;have HH22:=n3_;have HO120:=n4_;clear n0_ n2_ n3_ n4_;clear ho hb hg hat;have p15:0≤(ex:Int):=(Yu (by first|(with_reducible assumption)|assumption));have q15:(ex:Int)<((lsAt eFrom Za Zc.toNat k).length:Int):=(Yu (by first|(with_reducible assumption)|assumption));replace p15:=eq_true p15;replace q15:=eq_true q15;obtain⟨Ao26,co26,eo26⟩:=Kd.R_slice HO120.out;subst eo26;obtain⟨_,_,hraw24,_,_,hcc24,_⟩:=Kd.H_raw HH22.out (Yu (by first|(with_reducible assumption)|assumption)) (by have h_:(ex:Int)<((lsAt eFrom Za Zc.toNat k).length:Int):=Yu (by first|(with_reducible assumption)|assumption);first|exact h_|(have e_:=(HN22.out);omega)|simpa using h_);obtain⟨_,hfr24⟩:=Kd.H_at HH22.out (Yu (by first|(with_reducible assumption)|assumption)) (by have h_:(ex:Int)<((lsAt eFrom Za Zc.toNat k).length:Int):=Yu (by first|(with_reducible assumption)|assumption);first|exact h_|(have e_:=(HN22.out);omega)|simpa using h_);have hx24_0:=hcc24 0 _ rfl;have hf24_0:=hfr24 0;(try simp only[Nat.add_zero] at hx24_0 hf24_0);(try rw[show ((Kd.slice 3 (Kd.int .i64))).sz=1 from rfl,Nat.mul_one] at hx24_0);(try rw[show ((Kd.slice 3 (Kd.int .i64))).sz=1 from rfl,Nat.mul_one] at hf24_0);have HP24:=Kd.S_seg0 HH22.out (Yu (by first|(with_reducible assumption)|assumption)) (by have h_:(ex:Int)<((lsAt eFrom Za Zc.toNat k).length:Int):=Yu (by first|(with_reducible assumption)|assumption);first|exact h_|(have e_:=(HN22.out);omega)|simpa using h_) (seg:=[.slice Ao26 (rd_L7 (lsAt eFrom Za Zc.toNat k) ex ++ [(k:Int)]).length co26]) (j:=0) (show 1≤1 from by decide) (x':=rd_L7 (lsAt eFrom Za Zc.toNat k) ex ++ [(k:Int)]) (Kd.M_row HO120.out) (fun _ hk=>hk);(try simp only[show ((Kd.slice 3 (Kd.int .i64))).sz=1 from rfl,Nat.mul_one,Nat.add_zero] at HP24);clear hcc24 hfr24)|((with_reducible refine gate_store (t:=25) (p:=32) rfl ?_);refine store_event (t:=25) (p:=32) (v:= ?vo_w25) (w1:=(w23.setCell ⟨go22,(ex:Int).toNat,none⟩ (.slice Ao26 (rd_L7 (lsAt eFrom Za Zc.toNat k) ex ++ [(k:Int)]).length co26))) ?hg ?ho ?hn ?hr ?_;(case ho=>rfl);(case hg=>rfl);(case hn=>rfl);(case hr=>first|(go_simp;done)|(go_simp;rfl));intro w25 hw;have hg:w23.grownBy w25 (some go22):=(by rw[hw];exact HP24.2);have hp_:Kd.S (Kd.slice 3 (Kd.int .i64)) 25 w25 w.heap.size (fun _=>True) (.slice (some ⟨go22,0,none⟩) (lsAt eFrom Za Zc.toNat k).length co21) (lsAt eFrom Za Zc.toNat (k+1)):=(by rw[hw,LSN.out];exact HP24.1);clear HP24;have n0_:=Ya (blk_grown (g:=Wc) (o:=(.cells #[.int .i64 Zc, .bool Zb, .slice (some ad115) Za.length Zd] 24 (0,0))) (by(with_reducible repeat(first|refine Yl ?_ _|refine Ym ?_|refine Yj ?_ _));exact Zx.out) hg (Kd.R_ne hraw24 Zx.out (by decide)));have n2_:=Ya ((by rw[hw];exact Yh HB.out GB22.out:Below w.heap.size w w25));have n3_:=Ya (hp_);clear Zx;clear HB;clear HO120;clear HH22;have Zx:=n0_;have HB:=n2_;have HO_3:=n3_;clear n0_ n2_ n3_;clear hg hw hp_ hraw24));go_roundw
   case rel=>exact⟨k+1,by omega,by first|rfl|go_num,⟨by(with_reducible repeat(first|apply Kd.S_alloc|apply Kd.S_drewN|apply Kd.S_drew));exact HO_3.out⟩,⟨by(with_reducible repeat(first|refine Yl ?_ _|refine Ym ?_|refine Yj ?_ _));exact Zx.out⟩,⟨(by repeat(first|(with_reducible first|exact HB.out|apply Ye|apply Yd|apply Yg|refine Yh ?_ Jc.out)|exact HB.out))⟩⟩
   case measure=>simp[intOf]<;>omega
  ·have ek:k=Za.length:=by omega
   subst ek;have c9b0:decide ((Za.length:Int)<(Za.length:Int))=false:=Yw (by omega);go_wp2;go_ret;exact⟨_,rfl,by(with_reducible repeat(first|apply Kd.S_alloc|apply Kd.S_drewN|apply Kd.S_drew));exact HO_3.out,(by repeat(first|(with_reducible first|exact HB.out|apply Ye|apply Yd|apply Yg|refine Yh ?_ Jc.out)|exact HB.out))⟩
set_option maxHeartbeats 4000000 in
set_option maxRecDepth 100000 in
theorem listsTo_calls (Zc:Int) (Zb:Bool) (Ze:Option Addr) (Zd:Nat) (Za:List S74) (w:World) (Zr:Kd.C k74 w Ze Za.length Za) (Zs:Za.length≤Zd) (h0:0≤Zc) (h1:Zc≤1000000) (hl:Za.length≤1000000) (hE: ∀ k:Nat,k<Za.length→0≤eTo (rd_T74 Za k)∧eTo (rd_T74 Za k)<Zc):
  Calls Try.prog 159 #[.agg #[.int .i64 Zc, .bool Zb, .slice Ze Za.length Zd], .func (.func 161) #[] #[]] w fun e w'=> ∃ v0_:Value,e= .returned v0_∧Kd.S (Kd.slice 3 (Kd.int .i64)) 25 w' w.heap.size (fun _=>True) v0_ (lsAt eTo Za Zc.toNat Za.length)∧Below w.heap.size w w':=by
 have hu24:=Try.underlying24;have hu74:=Try.underlying74;have Zl:=Ya Zr;have Zv:=Ya Zs;have HE:=Ya hE;clear Zr Zs hE;have HB:=Ya (Yo w.heap.size w);have c2b1:decide (0≤Zc)=true:=Yv h0;have c3b1:decide ((Zc:Int).toNat≤11728124029610)=true:=Yv (by omega);have c2b0:=eq_true h0;have c3b0:((Zc:Int).toNat≤11728124029610)=True:=eq_true (by omega);have HH0:=Ya h0;have HH1:=Ya h1;clear h0 h1;go_enter Try.func159,Try.ntmps159;go_wp2_with (first|((with_reducible refine gate_dst (N:=2) rfl ?_);refine Yz ?hg (N:=2) ?hd (cs:= #[.int .i64 Zc, .bool Zb, .slice Ze Za.length Zd]) (t:=24) ?hr ?_;(case hd=>rfl);(case hg=>rfl);(case hr=>first|(go_simp;done)|(go_simp;rfl));intro Wc hg w4 Zf hb;have n0_:=Ya (Yk (by repeat(first|(with_reducible first|exact HB.out|apply Ye|apply Yd|apply Yg)|exact HB.out)) hb);have n1_:=Ya (Zf);have n3_:=Ya ((by rw[hg];exact(Yi (by repeat(first|(with_reducible first|exact HB.out|apply Ye|apply Yd|apply Yg)|exact HB.out))):w.heap.size≤Wc));clear HB;have HB:=n0_;have Zx:=n1_;have Jc:=n3_;clear n0_ n1_ n3_;clear hb Zf hg;have hcz5_0:w4.cell? ⟨Wc,0,none⟩=some (.int .i64 Zc):=(Yc Zx.out 0).trans rfl;have hcz5_1:w4.cell? ⟨Wc,1,none⟩=some (.bool Zb):=(Yc Zx.out 1).trans rfl;have hcz5_2:w4.cell? ⟨Wc,2,none⟩=some (.slice Ze Za.length Zd):=(Yc Zx.out 2).trans rfl;have hfz5_0:=Yf Zx.out 0;have hfz5_1:=Yf Zx.out 1;have hfz5_2:=Yf Zx.out 2)|((with_reducible refine gate_dst (N:=11) rfl ?_);refine Kd.S_make (Kd.slice 3 (Kd.int .i64)) _ 25 rfl (N:=11) rfl 154 _ _ rfl Zc rfl rfl Try.underlying154 (.slice none 0 0) 24 infoRow rfl (by decide) (by omega) [] (ok:=fun _=>True) (okp:=fun _=>True) ⟨_,rfl,Kd.R_nil _ _ _ _ _⟩ (fun _ hk=>hk) trivial (Yu (by first|(with_reducible assumption)|assumption)) (Nat.le_trans (Nat.mul_le_mul_right _ (Yu (by first|(with_reducible assumption)|assumption):Zc.toNat≤11728124029610)) (by omega)) (Yo _ _) (Nat.le_refl _) ?_;intro v113 w6 ho7 hb hg_ hnew_;clear hg_ hnew_;have n0_:=Ya (Kd.S_lower ho7 (Yi (by repeat(first|(with_reducible first|exact HB.out|apply Ye|apply Yd|apply Yg|refine Yh ?_ Jc.out)|exact HB.out))));have n1_:=Ya (Yn (g:=Wc) (o:= .cells #[.int .i64 Zc, .bool Zb, .slice Ze Za.length Zd] 24 (0,0)) (by(with_reducible repeat(first|refine Yl ?_ _|refine Ym ?_|refine Yj ?_ _));exact Zx.out) hb);have n2_:=Ya (Yk (by repeat(first|(with_reducible first|exact HB.out|apply Ye|apply Yd|apply Yg|refine Yh ?_ Jc.out)|exact HB.out)) hb);clear Zx;clear HB;have HO114:=n0_;have Zx:=n1_;have HB:=n2_;clear n0_ n1_ n2_;clear hb ho7;have hcz8_0:w6.cell? ⟨Wc,0,none⟩=some (.int .i64 Zc):=(Yc Zx.out 0).trans rfl;have hcz8_1:w6.cell? ⟨Wc,1,none⟩=some (.bool Zb):=(Yc Zx.out 1).trans rfl;have hcz8_2:w6.cell? ⟨Wc,2,none⟩=some (.slice Ze Za.length Zd):=(Yc Zx.out 2).trans rfl;have hfz8_0:=Yf Zx.out 0;have hfz8_1:=Yf Zx.out 1;have hfz8_2:=Yf Zx.out 2));go_loopw [15] (fun v15 w'=> ∃ k:Nat,k≤Za.length∧v15= .int .i64 k∧Aside0 (Kd.S (Kd.slice 3 (Kd.int .i64)) 25 w' w.heap.size (fun _=>True) v113 (lsAt eTo Za Zc.toNat k))∧Aside0 (w'.heap[Wc]? =some (.cells #[.int .i64 Zc, .bool Zb,(.slice Ze Za.length Zd)] 24 (0,0)))∧Aside0 (Below w.heap.size w w')) (fun v15 _=>Za.length - (intOf v15).toNat)
 case atStart=>exact⟨0,Nat.zero_le _,rfl,⟨by(with_reducible repeat(first|apply Kd.S_alloc|apply Kd.S_drewN|apply Kd.S_drew));exact HO114.out⟩,⟨by(with_reducible repeat(first|refine Yl ?_ _|refine Ym ?_|refine Yj ?_ _));exact Zx.out⟩,⟨(by repeat(first|(with_reducible first|exact HB.out|apply Ye|apply Yd|apply Yg|refine Yh ?_ Jc.out)|exact HB.out))⟩⟩
 case round=>
  try clear c2b0
  try clear c2b1
  try clear c3b0
  try clear c3b1
  try clear hcz5_0 hcz5_1 hcz5_2 hcz8_0 hcz8_1 hcz8_2 hfz5_0 hfz5_1 hfz5_2 hfz8_0 hfz8_1 hfz8_2
  clear HO114 Zx HB;obtain⟨k,hk,rfl,HO_3,Zx,HB⟩:=hrel;by_cases hlt:k<Za.length
  ·have hEk:=HE.out k hlt
   obtain⟨ex,hex0⟩: ∃ ex,eTo (rd_T74 Za (k:Int))=ex:=⟨_,rfl⟩;have hex:=Ya hex0;have LSN:Aside0 (lsAt eTo Za Zc.toNat (k+1)=(lsAt eTo Za Zc.toNat k).set (ex:Int).toNat (rd_L7 (lsAt eTo Za Zc.toNat k) ex ++ [(k:Int)])):=⟨by rw[← hex0];rfl⟩;rw[hex0] at hEk;clear hex0;have hlen:=lsAt_len eTo Za Zc.toNat k;have c12b0:decide (0≤ex)=true:=Yv hEk.1;have c13b0:decide (ex<((lsAt eTo Za Zc.toNat k).length:Int))=true:=Yv (by rw[hlen];have:=HH0.out;omega);have LMc14:Aside0 ((rd_L7 (lsAt eTo Za Zc.toNat k) ex).length<17592186044416):=⟨by have:=lsAt_row eTo Za Zc.toNat k ex;omega⟩;clear hEk hlen;have p115:0≤((k:Nat):Int):=by omega
   have q115:((k:Nat):Int)<(Za.length:Int):=by omega
   obtain⟨ad115,e115,hx115_0,hx115_1,hx115_2,hx115_3⟩:=at_T74 Zl.out (k:Int) p115 q115;simp only[Int.toNat_natCast] at hx115_0 hx115_1 hx115_2 hx115_3;cases e115;replace hx115_0:=(HB.out.cell (Yb w _ hx115_0)).trans hx115_0;replace hx115_1:=(HB.out.cell (Yb w _ hx115_1)).trans hx115_1;replace hx115_2:=(HB.out.cell (Yb w _ hx115_2)).trans hx115_2;replace hx115_3:=(HB.out.cell (Yb w _ hx115_3)).trans hx115_3;have c9b0:decide ((k:Int)<(Za.length:Int))=true:=Yv q115;go_wp2_with (first|((with_reducible refine gate_dst (N:=7) rfl ?_);refine Yz ?hg (N:=7) ?hd (cs:= #[.int .i64 0, .int .i64 0, .int .i64 0, .int .i64 0]) (t:=74) ?hr ?_;(case hd=>rfl);(case hg=>rfl);(case hr=>first|(go_simp;done)|(go_simp;rfl));intro Xr hg w16 Zf hb;have n0_:=Ya (Kd.S_below (by(with_reducible repeat(first|apply Kd.S_alloc|apply Kd.S_drewN|apply Kd.S_drew));exact HO_3.out) hb);have n1_:=Ya (Yn (g:=Wc) (o:=(.cells #[.int .i64 Zc, .bool Zb, .slice (some ad115) Za.length Zd] 24 (0,0))) (by(with_reducible repeat(first|refine Yl ?_ _|refine Ym ?_|refine Yj ?_ _));exact Zx.out) hb);have n2_:=Ya (Yk (by repeat(first|(with_reducible first|exact HB.out|apply Ye|apply Yd|apply Yg|refine Yh ?_ Jc.out)|exact HB.out)) hb);have n3_:=Ya (Zf);have n5_:=Ya ((by rw[hg];exact(Yi (by repeat(first|(with_reducible first|exact HB.out|apply Ye|apply Yd|apply Yg|refine Yh ?_ Jc.out)|exact HB.out))):w.heap.size≤Xr));have n6_:=Ya ((by rw[hg];exact Nat.ne_of_lt (blk_lt (g:=Wc) (o:=(.cells #[.int .i64 Zc, .bool Zb, .slice (some ad115) Za.length Zd] 24 (0,0))) (by(with_reducible repeat(first|refine Yl ?_ _|refine Ym ?_|refine Yj ?_ _));exact Zx.out)):Wc≠Xr));have n7_:=Ya ((by rw[hg];exact Nat.ne_of_gt (blk_lt (g:=Wc) (o:=(.cells #[.int .i64 Zc, .bool Zb, .slice (some ad115) Za.length Zd] 24 (0,0))) (by(with_reducible repeat(first|refine Yl ?_ _|refine Ym ?_|refine Yj ?_ _));exact Zx.out)):Xr≠Wc));clear HO_3;clear Zx;clear HB;have HO_3:=n0_;have Zx:=n1_;have HB:=n2_;have Xt:=n3_;have GE116:=n5_;have Ua:=n6_;have NB116_111:=n7_;clear n0_ n1_ n2_ n3_ n5_ n6_ n7_;clear hb Zf hg;have hnb17:=NB116_111.out;have hnc17:=Ua.out;have hcz18_0:w16.cell? ⟨Xr,0,none⟩=some (.int .i64 0):=(Yc Xt.out 0).trans rfl;have hcz18_1:w16.cell? ⟨Xr,1,none⟩=some (.int .i64 0):=(Yc Xt.out 1).trans rfl;have hcz18_2:w16.cell? ⟨Xr,2,none⟩=some (.int .i64 0):=(Yc Xt.out 2).trans rfl;have hcz18_3:w16.cell? ⟨Xr,3,none⟩=some (.int .i64 0):=(Yc Xt.out 3).trans rfl;have hfz18_0:=Yf Xt.out 0;have hfz18_1:=Yf Xt.out 1;have hfz18_2:=Yf Xt.out 2;have hfz18_3:=Yf Xt.out 3)|((with_reducible refine gate_store (t:=74) (p:=7) rfl ?_);refine store_event (t:=74) (p:=7) (v:= ?vo_w19) (w1:=((((w16.setCell ⟨Xr,0,none⟩ (.int .i64 (rd_T74 Za (k:Int)).f0)).setCell ⟨Xr,1,none⟩ (.int .i64 (rd_T74 Za (k:Int)).f1)).setCell ⟨Xr,2,none⟩ (.int .i64 (rd_T74 Za (k:Int)).f2)).setCell ⟨Xr,3,none⟩ (.int .i64 (rd_T74 Za (k:Int)).f3))) ?hg ?ho ?hn ?hr ?_;(case ho=>rfl);(case hg=>rfl);(case hn=>rfl);(case hr=>first|(go_simp;done)|(go_simp;rfl));intro w19 hw;have n0_:Aside0 (Kd.S (Kd.slice 3 (Kd.int .i64)) 25 w19 w.heap.size (fun _=>True) v113 (lsAt eTo Za Zc.toNat k)):=⟨(by rw[hw];exact(by(with_reducible repeat(first|apply Kd.S_alloc|apply Kd.S_drewN|apply Kd.S_drew));exact Kd.S_mono (Kd.S_far (p:=⟨Xr,3,none⟩) (Kd.S_far (p:=⟨Xr,2,none⟩) (Kd.S_far (p:=⟨Xr,1,none⟩) (Kd.S_far (p:=⟨Xr,0,none⟩) (Kd.S_types HO_3.out Xt.out (by decide)) (fun _ hk=>hk.2) (.int .i64 (rd_T74 Za (k:Int)).f0)) (fun _ hk=>hk.2) (.int .i64 (rd_T74 Za (k:Int)).f1)) (fun _ hk=>hk.2) (.int .i64 (rd_T74 Za (k:Int)).f2)) (fun _ hk=>hk.2) (.int .i64 (rd_T74 Za (k:Int)).f3)) (fun _ hk=>trivial)))⟩;have n1_:Aside0 (w19.heap[Wc]? =some (.cells #[.int .i64 Zc, .bool Zb, .slice (some ad115) Za.length Zd] 24 (0,0))):=⟨(by rw[hw];exact(by(with_reducible repeat(first|refine Yl ?_ _|refine Ym ?_|refine Yj ?_ _));refine blk_far ?_ Ua.out _;(with_reducible repeat(first|refine Yl ?_ _|refine Ym ?_|refine Yj ?_ _));refine blk_far ?_ Ua.out _;(with_reducible repeat(first|refine Yl ?_ _|refine Ym ?_|refine Yj ?_ _));refine blk_far ?_ Ua.out _;(with_reducible repeat(first|refine Yl ?_ _|refine Ym ?_|refine Yj ?_ _));refine blk_far ?_ Ua.out _;(with_reducible repeat(first|refine Yl ?_ _|refine Ym ?_|refine Yj ?_ _));exact Zx.out))⟩;have n2_:Aside0 (w19.heap[Xr]? =some (.cells #[.int .i64 (rd_T74 Za (k:Int)).f0, .int .i64 (rd_T74 Za (k:Int)).f1, .int .i64 (rd_T74 Za (k:Int)).f2, .int .i64 (rd_T74 Za (k:Int)).f3] 74 (0,0))):=⟨(by rw[hw];exact(by(with_reducible repeat(first|refine Yl ?_ _|refine Ym ?_|refine Yj ?_ _));refine YA (cs:= #[.int .i64 (rd_T74 Za (k:Int)).f0, .int .i64 (rd_T74 Za (k:Int)).f1, .int .i64 (rd_T74 Za (k:Int)).f2, .int .i64 0]) ?_ 3 _ rfl;(with_reducible repeat(first|refine Yl ?_ _|refine Ym ?_|refine Yj ?_ _));refine YA (cs:= #[.int .i64 (rd_T74 Za (k:Int)).f0, .int .i64 (rd_T74 Za (k:Int)).f1, .int .i64 0, .int .i64 0]) ?_ 2 _ rfl;(with_reducible repeat(first|refine Yl ?_ _|refine Ym ?_|refine Yj ?_ _));refine YA (cs:= #[.int .i64 (rd_T74 Za (k:Int)).f0, .int .i64 0, .int .i64 0, .int .i64 0]) ?_ 1 _ rfl;(with_reducible repeat(first|refine Yl ?_ _|refine Ym ?_|refine Yj ?_ _));refine YA (cs:= #[.int .i64 0, .int .i64 0, .int .i64 0, .int .i64 0]) ?_ 0 _ rfl;(with_reducible repeat(first|refine Yl ?_ _|refine Ym ?_|refine Yj ?_ _));exact Xt.out))⟩;have n3_:Aside0 (Below w.heap.size w w19):=⟨(by rw[hw];exact(by repeat(first|(with_reducible first|exact HB.out|apply Ye|apply Yd|apply Yg|refine Yh ?_ Jc.out|refine Yh ?_ GE116.out)|exact HB.out)))⟩;clear hw;clear HO_3;clear Zx;clear Xt;clear HB;have HO_3:=n0_;have Zx:=n1_;have Xt:=n2_;have HB:=n3_;clear n0_ n1_ n2_ n3_;have hcz20_0:w19.cell? ⟨Xr,0,none⟩=some (.int .i64 (rd_T74 Za (k:Int)).f0):=(Yc Xt.out 0).trans rfl;have hcz20_1:w19.cell? ⟨Xr,1,none⟩=some (.int .i64 (rd_T74 Za (k:Int)).f1):=(Yc Xt.out 1).trans rfl;have hcz20_2:w19.cell? ⟨Xr,2,none⟩=some (.int .i64 (rd_T74 Za (k:Int)).f2):=(Yc Xt.out 2).trans rfl;have hcz20_3:w19.cell? ⟨Xr,3,none⟩=some (.int .i64 (rd_T74 Za (k:Int)).f3):=(Yc Xt.out 3).trans rfl;have hfz20_0:=Yf Xt.out 0;have hfz20_1:=Yf Xt.out 1;have hfz20_2:=Yf Xt.out 2;have hfz20_3:=Yf Xt.out 3)|(go_at_call 161;refine(adj_to.calls (rd_T74 Za (k:Int)).f0 (rd_T74 Za (k:Int)).f1 (rd_T74 Za (k:Int)).f2 (rd_T74 Za (k:Int)).f3 _ _ rfl).mono ?_;rintro e_ w20 ⟨rfl,hb⟩;rw[show (rd_T74 Za (k:Int)).f1=ex from hex.out];have n0_:=Ya (Kd.S_below (by(with_reducible repeat(first|apply Kd.S_alloc|apply Kd.S_drewN|apply Kd.S_drew));exact HO_3.out) hb);have n1_:=Ya (Yn (g:=Wc) (o:=(.cells #[.int .i64 Zc, .bool Zb, .slice (some ad115) Za.length Zd] 24 (0,0))) (by(with_reducible repeat(first|refine Yl ?_ _|refine Ym ?_|refine Yj ?_ _));exact Zx.out) hb);have n2_:=Ya (Yk (by repeat(first|(with_reducible first|exact HB.out|apply Ye|apply Yd|apply Yg|refine Yh ?_ Jc.out|refine Yh ?_ GE116.out)|exact HB.out)) hb);clear HO_3 Zx HB Xt hcz20_0 hcz20_1 hcz20_2 hcz20_3 hfz20_0 hfz20_1 hfz20_2 hfz20_3 hb;have HO_3:=n0_;have Zx:=n1_;have HB:=n2_;clear n0_ n1_ n2_;obtain⟨Ao21,co21,eo21⟩:=Kd.S_slice HO_3.out;subst eo21;have p117:0≤(ex:Int):=(Yu (by first|(with_reducible assumption)|assumption));have q117:ex<((lsAt eTo Za Zc.toNat k).length:Int):=(Yu (by first|(with_reducible assumption)|assumption));obtain⟨ad117,A117_0,c117_0,e117,hx117_0,hl117_0,hi117_0⟩:=at_L7 (Kd.S_reads' HO_3.out).2.2 ex p117 q117;cases e117;obtain⟨ce117,hce117,hMe117,hcc117⟩:=Kd.S_get HO_3.out [] ex p117 (by first|exact q117|(have e_:=(Kd.S_reads' HO_3.out).1;omega));obtain⟨ve117_0,rfl,ge117_0⟩:=hMe117;have hv117_0:=hcc117 0 _ rfl;rw[Nat.add_zero,show ((Kd.slice 3 (Kd.int .i64))).sz=1 from rfl,Nat.mul_one] at hv117_0;replace hv117_0:=Option.some.inj (hv117_0.symm.trans hx117_0);rw[hv117_0] at ge117_0;have HL117_0:=Ya (show Kd.R (Kd.int .i64) 3 _ _ _ _ (rd_L7 (lsAt eTo Za Zc.toNat k) ex) from ge117_0);clear hv117_0 ge117_0;have HX117_0:=Ya hx117_0;clear hcc117 hce117;have HR117_0:=Ya hi117_0;have HC117_0:=Ya hl117_0;clear hi117_0 hl117_0;replace p117:=eq_true p117;replace q117:=eq_true q117;obtain⟨go22,co22,eo22,gb22,gl22,cl22,HG22⟩:=Kd.S_form HO_3.out (by have h_:(ex:Int)<((lsAt eTo Za Zc.toNat k).length:Int):=(Yu (by first|(with_reducible assumption)|assumption));have h2_:0≤(ex:Int):=(Yu (by first|(with_reducible assumption)|assumption));omega);(first|cases eo22|(injection eo22 with ea_ en_ ec_;(first|subst ea_|(injection ea_ with ea_;subst ea_));subst ec_;clear en_));have GB22:=Ya gb22;have GG22:=Ya HG22;clear gb22 gl22 HG22;(first|simp only[add_plain] at hx117_0|skip);obtain⟨oki22,ce22,hcl22,hM22,hcc22,_,_,hH22⟩:=Kd.S_elem HO_3.out [] (ex:Int) (Yu (by first|(with_reducible assumption)|assumption)) (by have h_:(ex:Int)<((lsAt eTo Za Zc.toNat k).length:Int):=Yu (by first|(with_reducible assumption)|assumption);first|exact h_|(have e_:=(Kd.S_reads' HO_3.out).1;omega)|simpa using h_);obtain⟨ve22_0,rfl,ge22_0⟩:=hM22;have hv22:=hcc22 0 _ rfl;have hX22:=HX117_0.out;(try simp only[add_plain] at hX22);(try simp only[Nat.add_zero] at hv22);(try rw[show ((Kd.slice 3 (Kd.int .i64))).sz=1 from rfl,Nat.mul_one] at hv22);replace hv22:=Option.some.inj (hv22.symm.trans hX22);subst hv22;clear hX22 hcc22 hcl22;have UU22:=Ya (show Kd.R (Kd.int .i64) 3 _ w.heap.size oki22 (.slice A117_0 (rd_L7 (lsAt eTo Za Zc.toNat k) ex).length c117_0) (rd_L7 (lsAt eTo Za Zc.toNat k) ex) from ge22_0);have HH22:=Ya hH22;have HN22:=Ya (Kd.S_reads' HO_3.out).1;clear hH22 ge22_0)|((with_reducible refine gate_builtin (b:= .append) (xs:= #[.tmp 28, .tmp 30]) rfl ?_);at_builtin;refine Kd.R_append (Kd.int .i64) (w0:=w) w.heap.size rfl (.tmp 28) (.tmp 30) 25 3 (.int .i64 0) 8 rfl Try.underlying25 info3 rfl (by decide) (by omega) (.slice A117_0 (rd_L7 (lsAt eTo Za Zc.toNat k) ex).length c117_0) (rd_L7 (lsAt eTo Za Zc.toNat k) ex) (k:Int) [.int .i64 (k:Int)] (fun k_=>oki22 k_∨((fun _=>True)) k_∧w20.heap.size≤k_) (fun _=>False) rfl rfl ?aP (fun _ hk=>hk.elim) ?aF ?aO ?aB ?aS ?aL ?_;(case aP=>exact rfl);(case aB=>exact(by repeat(first|(with_reducible first|exact HB.out|apply Ye|apply Yd|apply Yg|refine Yh ?_ Jc.out)|exact HB.out)));(case aF=>exact(fun k_ hk=> .inr ⟨trivial,hk⟩));(case aO=>exact(by(with_reducible repeat(first|apply Yr|apply Yq|apply Yp));exact Kd.R_mono UU22.out (fun _ hk=> .inl hk)));(case aS=>exact(Yi (by repeat(first|(with_reducible first|exact HB.out|apply Ye|apply Yd|apply Yg|refine Yh ?_ Jc.out)|exact HB.out))));(case aL=>have:=LMc14.out;omega);intro v119 w23 ho hb hg hat;have n0_:=Ya (blk_grown (g:=Wc) (o:=(.cells #[.int .i64 Zc, .bool Zb, .slice (some ad115) Za.length Zd] 24 (0,0))) (by(with_reducible repeat(first|refine Yl ?_ _|refine Ym ?_|refine Yj ?_ _));exact Zx.out) hg (Kd.R_ne HL117_0.out Zx.out (by decide)));have n2_:=Ya (hb);have n3_:=Ya (Kd.H_grown (Kd.H_widen (by repeat(first|exact HH22.out|refine Kd.H_alloc ?_ _|refine Kd.H_drewN ?_ _|refine Kd.H_drew ?_))) hg (fun k_ e_=> .inl (UU22.out.1 k_ e_)));have n4_:=Ya (ho);clear Zx;clear HB;clear HH22;clear HO_3;clear UU22;clear HL117_0;have Zx:=n0_;have HB:=n2_;have HH22:=n3_;have HO120:=n4_;clear n0_ n2_ n3_ n4_;clear ho hb hg hat;have p15:0≤(ex:Int):=(Yu (by first|(with_reducible assumption)|assumption));have q15:(ex:Int)<((lsAt eTo Za Zc.toNat k).length:Int):=(Yu (by first|(with_reducible assumption)|assumption));replace p15:=eq_true p15;replace q15:=eq_true q15;obtain⟨Ao26,co26,eo26⟩:=Kd.R_slice HO120.out;subst eo26;obtain⟨_,_,hraw24,_,_,hcc24,_⟩:=Kd.H_raw HH22.out (Yu (by first|(with_reducible assumption)|assumption)) (by have h_:(ex:Int)<((lsAt eTo Za Zc.toNat k).length:Int):=Yu (by first|(with_reducible assumption)|assumption);first|exact h_|(have e_:=(HN22.out);omega)|simpa using h_);obtain⟨_,hfr24⟩:=Kd.H_at HH22.out (Yu (by first|(with_reducible assumption)|assumption)) (by have h_:(ex:Int)<((lsAt eTo Za Zc.toNat k).length:Int):=Yu (by first|(with_reducible assumption)|assumption);first|exact h_|(have e_:=(HN22.out);omega)|simpa using h_);have hx24_0:=hcc24 0 _ rfl;have hf24_0:=hfr24 0;(try simp only[Nat.add_zero] at hx24_0 hf24_0);(try rw[show ((Kd.slice 3 (Kd.int .i64))).sz=1 from rfl,Nat.mul_one] at hx24_0);(try rw[show ((Kd.slice 3 (Kd.int .i64))).sz=1 from rfl,Nat.mul_one] at hf24_0);have HP24:=Kd.S_seg0 HH22.out (Yu (by first|(with_reducible assumption)|assumption)) (by have h_:(ex:Int)<((lsAt eTo Za Zc.toNat k).length:Int):=Yu (by first|(with_reducible assumption)|assumption);first|exact h_|(have e_:=(HN22.out);omega)|simpa using h_) (seg:=[.slice Ao26 (rd_L7 (lsAt eTo Za Zc.toNat k) ex ++ [(k:Int)]).length co26]) (j:=0) (show 1≤1 from by decide) (x':=rd_L7 (lsAt eTo Za Zc.toNat k) ex ++ [(k:Int)]) (Kd.M_row HO120.out) (fun _ hk=>hk);(try simp only[show ((Kd.slice 3 (Kd.int .i64))).sz=1 from rfl,Nat.mul_one,Nat.add_zero] at HP24);clear hcc24 hfr24)|((with_reducible refine gate_store (t:=25) (p:=32) rfl ?_);refine store_event (t:=25) (p:=32) (v:= ?vo_w25) (w1:=(w23.setCell ⟨go22,(ex:Int).toNat,none⟩ (.slice Ao26 (rd_L7 (lsAt eTo Za Zc.toNat k) ex ++ [(k:Int)]).length co26))) ?hg ?ho ?hn ?hr ?_;(case ho=>rfl);(case hg=>rfl);(case hn=>rfl);(case hr=>first|(go_simp;done)|(go_simp;rfl));intro w25 hw;have hg:w23.grownBy w25 (some go22):=(by rw[hw];exact HP24.2);have hp_:Kd.S (Kd.slice 3 (Kd.int .i64)) 25 w25 w.heap.size (fun _=>True) (.slice (some ⟨go22,0,none⟩) (lsAt eTo Za Zc.toNat k).length co21) (lsAt eTo Za Zc.toNat (k+1)):=(by rw[hw,LSN.out];exact HP24.1);clear HP24;have n0_:=Ya (blk_grown (g:=Wc) (o:=(.cells #[.int .i64 Zc, .bool Zb, .slice (some ad115) Za.length Zd] 24 (0,0))) (by(with_reducible repeat(first|refine Yl ?_ _|refine Ym ?_|refine Yj ?_ _));exact Zx.out) hg (Kd.R_ne hraw24 Zx.out (by decide)));have n2_:=Ya ((by rw[hw];exact Yh HB.out GB22.out:Below w.heap.size w w25));have n3_:=Ya (hp_);clear Zx;clear HB;clear HO120;clear HH22;have Zx:=n0_;have HB:=n2_;have HO_3:=n3_;clear n0_ n2_ n3_;clear hg hw hp_ hraw24));go_roundw
   case rel=>exact⟨k+1,by omega,by first|rfl|go_num,⟨by(with_reducible repeat(first|apply Kd.S_alloc|apply Kd.S_drewN|apply Kd.S_drew));exact HO_3.out⟩,⟨by(with_reducible repeat(first|refine Yl ?_ _|refine Ym ?_|refine Yj ?_ _));exact Zx.out⟩,⟨(by repeat(first|(with_reducible first|exact HB.out|apply Ye|apply Yd|apply Yg|refine Yh ?_ Jc.out)|exact HB.out))⟩⟩
   case measure=>simp[intOf]<;>omega
  ·have ek:k=Za.length:=by omega
   subst ek;have c9b0:decide ((Za.length:Int)<(Za.length:Int))=false:=Yw (by omega);go_wp2;go_ret;exact⟨_,rfl,by(with_reducible repeat(first|apply Kd.S_alloc|apply Kd.S_drewN|apply Kd.S_drew));exact HO_3.out,(by repeat(first|(with_reducible first|exact HB.out|apply Ye|apply Yd|apply Yg|refine Yh ?_ Jc.out)|exact HB.out))⟩
set_option maxHeartbeats 1000000 in
set_option maxRecDepth 100000 in
theorem leaving_calls (Zc:Int) (Zb:Bool) (Ze:Option Addr) (Zd:Nat) (Za:List S74) (w:World) (Zr:Kd.C k74 w Ze Za.length Za) (Zs:Za.length≤Zd) (h0:0≤Zc) (h1:Zc≤1000000) (hl:Za.length≤1000000) (hE: ∀ k:Nat,k<Za.length→0≤eFrom (rd_T74 Za k)∧eFrom (rd_T74 Za k)<Zc):
  Calls Try.prog 141 #[.agg #[.int .i64 Zc, .bool Zb, .slice Ze Za.length Zd]] w fun e w'=> ∃ v0_:Value,e= .returned v0_∧Kd.S (Kd.slice 3 (Kd.int .i64)) 25 w' w.heap.size (fun _=>True) v0_ (lsAt eFrom Za Zc.toNat Za.length)∧Below w.heap.size w w':=by
 have hu24:=Try.underlying24;have Zl:=Ya Zr;have Zv:=Ya Zs;have HE:=Ya hE;clear Zr Zs hE;have HB:=Ya (Yo w.heap.size w);go_enter Try.func141,Try.ntmps141;go_wp2_with (first|((with_reducible refine gate_dst (N:=1) rfl ?_);refine Yz ?hg (N:=1) ?hd (cs:= #[.int .i64 Zc, .bool Zb, .slice Ze Za.length Zd]) (t:=24) ?hr ?_;(case hd=>rfl);(case hg=>rfl);(case hr=>first|(go_simp;done)|(go_simp;rfl));intro Wc hg w4 Zf hb;have n0_:=Ya (Yk (by repeat(first|(with_reducible first|exact HB.out|apply Ye|apply Yd|apply Yg)|exact HB.out)) hb);have n1_:=Ya (Zf);have n2_:=Ya (Yt Zl.out hb);clear HB Zl;have HB:=n0_;have Zx:=n1_;have Zl:=n2_;clear n0_ n1_ n2_;clear hb Zf hg;have hcz5_0:w4.cell? ⟨Wc,0,none⟩=some (.int .i64 Zc):=(Yc Zx.out 0).trans rfl;have hcz5_1:w4.cell? ⟨Wc,1,none⟩=some (.bool Zb):=(Yc Zx.out 1).trans rfl;have hcz5_2:w4.cell? ⟨Wc,2,none⟩=some (.slice Ze Za.length Zd):=(Yc Zx.out 2).trans rfl)|fail);refine(listsFrom_calls Zc Zb Ze Zd Za _ Zl.out Zv.out h0 h1 hl HE.out).mono ?_;rintro e w5 ⟨v0,rfl,hS,hb⟩;have HS:=Ya (Kd.S_lower hS HB.out.size);have HB5:=Ya (Yk HB.out hb);clear hS hb hcz5_0 hcz5_1 hcz5_2 Zx;go_wp2;go_ret;exact⟨_,rfl,HS.out,HB5.out⟩
set_option maxHeartbeats 1000000 in
set_option maxRecDepth 100000 in
theorem coming_calls (Zc:Int) (Zb:Bool) (Ze:Option Addr) (Zd:Nat) (Za:List S74) (w:World) (Zr:Kd.C k74 w Ze Za.length Za) (Zs:Za.length≤Zd) (h0:0≤Zc) (h1:Zc≤1000000) (hl:Za.length≤1000000) (hE: ∀ k:Nat,k<Za.length→0≤eTo (rd_T74 Za k)∧eTo (rd_T74 Za k)<Zc):
  Calls Try.prog 142 #[.agg #[.int .i64 Zc, .bool Zb, .slice Ze Za.length Zd]] w fun e w'=> ∃ v0_:Value,e= .returned v0_∧Kd.S (Kd.slice 3 (Kd.int .i64)) 25 w' w.heap.size (fun _=>True) v0_ (lsAt eTo Za Zc.toNat Za.length)∧Below w.heap.size w w':=by
 have hu24:=Try.underlying24;have Zl:=Ya Zr;have Zv:=Ya Zs;have HE:=Ya hE;clear Zr Zs hE;have HB:=Ya (Yo w.heap.size w);go_enter Try.func142,Try.ntmps142;go_wp2_with (first|((with_reducible refine gate_dst (N:=1) rfl ?_);refine Yz ?hg (N:=1) ?hd (cs:= #[.int .i64 Zc, .bool Zb, .slice Ze Za.length Zd]) (t:=24) ?hr ?_;(case hd=>rfl);(case hg=>rfl);(case hr=>first|(go_simp;done)|(go_simp;rfl));intro Wc hg w4 Zf hb;have n0_:=Ya (Yk (by repeat(first|(with_reducible first|exact HB.out|apply Ye|apply Yd|apply Yg)|exact HB.out)) hb);have n1_:=Ya (Zf);have n2_:=Ya (Yt Zl.out hb);clear HB Zl;have HB:=n0_;have Zx:=n1_;have Zl:=n2_;clear n0_ n1_ n2_;clear hb Zf hg;have hcz5_0:w4.cell? ⟨Wc,0,none⟩=some (.int .i64 Zc):=(Yc Zx.out 0).trans rfl;have hcz5_1:w4.cell? ⟨Wc,1,none⟩=some (.bool Zb):=(Yc Zx.out 1).trans rfl;have hcz5_2:w4.cell? ⟨Wc,2,none⟩=some (.slice Ze Za.length Zd):=(Yc Zx.out 2).trans rfl)|fail);refine(listsTo_calls Zc Zb Ze Zd Za _ Zl.out Zv.out h0 h1 hl HE.out).mono ?_;rintro e w5 ⟨v0,rfl,hS,hb⟩;have HS:=Ya (Kd.S_lower hS HB.out.size);have HB5:=Ya (Yk HB.out hb);clear hS hb hcz5_0 hcz5_1 hcz5_2 Zx;go_wp2;go_ret;exact⟨_,rfl,HS.out,HB5.out⟩
end H
namespace H
open P
def stL (l:List S74) (v:Int):Nat→List S38
 |0=>[]
 |k+1=>stL l v k ++ (if eFrom (rd_T74 l k)=v then [⟨k,false⟩] else []) ++ (if eTo (rd_T74 l k)=v then [⟨k,true⟩] else [])
def ltS (x y:S38):Prop:=x.f0<y.f0∨x.f0=y.f0∧x.f1=false∧y.f1=true
def IsSt (l:List S74) (v:Int) (k:Nat) (s:S38):Prop:= ∃ i:Nat,i<k∧s.f0=i∧(s.f1=false∧eFrom (rd_T74 l i)=v∨s.f1=true∧eTo (rd_T74 l i)=v)
theorem mem_stL (l:List S74) (v:Int) (k:Nat) (s:S38):s∈stL l v k↔IsSt l v k s:=by
 induction k with
 |zero=>
  constructor
  ·intro h;cases h
  ·rintro⟨i,h,_⟩;omega
 |succ k ih=>
  unfold stL;rw[List.mem_append,List.mem_append,ih];constructor
  ·rintro((⟨i,h1,h2⟩|h)|h)
   ·exact⟨i,by omega,h2⟩
   ·split at h
    ·rename_i he
     rw[List.mem_singleton] at h;subst h;exact⟨k,by omega,rfl,Or.inl ⟨rfl,he⟩⟩
    ·cases h
   ·split at h
    ·rename_i he
     rw[List.mem_singleton] at h;subst h;exact⟨k,by omega,rfl,Or.inr ⟨rfl,he⟩⟩
    ·cases h
  ·rintro⟨i,h1,h2,h3⟩
   by_cases hi:i<k
   ·exact Or.inl (Or.inl ⟨i,hi,h2,h3⟩)
   ·have e:i=k:=by omega
    subst e;obtain⟨x,y⟩:=s;simp only at h2 h3;subst h2;rcases h3 with ⟨rfl,h4⟩|⟨rfl,h4⟩
    ·exact Or.inl (Or.inr (by rw[Yx h4];exact List.mem_singleton.2 rfl))
    ·exact Or.inr (by rw[Yx h4];exact List.mem_singleton.2 rfl)
theorem sorted_stL (l:List S74) (v:Int) (k:Nat):(stL l v k).Pairwise ltS:=by
 induction k with
 |zero=>exact List.Pairwise.nil
 |succ k ih=>
  unfold stL;rw[List.pairwise_append,List.pairwise_append];refine⟨⟨ih,by split<;>simp,fun a ha b hb=> ?_⟩,by split<;>simp,fun a ha b hb=> ?_⟩
  ·obtain⟨i,h1,h2,_⟩:=(mem_stL l v k a).1 ha
   split at hb
   ·rw[List.mem_singleton] at hb
    subst hb;exact Or.inl (by show a.f0<(k:Int);omega)
   ·cases hb
  ·split at hb
   ·rw[List.mem_singleton] at hb
    subst hb;rcases List.mem_append.1 ha with ha|ha
    ·obtain⟨i,h1,h2,_⟩:=(mem_stL l v k a).1 ha
     exact Or.inl (by show a.f0<(k:Int);omega)
    ·split at ha
     ·rw[List.mem_singleton] at ha
      subst ha;exact Or.inr ⟨rfl,rfl,rfl⟩
     ·cases ha
   ·cases hb
theorem ltS_irr (x:S38): ¬ ltS x x:=by
 rintro(h|⟨_,h1,h2⟩)
 ·omega
 ·rw[h1] at h2;cases h2
theorem ltS_trans {x y z:S38} (h:ltS x y) (k:ltS y z):ltS x z:=by
 rcases h with h|⟨h1,h2,h3⟩<;>rcases k with k|⟨k1,k2,k3⟩
 ·exact Or.inl (by omega)
 ·exact Or.inl (by omega)
 ·exact Or.inl (by omega)
 ·rw[h3] at k2;cases k2
theorem sorted_uniq: ∀ (a b:List S38),a.Pairwise ltS→b.Pairwise ltS→(∀ s,s∈a↔s∈b)→a=b
 |[],[],_,_,_=>rfl
 |[],y::b,_,_,h=>by have:=(h y).2 (List.mem_cons_self ..);cases this
 |x::a,[],_,_,h=>by have:=(h x).1 (List.mem_cons_self ..);cases this
 |x::a,y::b,ha,hb,h=>by
  rw[List.pairwise_cons] at ha hb;have e:x=y:=by
   rcases List.mem_cons.1 ((h x).1 (List.mem_cons_self ..)) with e|h1
   ·exact e
   ·rcases List.mem_cons.1 ((h y).2 (List.mem_cons_self ..)) with e|h2
    ·exact e.symm
    ·exact absurd (ltS_trans (ha.1 y h2) (hb.1 x h1)) (ltS_irr x)
  subst e;rw[sorted_uniq a b ha.2 hb.2 fun s=>⟨fun hs=> ?_,fun hs=> ?_⟩]
  ·rcases List.mem_cons.1 ((h s).1 (List.mem_cons_of_mem _ hs)) with e|h1
   ·subst e;exact absurd (ha.1 s hs) (ltS_irr s)
   ·exact h1
  ·rcases List.mem_cons.1 ((h s).2 (List.mem_cons_of_mem _ hs)) with e|h1
   ·subst e;exact absurd (hb.1 s hs) (ltS_irr s)
   ·exact h1
theorem lsAt_spec (E:S74→Int) (l:List S74) (n:Nat) (v:Int) (hv0:0≤v) (hv:v<n): ∀ k:Nat,(∀ i:Nat,i<k→0≤E (rd_T74 l i)∧E (rd_T74 l i)<n)→
  (∀ x,x∈rd_L7 (lsAt E l n k) v↔ ∃ i:Nat,i<k∧x=i∧E (rd_T74 l i)=v)∧(rd_L7 (lsAt E l n k) v).Pairwise (· < ·):=by
 intro k
 induction k with
 |zero=>
  intro _;have e:rd_L7 (lsAt E l n 0) v=[]:=by
   unfold rd_L7 lsAt;rw[List.getD_eq_getElem?_getD,List.getElem?_replicate];split<;>rfl
  rw[e];refine⟨fun x=>Iff.intro (fun h=>by cases h) ?_,List.Pairwise.nil⟩;rintro⟨i,h,_⟩;omega
 |succ k ih=>
  intro hE;obtain⟨h1,h2⟩:=ih fun i hi=>hE i (by omega)
  have hk:=hE k (by omega);by_cases c:E (rd_T74 l k)=v
  ·have e:rd_L7 (lsAt E l n (k+1)) v=rd_L7 (lsAt E l n k) v ++ [(k:Int)]:=by
    show (List.set _ _ _).getD v.toNat []=_;rw[c,List.getD_eq_getElem?_getD,List.getElem?_set_self (by rw[lsAt_len];omega)];rfl
   rw[e];refine⟨fun x=> ?_,?_⟩
   ·rw[List.mem_append,h1,List.mem_singleton]
    constructor
    ·rintro(⟨i,a,b,d⟩|rfl)
     ·exact⟨i,by omega,b,d⟩
     ·exact⟨k,by omega,rfl,c⟩
    ·rintro⟨i,a,b,d⟩
     by_cases hi:i<k
     ·exact Or.inl ⟨i,hi,b,d⟩
     ·exact Or.inr (by rw[b];congr 1;omega)
   ·rw[List.pairwise_append]
    refine⟨h2,List.pairwise_singleton _ _,fun a ha b hb=> ?_⟩;rw[List.mem_singleton] at hb;obtain⟨i,q1,q2,_⟩:=(h1 a).1 ha;omega
  ·have e:rd_L7 (lsAt E l n (k+1)) v=rd_L7 (lsAt E l n k) v:=by
    show (List.set _ _ _).getD v.toNat []=_;rw[List.getD_eq_getElem?_getD,List.getElem?_set_ne (by omega), ← List.getD_eq_getElem?_getD];rfl
   rw[e];refine⟨fun x=> ?_,h2⟩;rw[h1];constructor
   ·rintro⟨i,a,b,d⟩;exact⟨i,by omega,b,d⟩
   ·rintro⟨i,a,b,d⟩
    by_cases hi:i<k
    ·exact⟨i,hi,b,d⟩
    ·have e2:i=k:=by omega
     subst e2;exact absurd d c
def stepsU (l:List S74) (n:Nat) (v:Int):List S38:=
 (rd_L7 (lsAt eFrom l n l.length) v).map (fun i=>⟨i,false⟩) ++ (rd_L7 (lsAt eTo l n l.length) v).map (fun i=>⟨i,true⟩)
def ends (l:List S74) (n:Nat):Prop:= ∀ i:Nat,i<l.length→(0≤eFrom (rd_T74 l i)∧eFrom (rd_T74 l i)<n)∧(0≤eTo (rd_T74 l i)∧eTo (rd_T74 l i)<n)
theorem mem_stepsU (l:List S74) (n:Nat) (v:Int) (hv0:0≤v) (hv:v<n) (h:ends l n) (s:S38):s∈stepsU l n v↔IsSt l v l.length s:=by
 have hf:=(lsAt_spec eFrom l n v hv0 hv l.length fun i hi=>(h i hi).1).1;have ht:=(lsAt_spec eTo l n v hv0 hv l.length fun i hi=>(h i hi).2).1;unfold stepsU;rw[List.mem_append,List.mem_map,List.mem_map];constructor
 ·rintro(⟨x,hx,rfl⟩|⟨x,hx,rfl⟩)
  ·obtain⟨i,a,b,d⟩:=(hf x).1 hx
   exact⟨i,a,b,Or.inl ⟨rfl,d⟩⟩
  ·obtain⟨i,a,b,d⟩:=(ht x).1 hx
   exact⟨i,a,b,Or.inr ⟨rfl,d⟩⟩
 ·rintro⟨i,a,b,⟨c,d⟩|⟨c,d⟩⟩
  ·exact Or.inl ⟨s.f0,(hf _).2 ⟨i,a,b,d⟩,by obtain⟨x,y⟩:=s;simp only at c;subst c;rfl⟩
  ·exact Or.inr ⟨s.f0,(ht _).2 ⟨i,a,b,d⟩,by obtain⟨x,y⟩:=s;simp only at c;subst c;rfl⟩
theorem stab_stepsU (l:List S74) (n:Nat) (v:Int) (hv0:0≤v) (hv:v<n) (h:ends l n):(stepsU l n v).Pairwise fun x y=>x.f0=y.f0→x.f1=false∧y.f1=true:=by
 have hf:=(lsAt_spec eFrom l n v hv0 hv l.length fun i hi=>(h i hi).1).2;have ht:=(lsAt_spec eTo l n v hv0 hv l.length fun i hi=>(h i hi).2).2;unfold stepsU;rw[List.pairwise_append,List.pairwise_map,List.pairwise_map];refine⟨hf.imp fun {a b} hab e=> ?_,ht.imp fun {a b} hab e=> ?_,fun a ha b hb e=> ?_⟩
 ·simp only at e;omega
 ·simp only at e;omega
 ·obtain⟨x,_,rfl⟩:=List.mem_map.1 ha
  obtain⟨y,_,rfl⟩:=List.mem_map.1 hb;exact⟨rfl,rfl⟩
end H
namespace H
open P
def stFrom (l:List S74) (s:S38):Int:=if s.f1 then eTo (rd_T74 l s.f0) else eFrom (rd_T74 l s.f0)
def stTo (l:List S74) (s:S38):Int:=if s.f1 then eFrom (rd_T74 l s.f0) else eTo (rd_T74 l s.f0)
def stRoom (l:List S74) (F:List Int) (s:S38):Int:=if s.f1 then F.getD s.f0.toNat 0 else(rd_T74 l s.f0).f2 - F.getD s.f0.toNat 0
theorem getD_set_ne {β:Type} (L:List β) (i j:Nat) (x d:β) (h:i≠j):(L.set i x).getD j d=L.getD j d:=by
 rw[List.getD_eq_getElem?_getD,List.getElem?_set_ne h,List.getD_eq_getElem?_getD]
theorem getD_set_eq {β:Type} (L:List β) (i:Nat) (x d:β) (h:i<L.length):(L.set i x).getD i d=x:=by
 rw[List.getD_eq_getElem?_getD,List.getElem?_set_self h];rfl
end H
namespace H
structure BelowW (w:World) where
 at_:World
 below:Below w.heap.size w at_
instance (w:World):Inhabited (BelowW w):=⟨⟨w,Yo _ _⟩⟩
theorem wp_region_quiet_below {P:Program} {id:Nat} {Q:Exit→Act→World→Prop} {a:Act} {w:World} {l:List Oper} (hm:P.follows .mixedOrders=true) (hB:Region.lexB .any l.toArray=true)
  (h:wpQuiet P l.toArray (fun w'=> ∃ p:BelowW w,w'=p.at_) (fun a'=> ∀ w',(∃ p:BelowW w,w'=p.at_)→Q .normal a' w') l a):(Code.region id l.toArray true).wp P Q a w:=
 wp_region_quiet (C:=fun w'=> ∃ p:BelowW w,w'=p.at_) hm hB ⟨⟨w.drew,below_drew (Yo _ _)⟩,rfl⟩ (by simpa using h)
theorem calls_below_of {P:Program} {f:FuncId} {args:Array Value} {w:World} {p:BelowW w} {v:Value} (h:Calls P f args p.at_ fun e w'=>e= .returned v∧Below p.at_.heap.size p.at_ w'):
  Calls P f args p.at_ fun e w''=>e= .returned v∧ ∃ q:BelowW w,w''=q.at_:=
 h.mono fun _ w' ⟨he,hb⟩=>⟨he,⟨w',below_then p.below p.below.size hb⟩,rfl⟩
theorem BelowW.cell {w:World} (p:BelowW w) {a:Addr} {v:Value} (h:w.cell? a=some v):p.at_.cell? a=some v:=pw_cell_below p.below h
end H
namespace H
open P
attribute [local irreducible] wpQuiet
set_option maxRecDepth 100000 in
theorem cmp_calls (x y:S38) (hx0:0≤x.f0) (hx1:x.f0≤1000000) (hy0:0≤y.f0) (hy1:y.f0≤1000000) (w:World):
  Calls Try.prog 144 #[.agg #[.int .i64 x.f0, .bool x.f1], .agg #[.int .i64 y.f0, .bool y.f1]] w fun e w'=>e= .returned (.int .i64 (x.f0 - y.f0))∧Below w.heap.size w w':=by
 go_enter Try.func144,Try.ntmps144;go_wp2;go_ret;exact⟨rfl,((Yo _ _).alloc (Nat.le_refl _) _).alloc (by simp) _⟩
set_option maxHeartbeats 1000000 in
set_option maxRecDepth 100000 in
theorem insertion_calls (g N cap:Nat) (M:Nat→S38) (a b:Nat) (w:World) (h:Arr w g N M) (hN:N≤1000000) (hab:a≤b) (hb:b≤N) (hs:Stab M N) (hsm:Small M N):
  Calls Try.prog 169 #[.slice (some ⟨g,0,none⟩) N cap, .int .i64 (a:Int), .int .i64 (b:Int), .func (.func 144) #[] #[]] w fun e w'=>e= .returned (.tuple #[])∧(∃ K,Arr w' g N K∧Sorted M K N a b)∧Fr w w' g:=by
 have HA:=Ya h;have HSM:=Ya hsm;have HST:=Ya hs;clear h hs hsm;go_enter Try.func169,Try.ntmps169;go_wp2;go_loopw [8] (fun i wr=> ∃ k:Nat,a+1≤k∧(k≤b∨k=a+1)∧i= .int .i64 k∧(∃ K,Aside0 (Arr wr g N K)∧Aside0 (Mix M K a b∧Stab K N∧Small K N∧Le K a k))∧Aside0 (Fr w wr g)) (fun i _=>b+1 - (intOf i).toNat)
 case atStart=>exact⟨a+1,by omega,by omega,by go_num,⟨M,HA,⟨mix_refl _ _ _,HST.out,HSM.out,le_one _ _ _ (Nat.le_refl _)⟩⟩,⟨grow_refl _ _⟩⟩
 case round=>
  obtain⟨k,hk0,hk,rfl,⟨K,HA1,HK1⟩,HG⟩:=hrel;clear HA HSM HST;by_cases hlt:k<b
  ·have HH:Aside0 (Mix M K a b∧Stab K N∧Small K N∧Hole K a k k):=⟨HK1.out.1,HK1.out.2.1,HK1.out.2.2.1,hole_start HK1.out.2.2.2⟩
   clear HK1;go_wp2;obtain⟨wo,rfl⟩: ∃ wo:World,wo=wr:=⟨_,rfl⟩;go_loopw [9] (fun vj wr=> ∃ j:Nat,a≤j∧j≤k∧vj= .int .i64 j∧(∃ K,Aside0 (Arr wr g N K)∧Aside0 (Mix M K a b∧Stab K N∧Small K N∧Hole K a k j))∧Aside0 (Fr w wr g)) (fun vj _=>(intOf vj).toNat)
   case atStart=>exact⟨k,by omega,Nat.le_refl _,rfl,⟨K,HA1,HH⟩,HG⟩
   case round=>
    clear HA1 HH HG;obtain⟨j,hj0,hj,rfl,⟨K,HA1,HK⟩,HG⟩:=hrel;by_cases hja:a<j
    ·obtain⟨jp,rfl⟩: ∃ jp,j=jp+1:=⟨j - 1,by omega⟩
     have c0:=HA1.out.cell0 (x:=jp+1) (by omega);have c1:=HA1.out.cell1 (x:=jp+1) (by omega);have d0:=HA1.out.cell0 (x:=jp) (by omega);have d1:=HA1.out.cell1 (x:=jp) (by omega);have cc0: ∀ p:BelowW wr,p.at_.cell? ⟨g,(jp+1) * 2,none⟩=some (.int .i64 (K (jp+1)).f0):=fun p=>p.cell c0
     have cc1: ∀ p:BelowW wr,p.at_.cell? ⟨g,(jp+1) * 2+1,none⟩=some (.bool (K (jp+1)).f1):=fun p=>p.cell c1
     have dd0: ∀ p:BelowW wr,p.at_.cell? ⟨g,jp * 2,none⟩=some (.int .i64 (K jp).f0):=fun p=>p.cell d0
     have dd1: ∀ p:BelowW wr,p.at_.cell? ⟨g,jp * 2+1,none⟩=some (.bool (K jp).f1):=fun p=>p.cell d1
     have hwp:IntKind.i64.wrap (jp:Int)=(jp:Int):=by rw[IntKind.wrap_i64];omega
     have jz:(jp:Int)+1<(N:Int):=by omega
     have jz1:(jp:Int)<(N:Int):=by omega
     have p0:(0:Int)≤(jp:Int)+1:=by omega
     have e0:((jp:Int)+1).toNat=jp+1:=by omega
     have g1:(a:Int)<(jp:Int)+1:=by omega
     have e1:=HK.out.2.2.1 (jp+1) (by omega);have e2:=HK.out.2.2.1 jp (by omega);clear c0 c1 d0 d1;go_wp2;refine wp_region_quiet_below (by kernel_rfl) (by kernel_rfl) ?_;(repeat(quiet_step ((go_at_call 144;exact calls_below_of (cmp_calls (K (jp+1)) (K jp) e1.1 e1.2 e2.1 e2.2 _)))));refine wpQuiet_nil ?_;intro wq hw';obtain⟨⟨wz,hbq⟩,hwq⟩:=hw';subst hwq;have HA2:Aside0 (Arr wq g N K):=⟨HA1.out.below hbq⟩;have HG2:Aside0 (Fr w wq g):=⟨grow_trans HG.out (grow_below hbq)⟩;clear cc0 cc1 dd0 dd1 HA1 HG hbq;by_cases hc:(K (jp+1)).f0<(K jp).f0
     ·have hcd:(K (jp+1)).f0 - (K jp).f0<0:=by omega
      have HK2:Aside0 (Mix M (sw K jp) a b∧Stab (sw K jp) N∧Small (sw K jp) N∧Hole (sw K jp) a k jp):=
       ⟨mix_trans HK.out.1 (sw_mix K jp a b (by omega) (by omega)),sw_stab HK.out.2.1 (by omega) hc,mix_small (sw_mix K jp a b (by omega) (by omega)) hb HK.out.2.2.1,hole_swap HK.out.2.2.2 (by omega) (by omega) hc⟩
      have c0:=HA2.out.cell0 (x:=jp+1) (by omega);have c1:=HA2.out.cell1 (x:=jp+1) (by omega);have d0:=HA2.out.cell0 (x:=jp) (by omega);have d1:=HA2.out.cell1 (x:=jp) (by omega);have f0:=HA2.out.free;have HE:Aside0 (∀ x,upd (upd K (jp+1) (K jp)) jp (K (jp+1)) x=sw K jp x):=⟨sw_put1 K jp⟩;obtain⟨s1,hs1⟩: ∃ s,K (jp+1)=s:=⟨_,rfl⟩;obtain⟨s2,hs2⟩: ∃ s,K jp=s:=⟨_,rfl⟩;have HE2:Aside0 (∀ x,upd (upd K (jp+1) s2) jp s1 x=sw K jp x):=by rw[← hs1, ← hs2];exact HE
      rw[hs1] at c0 c1 hcd ⊢;rw[hs2] at d0 d1 hcd ⊢;clear e1 e2 HK hc HE hs1 hs2;go_wp2_with fail;go_region;have HA3:Aside0 (Arr (((((wq.setCell ⟨g,(jp+1) * 2,none⟩ (.int .i64 s2.f0)).setCell ⟨g,(jp+1) * 2+1,none⟩ (.bool s2.f1)).setCell ⟨g,jp * 2,none⟩ (.int .i64 s1.f0)).setCell ⟨g,jp * 2+1,none⟩ (.bool s1.f1)).drew) g N (sw K jp)):=
       ⟨(((HA2.out.put (by omega) s2).put (by omega) s1).drew).congr fun x _=>(HE2.out x).symm⟩
      have HG3:=Ya (grow_drew (grow_set (grow_set (grow_set (grow_set HG2.out ((jp+1) * 2) (.int .i64 s2.f0)) ((jp+1) * 2+1) (.bool s2.f1)) (jp * 2) (.int .i64 s1.f0)) (jp * 2+1) (.bool s1.f1)));clear c0 c1 d0 d1 f0 HA2 HG2 HE2;go_wp2;go_roundw
      case rel=>exact⟨jp,by omega,by omega,rfl,⟨_,HA3,HK2⟩,HG3⟩
      case measure=>simp[intOf]<;>omega
     ·have hcd: ¬ ((K (jp+1)).f0 - (K jp).f0<0):=by omega
      have HK2:Aside0 (Mix M K a b∧Stab K N∧Small K N∧Le K a (k+1)):=
       ⟨HK.out.1,HK.out.2.1,HK.out.2.2.1,hole_stop HK.out.2.2.2 (Or.inr ⟨by omega,by rw[Nat.add_sub_cancel];omega⟩)⟩
      clear e1 e2 HK hc;go_wp2_with fail;go_roundw
      case rel=>exact⟨k+1,by omega,by omega,by go_num,⟨_,HA2,HK2⟩,HG2⟩
      case measure=>simp[intOf]<;>omega
    ·have ej:j=a:=by omega
     have HK2:Aside0 (Mix M K a b∧Stab K N∧Small K N∧Le K a (k+1)):=
      ⟨HK.out.1,HK.out.2.1,HK.out.2.2.1,hole_stop HK.out.2.2.2 (Or.inl ej)⟩
     have g1: ¬ ((a:Int)<(j:Int)):=by omega
     clear HK;go_wp2;refine wp_region_quiet_below (by kernel_rfl) (by kernel_rfl) ?_;(repeat(quiet_step ((fail))));refine wpQuiet_nil ?_;intro wq hw';obtain⟨⟨wz,hbq⟩,hwq⟩:=hw';subst hwq;have HA2:Aside0 (Arr wq g N K):=⟨HA1.out.below hbq⟩;have HG2:Aside0 (Fr w wq g):=⟨grow_trans HG.out (grow_below hbq)⟩;clear HA1 HG hbq;go_wp2_with fail;go_roundw
     case rel=>exact⟨k+1,by omega,by omega,by go_num,⟨_,HA2,HK2⟩,HG2⟩
     case measure=>simp[intOf]<;>omega
  ·go_wp2
   go_end0;refine⟨rfl,⟨K,HA1.out,HK1.out.1,HK1.out.2.1,HK1.out.2.2.1,?_⟩,HG.out⟩;intro x y h1 h2 h3;exact HK1.out.2.2.2 x y h1 h2 (by omega)
end H
namespace H
open P
attribute [local irreducible] wpQuiet
theorem Arr.q0 {w:World} {g N:Nat} {M:Nat→S38} (h:Arr w g N M) {x:Nat} (hx:x<N): ∀ p:BelowW w,p.at_.cell? ⟨g,x * 2,none⟩=some (.int .i64 (M x).f0):=fun p=>p.cell (h.cell0 hx)
theorem Arr.q1 {w:World} {g N:Nat} {M:Nat→S38} (h:Arr w g N M) {x:Nat} (hx:x<N): ∀ p:BelowW w,p.at_.cell? ⟨g,x * 2+1,none⟩=some (.bool (M x).f1):=fun p=>p.cell (h.cell1 hx)
set_option maxHeartbeats 1000000 in
set_option maxRecDepth 100000 in
theorem symLo_calls (g N cap:Nat) (M:Nat→S38) (a b:Nat) (w:World) (h:Arr w g N M) (hN:N≤1000000) (hab:a+1<b) (hb:b≤N) (hs:Stab M N) (hsm:Small M N) (hle:Le M (a+1) b):
  Calls Try.prog 170 #[.slice (some ⟨g,0,none⟩) N cap, .int .i64 (a:Int), .int .i64 ((a:Int)+1), .int .i64 (b:Int), .func (.func 144) #[] #[]] w fun e w'=>e= .returned (.tuple #[])∧(∃ K,Arr w' g N K∧Sorted M K N a b)∧Fr w w' g:=by
 have HA:=Ya h;have HSM:=Ya hsm;have HST:=Ya hs;have HLE:=Ya hle;clear h hs hsm hle;have e1:(a:Int)+1 - (a:Int)=1:=by omega
 go_enter Try.func170,Try.ntmps170;go_wp2_with fail;go_loopw [10,11] (fun vi vj wr=> ∃ i j:Nat,a+1≤i∧i≤j∧j≤b∧vi= .int .i64 i∧vj= .int .i64 j∧Aside0 (Arr wr g N M)∧Aside0 (∀ y,a+1≤y→y<i→(M y).f0<(M a).f0)∧Aside0 (∀ y,j≤y→y<b→(M a).f0≤(M y).f0)∧Aside0 (Fr w wr g)) (fun vi vj _=>(intOf vj).toNat - (intOf vi).toNat)
 case atStart=>exact⟨a+1,b,Nat.le_refl _,by omega,Nat.le_refl _,by go_num,rfl,HA,⟨fun y h1 h2=>by omega⟩,⟨fun y h1 h2=>by omega⟩,⟨grow_refl _ _⟩⟩
 case round=>
  clear HA;obtain⟨i,j,hi,hij,hj,rfl,rfl,HA1,HL,HR,HG⟩:=hrel;by_cases hlt:i<j
  ·obtain⟨c,hc⟩: ∃ c,(i+j) / 2=c:=⟨_,rfl⟩
   have hcz:((i:Int)+(j:Int)) / 2=(c:Int):=by omega
   have b1:=HSM.out c (by omega);have b2:=HSM.out a (by omega);have c0:=HA1.out.q0 (x:=c) (by omega);have c1:=HA1.out.q1 (x:=c) (by omega);have d0:=HA1.out.q0 (x:=a) (by omega);have d1:=HA1.out.q1 (x:=a) (by omega);have z1:(c:Int)<(N:Int):=by omega
   have z2:(a:Int)<(N:Int):=by omega
   go_wp2_with fail;refine wp_region_quiet_below (by kernel_rfl) (by kernel_rfl) ?_;(repeat(quiet_step ((go_at_call 144;exact calls_below_of (cmp_calls (M c) (M a) b1.1 b1.2 b2.1 b2.2 _)))));refine wpQuiet_nil ?_;intro wq hw';obtain⟨⟨wz,hbq⟩,hwq⟩:=hw';subst hwq;have HA2:Aside0 (Arr wq g N M):=⟨HA1.out.below hbq⟩;have HG2:Aside0 (Fr w wq g):=⟨grow_trans HG.out (grow_below hbq)⟩;have HC:=Ya hc;clear c0 c1 d0 d1 HA1 HG hbq hcz hc;have HC2:Aside0 (a+1≤c∧i≤c∧c<j):=by have:=HC.out;exact⟨by omega,by omega,by omega⟩
   clear HC;by_cases hlc:(M c).f0<(M a).f0
   ·have hcd:(M c).f0 - (M a).f0<0:=by omega
    have HL2:Aside0 (∀ y,a+1≤y→y<c+1→(M y).f0<(M a).f0):=⟨fun y h1 h2=>by
     have:=le_le HLE.out h1 (show y≤c by omega) (by have:=HC2.out;omega);omega⟩
    clear HL hlc b1 b2;go_wp2_with fail;go_roundw
    case rel=>exact⟨c+1,j,by have:=HC2.out;omega,by have:=HC2.out;omega,hj,by go_num,rfl,HA2,HL2,HR,HG2⟩
    case measure=>have:=HC2.out;simp[intOf]<;>omega
   ·have hcd: ¬ ((M c).f0 - (M a).f0<0):=by omega
    have HR2:Aside0 (∀ y,c≤y→y<b→(M a).f0≤(M y).f0):=⟨fun y h1 h2=>by
     have:=le_le HLE.out (show a+1≤c by have:=HC2.out;omega) h1 h2;omega⟩
    clear HR hlc b1 b2;go_wp2_with fail;go_roundw
    case rel=>exact⟨i,c,hi,by have:=HC2.out;omega,by have:=HC2.out;omega,rfl,rfl,HA2,HL,HR2,HG2⟩
    case measure=>have:=HC2.out;simp[intOf]<;>omega
  ·have ij:i=j:=by omega
   subst ij;go_wp2_with fail;have HB:Aside0 (Le (rotM M a (a+1) i) a b∧Stab (rotM M a (a+1) i) N):=⟨rot_one_lo HLE.out hi hj HL.out HR.out,rot_stab HST.out (by omega) hi (by omega) (fun x y h1 h2 h3 h4=>by
    have e:x=a:=by omega
    subst e;exact HL.out y h3 h4)⟩
   clear HL HR HLE HST;obtain⟨wo,rfl⟩: ∃ wo:World,wo=wr:=⟨_,rfl⟩;go_loopw [13] (fun vk wr=> ∃ k:Nat,a≤k∧k<i∧vk= .int .i64 k∧(∃ K,Aside0 (Arr wr g N K)∧Aside0 (∀ x,K x=rotM M a (a+1) (k+1) x))∧Aside0 (Fr w wr g)) (fun vk _=>i - (intOf vk).toNat)
   case atStart=>exact⟨a,by omega,by omega,rfl,⟨M,HA1,⟨fun x=>(rot_none M (by omega) (by omega) (Or.inr rfl) x).symm⟩⟩,HG⟩
   case round=>
    clear HA1 HG;obtain⟨k,hk0,hk,rfl,⟨K,HA1,HK⟩,HG⟩:=hrel;by_cases hlt2:k+1<i
    ·have c0:=HA1.out.cell0 (x:=k+1) (by omega)
     have c1:=HA1.out.cell1 (x:=k+1) (by omega);have d0:=HA1.out.cell0 (x:=k) (by omega);have d1:=HA1.out.cell1 (x:=k) (by omega);have f0:=HA1.out.free;have HK2:Aside0 (∀ x,upd (upd K k (K (k+1))) (k+1) (K k) x=rotM M a (a+1) (k+1+1) x):=⟨fun x=>by
      rw[sw_put2];have e:K=rotM M a (a+1) (k+1):=funext HK.out;rw[e];exact sw_rot_lo M hk0 x⟩
     obtain⟨s1,hs1⟩: ∃ s,K (k+1)=s:=⟨_,rfl⟩;obtain⟨s2,hs2⟩: ∃ s,K k=s:=⟨_,rfl⟩;rw[hs1] at c0 c1 HK2;rw[hs2] at d0 d1 HK2;clear HK hs1 hs2;go_wp2;go_region;have HA3:Aside0 (Arr (((((wr.setCell ⟨g,k * 2,none⟩ (.int .i64 s1.f0)).setCell ⟨g,k * 2+1,none⟩ (.bool s1.f1)).setCell ⟨g,(k+1) * 2,none⟩ (.int .i64 s2.f0)).setCell ⟨g,(k+1) * 2+1,none⟩ (.bool s2.f1)).drew) g N (upd (upd K k s1) (k+1) s2)):=
      ⟨((HA1.out.put (by omega) s1).put (by omega) s2).drew⟩
     have HG3:=Ya (grow_drew (grow_set (grow_set (grow_set (grow_set HG.out (k * 2) (.int .i64 s1.f0)) (k * 2+1) (.bool s1.f1)) ((k+1) * 2) (.int .i64 s2.f0)) ((k+1) * 2+1) (.bool s2.f1)));clear c0 c1 d0 d1 f0 HA1 HG;go_wp2;go_roundw
     case rel=>exact⟨k+1,by omega,by omega,by go_num,⟨_,HA3,HK2⟩,HG3⟩
     case measure=>simp[intOf]<;>omega
    ·have ek:k+1=i:=by omega
     have HA3:Aside0 (Arr wr g N (rotM M a (a+1) i)):=⟨HA1.out.congr fun x _=>by rw[HK.out,ek]⟩;clear HA1 HK;go_wp2
     (try simp only[Exit.inBlock,Exit.then]);refine bodyPost_ret (results_none rfl _ _ _) rfl ?_
     exact⟨rfl,⟨_,HA3.out,mix_wide (rot_mix M (by omega) (by omega)) (Nat.le_refl _) hj,HB.out.2,mix_small (rot_mix M (by omega) hi) (by omega) HSM.out,HB.out.1⟩,HG.out⟩
end H
namespace H
open P
attribute [local irreducible] wpQuiet
set_option maxHeartbeats 2000000 in
set_option maxRecDepth 100000 in
theorem symHi_calls (g N cap:Nat) (M:Nat→S38) (a m:Nat) (w:World) (h:Arr w g N M) (hN:N≤1000000) (hab:a+1<m) (hb:m+1≤N) (hs:Stab M N) (hsm:Small M N) (hle:Le M a m):
  Calls Try.prog 170 #[.slice (some ⟨g,0,none⟩) N cap, .int .i64 (a:Int), .int .i64 (m:Int), .int .i64 ((m:Int)+1), .func (.func 144) #[] #[]] w fun e w'=>e= .returned (.tuple #[])∧(∃ K,Arr w' g N K∧Sorted M K N a (m+1))∧Fr w w' g:=by
 have HA:=Ya h;have HSM:=Ya hsm;have HST:=Ya hs;have HLE:=Ya hle;clear h hs hsm hle;have e1:(m:Int)+1 - (m:Int)=1:=by omega
 have e2:(((m:Int) - (a:Int)) == 1)=false:=by rw[beq_eq_false_iff_ne];omega
 go_enter Try.func170,Try.ntmps170;go_wp2_with fail;go_loopw [14,15] (fun vi vj wr=> ∃ i j:Nat,a≤i∧i≤j∧j≤m∧vi= .int .i64 i∧vj= .int .i64 j∧Aside0 (Arr wr g N M)∧Aside0 (∀ y,a≤y→y<i→(M y).f0≤(M m).f0)∧Aside0 (∀ y,j≤y→y<m→(M m).f0<(M y).f0)∧Aside0 (Fr w wr g)) (fun vi vj _=>(intOf vj).toNat - (intOf vi).toNat)
 case atStart=>exact⟨a,m,Nat.le_refl _,by omega,Nat.le_refl _,rfl,rfl,HA,⟨fun y h1 h2=>by omega⟩,⟨fun y h1 h2=>by omega⟩,⟨grow_refl _ _⟩⟩
 case round=>
  clear HA;obtain⟨i,j,hi,hij,hj,rfl,rfl,HA1,HL,HR,HG⟩:=hrel;by_cases hlt:i<j
  ·obtain⟨c,hc⟩: ∃ c,(i+j) / 2=c:=⟨_,rfl⟩
   have hcz:((i:Int)+(j:Int)) / 2=(c:Int):=by omega
   have b1:=HSM.out c (by omega);have b2:=HSM.out m (by omega);have c0:=HA1.out.q0 (x:=c) (by omega);have c1:=HA1.out.q1 (x:=c) (by omega);have d0:=HA1.out.q0 (x:=m) (by omega);have d1:=HA1.out.q1 (x:=m) (by omega);have z1:(c:Int)<(N:Int):=by omega
   have z2:(m:Int)<(N:Int):=by omega
   go_wp2_with fail;refine wp_region_quiet_below (by kernel_rfl) (by kernel_rfl) ?_;(repeat(quiet_step ((go_at_call 144;exact calls_below_of (cmp_calls (M m) (M c) b2.1 b2.2 b1.1 b1.2 _)))));refine wpQuiet_nil ?_;intro wq hw';obtain⟨⟨wz,hbq⟩,hwq⟩:=hw';subst hwq;have HA2:Aside0 (Arr wq g N M):=⟨HA1.out.below hbq⟩;have HG2:Aside0 (Fr w wq g):=⟨grow_trans HG.out (grow_below hbq)⟩;have HC:=Ya hc;clear c0 c1 d0 d1 HA1 HG hbq hcz hc;have HC2:Aside0 (a≤c∧i≤c∧c<j):=by have:=HC.out;exact⟨by omega,by omega,by omega⟩
   clear HC;by_cases hlc:(M m).f0<(M c).f0
   ·have hcd:(!decide ((M m).f0 - (M c).f0<0))=false:=by rw[Yv (by omega)];rfl
    have HR2:Aside0 (∀ y,c≤y→y<m→(M m).f0<(M y).f0):=⟨fun y h1 h2=>by
     have:=le_le HLE.out (show a≤c by have:=HC2.out;omega) h1 h2;omega⟩
    clear HR hlc b1 b2;rw[hcd];clear hcd;go_wp2_with fail;go_roundw
    case rel=>exact⟨i,c,hi,by have:=HC2.out;omega,by have:=HC2.out;omega,rfl,rfl,HA2,HL,HR2,HG2⟩
    case measure=>have:=HC2.out;simp[intOf]<;>omega
   ·have hcd:(!decide ((M m).f0 - (M c).f0<0))=true:=by rw[Yw (by omega)];rfl
    have HL2:Aside0 (∀ y,a≤y→y<c+1→(M y).f0≤(M m).f0):=⟨fun y h1 h2=>by
     have:=le_le HLE.out h1 (show y≤c by omega) (by have:=HC2.out;omega);omega⟩
    clear HL hlc b1 b2;rw[hcd];clear hcd;go_wp2_with fail;go_roundw
    case rel=>exact⟨c+1,j,by have:=HC2.out;omega,by have:=HC2.out;omega,hj,by go_num,rfl,HA2,HL2,HR,HG2⟩
    case measure=>have:=HC2.out;simp[intOf]<;>omega
  ·have ij:i=j:=by omega
   subst ij;go_wp2_with fail;have HB:Aside0 (Le (rotM M i m (m+1)) a (m+1)∧Stab (rotM M i m (m+1)) N):=⟨rot_one_hi HLE.out hi hj HL.out HR.out,rot_stab HST.out hj (by omega) (by omega) (fun x y h1 h2 h3 h4=>by
    have e:y=m:=by omega
    subst e;exact HR.out x h1 h2)⟩
   clear HL HR HLE HST;obtain⟨wo,rfl⟩: ∃ wo:World,wo=wr:=⟨_,rfl⟩;go_loopw [17] (fun vk wr=> ∃ k:Nat,i≤k∧k≤m∧vk= .int .i64 k∧(∃ K,Aside0 (Arr wr g N K)∧Aside0 (∀ x,K x=rotM M k m (m+1) x))∧Aside0 (Fr w wr g)) (fun vk _=>(intOf vk).toNat)
   case atStart=>exact⟨m,by omega,Nat.le_refl _,rfl,⟨M,HA1,⟨fun x=>(rot_none M (Nat.le_refl _) (by omega) (Or.inl rfl) x).symm⟩⟩,HG⟩
   case round=>
    clear HA1 HG;obtain⟨k1,hk0,hk,rfl,⟨K,HA1,HK⟩,HG⟩:=hrel;by_cases hlt2:i<k1
    ·obtain⟨k,rfl⟩: ∃ k,k1=k+1:=⟨k1 - 1,by omega⟩
     have c0:=HA1.out.cell0 (x:=k+1) (by omega);have c1:=HA1.out.cell1 (x:=k+1) (by omega);have d0:=HA1.out.cell0 (x:=k) (by omega);have d1:=HA1.out.cell1 (x:=k) (by omega);have f0:=HA1.out.free;have hwp:IntKind.i64.wrap (k:Int)=(k:Int):=by rw[IntKind.wrap_i64];omega
     have jz:(k:Int)+1<(N:Int):=by omega
     have jz1:(k:Int)<(N:Int):=by omega
     have p0:(0:Int)≤(k:Int)+1:=by omega
     have e0:((k:Int)+1).toNat=k+1:=by omega
     have g1:(i:Int)<(k:Int)+1:=by omega
     have HK2:Aside0 (∀ x,upd (upd K (k+1) (K k)) k (K (k+1)) x=rotM M k m (m+1) x):=⟨fun x=>by
      rw[sw_put1];have e:K=rotM M (k+1) m (m+1):=funext HK.out;rw[e];exact sw_rot_hi M (by omega) x⟩
     obtain⟨s1,hs1⟩: ∃ s,K (k+1)=s:=⟨_,rfl⟩;obtain⟨s2,hs2⟩: ∃ s,K k=s:=⟨_,rfl⟩;rw[hs1] at c0 c1 HK2;rw[hs2] at d0 d1 HK2;clear HK hs1 hs2;go_wp2;go_region;have HA3:Aside0 (Arr (((((wr.setCell ⟨g,(k+1) * 2,none⟩ (.int .i64 s2.f0)).setCell ⟨g,(k+1) * 2+1,none⟩ (.bool s2.f1)).setCell ⟨g,k * 2,none⟩ (.int .i64 s1.f0)).setCell ⟨g,k * 2+1,none⟩ (.bool s1.f1)).drew) g N (upd (upd K (k+1) s2) k s1)):=
      ⟨((HA1.out.put (by omega) s2).put (by omega) s1).drew⟩
     have HG3:=Ya (grow_drew (grow_set (grow_set (grow_set (grow_set HG.out ((k+1) * 2) (.int .i64 s2.f0)) ((k+1) * 2+1) (.bool s2.f1)) (k * 2) (.int .i64 s1.f0)) (k * 2+1) (.bool s1.f1)));clear c0 c1 d0 d1 f0 HA1 HG;go_wp2;go_roundw
     case rel=>exact⟨k,by omega,by omega,rfl,⟨_,HA3,HK2⟩,HG3⟩
     case measure=>simp[intOf]<;>omega
    ·have ek:k1=i:=by omega
     have HA3:Aside0 (Arr wr g N (rotM M i m (m+1))):=⟨HA1.out.congr fun x _=>by rw[HK.out,ek]⟩;clear HA1 HK;go_wp2
     (try simp only[Exit.inBlock,Exit.then]);refine bodyPost_ret (results_none rfl _ _ _) rfl ?_
     exact⟨rfl,⟨_,HA3.out,mix_wide (rot_mix M hj (by omega)) hi (Nat.le_refl _),HB.out.2,mix_small (rot_mix M hj (by omega)) (by omega) HSM.out,HB.out.1⟩,HG.out⟩
end H
end Go.Proofs.Ytkcpanpdipmmmaa
