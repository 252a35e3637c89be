/- What the law's row needs of these texts, taken out of them by wip/tool/mini.py: P0 P2 P3 P4 P5 P58 P59 P60 P66 QBfsLaw QWayLaw QDownLaw P104 P105 P107 QBfLaw QSortArr QSortLaw. -/
import Derived.Test.YtoedkglggapggaaProg
import Derived.Below
import Derived.Deep.Draws
import Derived.Deep.AppendLies
import Derived.Maps.AppendAt
import Derived.OwnWalk
import Derived.Laws.BytesArg
import Derived.Laws.MakeOwn
import Derived.Laws.OwnMore
import Derived.Deep.OwnRows
import Derived.Tactics
import Derived.Lib.ConvBytes
import Derived.Laws.Slices
import Derived.WalkKit
import Derived.KernelRfl
import Derived.RowKit3
import Derived.Deep.LoopGhost
import Derived.Deep.QuietTactic
import Derived.BigQuiet
import Derived.WideLaws
import Derived.Deep.DeepCutAuto
import Derived.Deep.CutBlock
import Derived.Deep.RegionHeld3
import Derived.Laws.Rows
import Derived.Lib.AppendStr
import Derived.ArgAppend
import Derived.Laws.IdiomCopy
import Derived.OrdersHeld
import Derived.Laws.BitsLemmas
import Derived.RowKit
import Derived.Test.YtoedkglggapggaaVannehj
import Derived.Laws.StructEq
import Derived.Lib.LazyBuf
import Derived.RegionTactic
import Derived.ChangeAlike
import Derived.BigRegion
import Derived.LoopTactic
import Derived.Laws.AppendOwn
set_option linter.unusedVariables false
set_option linter.unusedSimpArgs false
open Go.RowKit Go.Proofs.YtoedkglggapggaaW.PrintWords Go.Proofs.YtoedkglggapggaaW.PrintLast Go.Proofs.YtoedkglggapggaaW.PrintMore
namespace Go.Proofs.Ytoedkglggapggaa
namespace P
attribute [local go_sem] max2_int min2_int max_two min_two max_three min_three max_four min_four
def errW:Option Int→Value
 |none=> .nilIface
 |some c=> .iface 0 (.int .i64 c)
theorem errW_none:errW none= .nilIface:=rfl
theorem errW_some (c:Int):errW (some c)= .iface 0 (.int .i64 c):=rfl
theorem info3:(Try.prog.info? 3).map (fun i=>(i.zero,i.size,i.bytes))=some (some (.int .i64 0),1,8):=by kernel_rfl
theorem info47:(Try.prog.info? 47).map (fun i=>(i.zero,i.size,i.bytes))=some (some (.agg #[(.slice none 0 0),(.int .i64 0)]),2,32):=by kernel_rfl
theorem info50:(Try.prog.info? 50).map (fun i=>(i.zero,i.size,i.bytes))=some (some (.agg #[(.int .i64 0),(.int .i64 0),(.int .i64 0),(.int .i64 0)]),4,32):=by kernel_rfl
theorem info79:(Try.prog.info? 79).map (fun i=>(i.zero,i.size,i.bytes))=some (some (.agg #[(.int .i64 0),(.bool false)]),2,16):=by kernel_rfl
structure S50 where
 f0:Int
 f1:Int
 f2:Int
 f3:Int
def z50:S50:=⟨(0:Int),(0:Int),(0:Int),(0:Int)⟩
def k50:Kd S50:=Kd.iso (Kd.pair (Kd.int .i64) (Kd.pair (Kd.int .i64) (Kd.pair (Kd.int .i64) (Kd.int .i64)))) (fun x:S50=>(x.f0,x.f1,x.f2,x.f3))
theorem k50_open {w:World} {x:S50} {cs:List Value} (h:k50.K w x cs):cs=[.int .i64 x.f0, .int .i64 x.f1, .int .i64 x.f2, .int .i64 x.f3]:=by
 obtain⟨_,_,rfl,rfl,⟨_,_,rfl,rfl,⟨_,_,rfl,rfl,rfl⟩⟩⟩:=h;exact rfl
theorem k50_openM {w:World} {base:Nat} {ok:Nat→Prop} {x:S50} {cs:List Value} (h:k50.M w base ok x cs):cs=[.int .i64 x.f0, .int .i64 x.f1, .int .i64 x.f2, .int .i64 x.f3]:=by
 obtain⟨_,_,rfl,rfl,⟨_,_,rfl,rfl,⟨_,_,rfl,rfl,rfl⟩⟩⟩:=h;exact rfl
theorem k50_mkM (w:World) (base:Nat) (ok:Nat→Prop) (x:S50)  :k50.M w base ok x [.int .i64 x.f0, .int .i64 x.f1, .int .i64 x.f2, .int .i64 x.f3]:=⟨[.int .i64 x.f0],[.int .i64 x.f1, .int .i64 x.f2, .int .i64 x.f3],rfl,rfl,⟨[.int .i64 x.f1],[.int .i64 x.f2, .int .i64 x.f3],rfl,rfl,⟨[.int .i64 x.f2],[.int .i64 x.f3],rfl,rfl,rfl⟩⟩⟩
def rd_T50 (xs:List S50) (i:Int):S50:=xs.getD i.toNat z50
theorem at_T50 {w:World} {A:Option Addr} {n:Nat} {xs:List S50} (h:Kd.C k50 w A n xs) (i:Int) (h0:0≤i) (h1:i<n): ∃ ad ,A=some ad∧w.cell? (ad.add (i.toNat * 4))=some (.int .i64 (rd_T50 xs i).f0)∧w.cell? ⟨(ad.add (i.toNat * 4)).block,(ad.add (i.toNat * 4)).off+1,none⟩=some (.int .i64 (rd_T50 xs i).f1)∧w.cell? ⟨(ad.add (i.toNat * 4)).block,(ad.add (i.toNat * 4)).off+2,none⟩=some (.int .i64 (rd_T50 xs i).f2)∧w.cell? ⟨(ad.add (i.toNat * 4)).block,(ad.add (i.toNat * 4)).off+3,none⟩=some (.int .i64 (rd_T50 xs i).f3):=by
 obtain⟨ad,c,e,_,hK,hc0⟩:=Kd.C_get h z50 i h0 h1;have hc: ∀ j u,c[j]? =some u→w.cell? (ad.add (i.toNat * 4+j))=some u:=hc0;obtain rfl:=k50_open hK;exact⟨ad,e,hc 0 _ rfl,by rw[← add_field _ _ 1 (by omega)];exact hc 1 _ rfl,by rw[← add_field _ _ 2 (by omega)];exact hc 2 _ rfl,by rw[← add_field _ _ 3 (by omega)];exact hc 3 _ rfl⟩
structure S79 where
 f0:Int
 f1:Bool
def z79:S79:=⟨(0:Int),false⟩
def k79:Kd S79:=Kd.iso (Kd.pair (Kd.int .i64) Kd.bool) (fun x:S79=>(x.f0,x.f1))
theorem k79_open {w:World} {x:S79} {cs:List Value} (h:k79.K w x cs):cs=[.int .i64 x.f0, .bool x.f1]:=by
 obtain⟨_,_,rfl,rfl,rfl⟩:=h;exact rfl
theorem k79_mkM (w:World) (base:Nat) (ok:Nat→Prop) (x:S79)  :k79.M w base ok x [.int .i64 x.f0, .bool x.f1]:=⟨[.int .i64 x.f0],[.bool x.f1],rfl,rfl,rfl⟩
def rd_T79 (xs:List S79) (i:Int):S79:=xs.getD i.toNat z79
theorem at_T79 {w:World} {A:Option Addr} {n:Nat} {xs:List S79} (h:Kd.C k79 w A n xs) (i:Int) (h0:0≤i) (h1:i<n): ∃ ad ,A=some ad∧w.cell? (ad.add (i.toNat * 2))=some (.int .i64 (rd_T79 xs i).f0)∧w.cell? ⟨(ad.add (i.toNat * 2)).block,(ad.add (i.toNat * 2)).off+1,none⟩=some (.bool (rd_T79 xs i).f1):=by
 obtain⟨ad,c,e,_,hK,hc0⟩:=Kd.C_get h z79 i h0 h1;have hc: ∀ j u,c[j]? =some u→w.cell? (ad.add (i.toNat * 2+j))=some u:=hc0;obtain rfl:=k79_open hK;exact⟨ad,e,hc 0 _ rfl,by rw[← add_field _ _ 1 (by omega)];exact hc 1 _ rfl⟩
def rd_L4 (xs:List (List S79)) (i:Int):(List S79):=xs.getD i.toNat ([]:List S79)
def rd_L5 (xs:List (List Int)) (i:Int):(List Int):=xs.getD i.toNat ([]:List Int)
theorem at_L5 {w:World} {A:Option Addr} {n:Nat} {xs:List (List Int)} (h:Kd.C (Kd.slice 3 (Kd.int .i64)) w A n xs) (i:Int) (h0:0≤i) (h1:i<n): ∃ ad A0 c0,A=some ad∧w.cell? (ad.add i.toNat)=some (.slice A0 (rd_L5 xs i).length c0)∧(rd_L5 xs i).length≤c0∧(Kd.int .i64).C w A0 (rd_L5 xs i).length (rd_L5 xs i):=by
 obtain⟨ad,c,e,_,hK,hc0⟩:=Kd.C_get h ([]:List Int) i h0 h1;have hc: ∀ j u,c[j]? =some u→w.cell? (ad.add (i.toNat * 1+j))=some u:=hc0;obtain⟨A0,c0,rfl,l0,g0⟩:=hK;exact⟨ad,A0,c0,e,by have hq:=hc 0 _ rfl;rwa [Nat.mul_one,Nat.add_zero] at hq,l0,g0⟩
structure S47 where
 f0:(List Int)
 f1:Int
def z47:S47:=⟨([]:List Int),(0:Int)⟩
def k47:Kd S47:=Kd.iso (Kd.pair (Kd.slice 3 (Kd.int .i64)) (Kd.int .i64)) (fun x:S47=>(x.f0,x.f1))
theorem k47_open {w:World} {x:S47} {cs:List Value} (h:k47.K w x cs): ∃ A0 c0,cs=[.slice A0 x.f0.length c0, .int .i64 x.f1]∧x.f0.length≤c0∧(Kd.int .i64).C w A0 x.f0.length x.f0:=by
 obtain⟨_,_,rfl,⟨A0,c0,rfl,l0,g0⟩,rfl⟩:=h;exact⟨A0,c0,rfl,l0,g0⟩
theorem k47_mk (w:World) (x:S47) {A0:Option Addr} {c0:Nat} (l0:x.f0.length≤c0) (g0:(Kd.int .i64).C w A0 x.f0.length x.f0):k47.K w x [.slice A0 x.f0.length c0, .int .i64 x.f1]:=⟨[.slice A0 x.f0.length c0],[.int .i64 x.f1],rfl,⟨A0,c0,rfl,l0,g0⟩,rfl⟩
theorem k47_mkM (w:World) (base:Nat) (ok:Nat→Prop) (x:S47) {v0:Value} (g0:(Kd.int .i64).R 3 w base ok v0 x.f0):k47.M w base ok x [v0, .int .i64 x.f1]:=⟨[v0],[.int .i64 x.f1],rfl,⟨v0,rfl,g0⟩,rfl⟩
theorem k47_mkF (W:World) (ok:Nat→Prop) (x:S47) {A0:Option Addr} {c0:Nat} (l0:x.f0.length≤c0) (g0:Kd.F (Kd.int .i64) W ok A0 x.f0.length x.f0):Kd.FK k47 W ok x [.slice A0 x.f0.length c0, .int .i64 x.f1]:=fun W2 hW=>k47_mk W2 x l0 (g0 W2 hW)
def rd_T47 (xs:List S47) (i:Int):S47:=xs.getD i.toNat z47
theorem at_T47 {w:World} {A:Option Addr} {n:Nat} {xs:List S47} (h:Kd.C k47 w A n xs) (i:Int) (h0:0≤i) (h1:i<n): ∃ ad A0 c0,A=some ad∧w.cell? (ad.add (i.toNat * 2))=some (.slice A0 (rd_T47 xs i).f0.length c0)∧w.cell? ⟨(ad.add (i.toNat * 2)).block,(ad.add (i.toNat * 2)).off+1,none⟩=some (.int .i64 (rd_T47 xs i).f1)∧(rd_T47 xs i).f0.length≤c0∧(Kd.int .i64).C w A0 (rd_T47 xs i).f0.length (rd_T47 xs i).f0:=by
 obtain⟨ad,c,e,_,hK,hc0⟩:=Kd.C_get h z47 i h0 h1;have hc: ∀ j u,c[j]? =some u→w.cell? (ad.add (i.toNat * 2+j))=some u:=hc0;obtain⟨A0,c0,rfl,l0,g0⟩:=k47_open hK;exact⟨ad,A0,c0,e,hc 0 _ rfl,by rw[← add_field _ _ 1 (by omega)];exact hc 1 _ rfl,l0,g0⟩
end P
namespace P
attribute [local go_sem] max2_int min2_int max_two min_two max_three min_three max_four min_four
def netfmt_nodes.f (a0:Int):Option (Int):=if a0<1 then(some 51) else(if a0>50 then(some 2) else(some 0))
set_option maxHeartbeats 8000000 in
set_option maxRecDepth 100000 in
theorem netfmt_nodes.calls (a0:Int) (r:Int) (w:World) (h:netfmt_nodes.f a0=some r):
  Calls Try.prog 80 #[.int .i64 a0] w fun e w'=>e= .returned (.int .i64 r)∧Drawn0 w w':=by
 have H:(if a0<1 then(some 51) else(if a0>50 then(some 2) else(some 0)))=some r:=h;clear h;by_cases c2:a0<1
 ·rw[Yx c2] at H
  have c2b0:decide (a0<1)=true:=Yv c2;clear c2;obtain rfl:=Option.some.inj H;go_enter Try.func80,Try.ntmps80;go_wp2;go_ret;exact⟨by first|rfl|(simp;done)|(simp[*];done),by repeat(first|exact Drawn0.refl _|apply Drawn0.step)⟩
 rw[Yy c2] at H;have c2b0:decide (a0<1)=false:=Yw c2;clear c2;by_cases c3:a0>50
 rotate_left
 ·rw[Yy c3] at H
  have c3b0:decide (50<a0)=false:=Yw c3;clear c3;obtain rfl:=Option.some.inj H;go_enter Try.func80,Try.ntmps80;go_wp2;go_ret;exact⟨by first|rfl|(simp;done)|(simp[*];done),by repeat(first|exact Drawn0.refl _|apply Drawn0.step)⟩
 rw[Yx c3] at H;have c3b0:decide (50<a0)=true:=Yv c3;clear c3;obtain rfl:=Option.some.inj H;go_enter Try.func80,Try.ntmps80;go_wp2;go_ret;exact⟨by first|rfl|(simp;done)|(simp[*];done),by repeat(first|exact Drawn0.refl _|apply Drawn0.step)⟩
end P
namespace P
attribute [local go_sem] max2_int min2_int max_two min_two max_three min_three max_four min_four
def netfmt_arc.j0:Nat→Bool→Int→Int→Int→Int→Option (Int)
 |0,_,_,_,_,_=>none
 |k+1,x5,x110000,x110001,x110002,x110003=>if x5=true then(some 51) else(if x110002>1048576 then(some 2) else(if x110003>1048576 then(some 2) else(some 0)))
def netfmt_arc.f (k:Nat) (a0:Int) (Zh:Int) (Zv:Int) (Xi:Int) (Xj:Int):Option (Int):=if (mn (mn (mn Zh Zv) Xi) Xj)<0 then(netfmt_arc.j0 k true Zh Zv Xi Xj) else(netfmt_arc.j0 k (decide ((mx Zh Zv)≥a0)) Zh Zv Xi Xj)
theorem netfmt_arc.mono_l: ∀ k,(∀ y0 y1 y2 y3 y4,LeO (netfmt_arc.j0 k y0 y1 y2 y3 y4) (netfmt_arc.j0 (k+1) y0 y1 y2 y3 y4))
 |0=>fun _ _ _ _ _ r h=>by simp[netfmt_arc.j0] at h
 |k+1=>by
  have ih0:=netfmt_arc.mono_l k
  ·intro y0 y1 y2 y3 y4
   unfold netfmt_arc.j0;repeat' first
   |(with_reducible exact ih0 _ _ _ _ _)
   |(with_reducible exact LeO.refl _)
   |(with_reducible exact LeO.none _)
   |(with_reducible refine LeO.ite ?_ ?_)
   |(with_reducible refine LeO.bind ?_ (fun _=> ?_))
   |exact ih0 _ _ _ _ _
   |exact LeO.none _
   |refine LeO.ite ?_ ?_
   |refine LeO.bind ?_ (fun _=> ?_)
theorem netfmt_arc.mono: ∀ a0 a1 a2 a3 a4 k,LeO (netfmt_arc.f k a0 a1 a2 a3 a4) (netfmt_arc.f (k+1) a0 a1 a2 a3 a4):=by
 intro a0 a1 a2 a3 a4 k;have ih0:=netfmt_arc.mono_l k;unfold netfmt_arc.f;repeat' first
   |(with_reducible exact ih0 _ _ _ _ _)
   |(with_reducible exact LeO.refl _)
   |(with_reducible exact LeO.none _)
   |(with_reducible refine LeO.ite ?_ ?_)
   |(with_reducible refine LeO.bind ?_ (fun _=> ?_))
   |exact ih0 _ _ _ _ _
   |exact LeO.none _
   |refine LeO.ite ?_ ?_
   |refine LeO.bind ?_ (fun _=> ?_)
set_option maxHeartbeats 8000000 in
set_option maxRecDepth 100000 in
theorem netfmt_arc.calls (k:Nat) (a0:Int) (Zh:Int) (Zv:Int) (Xi:Int) (Xj:Int) (r:Int) (w:World) (h:netfmt_arc.f k a0 Zh Zv Xi Xj=some r):
  Calls Try.prog 81 #[.int .i64 a0, .agg #[.int .i64 Zh, .int .i64 Zv, .int .i64 Xi, .int .i64 Xj]] w fun e w'=>e= .returned (.int .i64 r)∧Below w.heap.size w w':=by
 have hu50:=Try.underlying50;have HB:=Ya (Yo w.heap.size w);have H:(if (mn (mn (mn Zh Zv) Xi) Xj)<0 then(netfmt_arc.j0 k true Zh Zv Xi Xj) else(netfmt_arc.j0 k (decide ((mx Zh Zv)≥a0)) Zh Zv Xi Xj))=some r:=h;clear h;have HC3:=Ya H;clear H;go_enter Try.func81,Try.ntmps81;go_upto_region 1 with (first|((with_reducible refine gate_dst (N:=3) rfl ?_);(try (refine gate_guard (by rfl) ?_;dsimp only));refine Yz ?hg (N:=3) ?hd (cs:= #[.int .i64 Zh, .int .i64 Zv, .int .i64 Xi, .int .i64 Xj]) (t:=50) ?hr ?_;(case hd=>rfl);(case hg=>rfl);(case hr=>first|(go_simp;done)|(go_simp;rfl));intro Vg hg w4 Zg hb;have n0_:=Ya (Yk (by repeat(first|(with_reducible first|exact HB.out|apply Ye|apply Yd|apply Yg)|exact HB.out)) hb);have n1_:=Ya (Zg);have n2_:=Ya ((by rw[hg];exact(Yi (by repeat(first|(with_reducible first|exact HB.out|apply Ye|apply Yd|apply Yg)|exact HB.out))):w.heap.size≤Vg));have n3_:=Ya ((by rw[hg];exact(Yi (by repeat(first|(with_reducible first|exact HB.out|apply Ye|apply Yd|apply Yg)|exact HB.out))):w.heap.size≤Vg));clear HB;have HB:=n0_;have Xm:=n1_;have GW109:=n2_;have GE109:=n3_;clear n0_ n1_ n2_ n3_;clear hb Zg hg))
 (try simp only[Act.put,List.setIfInBounds_toArray,List.set_cons_zero,List.set_cons_succ])
 go_cut [5] (fun v5 wc=> ∃ (kq:Nat) (x5_2:Bool),v5= .bool x5_2∧Aside0 (netfmt_arc.j0 kq x5_2 Zh Zv Xi Xj=some r)∧Aside0 (kq≤k)∧Aside0 (wc.heap[Vg]? =some (.cells #[.int .i64 Zh, .int .i64 Zv, .int .i64 Xi, .int .i64 Xj] 50 (0,0)))∧Aside0 (Below w.heap.size w wc))
 case first=>
  have H:=HC3.out;clear HC3;obtain⟨ji5,hji5⟩: ∃ j_:Int,(mn Zh Zv)=j_:=⟨_,rfl⟩;replace H:(if (mn (mn (ji5) Xi) Xj)<0 then(netfmt_arc.j0 k true Zh Zv Xi Xj) else(netfmt_arc.j0 k (decide ((mx Zh Zv)≥a0)) Zh Zv Xi Xj))=some r:=by first|(rw[hji5] at H;exact H)|(simp only[hji5] at H ⊢;exact H)
  have hji5_:(if Zv<Zh then Zv else Zh)=ji5:=hji5;obtain⟨ji6,hji6⟩: ∃ j_:Int,(mn (ji5) Xi)=j_:=⟨_,rfl⟩;replace H:(if (mn (ji6) Xj)<0 then(netfmt_arc.j0 k true Zh Zv Xi Xj) else(netfmt_arc.j0 k (decide ((mx Zh Zv)≥a0)) Zh Zv Xi Xj))=some r:=by first|(rw[hji6] at H;exact H)|(simp only[hji6] at H ⊢;exact H)
  have hji6_:(if Xi<(ji5) then Xi else(ji5))=ji6:=hji6;obtain⟨ji7,hji7⟩: ∃ j_:Int,(mn (ji6) Xj)=j_:=⟨_,rfl⟩;replace H:(if (ji7)<0 then(netfmt_arc.j0 k true Zh Zv Xi Xj) else(netfmt_arc.j0 k (decide ((mx Zh Zv)≥a0)) Zh Zv Xi Xj))=some r:=by first|(rw[hji7] at H;exact H)|(simp only[hji7] at H ⊢;exact H)
  have hji7_:(if Xj<(ji6) then Xj else(ji6))=ji7:=hji7;by_cases c8:(ji7)<0
  ·rw[Yx c8] at H
   have c8b0:decide ((ji7)<0)=true:=Yv c8;clear c8
   (first|rw[c8b0]|(simp only[i64_w,i32_w];rw[c8b0])|skip)
   have H':=Ya H;clear H;have hcz9_0:w4.cell? ⟨Vg,0,none⟩=some (.int .i64 Zh):=(Yc Xm.out 0).trans rfl;have hcz9_1:w4.cell? ⟨Vg,1,none⟩=some (.int .i64 Zv):=(Yc Xm.out 1).trans rfl;have hcz9_2:w4.cell? ⟨Vg,2,none⟩=some (.int .i64 Xi):=(Yc Xm.out 2).trans rfl;have hcz9_3:w4.cell? ⟨Vg,3,none⟩=some (.int .i64 Xj):=(Yc Xm.out 3).trans rfl;have hfz9_0:=Yf Xm.out 0;have hfz9_1:=Yf Xm.out 1;have hfz9_2:=Yf Xm.out 2;have hfz9_3:=Yf Xm.out 3;go_wp2;go_meet
   case rel=>exact⟨_,(true),(by first|rfl|(simp;done)|(simp[*];done)),H',⟨by first|omega|exact Nat.le_refl _⟩,⟨by(with_reducible repeat(first|refine Yl ?_ _|refine Ym ?_|refine Yj ?_ _));exact Xm.out⟩,⟨by repeat(first|(with_reducible first|exact HB.out|apply Ye|apply Yd|apply Yg|refine Yh ?_ GE109.out)|exact HB.out)⟩⟩
  rw[Yy c8] at H;have c8b0:decide ((ji7)<0)=false:=Yw c8;clear c8
  (first|rw[c8b0]|(simp only[i64_w,i32_w];rw[c8b0])|skip)
  obtain⟨ji10,hji10⟩: ∃ j_:Int,(mx Zh Zv)=j_:=⟨_,rfl⟩;replace H:(netfmt_arc.j0 k (decide ((ji10)≥a0)) Zh Zv Xi Xj)=some r:=by first|(rw[hji10] at H;exact H)|(simp only[hji10] at H ⊢;exact H)
  have hji10_:(if Zh<Zv then Zv else Zh)=ji10:=hji10;have H':=Ya H;clear H;have hcz11_0:w4.cell? ⟨Vg,0,none⟩=some (.int .i64 Zh):=(Yc Xm.out 0).trans rfl;have hcz11_1:w4.cell? ⟨Vg,1,none⟩=some (.int .i64 Zv):=(Yc Xm.out 1).trans rfl;have hcz11_2:w4.cell? ⟨Vg,2,none⟩=some (.int .i64 Xi):=(Yc Xm.out 2).trans rfl;have hcz11_3:w4.cell? ⟨Vg,3,none⟩=some (.int .i64 Xj):=(Yc Xm.out 3).trans rfl;have hfz11_0:=Yf Xm.out 0;have hfz11_1:=Yf Xm.out 1;have hfz11_2:=Yf Xm.out 2;have hfz11_3:=Yf Xm.out 3;go_wp2;go_meet
  case rel=>exact⟨_,(decide ((ji10)≥a0)),(by first|rfl|(simp;done)|(simp only[← hji10]<;>(first|rfl|simp))|(simp[*];done)),H',⟨by first|omega|exact Nat.le_refl _⟩,⟨by(with_reducible repeat(first|refine Yl ?_ _|refine Ym ?_|refine Yj ?_ _));exact Xm.out⟩,⟨by repeat(first|(with_reducible first|exact HB.out|apply Ye|apply Yd|apply Yg|refine Yh ?_ GE109.out)|exact HB.out)⟩⟩
 case rest=>
  clear HC3;try clear p2
  try clear c8
  try clear c8b0
  try clear hcz11_0
  try clear hcz11_1
  try clear hcz11_2
  try clear hcz11_3
  try clear hcz9_0
  try clear hcz9_1
  try clear hcz9_2
  try clear hcz9_3
  try clear hfz11_0
  try clear hfz11_1
  try clear hfz11_2
  try clear hfz11_3
  try clear hfz9_0
  try clear hfz9_1
  try clear hfz9_2
  try clear hfz9_3
  obtain⟨kq,x5_2,rfl,HA,HJ2,Xm,HB⟩:=hcut;cases kq with
  |zero=>exact absurd HA.out (by simp[netfmt_arc.j0])
  |succ kj2=>
   have H:=HA.out;clear HA;simp only[netfmt_arc.j0] at H;by_cases c12:x5_2=true
   ·subst c12
    have H1:(some 51)=some r:=by first|(rw[Yx rfl] at H;exact H)|(rw[Yx trivial] at H;exact H)
    clear H;have H:=H1;clear H1;obtain rfl:=Option.some.inj H;go_wp2;go_ret;exact⟨by first|rfl|(simp[errW_none,errW_some]<;>rfl)|(simp[*,errW_none,errW_some]<;>rfl),by repeat(first|(with_reducible first|exact HB.out|apply Ye|apply Yd|apply Yg|refine Yh ?_ GE109.out)|exact HB.out)⟩
   replace c12:=Bool.eq_false_iff.mpr c12;subst c12;have H1:(if Xi>1048576 then(some 2) else(if Xj>1048576 then(some 2) else(some 0)))=some r:=by rw[Yy (show ¬ (false=true) by decide)] at H;exact H
   clear H;have H:=H1;clear H1;by_cases c13:Xi>1048576
   ·rw[Yx c13] at H
    have c13b0:decide (1048576<Xi)=true:=Yv c13;clear c13;obtain rfl:=Option.some.inj H;have Jc:wc.cell? ⟨Vg,0,none⟩=some (.int .i64 Zh):=(Yc Xm.out 0).trans rfl;have Jd:wc.cell? ⟨Vg,1,none⟩=some (.int .i64 Zv):=(Yc Xm.out 1).trans rfl;have Je:wc.cell? ⟨Vg,2,none⟩=some (.int .i64 Xi):=(Yc Xm.out 2).trans rfl;have hcz14_3:wc.cell? ⟨Vg,3,none⟩=some (.int .i64 Xj):=(Yc Xm.out 3).trans rfl;have Jf:=Yf Xm.out 0;have Jg:=Yf Xm.out 1;have Jh:=Yf Xm.out 2;have hfz14_3:=Yf Xm.out 3;go_wp2;go_ret;exact⟨by first|rfl|(simp[errW_none,errW_some]<;>rfl)|(simp[*,errW_none,errW_some]<;>rfl),by repeat(first|(with_reducible first|exact HB.out|apply Ye|apply Yd|apply Yg|refine Yh ?_ GE109.out)|exact HB.out)⟩
   rw[Yy c13] at H;have c13b0:decide (1048576<Xi)=false:=Yw c13;clear c13;by_cases c15:Xj>1048576
   rotate_left
   ·rw[Yy c15] at H
    have c15b0:decide (1048576<Xj)=false:=Yw c15;clear c15;obtain rfl:=Option.some.inj H;have Ji:wc.cell? ⟨Vg,0,none⟩=some (.int .i64 Zh):=(Yc Xm.out 0).trans rfl;have Jj:wc.cell? ⟨Vg,1,none⟩=some (.int .i64 Zv):=(Yc Xm.out 1).trans rfl;have hcz17_2:wc.cell? ⟨Vg,2,none⟩=some (.int .i64 Xi):=(Yc Xm.out 2).trans rfl;have hcz17_3:wc.cell? ⟨Vg,3,none⟩=some (.int .i64 Xj):=(Yc Xm.out 3).trans rfl;have Jk:=Yf Xm.out 0;have Jl:=Yf Xm.out 1;have hfz17_2:=Yf Xm.out 2;have hfz17_3:=Yf Xm.out 3;go_wp2;go_ret;exact⟨by first|rfl|(simp[errW_none,errW_some]<;>rfl)|(simp[*,errW_none,errW_some]<;>rfl),by repeat(first|(with_reducible first|exact HB.out|apply Ye|apply Yd|apply Yg|refine Yh ?_ GE109.out)|exact HB.out)⟩
   rw[Yx c15] at H;have c15b0:decide (1048576<Xj)=true:=Yv c15;clear c15;obtain rfl:=Option.some.inj H;have Jt:wc.cell? ⟨Vg,0,none⟩=some (.int .i64 Zh):=(Yc Xm.out 0).trans rfl;have Ju:wc.cell? ⟨Vg,1,none⟩=some (.int .i64 Zv):=(Yc Xm.out 1).trans rfl;have hcz16_2:wc.cell? ⟨Vg,2,none⟩=some (.int .i64 Xi):=(Yc Xm.out 2).trans rfl;have hcz16_3:wc.cell? ⟨Vg,3,none⟩=some (.int .i64 Xj):=(Yc Xm.out 3).trans rfl;have Jv:=Yf Xm.out 0;have Jw:=Yf Xm.out 1;have hfz16_2:=Yf Xm.out 2;have hfz16_3:=Yf Xm.out 3;go_wp2;go_ret;exact⟨by first|rfl|(simp[errW_none,errW_some]<;>rfl)|(simp[*,errW_none,errW_some]<;>rfl),by repeat(first|(with_reducible first|exact HB.out|apply Ye|apply Yd|apply Yg|refine Yh ?_ GE109.out)|exact HB.out)⟩
end P
namespace P
attribute [local go_sem] max2_int min2_int max_two min_two max_three min_three max_four min_four
def netfmt_Check.l0:Nat→List (S50)→Int→Int→Int→Bool→List (S50)→Option (Int)
 |0,_,_,_,_,_,_=>none
 |k+1,x18,x19,x20,x111000,x111001,x111002=>if x20<x19 then(if 0≤x20 then(if x20<(x18.length:Int) then((netfmt_arc.f k x111000 ((rd_T50 x18 x20).f0) ((rd_T50 x18 x20).f1) ((rd_T50 x18 x20).f2) ((rd_T50 x18 x20).f3)).bind fun t114=>(if t114=0 then(netfmt_Check.l0 k x18 x19 (wrap64 (x20+1)) x111000 x111001 x111002) else(some t114))) else(none)) else(none)) else(some 0)
def netfmt_Check.f (k:Nat) (Zb:Int) (Zc:Bool) (Za:List (S50)):Option (Int):=(netfmt_nodes.f Zb).bind fun t111=>(if t111=0 then(if (Za.length:Int)>200 then(some 2) else(netfmt_Check.l0 k Za (Za.length:Int) 0 Zb Zc Za)) else(some t111))
theorem netfmt_Check.mono_l: ∀ k,(∀ y0 y1 y2 y3 y4 y5,LeO (netfmt_Check.l0 k y0 y1 y2 y3 y4 y5) (netfmt_Check.l0 (k+1) y0 y1 y2 y3 y4 y5))
 |0=>fun _ _ _ _ _ _ r h=>by simp[netfmt_Check.l0] at h
 |k+1=>by
  have ih0:=netfmt_Check.mono_l k
  ·intro y0 y1 y2 y3 y4 y5
   unfold netfmt_Check.l0;repeat' first
   |(with_reducible exact ih0 _ _ _ _ _ _)
   |(with_reducible exact netfmt_arc.mono _ _ _ _ _ _)
   |(with_reducible exact LeO.refl _)
   |(with_reducible exact LeO.none _)
   |(with_reducible refine LeO.ite ?_ ?_)
   |(with_reducible refine LeO.bind ?_ (fun _=> ?_))
   |exact ih0 _ _ _ _ _ _
   |exact netfmt_arc.mono _ _ _ _ _ _
   |exact LeO.none _
   |refine LeO.ite ?_ ?_
   |refine LeO.bind ?_ (fun _=> ?_)
theorem netfmt_Check.mono: ∀ a0 a1 a2 k,LeO (netfmt_Check.f k a0 a1 a2) (netfmt_Check.f (k+1) a0 a1 a2):=by
 intro a0 a1 a2 k;have ih0:=netfmt_Check.mono_l k;unfold netfmt_Check.f;repeat' first
   |(with_reducible exact ih0 _ _ _ _ _ _)
   |(with_reducible exact netfmt_arc.mono _ _ _ _ _ _)
   |(with_reducible exact LeO.refl _)
   |(with_reducible exact LeO.none _)
   |(with_reducible refine LeO.ite ?_ ?_)
   |(with_reducible refine LeO.bind ?_ (fun _=> ?_))
   |exact ih0 _ _ _ _ _ _
   |exact netfmt_arc.mono _ _ _ _ _ _
   |exact LeO.none _
   |refine LeO.ite ?_ ?_
   |refine LeO.bind ?_ (fun _=> ?_)
set_option maxHeartbeats 8000000 in
set_option maxRecDepth 100000 in
theorem netfmt_Check.calls (k:Nat) (Zb:Int) (Zc:Bool) (Ze:Option Addr) (Zd:Nat) (Za:List (S50)) (r:Int) (w:World) (Zq:Kd.C k50 w Ze Za.length Za) (Zr:Za.length≤Zd) (h:netfmt_Check.f k Zb Zc Za=some r):
  Calls Try.prog 61 #[.agg #[.int .i64 Zb, .bool Zc, .slice Ze Za.length Zd]] w fun e w'=>e= .returned (.int .i64 r)∧Below w.heap.size w w':=by
 have hu24:=Try.underlying24;have hu50:=Try.underlying50;have Zk:=Ya Zq;have Zw:=Ya Zr;clear Zq Zr;have HB:=Ya (Yo w.heap.size w);have H:((netfmt_nodes.f Zb).bind fun t111=>(if t111=0 then(if (Za.length:Int)>200 then(some 2) else(netfmt_Check.l0 k Za (Za.length:Int) 0 Zb Zc Za)) else(some t111)))=some r:=h;clear h;replace H:=Option.bind_eq_some_iff.mp H;obtain⟨t111,A20,H⟩:=H;replace H:(if t111=0 then(if (Za.length:Int)>200 then(some 2) else(netfmt_Check.l0 k Za (Za.length:Int) 0 Zb Zc Za)) else(some t111))=some r:=H;have A2:=Ya A20;clear A20;by_cases c3:t111=0
 rotate_left
 ·rw[Yy c3] at H
  have c3b0:(t111 == 0)=false:=beq_eq_false_iff_ne.mpr c3;have c3b1:(t111 != 0)=true:=bne_iff_ne.mpr c3;obtain rfl:=Option.some.inj H;go_enter Try.func61,Try.ntmps61;go_wp2_with (first|((with_reducible refine gate_dst (N:=1) rfl ?_);refine Yz ?hg (N:=1) ?hd (cs:= #[.int .i64 Zb, .bool Zc, .slice Ze Za.length Zd]) (t:=24) ?hr ?_;(case hd=>rfl);(case hg=>rfl);(case hr=>first|(go_simp;done)|(go_simp;rfl));intro Wa hg w24 Zg hb;have n0_:=Ya (Yk (by repeat(first|(with_reducible first|exact HB.out|apply Ye|apply Yd|apply Yg)|exact HB.out)) hb);have n1_:=Ya (Zg);have n2_:=Ya ((by rw[hg];exact(Yi (by repeat(first|(with_reducible first|exact HB.out|apply Ye|apply Yd|apply Yg)|exact HB.out))):w.heap.size≤Wa));have n3_:=Ya ((by rw[hg];exact(Yi (by repeat(first|(with_reducible first|exact HB.out|apply Ye|apply Yd|apply Yg)|exact HB.out))):w.heap.size≤Wa));clear HB;have HB:=n0_;have Xg:=n1_;have GW110:=n2_;have Un:=n3_;clear n0_ n1_ n2_ n3_;clear hb Zg hg;have hcz25_0:w24.cell? ⟨Wa,0,none⟩=some (.int .i64 Zb):=(Yc Xg.out 0).trans rfl;have hcz25_1:w24.cell? ⟨Wa,1,none⟩=some (.bool Zc):=(Yc Xg.out 1).trans rfl;have hcz25_2:w24.cell? ⟨Wa,2,none⟩=some (.slice Ze Za.length Zd):=(Yc Xg.out 2).trans rfl;have hfz25_0:=Yf Xg.out 0;have hfz25_1:=Yf Xg.out 1;have hfz25_2:=Yf Xg.out 2)|((with_reducible refine gate_callee (f:=80) rfl ?_);refine goesL_ (some 9) rfl rfl Try.func80 (by kernel_rfl) rfl #[.int .i64 Zb] rfl (by(try simp only[List.map_toArray,List.map_cons,List.map_nil]);first|done|rfl|(simp only[List.length_drop,List.length_take];rfl)) ?_;(with_reducible refine(netfmt_nodes.calls Zb t111 _ A2.out).mono ?_);rintro e w' ⟨rfl,⟨nd,rfl⟩⟩;refine⟨_,rfl,?_⟩));go_ret;exact⟨by first|rfl|(simp[errW_none,errW_some]<;>rfl)|(simp[*,errW_none,errW_some]<;>rfl),by repeat(first|(with_reducible first|exact HB.out|apply Ye|apply Yd|apply Yg|refine Yh ?_ Un.out)|exact HB.out)⟩
 rw[Yx c3] at H;have c3b0:(t111 == 0)=true:=beq_iff_eq.mpr c3;have c3b1:(t111 != 0)=false:=bne_eq_false_iff_eq.mpr c3;clear c3;by_cases c4:(Za.length:Int)>200
 ·rw[Yx c4] at H
  have c4b0:decide (200<(Za.length:Int))=true:=Yv c4;have c4b1:decide (200<Za.length)=true:=Yv (by omega);clear c4;obtain rfl:=Option.some.inj H;go_enter Try.func61,Try.ntmps61;go_wp2_with (first|((with_reducible refine gate_dst (N:=1) rfl ?_);refine Yz ?hg (N:=1) ?hd (cs:= #[.int .i64 Zb, .bool Zc, .slice Ze Za.length Zd]) (t:=24) ?hr ?_;(case hd=>rfl);(case hg=>rfl);(case hr=>first|(go_simp;done)|(go_simp;rfl));intro Wa hg w5 Zg hb;have n0_:=Ya (Yk (by repeat(first|(with_reducible first|exact HB.out|apply Ye|apply Yd|apply Yg)|exact HB.out)) hb);have n1_:=Ya (Zg);have n2_:=Ya ((by rw[hg];exact(Yi (by repeat(first|(with_reducible first|exact HB.out|apply Ye|apply Yd|apply Yg)|exact HB.out))):w.heap.size≤Wa));have n3_:=Ya ((by rw[hg];exact(Yi (by repeat(first|(with_reducible first|exact HB.out|apply Ye|apply Yd|apply Yg)|exact HB.out))):w.heap.size≤Wa));clear HB;have HB:=n0_;have Xg:=n1_;have GW110:=n2_;have Un:=n3_;clear n0_ n1_ n2_ n3_;clear hb Zg hg;have hcz6_0:w5.cell? ⟨Wa,0,none⟩=some (.int .i64 Zb):=(Yc Xg.out 0).trans rfl;have hcz6_1:w5.cell? ⟨Wa,1,none⟩=some (.bool Zc):=(Yc Xg.out 1).trans rfl;have hcz6_2:w5.cell? ⟨Wa,2,none⟩=some (.slice Ze Za.length Zd):=(Yc Xg.out 2).trans rfl;have hfz6_0:=Yf Xg.out 0;have hfz6_1:=Yf Xg.out 1;have hfz6_2:=Yf Xg.out 2)|((with_reducible refine gate_callee (f:=80) rfl ?_);refine goesL_ (some 9) rfl rfl Try.func80 (by kernel_rfl) rfl #[.int .i64 Zb] rfl (by(try simp only[List.map_toArray,List.map_cons,List.map_nil]);first|done|rfl|(simp only[List.length_drop,List.length_take];rfl)) ?_;(with_reducible refine(netfmt_nodes.calls Zb t111 _ A2.out).mono ?_);rintro e w' ⟨rfl,⟨nd,rfl⟩⟩;refine⟨_,rfl,?_⟩));go_ret;exact⟨by first|rfl|(simp[errW_none,errW_some]<;>rfl)|(simp[*,errW_none,errW_some]<;>rfl),by repeat(first|(with_reducible first|exact HB.out|apply Ye|apply Yd|apply Yg|refine Yh ?_ Un.out)|exact HB.out)⟩
 rw[Yy c4] at H;have c4b0:decide (200<(Za.length:Int))=false:=Yw c4;have c4b1:decide (200<Za.length)=false:=Yw (by omega);clear c4;have H':=Ya H;clear H;go_enter Try.func61,Try.ntmps61;go_wp2_with (first|((with_reducible refine gate_dst (N:=1) rfl ?_);refine Yz ?hg (N:=1) ?hd (cs:= #[.int .i64 Zb, .bool Zc, .slice Ze Za.length Zd]) (t:=24) ?hr ?_;(case hd=>rfl);(case hg=>rfl);(case hr=>first|(go_simp;done)|(go_simp;rfl));intro Wa hg w7 Zg hb;have n0_:=Ya (Yk (by repeat(first|(with_reducible first|exact HB.out|apply Ye|apply Yd|apply Yg)|exact HB.out)) hb);have n1_:=Ya (Zg);have n2_:=Ya ((by rw[hg];exact(Yi (by repeat(first|(with_reducible first|exact HB.out|apply Ye|apply Yd|apply Yg)|exact HB.out))):w.heap.size≤Wa));have n3_:=Ya ((by rw[hg];exact(Yi (by repeat(first|(with_reducible first|exact HB.out|apply Ye|apply Yd|apply Yg)|exact HB.out))):w.heap.size≤Wa));clear HB;have HB:=n0_;have Xg:=n1_;have GW110:=n2_;have Un:=n3_;clear n0_ n1_ n2_ n3_;clear hb Zg hg;have Vh:w7.cell? ⟨Wa,0,none⟩=some (.int .i64 Zb):=(Yc Xg.out 0).trans rfl;have Vi:w7.cell? ⟨Wa,1,none⟩=some (.bool Zc):=(Yc Xg.out 1).trans rfl;have Vj:w7.cell? ⟨Wa,2,none⟩=some (.slice Ze Za.length Zd):=(Yc Xg.out 2).trans rfl;have Vk:=Yf Xg.out 0;have Vl:=Yf Xg.out 1;have Vm:=Yf Xg.out 2)|((with_reducible refine gate_callee (f:=80) rfl ?_);refine goesL_ (some 9) rfl rfl Try.func80 (by kernel_rfl) rfl #[.int .i64 Zb] rfl (by(try simp only[List.map_toArray,List.map_cons,List.map_nil]);first|done|rfl|(simp only[List.length_drop,List.length_take];rfl)) ?_;(with_reducible refine(netfmt_nodes.calls Zb t111 _ A2.out).mono ?_);rintro e w' ⟨rfl,⟨nd,rfl⟩⟩;refine⟨_,rfl,?_⟩));go_loopg [20] k (fun kq v20 w'=> ∃ (Xc:Int),v20= .int .i64 Xc∧Aside0 (netfmt_Check.l0 kq Za (Za.length:Int) Xc Zb Zc Za=some r)∧Aside0 (kq≤k)∧Aside0 (w'.heap[Wa]? =some (.cells #[.int .i64 Zb, .bool Zc,(.slice Ze Za.length Zd)] 24 (0,0)))∧Aside0 (Below w.heap.size w w'))
 case atStart=>exact⟨(0),(by first|rfl|(simp;done)|(simp[*];done)),H',⟨Nat.le_refl _⟩,⟨by(with_reducible repeat(first|refine Yl ?_ _|refine Ym ?_|refine Yj ?_ _));exact Xg.out⟩,⟨by repeat(first|(with_reducible first|exact HB.out|apply Ye|apply Yd|apply Yg|refine Yh ?_ Un.out)|exact HB.out)⟩⟩
 case round=>
  clear H';try clear p2
  try clear c3
  try clear c3b0
  try clear c3b1
  try clear c4
  try clear c4b0
  try clear c4b1
  try clear c6
  try clear c8
  try clear hcz6_0
  try clear hcz6_1
  try clear hcz6_2
  try clear Vh
  try clear Vi
  try clear Vj
  try clear hfz6_0
  try clear hfz6_1
  try clear hfz6_2
  try clear Vk
  try clear Vl
  try clear Vm
  obtain⟨Xc,rfl,HA,HK1,Xg,HB⟩:=hrel;cases gk with
  |zero=>exact absurd HA.out (by simp[netfmt_Check.l0])
  |succ k1=>
   have H:=HA.out;clear HA;simp only[netfmt_Check.l0] at H;by_cases c9:Xc<(Za.length:Int)
   rotate_left
   ·rw[Yy c9] at H
    have c9b0:decide (Xc<(Za.length:Int))=false:=Yw c9;clear c9;obtain rfl:=Option.some.inj H;go_wp2;go_ret;exact⟨by first|rfl|(simp[errW_none,errW_some]<;>rfl)|(simp[*,errW_none,errW_some]<;>rfl),by repeat(first|(with_reducible first|exact HB.out|apply Ye|apply Yd|apply Yg|refine Yh ?_ Un.out)|exact HB.out)⟩
   rw[Yx c9] at H;have c9b0:decide (Xc<(Za.length:Int))=true:=Yv c9;clear c9;by_cases c10:0≤Xc
   rotate_left
   ·rw[Yy c10] at H
    exact absurd H (by simp)
   rw[Yx c10] at H;have c10b0:decide (0≤Xc)=true:=Yv c10;clear c10;by_cases c11:Xc<(Za.length:Int)
   rotate_left
   ·rw[Yy c11] at H
    exact absurd H (by simp)
   rw[Yx c11] at H;have c11b0:decide (Xc<(Za.length:Int))=true:=Yv c11;clear c11;replace H:=Option.bind_eq_some_iff.mp H;obtain⟨t114,A120,H⟩:=H;replace H:(if t114=0 then(netfmt_Check.l0 k1 Za (Za.length:Int) (wrap64 (Xc+1)) Zb Zc Za) else(some t114))=some r:=H;have A12:=Ya A120;clear A120;by_cases c13:t114=0
   rotate_left
   ·rw[Yy c13] at H
    have c13b0:(t114 == 0)=false:=beq_eq_false_iff_ne.mpr c13;have c13b1:(t114 != 0)=true:=bne_iff_ne.mpr c13;obtain rfl:=Option.some.inj H;have p112:0≤(Xc:Int):=Yu (by first|(with_reducible assumption)|assumption);have q112:Xc<(Za.length:Int):=Yu (by first|(with_reducible assumption)|assumption);obtain⟨ad112,e112,Jx,Jy,Jz,hx112_3⟩:=at_T50 Zk.out Xc p112 q112;cases e112;replace Jx:=(HB.out.cell (Yb w _ Jx)).trans Jx;replace Jy:=(HB.out.cell (Yb w _ Jy)).trans Jy;replace Jz:=(HB.out.cell (Yb w _ Jz)).trans Jz;replace hx112_3:=(HB.out.cell (Yb w _ hx112_3)).trans hx112_3;replace p112:=eq_true p112;replace q112:=eq_true q112;go_wp2_with (first|((with_reducible refine gate_dst (N:=5) rfl ?_);refine Yz ?hg (N:=5) ?hd (cs:= #[.int .i64 0, .int .i64 0, .int .i64 0, .int .i64 0]) (t:=50) ?hr ?_;(case hd=>rfl);(case hg=>rfl);(case hr=>first|(go_simp;done)|(go_simp;rfl));intro Vt hg w19 Zg hb;have n0_:=Ya (Yn (g:=Wa) (o:= .cells #[.int .i64 Zb, .bool Zc, .slice (some ad112) Za.length Zd] 24 (0,0)) (by(with_reducible repeat(first|refine Yl ?_ _|refine Ym ?_|refine Yj ?_ _));exact Xg.out) hb);have n1_:=Ya (Yk (by repeat(first|(with_reducible first|exact HB.out|apply Ye|apply Yd|apply Yg|refine Yh ?_ Un.out)|exact HB.out)) hb);have n2_:=Ya (Zg);have n3_:=Ya ((by rw[hg];exact(Yi (by repeat(first|(with_reducible first|exact HB.out|apply Ye|apply Yd|apply Yg|refine Yh ?_ Un.out)|exact HB.out))):w.heap.size≤Vt));have n4_:=Ya ((by rw[hg];exact(Yi (by repeat(first|(with_reducible first|exact HB.out|apply Ye|apply Yd|apply Yg|refine Yh ?_ Un.out)|exact HB.out))):w.heap.size≤Vt));have n5_:=Ya ((by rw[hg];exact Nat.ne_of_lt (blk_lt (g:=Wa) (o:= .cells #[.int .i64 Zb, .bool Zc, .slice (some ad112) Za.length Zd] 24 (0,0)) (by(with_reducible repeat(first|refine Yl ?_ _|refine Ym ?_|refine Yj ?_ _));exact Xg.out)):Wa≠Vt));have n6_:=Ya ((by rw[hg];exact Nat.ne_of_gt (blk_lt (g:=Wa) (o:= .cells #[.int .i64 Zb, .bool Zc, .slice (some ad112) Za.length Zd] 24 (0,0)) (by(with_reducible repeat(first|refine Yl ?_ _|refine Ym ?_|refine Yj ?_ _));exact Xg.out)):Vt≠Wa));clear Xg;clear HB;have Xg:=n0_;have HB:=n1_;have Vn:=n2_;have GW113:=n3_;have GE113:=n4_;have Wp:=n5_;have NB113_110:=n6_;clear n0_ n1_ n2_ n3_ n4_ n5_ n6_;clear hb Zg hg;have hnb20:=NB113_110.out;have hnc20:=Wp.out;have hcz21_0:w19.cell? ⟨Vt,0,none⟩=some (.int .i64 0):=(Yc Vn.out 0).trans rfl;have hcz21_1:w19.cell? ⟨Vt,1,none⟩=some (.int .i64 0):=(Yc Vn.out 1).trans rfl;have hcz21_2:w19.cell? ⟨Vt,2,none⟩=some (.int .i64 0):=(Yc Vn.out 2).trans rfl;have hcz21_3:w19.cell? ⟨Vt,3,none⟩=some (.int .i64 0):=(Yc Vn.out 3).trans rfl;have hfz21_0:=Yf Vn.out 0;have hfz21_1:=Yf Vn.out 1;have hfz21_2:=Yf Vn.out 2;have hfz21_3:=Yf Vn.out 3;have hcz22_0:w19.cell? ⟨Wa,0,none⟩=some (.int .i64 Zb):=(Yc Xg.out 0).trans rfl;have hcz22_1:w19.cell? ⟨Wa,1,none⟩=some (.bool Zc):=(Yc Xg.out 1).trans rfl;have hcz22_2:w19.cell? ⟨Wa,2,none⟩=some (.slice (some ad112) Za.length Zd):=(Yc Xg.out 2).trans rfl;have hfz22_0:=Yf Xg.out 0;have hfz22_1:=Yf Xg.out 1;have hfz22_2:=Yf Xg.out 2)|((with_reducible refine gate_callee (f:=81) rfl ?_);refine goesL_ (some 27) rfl rfl Try.func81 (by kernel_rfl) rfl #[.int .i64 Zb, .agg #[.int .i64 ((rd_T50 Za Xc).f0), .int .i64 ((rd_T50 Za Xc).f1), .int .i64 ((rd_T50 Za Xc).f2), .int .i64 ((rd_T50 Za Xc).f3)]] rfl (by(try simp only[List.map_toArray,List.map_cons,List.map_nil]);first|done|rfl|(simp only[List.length_drop,List.length_take];rfl)) ?_;(with_reducible refine(netfmt_arc.calls k1 Zb ((rd_T50 Za Xc).f0) ((rd_T50 Za Xc).f1) ((rd_T50 Za Xc).f2) ((rd_T50 Za Xc).f3) t114 _ A12.out).mono ?_);rintro e w23 ⟨rfl,hb⟩;refine⟨_,rfl,?_⟩;have n0_:=Ya (Yn (g:=Wa) (o:= .cells #[.int .i64 Zb, .bool Zc, .slice (some ad112) Za.length Zd] 24 (0,0)) (by(with_reducible repeat(first|refine Yl ?_ _|refine Ym ?_|refine Yj ?_ _));refine blk_far ?_ Wp.out _;(with_reducible repeat(first|refine Yl ?_ _|refine Ym ?_|refine Yj ?_ _));refine blk_far ?_ Wp.out _;(with_reducible repeat(first|refine Yl ?_ _|refine Ym ?_|refine Yj ?_ _));refine blk_far ?_ Wp.out _;(with_reducible repeat(first|refine Yl ?_ _|refine Ym ?_|refine Yj ?_ _));refine blk_far ?_ Wp.out _;(with_reducible repeat(first|refine Yl ?_ _|refine Ym ?_|refine Yj ?_ _));exact Xg.out) hb);have n1_:=Ya (Yn (g:=Vt) (o:= .cells #[.int .i64 ((rd_T50 Za Xc).f0), .int .i64 ((rd_T50 Za Xc).f1), .int .i64 ((rd_T50 Za Xc).f2), .int .i64 ((rd_T50 Za Xc).f3)] 50 (0,0)) (by(with_reducible repeat(first|refine Yl ?_ _|refine Ym ?_|refine Yj ?_ _));refine YA (cs:= #[.int .i64 ((rd_T50 Za Xc).f0), .int .i64 ((rd_T50 Za Xc).f1), .int .i64 ((rd_T50 Za Xc).f2), .int .i64 0]) ?_ 3 _ rfl;(with_reducible repeat(first|refine Yl ?_ _|refine Ym ?_|refine Yj ?_ _));refine YA (cs:= #[.int .i64 ((rd_T50 Za Xc).f0), .int .i64 ((rd_T50 Za Xc).f1), .int .i64 0, .int .i64 0]) ?_ 2 _ rfl;(with_reducible repeat(first|refine Yl ?_ _|refine Ym ?_|refine Yj ?_ _));refine YA (cs:= #[.int .i64 ((rd_T50 Za Xc).f0), .int .i64 0, .int .i64 0, .int .i64 0]) ?_ 1 _ rfl;(with_reducible repeat(first|refine Yl ?_ _|refine Ym ?_|refine Yj ?_ _));refine YA (cs:= #[.int .i64 0, .int .i64 0, .int .i64 0, .int .i64 0]) ?_ 0 _ rfl;(with_reducible repeat(first|refine Yl ?_ _|refine Ym ?_|refine Yj ?_ _));exact Vn.out) hb);have n2_:=Ya (Yk (by repeat(first|(with_reducible first|exact HB.out|apply Ye|apply Yd|apply Yg|refine Yh ?_ Un.out|refine Yh ?_ GE113.out)|exact HB.out)) hb);clear Xg;clear Vn;clear HB;have Xg:=n0_;have Vn:=n1_;have HB:=n2_;clear n0_ n1_ n2_;(try clear hb);(try clear hb2);(try clear hk);(try clear hi)));go_ret;exact⟨by first|rfl|(simp[errW_none,errW_some]<;>rfl)|(simp[*,errW_none,errW_some]<;>rfl),by repeat(first|(with_reducible first|exact HB.out|apply Ye|apply Yd|apply Yg|refine Yh ?_ Un.out|refine Yh ?_ GE113.out)|exact HB.out)⟩
   rw[Yx c13] at H;have c13b0:(t114 == 0)=true:=beq_iff_eq.mpr c13;have c13b1:(t114 != 0)=false:=bne_eq_false_iff_eq.mpr c13;clear c13;have H':=Ya H;clear H;have p112:0≤(Xc:Int):=Yu (by first|(with_reducible assumption)|assumption);have q112:Xc<(Za.length:Int):=Yu (by first|(with_reducible assumption)|assumption);obtain⟨ad112,e112,Jx,Jy,Jz,hx112_3⟩:=at_T50 Zk.out Xc p112 q112;cases e112;replace Jx:=(HB.out.cell (Yb w _ Jx)).trans Jx;replace Jy:=(HB.out.cell (Yb w _ Jy)).trans Jy;replace Jz:=(HB.out.cell (Yb w _ Jz)).trans Jz;replace hx112_3:=(HB.out.cell (Yb w _ hx112_3)).trans hx112_3;replace p112:=eq_true p112;replace q112:=eq_true q112;go_wp2_with (first|((with_reducible refine gate_dst (N:=5) rfl ?_);refine Yz ?hg (N:=5) ?hd (cs:= #[.int .i64 0, .int .i64 0, .int .i64 0, .int .i64 0]) (t:=50) ?hr ?_;(case hd=>rfl);(case hg=>rfl);(case hr=>first|(go_simp;done)|(go_simp;rfl));intro Vt hg w14 Zg hb;have n0_:=Ya (Yn (g:=Wa) (o:= .cells #[.int .i64 Zb, .bool Zc, .slice (some ad112) Za.length Zd] 24 (0,0)) (by(with_reducible repeat(first|refine Yl ?_ _|refine Ym ?_|refine Yj ?_ _));exact Xg.out) hb);have n1_:=Ya (Yk (by repeat(first|(with_reducible first|exact HB.out|apply Ye|apply Yd|apply Yg|refine Yh ?_ Un.out)|exact HB.out)) hb);have n2_:=Ya (Zg);have n3_:=Ya ((by rw[hg];exact(Yi (by repeat(first|(with_reducible first|exact HB.out|apply Ye|apply Yd|apply Yg|refine Yh ?_ Un.out)|exact HB.out))):w.heap.size≤Vt));have n4_:=Ya ((by rw[hg];exact(Yi (by repeat(first|(with_reducible first|exact HB.out|apply Ye|apply Yd|apply Yg|refine Yh ?_ Un.out)|exact HB.out))):w.heap.size≤Vt));have n5_:=Ya ((by rw[hg];exact Nat.ne_of_lt (blk_lt (g:=Wa) (o:= .cells #[.int .i64 Zb, .bool Zc, .slice (some ad112) Za.length Zd] 24 (0,0)) (by(with_reducible repeat(first|refine Yl ?_ _|refine Ym ?_|refine Yj ?_ _));exact Xg.out)):Wa≠Vt));have n6_:=Ya ((by rw[hg];exact Nat.ne_of_gt (blk_lt (g:=Wa) (o:= .cells #[.int .i64 Zb, .bool Zc, .slice (some ad112) Za.length Zd] 24 (0,0)) (by(with_reducible repeat(first|refine Yl ?_ _|refine Ym ?_|refine Yj ?_ _));exact Xg.out)):Vt≠Wa));clear Xg;clear HB;have Xg:=n0_;have HB:=n1_;have Vn:=n2_;have GW113:=n3_;have GE113:=n4_;have Wp:=n5_;have NB113_110:=n6_;clear n0_ n1_ n2_ n3_ n4_ n5_ n6_;clear hb Zg hg;have hnb15:=NB113_110.out;have hnc15:=Wp.out;have Jt:w14.cell? ⟨Vt,0,none⟩=some (.int .i64 0):=(Yc Vn.out 0).trans rfl;have Ju:w14.cell? ⟨Vt,1,none⟩=some (.int .i64 0):=(Yc Vn.out 1).trans rfl;have hcz16_2:w14.cell? ⟨Vt,2,none⟩=some (.int .i64 0):=(Yc Vn.out 2).trans rfl;have hcz16_3:w14.cell? ⟨Vt,3,none⟩=some (.int .i64 0):=(Yc Vn.out 3).trans rfl;have Jv:=Yf Vn.out 0;have Jw:=Yf Vn.out 1;have hfz16_2:=Yf Vn.out 2;have hfz16_3:=Yf Vn.out 3;have Ji:w14.cell? ⟨Wa,0,none⟩=some (.int .i64 Zb):=(Yc Xg.out 0).trans rfl;have Jj:w14.cell? ⟨Wa,1,none⟩=some (.bool Zc):=(Yc Xg.out 1).trans rfl;have hcz17_2:w14.cell? ⟨Wa,2,none⟩=some (.slice (some ad112) Za.length Zd):=(Yc Xg.out 2).trans rfl;have Jk:=Yf Xg.out 0;have Jl:=Yf Xg.out 1;have hfz17_2:=Yf Xg.out 2)|((with_reducible refine gate_callee (f:=81) rfl ?_);refine goesL_ (some 27) rfl rfl Try.func81 (by kernel_rfl) rfl #[.int .i64 Zb, .agg #[.int .i64 ((rd_T50 Za Xc).f0), .int .i64 ((rd_T50 Za Xc).f1), .int .i64 ((rd_T50 Za Xc).f2), .int .i64 ((rd_T50 Za Xc).f3)]] rfl (by(try simp only[List.map_toArray,List.map_cons,List.map_nil]);first|done|rfl|(simp only[List.length_drop,List.length_take];rfl)) ?_;(with_reducible refine(netfmt_arc.calls k1 Zb ((rd_T50 Za Xc).f0) ((rd_T50 Za Xc).f1) ((rd_T50 Za Xc).f2) ((rd_T50 Za Xc).f3) t114 _ A12.out).mono ?_);rintro e w18 ⟨rfl,hb⟩;refine⟨_,rfl,?_⟩;have n0_:=Ya (Yn (g:=Wa) (o:= .cells #[.int .i64 Zb, .bool Zc, .slice (some ad112) Za.length Zd] 24 (0,0)) (by(with_reducible repeat(first|refine Yl ?_ _|refine Ym ?_|refine Yj ?_ _));refine blk_far ?_ Wp.out _;(with_reducible repeat(first|refine Yl ?_ _|refine Ym ?_|refine Yj ?_ _));refine blk_far ?_ Wp.out _;(with_reducible repeat(first|refine Yl ?_ _|refine Ym ?_|refine Yj ?_ _));refine blk_far ?_ Wp.out _;(with_reducible repeat(first|refine Yl ?_ _|refine Ym ?_|refine Yj ?_ _));refine blk_far ?_ Wp.out _;(with_reducible repeat(first|refine Yl ?_ _|refine Ym ?_|refine Yj ?_ _));exact Xg.out) hb);have n1_:=Ya (Yn (g:=Vt) (o:= .cells #[.int .i64 ((rd_T50 Za Xc).f0), .int .i64 ((rd_T50 Za Xc).f1), .int .i64 ((rd_T50 Za Xc).f2), .int .i64 ((rd_T50 Za Xc).f3)] 50 (0,0)) (by(with_reducible repeat(first|refine Yl ?_ _|refine Ym ?_|refine Yj ?_ _));refine YA (cs:= #[.int .i64 ((rd_T50 Za Xc).f0), .int .i64 ((rd_T50 Za Xc).f1), .int .i64 ((rd_T50 Za Xc).f2), .int .i64 0]) ?_ 3 _ rfl;(with_reducible repeat(first|refine Yl ?_ _|refine Ym ?_|refine Yj ?_ _));refine YA (cs:= #[.int .i64 ((rd_T50 Za Xc).f0), .int .i64 ((rd_T50 Za Xc).f1), .int .i64 0, .int .i64 0]) ?_ 2 _ rfl;(with_reducible repeat(first|refine Yl ?_ _|refine Ym ?_|refine Yj ?_ _));refine YA (cs:= #[.int .i64 ((rd_T50 Za Xc).f0), .int .i64 0, .int .i64 0, .int .i64 0]) ?_ 1 _ rfl;(with_reducible repeat(first|refine Yl ?_ _|refine Ym ?_|refine Yj ?_ _));refine YA (cs:= #[.int .i64 0, .int .i64 0, .int .i64 0, .int .i64 0]) ?_ 0 _ rfl;(with_reducible repeat(first|refine Yl ?_ _|refine Ym ?_|refine Yj ?_ _));exact Vn.out) hb);have n2_:=Ya (Yk (by repeat(first|(with_reducible first|exact HB.out|apply Ye|apply Yd|apply Yg|refine Yh ?_ Un.out|refine Yh ?_ GE113.out)|exact HB.out)) hb);clear Xg;clear Vn;clear HB;have Xg:=n0_;have Vn:=n1_;have HB:=n2_;clear n0_ n1_ n2_;(try clear hb);(try clear hb2);(try clear hk);(try clear hi)));go_roundg k1
   case measure=>have:=HK1.out;omega
   case rel=>exact⟨(wrap64 (Xc+1)),(by first|rfl|(simp;done)|(simp[*];done)),H',⟨by have:=HK1.out;omega⟩,⟨by(with_reducible repeat(first|refine Yl ?_ _|refine Ym ?_|refine Yj ?_ _));exact Xg.out⟩,⟨by repeat(first|(with_reducible first|exact HB.out|apply Ye|apply Yd|apply Yg|refine Yh ?_ Un.out|refine Yh ?_ GE113.out)|exact HB.out)⟩⟩
end P
namespace P
attribute [local go_sem] max2_int min2_int max_two min_two max_three min_three max_four min_four
def static_Ends.f (k:Nat) (Zb:Int) (Zc:Bool) (Za:List (S50)) (a1:Int) (a2:Int):Option (Int):=(netfmt_Check.f k Zb Zc Za).bind fun t116=>(if t116=0 then(if (mn a1 a2)<0 then(some 70) else(if (mx a1 a2)≥Zb then(some 70) else(if a1=a2 then(some 70) else(some 0)))) else(some t116))
set_option maxHeartbeats 8000000 in
set_option maxRecDepth 100000 in
theorem static_Ends.calls (k:Nat) (Zb:Int) (Zc:Bool) (Ze:Option Addr) (Zd:Nat) (Za:List (S50)) (a1:Int) (a2:Int) (r:Int) (w:World) (Zq:Kd.C k50 w Ze Za.length Za) (Zr:Za.length≤Zd) (h:static_Ends.f k Zb Zc Za a1 a2=some r):
  Calls Try.prog 65 #[.agg #[.int .i64 Zb, .bool Zc, .slice Ze Za.length Zd], .int .i64 a1, .int .i64 a2] w fun e w'=>e= .returned (.int .i64 r)∧Below w.heap.size w w':=by
 have hu24:=Try.underlying24;have Zk:=Ya Zq;have Zw:=Ya Zr;clear Zq Zr;have HB:=Ya (Yo w.heap.size w);have H:((netfmt_Check.f k Zb Zc Za).bind fun t116=>(if t116=0 then(if (mn a1 a2)<0 then(some 70) else(if (mx a1 a2)≥Zb then(some 70) else(if a1=a2 then(some 70) else(some 0)))) else(some t116)))=some r:=h;clear h;replace H:=Option.bind_eq_some_iff.mp H;obtain⟨t116,A40,H⟩:=H;replace H:(if t116=0 then(if (mn a1 a2)<0 then(some 70) else(if (mx a1 a2)≥Zb then(some 70) else(if a1=a2 then(some 70) else(some 0)))) else(some t116))=some r:=H;have A4:=Ya A40;clear A40;by_cases c5:t116=0
 rotate_left
 ·rw[Yy c5] at H
  have c5b0:(t116 == 0)=false:=beq_eq_false_iff_ne.mpr c5;have c5b1:(t116 != 0)=true:=bne_iff_ne.mpr c5;obtain rfl:=Option.some.inj H;go_enter Try.func65,Try.ntmps65;go_wp2_with (first|((with_reducible refine gate_dst (N:=3) rfl ?_);(try (refine gate_guard (by rfl) ?_;dsimp only));refine Yz ?hg (N:=3) ?hd (cs:= #[.int .i64 Zb, .bool Zc, .slice Ze Za.length Zd]) (t:=24) ?hr ?_;(case hd=>rfl);(case hg=>rfl);(case hr=>first|(go_simp;done)|(go_simp;rfl));intro Xn hg w26 Zg hb;have n0_:=Ya (Yk (by repeat(first|(with_reducible first|exact HB.out|apply Ye|apply Yd|apply Yg)|exact HB.out)) hb);have n1_:=Ya (Zg);have n2_:=Ya ((by rw[hg];exact(Yi (by repeat(first|(with_reducible first|exact HB.out|apply Ye|apply Yd|apply Yg)|exact HB.out))):w.heap.size≤Xn));have n3_:=Ya ((by rw[hg];exact(Yi (by repeat(first|(with_reducible first|exact HB.out|apply Ye|apply Yd|apply Yg)|exact HB.out))):w.heap.size≤Xn));clear HB;have HB:=n0_;have Zt:=n1_;have GW115:=n2_;have Jm:=n3_;clear n0_ n1_ n2_ n3_;clear hb Zg hg;have hcz27_0:w26.cell? ⟨Xn,0,none⟩=some (.int .i64 Zb):=(Yc Zt.out 0).trans rfl;have hcz27_1:w26.cell? ⟨Xn,1,none⟩=some (.bool Zc):=(Yc Zt.out 1).trans rfl;have hcz27_2:w26.cell? ⟨Xn,2,none⟩=some (.slice Ze Za.length Zd):=(Yc Zt.out 2).trans rfl;have hfz27_0:=Yf Zt.out 0;have hfz27_1:=Yf Zt.out 1;have hfz27_2:=Yf Zt.out 2)|((with_reducible refine gate_callee (f:=61) rfl ?_);refine goesL_ (some 9) rfl rfl Try.func61 (by kernel_rfl) rfl #[.agg #[.int .i64 Zb, .bool Zc, .slice Ze Za.length Zd]] rfl (by(try simp only[List.map_toArray,List.map_cons,List.map_nil]);first|done|rfl|(simp only[List.length_drop,List.length_take];rfl)) ?_;(with_reducible refine(netfmt_Check.calls k Zb Zc _ _ Za t116 _ ?side1 ?side2 A4.out).mono ?_);(case side1=>repeat(first|exact(Yt Zk.out HB.out)|(with_reducible refine Kd.C_alloc ?_ _)|(with_reducible refine Kd.C_drewN ?_ _)|(with_reducible refine Kd.C_drew ?_)));(case side2=>exact Zw.out);rintro e w28 ⟨rfl,hb⟩;refine⟨_,rfl,?_⟩;have n0_:=Ya (Yn (g:=Xn) (o:= .cells #[.int .i64 Zb, .bool Zc, .slice Ze Za.length Zd] 24 (0,0)) (by(with_reducible repeat(first|refine Yl ?_ _|refine Ym ?_|refine Yj ?_ _));exact Zt.out) hb);have n1_:=Ya (Yk (by repeat(first|(with_reducible first|exact HB.out|apply Ye|apply Yd|apply Yg|refine Yh ?_ Jm.out)|exact HB.out)) hb);clear Zt;clear HB;have Zt:=n0_;have HB:=n1_;clear n0_ n1_;(try clear hb);(try clear hb2);(try clear hk);(try clear hi)));go_ret;exact⟨by first|rfl|(simp[errW_none,errW_some]<;>rfl)|(simp[*,errW_none,errW_some]<;>rfl),by repeat(first|(with_reducible first|exact HB.out|apply Ye|apply Yd|apply Yg|refine Yh ?_ Jm.out)|exact HB.out)⟩
 rw[Yx c5] at H;have c5b0:(t116 == 0)=true:=beq_iff_eq.mpr c5;have c5b1:(t116 != 0)=false:=bne_eq_false_iff_eq.mpr c5;clear c5;obtain⟨ji6,hji6⟩: ∃ j_:Int,(mn a1 a2)=j_:=⟨_,rfl⟩;replace H:(if (ji6)<0 then(some 70) else(if (mx a1 a2)≥Zb then(some 70) else(if a1=a2 then(some 70) else(some 0))))=some r:=by first|(rw[hji6] at H;exact H)|(simp only[hji6] at H ⊢;exact H)
 (try rw[hji6] at A4)
 have hji6_:(if a2<a1 then a2 else a1)=ji6:=hji6;by_cases c7:(ji6)<0
 ·rw[Yx c7] at H
  have c7b0:decide ((ji6)<0)=true:=Yv c7;clear c7;obtain rfl:=Option.some.inj H;go_enter Try.func65,Try.ntmps65;go_wp2_with (first|((with_reducible refine gate_dst (N:=3) rfl ?_);(try (refine gate_guard (by rfl) ?_;dsimp only));refine Yz ?hg (N:=3) ?hd (cs:= #[.int .i64 Zb, .bool Zc, .slice Ze Za.length Zd]) (t:=24) ?hr ?_;(case hd=>rfl);(case hg=>rfl);(case hr=>first|(go_simp;done)|(go_simp;rfl));intro Xn hg w8 Zg hb;have n0_:=Ya (Yk (by repeat(first|(with_reducible first|exact HB.out|apply Ye|apply Yd|apply Yg)|exact HB.out)) hb);have n1_:=Ya (Zg);have n2_:=Ya ((by rw[hg];exact(Yi (by repeat(first|(with_reducible first|exact HB.out|apply Ye|apply Yd|apply Yg)|exact HB.out))):w.heap.size≤Xn));have n3_:=Ya ((by rw[hg];exact(Yi (by repeat(first|(with_reducible first|exact HB.out|apply Ye|apply Yd|apply Yg)|exact HB.out))):w.heap.size≤Xn));clear HB;have HB:=n0_;have Zt:=n1_;have GW115:=n2_;have Jm:=n3_;clear n0_ n1_ n2_ n3_;clear hb Zg hg;have hcz9_0:w8.cell? ⟨Xn,0,none⟩=some (.int .i64 Zb):=(Yc Zt.out 0).trans rfl;have hcz9_1:w8.cell? ⟨Xn,1,none⟩=some (.bool Zc):=(Yc Zt.out 1).trans rfl;have hcz9_2:w8.cell? ⟨Xn,2,none⟩=some (.slice Ze Za.length Zd):=(Yc Zt.out 2).trans rfl;have hfz9_0:=Yf Zt.out 0;have hfz9_1:=Yf Zt.out 1;have hfz9_2:=Yf Zt.out 2)|((with_reducible refine gate_callee (f:=61) rfl ?_);refine goesL_ (some 9) rfl rfl Try.func61 (by kernel_rfl) rfl #[.agg #[.int .i64 Zb, .bool Zc, .slice Ze Za.length Zd]] rfl (by(try simp only[List.map_toArray,List.map_cons,List.map_nil]);first|done|rfl|(simp only[List.length_drop,List.length_take];rfl)) ?_;(with_reducible refine(netfmt_Check.calls k Zb Zc _ _ Za t116 _ ?side1 ?side2 A4.out).mono ?_);(case side1=>repeat(first|exact(Yt Zk.out HB.out)|(with_reducible refine Kd.C_alloc ?_ _)|(with_reducible refine Kd.C_drewN ?_ _)|(with_reducible refine Kd.C_drew ?_)));(case side2=>exact Zw.out);rintro e w10 ⟨rfl,hb⟩;refine⟨_,rfl,?_⟩;have n0_:=Ya (Yn (g:=Xn) (o:= .cells #[.int .i64 Zb, .bool Zc, .slice Ze Za.length Zd] 24 (0,0)) (by(with_reducible repeat(first|refine Yl ?_ _|refine Ym ?_|refine Yj ?_ _));exact Zt.out) hb);have n1_:=Ya (Yk (by repeat(first|(with_reducible first|exact HB.out|apply Ye|apply Yd|apply Yg|refine Yh ?_ Jm.out)|exact HB.out)) hb);clear Zt;clear HB;have Zt:=n0_;have HB:=n1_;clear n0_ n1_;(try clear hb);(try clear hb2);(try clear hk);(try clear hi)));go_ret;exact⟨by first|rfl|(simp[errW_none,errW_some]<;>rfl)|(simp only[← hji6];first|rfl|(simp[errW_none,errW_some]<;>rfl))|(simp[*,errW_none,errW_some]<;>rfl),by repeat(first|(with_reducible first|exact HB.out|apply Ye|apply Yd|apply Yg|refine Yh ?_ Jm.out)|exact HB.out)⟩
 rw[Yy c7] at H;have c7b0:decide ((ji6)<0)=false:=Yw c7;clear c7;obtain⟨ji11,hji11⟩: ∃ j_:Int,(mx a1 a2)=j_:=⟨_,rfl⟩;replace H:(if (ji11)≥Zb then(some 70) else(if a1=a2 then(some 70) else(some 0)))=some r:=by first|(rw[hji11] at H;exact H)|(simp only[hji11] at H ⊢;exact H)
 (try rw[hji11] at A4)
 have hji11_:(if a1<a2 then a2 else a1)=ji11:=hji11;by_cases c12:(ji11)≥Zb
 ·rw[Yx c12] at H
  have c12b0:decide (Zb≤(ji11))=true:=Yv c12;clear c12;obtain rfl:=Option.some.inj H;go_enter Try.func65,Try.ntmps65;go_wp2_with (first|((with_reducible refine gate_dst (N:=3) rfl ?_);(try (refine gate_guard (by rfl) ?_;dsimp only));refine Yz ?hg (N:=3) ?hd (cs:= #[.int .i64 Zb, .bool Zc, .slice Ze Za.length Zd]) (t:=24) ?hr ?_;(case hd=>rfl);(case hg=>rfl);(case hr=>first|(go_simp;done)|(go_simp;rfl));intro Xn hg w13 Zg hb;have n0_:=Ya (Yk (by repeat(first|(with_reducible first|exact HB.out|apply Ye|apply Yd|apply Yg)|exact HB.out)) hb);have n1_:=Ya (Zg);have n2_:=Ya ((by rw[hg];exact(Yi (by repeat(first|(with_reducible first|exact HB.out|apply Ye|apply Yd|apply Yg)|exact HB.out))):w.heap.size≤Xn));have n3_:=Ya ((by rw[hg];exact(Yi (by repeat(first|(with_reducible first|exact HB.out|apply Ye|apply Yd|apply Yg)|exact HB.out))):w.heap.size≤Xn));clear HB;have HB:=n0_;have Zt:=n1_;have GW115:=n2_;have Jm:=n3_;clear n0_ n1_ n2_ n3_;clear hb Zg hg;have Jc:w13.cell? ⟨Xn,0,none⟩=some (.int .i64 Zb):=(Yc Zt.out 0).trans rfl;have Jd:w13.cell? ⟨Xn,1,none⟩=some (.bool Zc):=(Yc Zt.out 1).trans rfl;have Je:w13.cell? ⟨Xn,2,none⟩=some (.slice Ze Za.length Zd):=(Yc Zt.out 2).trans rfl;have Jf:=Yf Zt.out 0;have Jg:=Yf Zt.out 1;have Jh:=Yf Zt.out 2)|((with_reducible refine gate_callee (f:=61) rfl ?_);refine goesL_ (some 9) rfl rfl Try.func61 (by kernel_rfl) rfl #[.agg #[.int .i64 Zb, .bool Zc, .slice Ze Za.length Zd]] rfl (by(try simp only[List.map_toArray,List.map_cons,List.map_nil]);first|done|rfl|(simp only[List.length_drop,List.length_take];rfl)) ?_;(with_reducible refine(netfmt_Check.calls k Zb Zc _ _ Za t116 _ ?side1 ?side2 A4.out).mono ?_);(case side1=>repeat(first|exact(Yt Zk.out HB.out)|(with_reducible refine Kd.C_alloc ?_ _)|(with_reducible refine Kd.C_drewN ?_ _)|(with_reducible refine Kd.C_drew ?_)));(case side2=>exact Zw.out);rintro e w15 ⟨rfl,hb⟩;refine⟨_,rfl,?_⟩;have n0_:=Ya (Yn (g:=Xn) (o:= .cells #[.int .i64 Zb, .bool Zc, .slice Ze Za.length Zd] 24 (0,0)) (by(with_reducible repeat(first|refine Yl ?_ _|refine Ym ?_|refine Yj ?_ _));exact Zt.out) hb);have n1_:=Ya (Yk (by repeat(first|(with_reducible first|exact HB.out|apply Ye|apply Yd|apply Yg|refine Yh ?_ Jm.out)|exact HB.out)) hb);clear Zt;clear HB;have Zt:=n0_;have HB:=n1_;clear n0_ n1_;(try clear hb);(try clear hb2);(try clear hk);(try clear hi);have Jt:w15.cell? ⟨Xn,0,none⟩=some (.int .i64 Zb):=(Yc Zt.out 0).trans rfl;have Ju:w15.cell? ⟨Xn,1,none⟩=some (.bool Zc):=(Yc Zt.out 1).trans rfl;have hcz16_2:w15.cell? ⟨Xn,2,none⟩=some (.slice Ze Za.length Zd):=(Yc Zt.out 2).trans rfl;have Jv:=Yf Zt.out 0;have Jw:=Yf Zt.out 1;have hfz16_2:=Yf Zt.out 2));go_ret;exact⟨by first|rfl|(simp[errW_none,errW_some]<;>rfl)|(simp only[← hji6, ← hji11];first|rfl|(simp[errW_none,errW_some]<;>rfl))|(simp[*,errW_none,errW_some]<;>rfl),by repeat(first|(with_reducible first|exact HB.out|apply Ye|apply Yd|apply Yg|refine Yh ?_ Jm.out)|exact HB.out)⟩
 rw[Yy c12] at H;have c12b0:decide (Zb≤(ji11))=false:=Yw c12;clear c12;by_cases c17:a1=a2
 rotate_left
 ·rw[Yy c17] at H
  have c17b0:(a1 == a2)=false:=beq_eq_false_iff_ne.mpr c17;have c17b1:(a1 != a2)=true:=bne_iff_ne.mpr c17;obtain rfl:=Option.some.inj H;go_enter Try.func65,Try.ntmps65;go_wp2_with (first|((with_reducible refine gate_dst (N:=3) rfl ?_);(try (refine gate_guard (by rfl) ?_;dsimp only));refine Yz ?hg (N:=3) ?hd (cs:= #[.int .i64 Zb, .bool Zc, .slice Ze Za.length Zd]) (t:=24) ?hr ?_;(case hd=>rfl);(case hg=>rfl);(case hr=>first|(go_simp;done)|(go_simp;rfl));intro Xn hg w22 Zg hb;have n0_:=Ya (Yk (by repeat(first|(with_reducible first|exact HB.out|apply Ye|apply Yd|apply Yg)|exact HB.out)) hb);have n1_:=Ya (Zg);have n2_:=Ya ((by rw[hg];exact(Yi (by repeat(first|(with_reducible first|exact HB.out|apply Ye|apply Yd|apply Yg)|exact HB.out))):w.heap.size≤Xn));have n3_:=Ya ((by rw[hg];exact(Yi (by repeat(first|(with_reducible first|exact HB.out|apply Ye|apply Yd|apply Yg)|exact HB.out))):w.heap.size≤Xn));clear HB;have HB:=n0_;have Zt:=n1_;have GW115:=n2_;have Jm:=n3_;clear n0_ n1_ n2_ n3_;clear hb Zg hg;have hcz23_0:w22.cell? ⟨Xn,0,none⟩=some (.int .i64 Zb):=(Yc Zt.out 0).trans rfl;have hcz23_1:w22.cell? ⟨Xn,1,none⟩=some (.bool Zc):=(Yc Zt.out 1).trans rfl;have hcz23_2:w22.cell? ⟨Xn,2,none⟩=some (.slice Ze Za.length Zd):=(Yc Zt.out 2).trans rfl;have hfz23_0:=Yf Zt.out 0;have hfz23_1:=Yf Zt.out 1;have hfz23_2:=Yf Zt.out 2)|((with_reducible refine gate_callee (f:=61) rfl ?_);refine goesL_ (some 9) rfl rfl Try.func61 (by kernel_rfl) rfl #[.agg #[.int .i64 Zb, .bool Zc, .slice Ze Za.length Zd]] rfl (by(try simp only[List.map_toArray,List.map_cons,List.map_nil]);first|done|rfl|(simp only[List.length_drop,List.length_take];rfl)) ?_;(with_reducible refine(netfmt_Check.calls k Zb Zc _ _ Za t116 _ ?side1 ?side2 A4.out).mono ?_);(case side1=>repeat(first|exact(Yt Zk.out HB.out)|(with_reducible refine Kd.C_alloc ?_ _)|(with_reducible refine Kd.C_drewN ?_ _)|(with_reducible refine Kd.C_drew ?_)));(case side2=>exact Zw.out);rintro e w24 ⟨rfl,hb⟩;refine⟨_,rfl,?_⟩;have n0_:=Ya (Yn (g:=Xn) (o:= .cells #[.int .i64 Zb, .bool Zc, .slice Ze Za.length Zd] 24 (0,0)) (by(with_reducible repeat(first|refine Yl ?_ _|refine Ym ?_|refine Yj ?_ _));exact Zt.out) hb);have n1_:=Ya (Yk (by repeat(first|(with_reducible first|exact HB.out|apply Ye|apply Yd|apply Yg|refine Yh ?_ Jm.out)|exact HB.out)) hb);clear Zt;clear HB;have Zt:=n0_;have HB:=n1_;clear n0_ n1_;(try clear hb);(try clear hb2);(try clear hk);(try clear hi);have hcz25_0:w24.cell? ⟨Xn,0,none⟩=some (.int .i64 Zb):=(Yc Zt.out 0).trans rfl;have hcz25_1:w24.cell? ⟨Xn,1,none⟩=some (.bool Zc):=(Yc Zt.out 1).trans rfl;have hcz25_2:w24.cell? ⟨Xn,2,none⟩=some (.slice Ze Za.length Zd):=(Yc Zt.out 2).trans rfl;have hfz25_0:=Yf Zt.out 0;have hfz25_1:=Yf Zt.out 1;have hfz25_2:=Yf Zt.out 2));go_ret;exact⟨by first|rfl|(simp[errW_none,errW_some]<;>rfl)|(simp only[← hji6, ← hji11];first|rfl|(simp[errW_none,errW_some]<;>rfl))|(simp[*,errW_none,errW_some]<;>rfl),by repeat(first|(with_reducible first|exact HB.out|apply Ye|apply Yd|apply Yg|refine Yh ?_ Jm.out)|exact HB.out)⟩
 rw[Yx c17] at H;have c17b0:(a1 == a2)=true:=beq_iff_eq.mpr c17;have c17b1:(a1 != a2)=false:=bne_eq_false_iff_eq.mpr c17;clear c17;obtain rfl:=Option.some.inj H;go_enter Try.func65,Try.ntmps65;go_wp2_with (first|((with_reducible refine gate_dst (N:=3) rfl ?_);(try (refine gate_guard (by rfl) ?_;dsimp only));refine Yz ?hg (N:=3) ?hd (cs:= #[.int .i64 Zb, .bool Zc, .slice Ze Za.length Zd]) (t:=24) ?hr ?_;(case hd=>rfl);(case hg=>rfl);(case hr=>first|(go_simp;done)|(go_simp;rfl));intro Xn hg w18 Zg hb;have n0_:=Ya (Yk (by repeat(first|(with_reducible first|exact HB.out|apply Ye|apply Yd|apply Yg)|exact HB.out)) hb);have n1_:=Ya (Zg);have n2_:=Ya ((by rw[hg];exact(Yi (by repeat(first|(with_reducible first|exact HB.out|apply Ye|apply Yd|apply Yg)|exact HB.out))):w.heap.size≤Xn));have n3_:=Ya ((by rw[hg];exact(Yi (by repeat(first|(with_reducible first|exact HB.out|apply Ye|apply Yd|apply Yg)|exact HB.out))):w.heap.size≤Xn));clear HB;have HB:=n0_;have Zt:=n1_;have GW115:=n2_;have Jm:=n3_;clear n0_ n1_ n2_ n3_;clear hb Zg hg;have hcz19_0:w18.cell? ⟨Xn,0,none⟩=some (.int .i64 Zb):=(Yc Zt.out 0).trans rfl;have hcz19_1:w18.cell? ⟨Xn,1,none⟩=some (.bool Zc):=(Yc Zt.out 1).trans rfl;have hcz19_2:w18.cell? ⟨Xn,2,none⟩=some (.slice Ze Za.length Zd):=(Yc Zt.out 2).trans rfl;have hfz19_0:=Yf Zt.out 0;have hfz19_1:=Yf Zt.out 1;have hfz19_2:=Yf Zt.out 2)|((with_reducible refine gate_callee (f:=61) rfl ?_);refine goesL_ (some 9) rfl rfl Try.func61 (by kernel_rfl) rfl #[.agg #[.int .i64 Zb, .bool Zc, .slice Ze Za.length Zd]] rfl (by(try simp only[List.map_toArray,List.map_cons,List.map_nil]);first|done|rfl|(simp only[List.length_drop,List.length_take];rfl)) ?_;(with_reducible refine(netfmt_Check.calls k Zb Zc _ _ Za t116 _ ?side1 ?side2 A4.out).mono ?_);(case side1=>repeat(first|exact(Yt Zk.out HB.out)|(with_reducible refine Kd.C_alloc ?_ _)|(with_reducible refine Kd.C_drewN ?_ _)|(with_reducible refine Kd.C_drew ?_)));(case side2=>exact Zw.out);rintro e w20 ⟨rfl,hb⟩;refine⟨_,rfl,?_⟩;have n0_:=Ya (Yn (g:=Xn) (o:= .cells #[.int .i64 Zb, .bool Zc, .slice Ze Za.length Zd] 24 (0,0)) (by(with_reducible repeat(first|refine Yl ?_ _|refine Ym ?_|refine Yj ?_ _));exact Zt.out) hb);have n1_:=Ya (Yk (by repeat(first|(with_reducible first|exact HB.out|apply Ye|apply Yd|apply Yg|refine Yh ?_ Jm.out)|exact HB.out)) hb);clear Zt;clear HB;have Zt:=n0_;have HB:=n1_;clear n0_ n1_;(try clear hb);(try clear hb2);(try clear hk);(try clear hi);have hcz21_0:w20.cell? ⟨Xn,0,none⟩=some (.int .i64 Zb):=(Yc Zt.out 0).trans rfl;have hcz21_1:w20.cell? ⟨Xn,1,none⟩=some (.bool Zc):=(Yc Zt.out 1).trans rfl;have hcz21_2:w20.cell? ⟨Xn,2,none⟩=some (.slice Ze Za.length Zd):=(Yc Zt.out 2).trans rfl;have hfz21_0:=Yf Zt.out 0;have hfz21_1:=Yf Zt.out 1;have hfz21_2:=Yf Zt.out 2));go_ret;exact⟨by first|rfl|(simp[errW_none,errW_some]<;>rfl)|(simp only[← hji6, ← hji11];first|rfl|(simp[errW_none,errW_some]<;>rfl))|(simp[*,errW_none,errW_some]<;>rfl),by repeat(first|(with_reducible first|exact HB.out|apply Ye|apply Yd|apply Yg|refine Yh ?_ Jm.out)|exact HB.out)⟩
end P
namespace P
attribute [local go_sem] max2_int min2_int max_two min_two max_three min_three max_four min_four
def static_Asked.l0:Nat→List Int→Int→Int→Int→Bool→List (S50)→Option (Int)
 |0,_,_,_,_,_,_=>none
 |k+1,x19,x20,x21,x391000,x391001,x391002=>if x21<x20 then(if 0≤x21 then(if x21<(x19.length:Int) then(if (rd x19 x21)<0 then(some 71) else(if x21<(x391002.length:Int) then(if (rd x19 x21)>((rd_T50 x391002 x21).f2) then(some 71) else(static_Asked.l0 k x19 x20 (wrap64 (x21+1)) x391000 x391001 x391002)) else(none))) else(none)) else(none)) else(some 0)
def static_Asked.f (k:Nat) (Zb:Int) (Zc:Bool) (Za:List (S50)) (l1:List Int):Option (Int):=(netfmt_Check.f k Zb Zc Za).bind fun t391=>(if t391=0 then(if (l1.length:Int)=(Za.length:Int) then(static_Asked.l0 k l1 (l1.length:Int) 0 Zb Zc Za) else(some 71)) else(some t391))
set_option maxHeartbeats 8000000 in
set_option maxRecDepth 100000 in
theorem static_Asked.calls (k:Nat) (Zb:Int) (Zc:Bool) (Ze:Option Addr) (Zd:Nat) (Za:List (S50)) (A1:Option Addr) (c1:Nat) (l1:List Int) (r:Int) (w:World) (Zq:Kd.C k50 w Ze Za.length Za) (Zr:Za.length≤Zd) (hr1:Kd.C (Kd.int .i64) w A1 l1.length l1) (hc1:l1.length≤c1) (h:static_Asked.f k Zb Zc Za l1=some r):
  Calls Try.prog 90 #[.agg #[.int .i64 Zb, .bool Zc, .slice Ze Za.length Zd], .slice A1 l1.length c1] w fun e w'=>e= .returned (.int .i64 r)∧Below w.heap.size w w':=by
 have hu24:=Try.underlying24;have Zk:=Ya Zq;have Zw:=Ya Zr;clear Zq Zr;have HR1:=Ya hr1;have HC1:=Ya hc1;clear hr1 hc1;have HB:=Ya (Yo w.heap.size w);have H:((netfmt_Check.f k Zb Zc Za).bind fun t391=>(if t391=0 then(if (l1.length:Int)=(Za.length:Int) then(static_Asked.l0 k l1 (l1.length:Int) 0 Zb Zc Za) else(some 71)) else(some t391)))=some r:=h;clear h;replace H:=Option.bind_eq_some_iff.mp H;obtain⟨t391,A30,H⟩:=H;replace H:(if t391=0 then(if (l1.length:Int)=(Za.length:Int) then(static_Asked.l0 k l1 (l1.length:Int) 0 Zb Zc Za) else(some 71)) else(some t391))=some r:=H;have A3:=Ya A30;clear A30;by_cases c4:t391=0
 rotate_left
 ·rw[Yy c4] at H
  have c4b0:(t391 == 0)=false:=beq_eq_false_iff_ne.mpr c4;have c4b1:(t391 != 0)=true:=bne_iff_ne.mpr c4;obtain rfl:=Option.some.inj H;go_enter Try.func90,Try.ntmps90;go_wp2_with (first|((with_reducible refine gate_dst (N:=2) rfl ?_);refine Yz ?hg (N:=2) ?hd (cs:= #[.int .i64 Zb, .bool Zc, .slice Ze Za.length Zd]) (t:=24) ?hr ?_;(case hd=>rfl);(case hg=>rfl);(case hr=>first|(go_simp;done)|(go_simp;rfl));intro Wf hg w22 Zg hb;have n0_:=Ya (Yk (by repeat(first|(with_reducible first|exact HB.out|apply Ye|apply Yd|apply Yg)|exact HB.out)) hb);have n1_:=Ya (Zg);have n2_:=Ya ((by rw[hg];exact(Yi (by repeat(first|(with_reducible first|exact HB.out|apply Ye|apply Yd|apply Yg)|exact HB.out))):w.heap.size≤Wf));have n3_:=Ya ((by rw[hg];exact(Yi (by repeat(first|(with_reducible first|exact HB.out|apply Ye|apply Yd|apply Yg)|exact HB.out))):w.heap.size≤Wf));clear HB;have HB:=n0_;have Xa:=n1_;have GW390:=n2_;have GE390:=n3_;clear n0_ n1_ n2_ n3_;clear hb Zg hg;have hcz23_0:w22.cell? ⟨Wf,0,none⟩=some (.int .i64 Zb):=(Yc Xa.out 0).trans rfl;have hcz23_1:w22.cell? ⟨Wf,1,none⟩=some (.bool Zc):=(Yc Xa.out 1).trans rfl;have hcz23_2:w22.cell? ⟨Wf,2,none⟩=some (.slice Ze Za.length Zd):=(Yc Xa.out 2).trans rfl;have hfz23_0:=Yf Xa.out 0;have hfz23_1:=Yf Xa.out 1;have hfz23_2:=Yf Xa.out 2)|((with_reducible refine gate_callee (f:=61) rfl ?_);refine goesL_ (some 9) rfl rfl Try.func61 (by kernel_rfl) rfl #[.agg #[.int .i64 Zb, .bool Zc, .slice Ze Za.length Zd]] rfl (by(try simp only[List.map_toArray,List.map_cons,List.map_nil]);first|done|rfl|(simp only[List.length_drop,List.length_take];rfl)) ?_;(with_reducible refine(netfmt_Check.calls k Zb Zc _ _ Za t391 _ ?side1 ?side2 A3.out).mono ?_);(case side1=>repeat(first|exact(Yt Zk.out HB.out)|(with_reducible refine Kd.C_alloc ?_ _)|(with_reducible refine Kd.C_drewN ?_ _)|(with_reducible refine Kd.C_drew ?_)));(case side2=>exact Zw.out);rintro e w24 ⟨rfl,hb⟩;refine⟨_,rfl,?_⟩;have n0_:=Ya (Yn (g:=Wf) (o:= .cells #[.int .i64 Zb, .bool Zc, .slice Ze Za.length Zd] 24 (0,0)) (by(with_reducible repeat(first|refine Yl ?_ _|refine Ym ?_|refine Yj ?_ _));exact Xa.out) hb);have n1_:=Ya (Yk (by repeat(first|(with_reducible first|exact HB.out|apply Ye|apply Yd|apply Yg|refine Yh ?_ GE390.out)|exact HB.out)) hb);clear Xa;clear HB;have Xa:=n0_;have HB:=n1_;clear n0_ n1_;(try clear hb);(try clear hb2);(try clear hk);(try clear hi)));go_ret;exact⟨by first|rfl|(simp[errW_none,errW_some]<;>rfl)|(simp[*,errW_none,errW_some]<;>rfl),by repeat(first|(with_reducible first|exact HB.out|apply Ye|apply Yd|apply Yg|refine Yh ?_ GE390.out)|exact HB.out)⟩
 rw[Yx c4] at H;have c4b0:(t391 == 0)=true:=beq_iff_eq.mpr c4;have c4b1:(t391 != 0)=false:=bne_eq_false_iff_eq.mpr c4;clear c4;by_cases c5:(l1.length:Int)=(Za.length:Int)
 rotate_left
 ·rw[Yy c5] at H
  have c5b0:((l1.length:Int) == (Za.length:Int))=false:=beq_eq_false_iff_ne.mpr c5;have c5b1:((l1.length:Int) != (Za.length:Int))=true:=bne_iff_ne.mpr c5;have c5b2:(l1.length == Za.length)=false:=by first|simpa using c5|(simp at c5 ⊢;omega)
  obtain rfl:=Option.some.inj H;go_enter Try.func90,Try.ntmps90;go_wp2_with (first|((with_reducible refine gate_dst (N:=2) rfl ?_);refine Yz ?hg (N:=2) ?hd (cs:= #[.int .i64 Zb, .bool Zc, .slice Ze Za.length Zd]) (t:=24) ?hr ?_;(case hd=>rfl);(case hg=>rfl);(case hr=>first|(go_simp;done)|(go_simp;rfl));intro Wf hg w18 Zg hb;have n0_:=Ya (Yk (by repeat(first|(with_reducible first|exact HB.out|apply Ye|apply Yd|apply Yg)|exact HB.out)) hb);have n1_:=Ya (Zg);have n2_:=Ya ((by rw[hg];exact(Yi (by repeat(first|(with_reducible first|exact HB.out|apply Ye|apply Yd|apply Yg)|exact HB.out))):w.heap.size≤Wf));have n3_:=Ya ((by rw[hg];exact(Yi (by repeat(first|(with_reducible first|exact HB.out|apply Ye|apply Yd|apply Yg)|exact HB.out))):w.heap.size≤Wf));clear HB;have HB:=n0_;have Xa:=n1_;have GW390:=n2_;have GE390:=n3_;clear n0_ n1_ n2_ n3_;clear hb Zg hg;have hcz19_0:w18.cell? ⟨Wf,0,none⟩=some (.int .i64 Zb):=(Yc Xa.out 0).trans rfl;have hcz19_1:w18.cell? ⟨Wf,1,none⟩=some (.bool Zc):=(Yc Xa.out 1).trans rfl;have hcz19_2:w18.cell? ⟨Wf,2,none⟩=some (.slice Ze Za.length Zd):=(Yc Xa.out 2).trans rfl;have hfz19_0:=Yf Xa.out 0;have hfz19_1:=Yf Xa.out 1;have hfz19_2:=Yf Xa.out 2)|((with_reducible refine gate_callee (f:=61) rfl ?_);refine goesL_ (some 9) rfl rfl Try.func61 (by kernel_rfl) rfl #[.agg #[.int .i64 Zb, .bool Zc, .slice Ze Za.length Zd]] rfl (by(try simp only[List.map_toArray,List.map_cons,List.map_nil]);first|done|rfl|(simp only[List.length_drop,List.length_take];rfl)) ?_;(with_reducible refine(netfmt_Check.calls k Zb Zc _ _ Za t391 _ ?side1 ?side2 A3.out).mono ?_);(case side1=>repeat(first|exact(Yt Zk.out HB.out)|(with_reducible refine Kd.C_alloc ?_ _)|(with_reducible refine Kd.C_drewN ?_ _)|(with_reducible refine Kd.C_drew ?_)));(case side2=>exact Zw.out);rintro e w20 ⟨rfl,hb⟩;refine⟨_,rfl,?_⟩;have n0_:=Ya (Yn (g:=Wf) (o:= .cells #[.int .i64 Zb, .bool Zc, .slice Ze Za.length Zd] 24 (0,0)) (by(with_reducible repeat(first|refine Yl ?_ _|refine Ym ?_|refine Yj ?_ _));exact Xa.out) hb);have n1_:=Ya (Yk (by repeat(first|(with_reducible first|exact HB.out|apply Ye|apply Yd|apply Yg|refine Yh ?_ GE390.out)|exact HB.out)) hb);clear Xa;clear HB;have Xa:=n0_;have HB:=n1_;clear n0_ n1_;(try clear hb);(try clear hb2);(try clear hk);(try clear hi);have hcz21_0:w20.cell? ⟨Wf,0,none⟩=some (.int .i64 Zb):=(Yc Xa.out 0).trans rfl;have hcz21_1:w20.cell? ⟨Wf,1,none⟩=some (.bool Zc):=(Yc Xa.out 1).trans rfl;have hcz21_2:w20.cell? ⟨Wf,2,none⟩=some (.slice Ze Za.length Zd):=(Yc Xa.out 2).trans rfl;have hfz21_0:=Yf Xa.out 0;have hfz21_1:=Yf Xa.out 1;have hfz21_2:=Yf Xa.out 2));go_ret;exact⟨by first|rfl|(simp[errW_none,errW_some]<;>rfl)|(simp[*,errW_none,errW_some]<;>rfl),by repeat(first|(with_reducible first|exact HB.out|apply Ye|apply Yd|apply Yg|refine Yh ?_ GE390.out)|exact HB.out)⟩
 rw[Yx c5] at H;have c5b0:((l1.length:Int) == (Za.length:Int))=true:=beq_iff_eq.mpr c5;have c5b1:((l1.length:Int) != (Za.length:Int))=false:=bne_eq_false_iff_eq.mpr c5;have c5b2:(l1.length == Za.length)=true:=by first|simpa using c5|(simp at c5 ⊢;omega)
 clear c5;have H':=Ya H;clear H;go_enter Try.func90,Try.ntmps90;go_wp2_with (first|((with_reducible refine gate_dst (N:=2) rfl ?_);refine Yz ?hg (N:=2) ?hd (cs:= #[.int .i64 Zb, .bool Zc, .slice Ze Za.length Zd]) (t:=24) ?hr ?_;(case hd=>rfl);(case hg=>rfl);(case hr=>first|(go_simp;done)|(go_simp;rfl));intro Wf hg w6 Zg hb;have n0_:=Ya (Yk (by repeat(first|(with_reducible first|exact HB.out|apply Ye|apply Yd|apply Yg)|exact HB.out)) hb);have n1_:=Ya (Zg);have n2_:=Ya ((by rw[hg];exact(Yi (by repeat(first|(with_reducible first|exact HB.out|apply Ye|apply Yd|apply Yg)|exact HB.out))):w.heap.size≤Wf));have n3_:=Ya ((by rw[hg];exact(Yi (by repeat(first|(with_reducible first|exact HB.out|apply Ye|apply Yd|apply Yg)|exact HB.out))):w.heap.size≤Wf));clear HB;have HB:=n0_;have Xa:=n1_;have GW390:=n2_;have GE390:=n3_;clear n0_ n1_ n2_ n3_;clear hb Zg hg;have hcz7_0:w6.cell? ⟨Wf,0,none⟩=some (.int .i64 Zb):=(Yc Xa.out 0).trans rfl;have hcz7_1:w6.cell? ⟨Wf,1,none⟩=some (.bool Zc):=(Yc Xa.out 1).trans rfl;have hcz7_2:w6.cell? ⟨Wf,2,none⟩=some (.slice Ze Za.length Zd):=(Yc Xa.out 2).trans rfl;have hfz7_0:=Yf Xa.out 0;have hfz7_1:=Yf Xa.out 1;have hfz7_2:=Yf Xa.out 2)|((with_reducible refine gate_callee (f:=61) rfl ?_);refine goesL_ (some 9) rfl rfl Try.func61 (by kernel_rfl) rfl #[.agg #[.int .i64 Zb, .bool Zc, .slice Ze Za.length Zd]] rfl (by(try simp only[List.map_toArray,List.map_cons,List.map_nil]);first|done|rfl|(simp only[List.length_drop,List.length_take];rfl)) ?_;(with_reducible refine(netfmt_Check.calls k Zb Zc _ _ Za t391 _ ?side1 ?side2 A3.out).mono ?_);(case side1=>repeat(first|exact(Yt Zk.out HB.out)|(with_reducible refine Kd.C_alloc ?_ _)|(with_reducible refine Kd.C_drewN ?_ _)|(with_reducible refine Kd.C_drew ?_)));(case side2=>exact Zw.out);rintro e w8 ⟨rfl,hb⟩;refine⟨_,rfl,?_⟩;have n0_:=Ya (Yn (g:=Wf) (o:= .cells #[.int .i64 Zb, .bool Zc, .slice Ze Za.length Zd] 24 (0,0)) (by(with_reducible repeat(first|refine Yl ?_ _|refine Ym ?_|refine Yj ?_ _));exact Xa.out) hb);have n1_:=Ya (Yk (by repeat(first|(with_reducible first|exact HB.out|apply Ye|apply Yd|apply Yg|refine Yh ?_ GE390.out)|exact HB.out)) hb);clear Xa;clear HB;have Xa:=n0_;have HB:=n1_;clear n0_ n1_;(try clear hb);(try clear hb2);(try clear hk);(try clear hi);have hcz9_0:w8.cell? ⟨Wf,0,none⟩=some (.int .i64 Zb):=(Yc Xa.out 0).trans rfl;have hcz9_1:w8.cell? ⟨Wf,1,none⟩=some (.bool Zc):=(Yc Xa.out 1).trans rfl;have hcz9_2:w8.cell? ⟨Wf,2,none⟩=some (.slice Ze Za.length Zd):=(Yc Xa.out 2).trans rfl;have hfz9_0:=Yf Xa.out 0;have hfz9_1:=Yf Xa.out 1;have hfz9_2:=Yf Xa.out 2));go_loopg [21] k (fun kq v21 w'=> ∃ (Xw:Int),v21= .int .i64 Xw∧Aside0 (static_Asked.l0 kq l1 (l1.length:Int) Xw Zb Zc Za=some r)∧Aside0 (kq≤k)∧Aside0 (w'.heap[Wf]? =some (.cells #[.int .i64 Zb, .bool Zc,(.slice Ze Za.length Zd)] 24 (0,0)))∧Aside0 (Below w.heap.size w w'))
 case atStart=>exact⟨(0),(by first|rfl|(simp;done)|(simp[*];done)),H',⟨Nat.le_refl _⟩,⟨by(with_reducible repeat(first|refine Yl ?_ _|refine Ym ?_|refine Yj ?_ _));exact Xa.out⟩,⟨by repeat(first|(with_reducible first|exact HB.out|apply Ye|apply Yd|apply Yg|refine Yh ?_ GE390.out)|exact HB.out)⟩⟩
 case round=>
  clear H';try clear c1
  try clear p2
  try clear c4
  try clear c4b0
  try clear c4b1
  try clear c5
  try clear c5b0
  try clear c5b1
  try clear c5b2
  try clear c6
  try clear c9
  try clear hcz7_0
  try clear hcz7_1
  try clear hcz7_2
  try clear hcz9_0
  try clear hcz9_1
  try clear hcz9_2
  try clear hfz7_0
  try clear hfz7_1
  try clear hfz7_2
  try clear hfz9_0
  try clear hfz9_1
  try clear hfz9_2
  obtain⟨Xw,rfl,HA,HK1,Xa,HB⟩:=hrel;cases gk with
  |zero=>exact absurd HA.out (by simp[static_Asked.l0])
  |succ k1=>
   have H:=HA.out;clear HA;simp only[static_Asked.l0] at H;by_cases c10:Xw<(l1.length:Int)
   rotate_left
   ·rw[Yy c10] at H
    have c10b0:decide (Xw<(l1.length:Int))=false:=Yw c10;clear c10;obtain rfl:=Option.some.inj H;go_wp2;go_ret;exact⟨by first|rfl|(simp[errW_none,errW_some]<;>rfl)|(simp[*,errW_none,errW_some]<;>rfl),by repeat(first|(with_reducible first|exact HB.out|apply Ye|apply Yd|apply Yg|refine Yh ?_ GE390.out)|exact HB.out)⟩
   rw[Yx c10] at H;have c10b0:decide (Xw<(l1.length:Int))=true:=Yv c10;clear c10;by_cases c11:0≤Xw
   rotate_left
   ·rw[Yy c11] at H
    exact absurd H (by simp)
   rw[Yx c11] at H;have c11b0:decide (0≤Xw)=true:=Yv c11;clear c11;by_cases c12:Xw<(l1.length:Int)
   rotate_left
   ·rw[Yy c12] at H
    exact absurd H (by simp)
   rw[Yx c12] at H;have c12b0:decide (Xw<(l1.length:Int))=true:=Yv c12;clear c12;by_cases c13:(rd l1 Xw)<0
   ·rw[Yx c13] at H
    have c13b0:decide ((rd l1 Xw)<0)=true:=Yv c13;clear c13;obtain rfl:=Option.some.inj H;have p392:0≤(Xw:Int):=Yu (by first|(with_reducible assumption)|assumption);have q392:Xw<(l1.length:Int):=Yu (by first|(with_reducible assumption)|assumption);obtain⟨ad392,e392,Vu⟩:=Kd.at_int HR1.out Xw p392 q392;cases e392;replace Vu:=(HB.out.cell (Yb w _ Vu)).trans Vu;replace p392:=eq_true p392;replace q392:=eq_true q392;go_wp2;go_ret;exact⟨by first|rfl|(simp[errW_none,errW_some]<;>rfl)|(simp[*,errW_none,errW_some]<;>rfl),by repeat(first|(with_reducible first|exact HB.out|apply Ye|apply Yd|apply Yg|refine Yh ?_ GE390.out)|exact HB.out)⟩
   rw[Yy c13] at H;have c13b0:decide ((rd l1 Xw)<0)=false:=Yw c13;clear c13;by_cases c14:Xw<(Za.length:Int)
   rotate_left
   ·rw[Yy c14] at H
    exact absurd H (by simp)
   rw[Yx c14] at H;have c14b0:decide (Xw<(Za.length:Int))=true:=Yv c14;clear c14;by_cases c15:(rd l1 Xw)>((rd_T50 Za Xw).f2)
   ·rw[Yx c15] at H
    have c15b0:decide (((rd_T50 Za Xw).f2)<(rd l1 Xw))=true:=Yv c15;clear c15;obtain rfl:=Option.some.inj H;have p392:0≤(Xw:Int):=Yu (by first|(with_reducible assumption)|assumption);have q392:Xw<(l1.length:Int):=Yu (by first|(with_reducible assumption)|assumption);obtain⟨ad392,e392,Vu⟩:=Kd.at_int HR1.out Xw p392 q392;cases e392;replace Vu:=(HB.out.cell (Yb w _ Vu)).trans Vu;replace p392:=eq_true p392;replace q392:=eq_true q392;have Jt:wr.cell? ⟨Wf,0,none⟩=some (.int .i64 Zb):=(Yc Xa.out 0).trans rfl;have Ju:wr.cell? ⟨Wf,1,none⟩=some (.bool Zc):=(Yc Xa.out 1).trans rfl;have hcz16_2:wr.cell? ⟨Wf,2,none⟩=some (.slice Ze Za.length Zd):=(Yc Xa.out 2).trans rfl;have Jv:=Yf Xa.out 0;have Jw:=Yf Xa.out 1;have hfz16_2:=Yf Xa.out 2;have p393:0≤(Xw:Int):=Yu (by first|(with_reducible assumption)|assumption);have q393:Xw<(Za.length:Int):=Yu (by first|(with_reducible assumption)|assumption);obtain⟨ad393,e393,hx393_0,hx393_1,hx393_2,hx393_3⟩:=at_T50 Zk.out Xw p393 q393;cases e393;replace hx393_0:=(HB.out.cell (Yb w _ hx393_0)).trans hx393_0;replace hx393_1:=(HB.out.cell (Yb w _ hx393_1)).trans hx393_1;replace hx393_2:=(HB.out.cell (Yb w _ hx393_2)).trans hx393_2;replace hx393_3:=(HB.out.cell (Yb w _ hx393_3)).trans hx393_3;replace p393:=eq_true p393;replace q393:=eq_true q393;go_wp2;go_ret;exact⟨by first|rfl|(simp[errW_none,errW_some]<;>rfl)|(simp[*,errW_none,errW_some]<;>rfl),by repeat(first|(with_reducible first|exact HB.out|apply Ye|apply Yd|apply Yg|refine Yh ?_ GE390.out)|exact HB.out)⟩
   rw[Yy c15] at H;have c15b0:decide (((rd_T50 Za Xw).f2)<(rd l1 Xw))=false:=Yw c15;clear c15;have H':=Ya H;clear H;have p392:0≤(Xw:Int):=Yu (by first|(with_reducible assumption)|assumption);have q392:Xw<(l1.length:Int):=Yu (by first|(with_reducible assumption)|assumption);obtain⟨ad392,e392,Vu⟩:=Kd.at_int HR1.out Xw p392 q392;cases e392;replace Vu:=(HB.out.cell (Yb w _ Vu)).trans Vu;replace p392:=eq_true p392;replace q392:=eq_true q392;have Ji:wr.cell? ⟨Wf,0,none⟩=some (.int .i64 Zb):=(Yc Xa.out 0).trans rfl;have Jj:wr.cell? ⟨Wf,1,none⟩=some (.bool Zc):=(Yc Xa.out 1).trans rfl;have hcz17_2:wr.cell? ⟨Wf,2,none⟩=some (.slice Ze Za.length Zd):=(Yc Xa.out 2).trans rfl;have Jk:=Yf Xa.out 0;have Jl:=Yf Xa.out 1;have hfz17_2:=Yf Xa.out 2;have p393:0≤(Xw:Int):=Yu (by first|(with_reducible assumption)|assumption);have q393:Xw<(Za.length:Int):=Yu (by first|(with_reducible assumption)|assumption);obtain⟨ad393,e393,hx393_0,hx393_1,hx393_2,hx393_3⟩:=at_T50 Zk.out Xw p393 q393;cases e393;replace hx393_0:=(HB.out.cell (Yb w _ hx393_0)).trans hx393_0;replace hx393_1:=(HB.out.cell (Yb w _ hx393_1)).trans hx393_1;replace hx393_2:=(HB.out.cell (Yb w _ hx393_2)).trans hx393_2;replace hx393_3:=(HB.out.cell (Yb w _ hx393_3)).trans hx393_3;replace p393:=eq_true p393;replace q393:=eq_true q393;go_wp2;go_roundg k1
   case measure=>have:=HK1.out;omega
   case rel=>exact⟨(wrap64 (Xw+1)),(by first|rfl|(simp;done)|(simp[*];done)),H',⟨by have:=HK1.out;omega⟩,⟨by(with_reducible repeat(first|refine Yl ?_ _|refine Ym ?_|refine Yj ?_ _));exact Xa.out⟩,⟨by repeat(first|(with_reducible first|exact HB.out|apply Ye|apply Yd|apply Yg|refine Yh ?_ GE390.out)|exact HB.out)⟩⟩
end P
namespace P
attribute [local go_sem] max2_int min2_int max_two min_two max_three min_three max_four min_four
def static_Balance.l0:Nat→List Int→List Int→List (S50)→Int→Int→Option (List Int × Int)
 |0,_,_,_,_,_=>none
 |k+1,x1,x7,x20,x21,x22=>if x22<x21 then(if 0≤x22 then(if x22<(x20.length:Int) then(if 0≤((rd_T50 x20 x22).f0) then(if ((rd_T50 x20 x22).f0)<(x7.length:Int) then(if x22<(x1.length:Int) then((some (x7.set (((rd_T50 x20 x22).f0):Int).toNat (wrap64 ((rd x7 ((rd_T50 x20 x22).f0))+(rd x1 x22))):List Int)).bind fun y403=>(if 0≤((rd_T50 x20 x22).f1) then(if ((rd_T50 x20 x22).f1)<(x7.length:Int) then(static_Balance.l0 k x1 (y403.set (((rd_T50 x20 x22).f1):Int).toNat (wrap64 ((rd y403 ((rd_T50 x20 x22).f1)) - (rd x1 x22)))) x20 x21 (wrap64 (x22+1))) else(none)) else(none))) else(none)) else(none)) else(none)) else(none)) else(none)) else(some (x7,0))
def static_Balance.f (k:Nat) (Zb:Int) (Zc:Bool) (Za:List (S50)) (l1:List Int):Option (List Int × Int):=(static_Asked.f k Zb Zc Za l1).bind fun t395=>(if t395=0 then(if 0≤Zb then(if (Zb:Int).toNat≤35184372088832 then(static_Balance.l0 k l1 (List.replicate (Zb:Int).toNat 0) Za (Za.length:Int) 0) else(none)) else(none)) else(some (([]:List Int),t395)))
def static_Balance.T8:Bool × List (List Nat × List Nat):=(true,[([],[]),([],[]),([1],[1]),([0,2],[0,2]),([3],[3]),([],[]),([],[]),([5,6],[5,6]),([7],[7]),([4,8],[4,8]),([0,2,0,1,2,3,4,5,6,7,8,9],[0,2]),([10,9,0,1,2,3,4,5,6,7,8,9],[9,10])])
def static_Balance.B8:List Nat:=[0,0,2,7,15,0,0,96,224,511,1023,2047]
theorem static_Balance.tab8:rtab .any (opsOf Try.f73 8)=static_Balance.T8:=by kernel_rfl
theorem static_Balance.bits8:waitsOk static_Balance.T8.2 static_Balance.B8=true:=by kernel_rfl
def static_Balance.T9:Bool × List (List Nat × List Nat):=(true,[([],[]),([],[]),([1],[1]),([0,2],[0,2]),([3],[3]),([],[]),([],[]),([5,6],[5,6]),([7],[7]),([4,8],[4,8]),([0,2,0,1,2,3,4,5,6,7,8,9],[0,2]),([10,9,0,1,2,3,4,5,6,7,8,9],[9,10])])
def static_Balance.B9:List Nat:=[0,0,2,7,15,0,0,96,224,511,1023,2047]
theorem static_Balance.tab9:rtab .any (opsOf Try.f73 9)=static_Balance.T9:=by kernel_rfl
theorem static_Balance.bits9:waitsOk static_Balance.T9.2 static_Balance.B9=true:=by kernel_rfl
set_option maxHeartbeats 8000000 in
set_option maxRecDepth 100000 in
theorem static_Balance.calls (k:Nat) (Zb:Int) (Zc:Bool) (Ze:Option Addr) (Zd:Nat) (Za:List (S50)) (A1:Option Addr) (c1:Nat) (l1:List Int) (r1:List Int) (r2:Int) (w:World) (Zq:Kd.C k50 w Ze Za.length Za) (Zr:Za.length≤Zd) (hr1:Kd.C (Kd.int .i64) w A1 l1.length l1) (hc1:l1.length≤c1) (h:static_Balance.f k Zb Zc Za l1=some (r1,r2)):
  Calls Try.prog 73 #[.agg #[.int .i64 Zb, .bool Zc, .slice Ze Za.length Zd], .slice A1 l1.length c1] w fun e w'=> ∃ v0_:Value,e= .returned (.tuple #[v0_, .int .i64 r2])∧Kd.R (Kd.int .i64) 3 w' w.heap.size (fun _=>True) v0_ r1∧Below w.heap.size w w':=by
 have hu24:=Try.underlying24;have hu50:=Try.underlying50;have Zk:=Ya Zq;have Zw:=Ya Zr;clear Zq Zr;have HR1:=Ya hr1;have HC1:=Ya hc1;clear hr1 hc1;have HB:=Ya (Yo w.heap.size w);have H:((static_Asked.f k Zb Zc Za l1).bind fun t395=>(if t395=0 then(if 0≤Zb then(if (Zb:Int).toNat≤35184372088832 then(static_Balance.l0 k l1 (List.replicate (Zb:Int).toNat 0) Za (Za.length:Int) 0) else(none)) else(none)) else(some (([]:List Int),t395))))=some (r1,r2):=h;clear h;replace H:=Option.bind_eq_some_iff.mp H;obtain⟨t395,A30,H⟩:=H;replace H:(if t395=0 then(if 0≤Zb then(if (Zb:Int).toNat≤35184372088832 then(static_Balance.l0 k l1 (List.replicate (Zb:Int).toNat 0) Za (Za.length:Int) 0) else(none)) else(none)) else(some (([]:List Int),t395)))=some (r1,r2):=H;have A3:=Ya A30;clear A30;by_cases c4:t395=0
 rotate_left
 ·rw[Yy c4] at H
  have c4b0:(t395 == 0)=false:=beq_eq_false_iff_ne.mpr c4;have c4b1:(t395 != 0)=true:=bne_iff_ne.mpr c4;simp only[Option.some.injEq,Prod.mk.injEq] at H;obtain⟨rfl,rfl⟩:=H;go_enter Try.func73,Try.ntmps73;go_wp2_with (first|((with_reducible refine gate_dst (N:=2) rfl ?_);refine Yz ?hg (N:=2) ?hd (cs:= #[.int .i64 Zb, .bool Zc, .slice Ze Za.length Zd]) (t:=24) ?hr ?_;(case hd=>rfl);(case hg=>rfl);(case hr=>first|(go_simp;done)|(go_simp;rfl));intro Wo hg w34 Zg hb;have n0_:=Ya (Yk (by repeat(first|(with_reducible first|exact HB.out|apply Ye|apply Yd|apply Yg)|exact HB.out)) hb);have n1_:=Ya (Zg);have n2_:=Ya ((by rw[hg];exact(Yi (by repeat(first|(with_reducible first|exact HB.out|apply Ye|apply Yd|apply Yg)|exact HB.out))):w.heap.size≤Wo));have n3_:=Ya ((by rw[hg];exact(Yi (by repeat(first|(with_reducible first|exact HB.out|apply Ye|apply Yd|apply Yg)|exact HB.out))):w.heap.size≤Wo));clear HB;have HB:=n0_;have Zz:=n1_;have GW394:=n2_;have Jn:=n3_;clear n0_ n1_ n2_ n3_;clear hb Zg hg;have hcz35_0:w34.cell? ⟨Wo,0,none⟩=some (.int .i64 Zb):=(Yc Zz.out 0).trans rfl;have hcz35_1:w34.cell? ⟨Wo,1,none⟩=some (.bool Zc):=(Yc Zz.out 1).trans rfl;have hcz35_2:w34.cell? ⟨Wo,2,none⟩=some (.slice Ze Za.length Zd):=(Yc Zz.out 2).trans rfl;have hfz35_0:=Yf Zz.out 0;have hfz35_1:=Yf Zz.out 1;have hfz35_2:=Yf Zz.out 2)|((with_reducible refine gate_callee (f:=90) rfl ?_);refine goesL_ (some 12) rfl rfl Try.func90 (by kernel_rfl) rfl #[.agg #[.int .i64 Zb, .bool Zc, .slice Ze Za.length Zd], .slice A1 l1.length c1] rfl (by(try simp only[List.map_toArray,List.map_cons,List.map_nil]);first|done|rfl|(simp only[List.length_drop,List.length_take];rfl)) ?_;(with_reducible refine(static_Asked.calls k Zb Zc _ _ Za _ _ l1 t395 _ ?side1 ?side2 ?side3 ?side4 A3.out).mono ?_);(case side1=>repeat(first|exact(Yt Zk.out HB.out)|(with_reducible refine Kd.C_alloc ?_ _)|(with_reducible refine Kd.C_drewN ?_ _)|(with_reducible refine Kd.C_drew ?_)));(case side2=>exact Zw.out);(case side3=>repeat(first|exact(Yt HR1.out HB.out)|(with_reducible refine Kd.C_alloc ?_ _)|(with_reducible refine Kd.C_drewN ?_ _)|(with_reducible refine Kd.C_drew ?_)));(case side4=>exact HC1.out);rintro e w36 ⟨rfl,hb⟩;refine⟨_,rfl,?_⟩;have n0_:=Ya (Yn (g:=Wo) (o:= .cells #[.int .i64 Zb, .bool Zc, .slice Ze Za.length Zd] 24 (0,0)) (by(with_reducible repeat(first|refine Yl ?_ _|refine Ym ?_|refine Yj ?_ _));exact Zz.out) hb);have n1_:=Ya (Yk (by repeat(first|(with_reducible first|exact HB.out|apply Ye|apply Yd|apply Yg|refine Yh ?_ Jn.out)|exact HB.out)) hb);clear Zz;clear HB;have Zz:=n0_;have HB:=n1_;clear n0_ n1_;(try clear hb);(try clear hb2);(try clear hk);(try clear hi)));go_ret2;exact⟨_,by first|rfl|(simp[errW_none,errW_some]<;>rfl)|(simp[*,errW_none,errW_some]<;>rfl),by first|exact Kd.R_nil _ _ _ _ _|exact Kd.N_nil _ _ _ _ _|exact Kd.V_nil _ _ _ _ _|exact Kd.Q_nil _ _ _ _ _|exact Kd.S_nil _ _ _ _ _,by repeat(first|(with_reducible first|exact HB.out|apply Ye|apply Yd|apply Yg|refine Yh ?_ Jn.out)|exact HB.out)⟩
 rw[Yx c4] at H;have c4b0:(t395 == 0)=true:=beq_iff_eq.mpr c4;have c4b1:(t395 != 0)=false:=bne_eq_false_iff_eq.mpr c4;clear c4;by_cases c5:0≤Zb
 rotate_left
 ·rw[Yy c5] at H
  exact absurd H (by simp)
 rw[Yx c5] at H;have c5b0:=eq_true c5;have c5b1:decide (0≤Zb)=true:=Yv c5;clear c5;by_cases c6:(Zb:Int).toNat≤35184372088832
 rotate_left
 ·rw[Yy c6] at H
  exact absurd H (by simp)
 rw[Yx c6] at H;have c6b0:=eq_true c6;have c6b1:decide ((Zb:Int).toNat≤35184372088832)=true:=Yv c6;clear c6;obtain⟨y396,hy396⟩: ∃ y_:List Int,y_=(List.replicate (Zb:Int).toNat 0):=⟨_,rfl⟩;replace H:(static_Balance.l0 k l1 y396 Za (Za.length:Int) 0)=some (r1,r2):=by first|(rw[hy396];with_reducible exact H)|(have H2_:=(Option.bind_some _ _).symm.trans H;rw[hy396];with_reducible exact H2_)|(have H2_:=(Option.bind_some _ _).symm.trans H;with_reducible exact H2_)|with_reducible exact H|(rw[hy396];exact H)|exact H
 have Ny396:=Ya hy396;clear hy396;have H':=Ya H;clear H;go_enter Try.func73,Try.ntmps73;go_wp2_with (first|((with_reducible refine gate_dst (N:=2) rfl ?_);refine Yz ?hg (N:=2) ?hd (cs:= #[.int .i64 Zb, .bool Zc, .slice Ze Za.length Zd]) (t:=24) ?hr ?_;(case hd=>rfl);(case hg=>rfl);(case hr=>first|(go_simp;done)|(go_simp;rfl));intro Wo hg w7 Zg hb;have n0_:=Ya (Yk (by repeat(first|(with_reducible first|exact HB.out|apply Ye|apply Yd|apply Yg)|exact HB.out)) hb);have n1_:=Ya (Zg);have n2_:=Ya ((by rw[hg];exact(Yi (by repeat(first|(with_reducible first|exact HB.out|apply Ye|apply Yd|apply Yg)|exact HB.out))):w.heap.size≤Wo));have n3_:=Ya ((by rw[hg];exact(Yi (by repeat(first|(with_reducible first|exact HB.out|apply Ye|apply Yd|apply Yg)|exact HB.out))):w.heap.size≤Wo));clear HB;have HB:=n0_;have Zz:=n1_;have GW394:=n2_;have Jn:=n3_;clear n0_ n1_ n2_ n3_;clear hb Zg hg;have Vh:w7.cell? ⟨Wo,0,none⟩=some (.int .i64 Zb):=(Yc Zz.out 0).trans rfl;have Vi:w7.cell? ⟨Wo,1,none⟩=some (.bool Zc):=(Yc Zz.out 1).trans rfl;have Vj:w7.cell? ⟨Wo,2,none⟩=some (.slice Ze Za.length Zd):=(Yc Zz.out 2).trans rfl;have Vk:=Yf Zz.out 0;have Vl:=Yf Zz.out 1;have Vm:=Yf Zz.out 2)|((with_reducible refine gate_callee (f:=90) rfl ?_);refine goesL_ (some 12) rfl rfl Try.func90 (by kernel_rfl) rfl #[.agg #[.int .i64 Zb, .bool Zc, .slice Ze Za.length Zd], .slice A1 l1.length c1] rfl (by(try simp only[List.map_toArray,List.map_cons,List.map_nil]);first|done|rfl|(simp only[List.length_drop,List.length_take];rfl)) ?_;(with_reducible refine(static_Asked.calls k Zb Zc _ _ Za _ _ l1 t395 _ ?side1 ?side2 ?side3 ?side4 A3.out).mono ?_);(case side1=>repeat(first|exact(Yt Zk.out HB.out)|(with_reducible refine Kd.C_alloc ?_ _)|(with_reducible refine Kd.C_drewN ?_ _)|(with_reducible refine Kd.C_drew ?_)));(case side2=>exact Zw.out);(case side3=>repeat(first|exact(Yt HR1.out HB.out)|(with_reducible refine Kd.C_alloc ?_ _)|(with_reducible refine Kd.C_drewN ?_ _)|(with_reducible refine Kd.C_drew ?_)));(case side4=>exact HC1.out);rintro e w9 ⟨rfl,hb⟩;refine⟨_,rfl,?_⟩;have n0_:=Ya (Yn (g:=Wo) (o:= .cells #[.int .i64 Zb, .bool Zc, .slice Ze Za.length Zd] 24 (0,0)) (by(with_reducible repeat(first|refine Yl ?_ _|refine Ym ?_|refine Yj ?_ _));exact Zz.out) hb);have n1_:=Ya (Yk (by repeat(first|(with_reducible first|exact HB.out|apply Ye|apply Yd|apply Yg|refine Yh ?_ Jn.out)|exact HB.out)) hb);clear Zz;clear HB;have Zz:=n0_;have HB:=n1_;clear n0_ n1_;(try clear hb);(try clear hb2);(try clear hk);(try clear hi);have Va:w9.cell? ⟨Wo,0,none⟩=some (.int .i64 Zb):=(Yc Zz.out 0).trans rfl;have Vb:w9.cell? ⟨Wo,1,none⟩=some (.bool Zc):=(Yc Zz.out 1).trans rfl;have Vc:w9.cell? ⟨Wo,2,none⟩=some (.slice Ze Za.length Zd):=(Yc Zz.out 2).trans rfl;have Vd:=Yf Zz.out 0;have Ve:=Yf Zz.out 1;have Vf:=Yf Zz.out 2)|((with_reducible refine gate_dst (N:=18) rfl ?_);refine Kd.R_make (Kd.int .i64) _ 3 rfl (N:=18) rfl 31 _ _ rfl Zb rfl rfl Try.underlying31 (.int .i64 0) 8 info3 rfl (by decide) (by omega) 0 (ok:=fun _=>True) (okp:=fun _=>True) rfl (fun _ hk=>hk) trivial (Yu (by first|(with_reducible assumption)|assumption)) (Nat.le_trans (Nat.mul_le_mul_right _ (Yu (by first|(with_reducible assumption)|assumption):Zb.toNat≤35184372088832)) (by omega)) (Yo _ _) (Nat.le_refl _) ?_;intro v397 w11 ho12 hb hg_ hnew_;clear hg_ hnew_;(first|rw[← Ny396.out] at ho12|(simp only[Int.reduceToNat] at ho12;rw[← Ny396.out] at ho12));have n0_:=Ya (Kd.R_lower ho12 (Yi (by repeat(first|(with_reducible first|exact HB.out|apply Ye|apply Yd|apply Yg|refine Yh ?_ Jn.out)|exact HB.out))));have n1_:=Ya (Yn (g:=Wo) (o:= .cells #[.int .i64 Zb, .bool Zc, .slice Ze Za.length Zd] 24 (0,0)) (by(with_reducible repeat(first|refine Yl ?_ _|refine Ym ?_|refine Yj ?_ _));exact Zz.out) hb);have n2_:=Ya (Yk (by repeat(first|(with_reducible first|exact HB.out|apply Ye|apply Yd|apply Yg|refine Yh ?_ Jn.out)|exact HB.out)) hb);clear Zz;clear HB;have HO398:=n0_;have Zz:=n1_;have HB:=n2_;clear n0_ n1_ n2_;clear hb ho12;have hcz13_0:w11.cell? ⟨Wo,0,none⟩=some (.int .i64 Zb):=(Yc Zz.out 0).trans rfl;have hcz13_1:w11.cell? ⟨Wo,1,none⟩=some (.bool Zc):=(Yc Zz.out 1).trans rfl;have hcz13_2:w11.cell? ⟨Wo,2,none⟩=some (.slice Ze Za.length Zd):=(Yc Zz.out 2).trans rfl;have hfz13_0:=Yf Zz.out 0;have hfz13_1:=Yf Zz.out 1;have hfz13_2:=Yf Zz.out 2));go_loopg [22] k (fun kq v22 w'=> ∃ (Wi:List Int) (Zf:Int),v22= .int .i64 Zf∧Aside0 (static_Balance.l0 kq l1 Wi Za (Za.length:Int) Zf=some (r1,r2))∧Aside0 (kq≤k)∧Aside0 (Kd.R (Kd.int .i64) 3 w' w.heap.size (fun _=>True) v397 Wi)∧Aside0 (w'.heap[Wo]? =some (.cells #[.int .i64 Zb, .bool Zc,(.slice Ze Za.length Zd)] 24 (0,0)))∧Aside0 (Below w.heap.size w w'))
 case atStart=>exact⟨(y396),(0),(by first|rfl|(simp;done)|(simp[*];done)),H',⟨Nat.le_refl _⟩,⟨by(with_reducible repeat(first|apply Yr|apply Yq|apply Yp));exact HO398.out⟩,⟨by(with_reducible repeat(first|refine Yl ?_ _|refine Ym ?_|refine Yj ?_ _));exact Zz.out⟩,⟨by repeat(first|(with_reducible first|exact HB.out|apply Ye|apply Yd|apply Yg|refine Yh ?_ Jn.out)|exact HB.out)⟩⟩
 case round=>
  clear H';try clear c1
  try clear p2
  try clear c4
  try clear c4b0
  try clear c4b1
  try clear c5
  try clear c5b0
  try clear c5b1
  try clear c6
  try clear c6b0
  try clear c6b1
  try clear c7
  try clear c9
  try clear Va
  try clear Vb
  try clear Vc
  try clear hcz13_0
  try clear hcz13_1
  try clear hcz13_2
  try clear Vh
  try clear Vi
  try clear Vj
  try clear Vd
  try clear Ve
  try clear Vf
  try clear hfz13_0
  try clear hfz13_1
  try clear hfz13_2
  try clear Vk
  try clear Vl
  try clear Vm
  obtain⟨Wi,Zf,rfl,HA,HK1,HO_7,Zz,HB⟩:=hrel;cases gk with
  |zero=>exact absurd HA.out (by simp[static_Balance.l0])
  |succ k1=>
   have H:=HA.out;clear HA;simp only[static_Balance.l0] at H;by_cases c14:Zf<(Za.length:Int)
   rotate_left
   ·rw[Yy c14] at H
    have c14b0:decide (Zf<(Za.length:Int))=false:=Yw c14;clear c14;simp only[Option.some.injEq,Prod.mk.injEq] at H;obtain⟨rfl,rfl⟩:=H;go_wp2;go_ret2;exact⟨_,by first|rfl|(simp[errW_none,errW_some]<;>rfl)|(simp[*,errW_none,errW_some]<;>rfl),by(with_reducible repeat(first|apply Yr|apply Yq|apply Yp));exact HO_7.out,by repeat(first|(with_reducible first|exact HB.out|apply Ye|apply Yd|apply Yg|refine Yh ?_ Jn.out)|exact HB.out)⟩
   rw[Yx c14] at H;have c14b0:decide (Zf<(Za.length:Int))=true:=Yv c14;clear c14;by_cases c15:0≤Zf
   rotate_left
   ·rw[Yy c15] at H
    exact absurd H (by simp)
   rw[Yx c15] at H;have c15b0:decide (0≤Zf)=true:=Yv c15;clear c15;by_cases c16:Zf<(Za.length:Int)
   rotate_left
   ·rw[Yy c16] at H
    exact absurd H (by simp)
   rw[Yx c16] at H;have c16b0:decide (Zf<(Za.length:Int))=true:=Yv c16;clear c16;by_cases c17:0≤((rd_T50 Za Zf).f0)
   rotate_left
   ·rw[Yy c17] at H
    exact absurd H (by simp)
   rw[Yx c17] at H;have c17b0:decide (0≤((rd_T50 Za Zf).f0))=true:=Yv c17;clear c17;by_cases c18:((rd_T50 Za Zf).f0)<(Wi.length:Int)
   rotate_left
   ·rw[Yy c18] at H
    exact absurd H (by simp)
   rw[Yx c18] at H;have c18b0:decide (((rd_T50 Za Zf).f0)<(Wi.length:Int))=true:=Yv c18;clear c18;by_cases c19:Zf<(l1.length:Int)
   rotate_left
   ·rw[Yy c19] at H
    exact absurd H (by simp)
   rw[Yx c19] at H;have c19b0:decide (Zf<(l1.length:Int))=true:=Yv c19;clear c19;obtain⟨y403,hy403⟩: ∃ y_:List Int,y_=(Wi.set (((rd_T50 Za Zf).f0):Int).toNat (wrap64 ((rd Wi ((rd_T50 Za Zf).f0))+(rd l1 Zf)))):=⟨_,rfl⟩;replace H:(if 0≤((rd_T50 Za Zf).f1) then(if ((rd_T50 Za Zf).f1)<(Wi.length:Int) then(static_Balance.l0 k1 l1 (y403.set (((rd_T50 Za Zf).f1):Int).toNat (wrap64 ((rd y403 ((rd_T50 Za Zf).f1)) - (rd l1 Zf)))) Za (Za.length:Int) (wrap64 (Zf+1))) else(none)) else(none))=some (r1,r2):=by first|(rw[hy403];with_reducible exact H)|(have H2_:=(Option.bind_some _ _).symm.trans H;rw[hy403];with_reducible exact H2_)|(have H2_:=(Option.bind_some _ _).symm.trans H;with_reducible exact H2_)|with_reducible exact H|(rw[hy403];exact H)|exact H
   have Ny403:=Ya hy403;clear hy403;by_cases c21:0≤((rd_T50 Za Zf).f1)
   rotate_left
   ·rw[Yy c21] at H
    exact absurd H (by simp)
   rw[Yx c21] at H;have c21b0:decide (0≤((rd_T50 Za Zf).f1))=true:=Yv c21;clear c21;by_cases c22:((rd_T50 Za Zf).f1)<(Wi.length:Int)
   rotate_left
   ·rw[Yy c22] at H
    exact absurd H (by simp)
   rw[Yx c22] at H;have c22b0:decide (((rd_T50 Za Zf).f1)<(Wi.length:Int))=true:=Yv c22;clear c22;obtain⟨y406,hy406⟩: ∃ y_:List Int,y_=(y403.set (((rd_T50 Za Zf).f1):Int).toNat (wrap64 ((rd y403 ((rd_T50 Za Zf).f1)) - (rd l1 Zf)))):=⟨_,rfl⟩;replace H:(static_Balance.l0 k1 l1 y406 Za (Za.length:Int) (wrap64 (Zf+1)))=some (r1,r2):=by first|(rw[hy406];with_reducible exact H)|(have H2_:=(Option.bind_some _ _).symm.trans H;rw[hy406];with_reducible exact H2_)|(have H2_:=(Option.bind_some _ _).symm.trans H;with_reducible exact H2_)|with_reducible exact H|(rw[hy406];exact H)|exact H
   have Ny406:=Ya hy406;clear hy406;have H':=Ya H;clear H;have p399:0≤(Zf:Int):=Yu (by first|(with_reducible assumption)|assumption);have q399:Zf<(Za.length:Int):=Yu (by first|(with_reducible assumption)|assumption);obtain⟨ad399,e399,hx399_0,hx399_1,hx399_2,hx399_3⟩:=at_T50 Zk.out Zf p399 q399;cases e399;replace hx399_0:=(HB.out.cell (Yb w _ hx399_0)).trans hx399_0;replace hx399_1:=(HB.out.cell (Yb w _ hx399_1)).trans hx399_1;replace hx399_2:=(HB.out.cell (Yb w _ hx399_2)).trans hx399_2;replace hx399_3:=(HB.out.cell (Yb w _ hx399_3)).trans hx399_3;replace p399:=eq_true p399;replace q399:=eq_true q399;try go_wp2_with (first|((with_reducible refine gate_dst (N:=9) rfl ?_);refine Yz ?hg (N:=9) ?hd (cs:= #[.int .i64 0, .int .i64 0, .int .i64 0, .int .i64 0]) (t:=50) ?hr ?_;(case hd=>rfl);(case hg=>rfl);(case hr=>first|(go_simp;done)|(go_simp;rfl));intro Xp hg w24 Zg hb;have n0_:=Ya (Ys (by(with_reducible repeat(first|apply Yr|apply Yq|apply Yp));exact HO_7.out) hb);have n1_:=Ya (Yn (g:=Wo) (o:= .cells #[.int .i64 Zb, .bool Zc, .slice (some ad399) Za.length Zd] 24 (0,0)) (by(with_reducible repeat(first|refine Yl ?_ _|refine Ym ?_|refine Yj ?_ _));exact Zz.out) hb);have n2_:=Ya (Yk (by repeat(first|(with_reducible first|exact HB.out|apply Ye|apply Yd|apply Yg|refine Yh ?_ Jn.out)|exact HB.out)) hb);have n3_:=Ya (Zg);have n4_:=Ya ((by rw[hg];exact(Yi (by repeat(first|(with_reducible first|exact HB.out|apply Ye|apply Yd|apply Yg|refine Yh ?_ Jn.out)|exact HB.out))):w.heap.size≤Xp));have n5_:=Ya ((by rw[hg];exact(Yi (by repeat(first|(with_reducible first|exact HB.out|apply Ye|apply Yd|apply Yg|refine Yh ?_ Jn.out)|exact HB.out))):w.heap.size≤Xp));have n6_:=Ya ((by rw[hg];exact Nat.ne_of_lt (blk_lt (g:=Wo) (o:= .cells #[.int .i64 Zb, .bool Zc, .slice (some ad399) Za.length Zd] 24 (0,0)) (by(with_reducible repeat(first|refine Yl ?_ _|refine Ym ?_|refine Yj ?_ _));exact Zz.out)):Wo≠Xp));have n7_:=Ya ((by rw[hg];exact Nat.ne_of_gt (blk_lt (g:=Wo) (o:= .cells #[.int .i64 Zb, .bool Zc, .slice (some ad399) Za.length Zd] 24 (0,0)) (by(with_reducible repeat(first|refine Yl ?_ _|refine Ym ?_|refine Yj ?_ _));exact Zz.out)):Xp≠Wo));clear HO_7;clear Zz;clear HB;have HO_7:=n0_;have Zz:=n1_;have HB:=n2_;have Wg:=n3_;have GW400:=n4_;have GE400:=n5_;have Jp:=n6_;have NB400_394:=n7_;clear n0_ n1_ n2_ n3_ n4_ n5_ n6_ n7_;clear hb Zg hg;have hnb25:=NB400_394.out;have hnc25:=Jp.out;have hcz26_0:w24.cell? ⟨Xp,0,none⟩=some (.int .i64 0):=(Yc Wg.out 0).trans rfl;have hcz26_1:w24.cell? ⟨Xp,1,none⟩=some (.int .i64 0):=(Yc Wg.out 1).trans rfl;have hcz26_2:w24.cell? ⟨Xp,2,none⟩=some (.int .i64 0):=(Yc Wg.out 2).trans rfl;have hcz26_3:w24.cell? ⟨Xp,3,none⟩=some (.int .i64 0):=(Yc Wg.out 3).trans rfl;have hfz26_0:=Yf Wg.out 0;have hfz26_1:=Yf Wg.out 1;have hfz26_2:=Yf Wg.out 2;have hfz26_3:=Yf Wg.out 3))
   have n0_:Aside0 (Kd.R (Kd.int .i64) 3 ((((w24.setCell ⟨Xp,0,none⟩ (.int .i64 ((rd_T50 Za Zf).f0))).setCell ⟨Xp,1,none⟩ (.int .i64 ((rd_T50 Za Zf).f1))).setCell ⟨Xp,2,none⟩ (.int .i64 ((rd_T50 Za Zf).f2))).setCell ⟨Xp,3,none⟩ (.int .i64 ((rd_T50 Za Zf).f3))) w.heap.size (fun _=>True) v397 Wi):=⟨by(with_reducible repeat(first|apply Yr|apply Yq|apply Yp));exact Kd.R_mono (Kd.R_far (p:=⟨Xp,3,none⟩) (Kd.R_far (p:=⟨Xp,2,none⟩) (Kd.R_far (p:=⟨Xp,1,none⟩) (Kd.R_far (p:=⟨Xp,0,none⟩) (Kd.R_types HO_7.out Wg.out (by decide)) (fun _ hk=>hk.2) (.int .i64 ((rd_T50 Za Zf).f0))) (fun _ hk=>hk.2) (.int .i64 ((rd_T50 Za Zf).f1))) (fun _ hk=>hk.2) (.int .i64 ((rd_T50 Za Zf).f2))) (fun _ hk=>hk.2) (.int .i64 ((rd_T50 Za Zf).f3))) (fun _ hk=>trivial)⟩;have n1_:Aside0 (((((w24.setCell ⟨Xp,0,none⟩ (.int .i64 ((rd_T50 Za Zf).f0))).setCell ⟨Xp,1,none⟩ (.int .i64 ((rd_T50 Za Zf).f1))).setCell ⟨Xp,2,none⟩ (.int .i64 ((rd_T50 Za Zf).f2))).setCell ⟨Xp,3,none⟩ (.int .i64 ((rd_T50 Za Zf).f3))).heap[Wo]? =some (.cells #[.int .i64 Zb, .bool Zc, .slice (some ad399) Za.length Zd] 24 (0,0))):=⟨by(with_reducible repeat(first|refine Yl ?_ _|refine Ym ?_|refine Yj ?_ _));refine blk_far ?_ Jp.out _;(with_reducible repeat(first|refine Yl ?_ _|refine Ym ?_|refine Yj ?_ _));refine blk_far ?_ Jp.out _;(with_reducible repeat(first|refine Yl ?_ _|refine Ym ?_|refine Yj ?_ _));refine blk_far ?_ Jp.out _;(with_reducible repeat(first|refine Yl ?_ _|refine Ym ?_|refine Yj ?_ _));refine blk_far ?_ Jp.out _;(with_reducible repeat(first|refine Yl ?_ _|refine Ym ?_|refine Yj ?_ _));exact Zz.out⟩;have n2_:Aside0 (((((w24.setCell ⟨Xp,0,none⟩ (.int .i64 ((rd_T50 Za Zf).f0))).setCell ⟨Xp,1,none⟩ (.int .i64 ((rd_T50 Za Zf).f1))).setCell ⟨Xp,2,none⟩ (.int .i64 ((rd_T50 Za Zf).f2))).setCell ⟨Xp,3,none⟩ (.int .i64 ((rd_T50 Za Zf).f3))).heap[Xp]? =some (.cells #[.int .i64 ((rd_T50 Za Zf).f0), .int .i64 ((rd_T50 Za Zf).f1), .int .i64 ((rd_T50 Za Zf).f2), .int .i64 ((rd_T50 Za Zf).f3)] 50 (0,0))):=⟨by(with_reducible repeat(first|refine Yl ?_ _|refine Ym ?_|refine Yj ?_ _));refine YA (cs:= #[.int .i64 ((rd_T50 Za Zf).f0), .int .i64 ((rd_T50 Za Zf).f1), .int .i64 ((rd_T50 Za Zf).f2), .int .i64 0]) ?_ 3 _ rfl;(with_reducible repeat(first|refine Yl ?_ _|refine Ym ?_|refine Yj ?_ _));refine YA (cs:= #[.int .i64 ((rd_T50 Za Zf).f0), .int .i64 ((rd_T50 Za Zf).f1), .int .i64 0, .int .i64 0]) ?_ 2 _ rfl;(with_reducible repeat(first|refine Yl ?_ _|refine Ym ?_|refine Yj ?_ _));refine YA (cs:= #[.int .i64 ((rd_T50 Za Zf).f0), .int .i64 0, .int .i64 0, .int .i64 0]) ?_ 1 _ rfl;(with_reducible repeat(first|refine Yl ?_ _|refine Ym ?_|refine Yj ?_ _));refine YA (cs:= #[.int .i64 0, .int .i64 0, .int .i64 0, .int .i64 0]) ?_ 0 _ rfl;(with_reducible repeat(first|refine Yl ?_ _|refine Ym ?_|refine Yj ?_ _));exact Wg.out⟩;have n3_:Aside0 (Below w.heap.size w ((((w24.setCell ⟨Xp,0,none⟩ (.int .i64 ((rd_T50 Za Zf).f0))).setCell ⟨Xp,1,none⟩ (.int .i64 ((rd_T50 Za Zf).f1))).setCell ⟨Xp,2,none⟩ (.int .i64 ((rd_T50 Za Zf).f2))).setCell ⟨Xp,3,none⟩ (.int .i64 ((rd_T50 Za Zf).f3)))):=⟨by repeat(first|(with_reducible first|exact HB.out|apply Ye|apply Yd|apply Yg|refine Yh ?_ Jn.out|refine Yh ?_ GE400.out)|exact HB.out)⟩
   (try clear HO_7)
   (try clear Zz)
   (try clear Wg)
   (try clear HB)
   generalize ((((w24.setCell ⟨Xp,0,none⟩ (.int .i64 ((rd_T50 Za Zf).f0))).setCell ⟨Xp,1,none⟩ (.int .i64 ((rd_T50 Za Zf).f1))).setCell ⟨Xp,2,none⟩ (.int .i64 ((rd_T50 Za Zf).f2))).setCell ⟨Xp,3,none⟩ (.int .i64 ((rd_T50 Za Zf).f3)))=w27 at n0_ n1_ n2_ n3_ ⊢;have HO_7:=n0_;have Zz:=n1_;have Wg:=n2_;have HB:=n3_;clear n0_ n1_ n2_ n3_;have n0_:=Ya (Yp HO_7.out);have n1_:=Ya (Ym Zz.out);have n2_:=Ya (Ym Wg.out);have n3_:=Ya (Yg HB.out);clear HO_7;clear Zz;clear Wg;clear HB;have HO_7:=n0_;have Zz:=n1_;have Wg:=n2_;have HB:=n3_;clear n0_ n1_ n2_ n3_;obtain⟨Ao29,co29,eo29⟩:=Kd.R_slice HO_7.out
   (first|subst eo29|(injection eo29 with f1_ f2_ f3_;have f4_:=f1_.symm;have f5_:=f3_.symm;clear f1_ f2_ f3_;subst f4_;subst f5_))
   have p401:0≤(((rd_T50 Za Zf).f0):Int):=Yu (by first|(with_reducible assumption)|assumption);have q401:((rd_T50 Za Zf).f0)<(Wi.length:Int):=Yu (by first|(with_reducible assumption)|assumption);obtain⟨ad401,e401,hx401_0⟩:=Kd.at_int (Kd.R_reads' HO_7.out).2.2 ((rd_T50 Za Zf).f0) p401 q401;cases e401;replace p401:=eq_true p401;replace q401:=eq_true q401;have p402:0≤(Zf:Int):=Yu (by first|(with_reducible assumption)|assumption);have q402:Zf<(l1.length:Int):=Yu (by first|(with_reducible assumption)|assumption);obtain⟨ad402,e402,hx402_0⟩:=Kd.at_int HR1.out Zf p402 q402;have hw402_0:=hx402_0;cases e402;replace hx402_0:=(HB.out.cell (Yb w _ hx402_0)).trans hx402_0;replace p402:=eq_true p402;replace q402:=eq_true q402;have p20:0≤(((rd_T50 Za Zf).f0):Int):=Yu (by first|(with_reducible assumption)|assumption);have q20:(((rd_T50 Za Zf).f0):Int)<((Wi.length:Int):Int):=Yu (by first|(with_reducible assumption)|assumption);obtain⟨go20,co20,eo20,gb20,gl20,cl20,HG20⟩:=Kd.R_form HO_7.out (by omega)
   (first|cases eo20|(injection eo20 with ea_ en_ ec_;(first|subst ea_|(injection ea_ with ea_;subst ea_));subst ec_;clear en_))
   have GB20:=Ya gb20;have GG20:=Ya HG20;clear gb20 gl20 HG20
   (first|simp only[add_plain] at hx401_0|skip)
   obtain⟨hx20_0,hf20_0⟩:=Kd.R_celln 0 HO_7.out (((rd_T50 Za Zf).f0):Int) p20 q20;replace p20:=eq_true p20;replace q20:=eq_true q20;have HP30:=Kd.R_putn HO_7.out (((rd_T50 Za Zf).f0):Int) (wrap64 ((rd Wi ((rd_T50 Za Zf).f0))+(rd l1 Zf)));rw[← Ny403.out] at HP30;have HQ30:=Ya HP30;clear HP30;refine start_ (n:=12) (S:=fun w'=>w'.cell? ⟨Xp,0,none⟩=some (.int .i64 ((rd_T50 Za Zf).f0))∧w'.cell? ⟨Xp,1,none⟩=some (.int .i64 ((rd_T50 Za Zf).f1))∧w'.cell? ⟨Xp,2,none⟩=some (.int .i64 ((rd_T50 Za Zf).f2))∧w'.cell? ⟨Xp,3,none⟩=some (.int .i64 ((rd_T50 Za Zf).f3))∧w'.cell? ⟨go20,(((rd_T50 Za Zf).f0)).toNat,none⟩=some (.int .i64 (rd Wi ((rd_T50 Za Zf).f0)))∧w'.cell? (ad402.add (Zf).toNat)=some (.int .i64 (rd l1 Zf))) (ds:=[11]) #[false,false,false,false,false,false,false,false,false,false,false,false] (by kernel_rfl) rfl rfl ⟨(Yc Wg.out 0).trans rfl,(Yc Wg.out 1).trans rfl,(Yc Wg.out 2).trans rfl,(Yc Wg.out 3).trans rfl,hx401_0,((HB.out.cell (Yb w _ hw402_0)).trans hw402_0)⟩ (fun hHeld=> ?_);refine with_tabW static_Balance.tab8 static_Balance.bits8 (fun HT_ HW_=> ?_);generalize w27.drew=w28 at HO_7 Zz Wg HB GG20 HQ30 hf20_0 hx20_0 hx401_0 hx402_0 hHeld ⊢;refine pure_ (i:=0) (N:=some 27) (v:= ?_) (a':= ?_) #[true,false,false,false,false,false,false,false,false,false,false,false] rfl rfl (any_of HT_.out (by kernel_rfl)) (fun _ _ _ h=>h) (Or.inl ⟨by rfl,?_⟩) ?_ ?_
   rotate_left
   ·intro w'
    go_simp
    with_reducible rfl
   rotate_left
   ·simp only[Act.put,List.setIfInBounds_toArray,List.set_cons_zero,List.set_cons_succ,i64_w,i32_w]
    rfl
   refine pure_ (i:=1) (N:=some 28) (v:= ?_) (a':= ?_) #[true,true,false,false,false,false,false,false,false,false,false,false] rfl rfl (any_of HT_.out (by kernel_rfl)) (fun _ _ _ h=>h) (Or.inl ⟨by rfl,?_⟩) ?_ ?_
   rotate_left
   ·intro w'
    go_simp
    with_reducible rfl
   rotate_left
   ·simp only[Act.put,List.setIfInBounds_toArray,List.set_cons_zero,List.set_cons_succ,i64_w,i32_w]
    rfl
   refine pure_ (i:=5) (N:=some 32) (v:= ?_) (a':= ?_) #[true,true,false,false,false,true,false,false,false,false,false,false] rfl rfl (any_of HT_.out (by kernel_rfl)) (fun _ _ _ h=>h) (Or.inl ⟨by rfl,?_⟩) ?_ ?_
   rotate_left
   ·intro w'
    go_simp
    with_reducible rfl
   rotate_left
   ·simp only[Act.put,List.setIfInBounds_toArray,List.set_cons_zero,List.set_cons_succ,i64_w,i32_w]
    rfl
   refine pure_ (i:=6) (N:=some 33) (v:= ?_) (a':= ?_) #[true,true,false,false,false,true,true,false,false,false,false,false] rfl rfl (any_of HT_.out (by kernel_rfl)) (fun _ _ _ h=>h) (Or.inl ⟨by rfl,?_⟩) ?_ ?_
   rotate_left
   ·intro w'
    go_simp
    with_reducible rfl
   rotate_left
   ·simp only[Act.put,List.setIfInBounds_toArray,List.set_cons_zero,List.set_cons_succ,i64_w,i32_w]
    rfl
   refine pure_ (i:=7) (N:=some 34) (v:= ?_) (a':= ?_) #[true,true,false,false,false,true,true,true,false,false,false,false] rfl rfl (any_of HT_.out (by kernel_rfl)) (fun _ _ _ h=>h) (Or.inl ⟨by rfl,?_⟩) ?_ ?_
   rotate_left
   ·intro w'
    go_simp
    with_reducible rfl
   rotate_left
   ·simp only[Act.put,List.setIfInBounds_toArray,List.set_cons_zero,List.set_cons_succ,i64_w,i32_w]
    rfl
   refine take_ (i:=2) (N:=some 29) (v:= ?_) (a':= ?_) #[true,true,true,false,false,true,true,true,false,false,false,false] rfl rfl (take_ofW HT_.out HW_.out (by kernel_rfl)) (fun _ _ _ h=>h) (Or.inl ⟨by rfl,?_⟩) hHeld ?_ ?_
   rotate_left
   ·rintro w' ⟨s0,s1,s2,s3,s4,s5⟩
    go_simp
    with_reducible rfl
   rotate_left
   ·simp only[Act.put,List.setIfInBounds_toArray,List.set_cons_zero,List.set_cons_succ,i64_w,i32_w]
    rfl
   refine pure_ (i:=3) (N:=some 30) (v:= ?_) (a':= ?_) #[true,true,true,true,false,true,true,true,false,false,false,false] rfl rfl (any_of HT_.out (by kernel_rfl)) (fun _ _ _ h=>h) (Or.inl ⟨by rfl,?_⟩) ?_ ?_
   rotate_left
   ·intro w'
    go_simp
    with_reducible rfl
   rotate_left
   ·simp only[Act.put,List.setIfInBounds_toArray,List.set_cons_zero,List.set_cons_succ,i64_w,i32_w]
    rfl
   refine take_ (i:=4) (N:=some 31) (v:= ?_) (a':= ?_) #[true,true,true,true,true,true,true,true,false,false,false,false] rfl rfl (take_ofW HT_.out HW_.out (by kernel_rfl)) (fun _ _ _ h=>h) (Or.inl ⟨by rfl,?_⟩) hHeld ?_ ?_
   rotate_left
   ·rintro w' ⟨s0,s1,s2,s3,s4,s5⟩
    go_simp
    with_reducible rfl
   rotate_left
   ·simp only[Act.put,List.setIfInBounds_toArray,List.set_cons_zero,List.set_cons_succ,i64_w,i32_w]
    rfl
   refine take_ (i:=8) (N:=some 35) (v:= ?_) (a':= ?_) #[true,true,true,true,true,true,true,true,true,false,false,false] rfl rfl (take_ofW HT_.out HW_.out (by kernel_rfl)) (fun _ _ _ h=>h) (Or.inl ⟨by rfl,?_⟩) hHeld ?_ ?_
   rotate_left
   ·rintro w' ⟨s0,s1,s2,s3,s4,s5⟩
    go_simp
    with_reducible rfl
   rotate_left
   ·simp only[Act.put,List.setIfInBounds_toArray,List.set_cons_zero,List.set_cons_succ,i64_w,i32_w]
    rfl
   refine pure_ (i:=9) (N:=some 36) (v:= ?_) (a':= ?_) #[true,true,true,true,true,true,true,true,true,true,false,false] rfl rfl (any_of HT_.out (by kernel_rfl)) (fun _ _ _ h=>h) (Or.inl ⟨by rfl,?_⟩) ?_ ?_
   rotate_left
   ·intro w'
    go_simp
    with_reducible rfl
   rotate_left
   ·simp only[Act.put,List.setIfInBounds_toArray,List.set_cons_zero,List.set_cons_succ,i64_w,i32_w]
    rfl
   refine pure_ (i:=10) (N:=some 37) (v:= ?_) (a':= ?_) #[true,true,true,true,true,true,true,true,true,true,true,false] rfl rfl (any_of HT_.out (by kernel_rfl)) (fun _ _ _ h=>h) (Or.inl ⟨by rfl,?_⟩) ?_ ?_
   rotate_left
   ·intro w'
    go_simp
    with_reducible rfl
   rotate_left
   ·simp only[Act.put,List.setIfInBounds_toArray,List.set_cons_zero,List.set_cons_succ,i64_w,i32_w]
    rfl
   refine last_ (i:=11) (N:=none) #[true,true,true,true,true,true,true,true,true,true,true,true] rfl rfl (one_of HT_.out (by kernel_rfl)) (by decide) (fun K hK=> ?_);refine skip_ (w1:= ?_) (by rfl) rfl ?_ ?_
   rotate_left
   ·go_simp
    rfl
   refine hK.out _ _ ?_;clear hK K;refine done_ (done_of HT_.out (by kernel_rfl)) ?_;try go_wp2
   have n0_:Aside0 (Kd.R (Kd.int .i64) 3 (w28.setCell ⟨go20,(((rd_T50 Za Zf).f0):Int).toNat,none⟩ (.int .i64 (wrap64 ((rd Wi ((rd_T50 Za Zf).f0))+(rd l1 Zf))))) w.heap.size (fun _=>True) (.slice (some ⟨go20,0,none⟩) Wi.length co29) y403):=⟨by(with_reducible repeat(first|apply Yr|apply Yq|apply Yp));exact HQ30.out⟩;have n1_:Aside0 ((w28.setCell ⟨go20,(((rd_T50 Za Zf).f0):Int).toNat,none⟩ (.int .i64 (wrap64 ((rd Wi ((rd_T50 Za Zf).f0))+(rd l1 Zf))))).heap[Wo]? =some (.cells #[.int .i64 Zb, .bool Zc, .slice (some ad399) Za.length Zd] 24 (0,0))):=⟨by(with_reducible repeat(first|refine Yl ?_ _|refine Ym ?_|refine Yj ?_ _));refine blk_far ?_ (by have h_:=Kd.R_ne HO_7.out Zz.out (by decide);intro e_;exact h_ (by rw[e_];rfl)) _;(with_reducible repeat(first|refine Yl ?_ _|refine Ym ?_|refine Yj ?_ _));exact Zz.out⟩;have n2_:Aside0 ((w28.setCell ⟨go20,(((rd_T50 Za Zf).f0):Int).toNat,none⟩ (.int .i64 (wrap64 ((rd Wi ((rd_T50 Za Zf).f0))+(rd l1 Zf))))).heap[Xp]? =some (.cells #[.int .i64 ((rd_T50 Za Zf).f0), .int .i64 ((rd_T50 Za Zf).f1), .int .i64 ((rd_T50 Za Zf).f2), .int .i64 ((rd_T50 Za Zf).f3)] 50 (0,0))):=⟨by(with_reducible repeat(first|refine Yl ?_ _|refine Ym ?_|refine Yj ?_ _));refine blk_far ?_ (by have h_:=Kd.R_ne HO_7.out Wg.out (by decide);intro e_;exact h_ (by rw[e_];rfl)) _;(with_reducible repeat(first|refine Yl ?_ _|refine Ym ?_|refine Yj ?_ _));exact Wg.out⟩;have n3_:Aside0 (Below w.heap.size w (w28.setCell ⟨go20,(((rd_T50 Za Zf).f0):Int).toNat,none⟩ (.int .i64 (wrap64 ((rd Wi ((rd_T50 Za Zf).f0))+(rd l1 Zf)))))):=⟨by repeat(first|(with_reducible first|exact HB.out|apply Ye|apply Yd|apply Yg|refine Yh ?_ GB20.out|refine Yh ?_ Jn.out|refine Yh ?_ GE400.out)|exact HB.out)⟩
   (try clear HO_7)
   (try clear Zz)
   (try clear Wg)
   (try clear HB)
   generalize (w28.setCell ⟨go20,(((rd_T50 Za Zf).f0):Int).toNat,none⟩ (.int .i64 (wrap64 ((rd Wi ((rd_T50 Za Zf).f0))+(rd l1 Zf)))))=w31 at n0_ n1_ n2_ n3_ ⊢;have HO_7:=n0_;have Zz:=n1_;have Wg:=n2_;have HB:=n3_;clear n0_ n1_ n2_ n3_;have n0_:=Ya (Yp HO_7.out);have n1_:=Ya (Ym Zz.out);have n2_:=Ya (Ym Wg.out);have n3_:=Ya (Yg HB.out);clear HO_7;clear Zz;clear Wg;clear HB;have HO_7:=n0_;have Zz:=n1_;have Wg:=n2_;have HB:=n3_;clear n0_ n1_ n2_ n3_;have p404:0≤(((rd_T50 Za Zf).f1):Int):=Yu (by first|(with_reducible assumption)|assumption);have q404:((rd_T50 Za Zf).f1)<(y403.length:Int):=(by have h_:(((rd_T50 Za Zf).f1):Int)<((Wi.length:Int):Int):=Yu (by first|(with_reducible assumption)|assumption);first|(have e_:=(Kd.R_reads' HO_7.out).1;omega)|simpa only[Ny403.out,List.length_set] using h_);have ql404:((((rd_T50 Za Zf).f1):Int)<((Wi.length:Int):Int))=True:=eq_true (Yu (by first|(with_reducible assumption)|assumption));obtain⟨ad404,e404,hx404_0⟩:=Kd.at_int (Kd.R_reads' HO_7.out).2.2 ((rd_T50 Za Zf).f1) p404 q404;obtain rfl:(⟨go20,0,none⟩:Addr)=ad404:=(by injection e404)
   (first|simp only[add_plain] at hx404_0|simp only[add_at] at hx404_0|simp only[Addr.add,Nat.zero_add] at hx404_0|skip)
   replace p404:=eq_true p404;replace q404:=eq_true q404;have p405:0≤(Zf:Int):=Yu (by first|(with_reducible assumption)|assumption);have q405:Zf<(l1.length:Int):=Yu (by first|(with_reducible assumption)|assumption);obtain⟨ad405,e405,hx405_0⟩:=Kd.at_int HR1.out Zf p405 q405;have hw405_0:=hx405_0;obtain rfl:ad402=ad405:=(by injection e405);replace hx405_0:=(HB.out.cell (Yb w _ hx405_0)).trans hx405_0;replace p405:=eq_true p405;replace q405:=eq_true q405;have p23:0≤(((rd_T50 Za Zf).f1):Int):=Yu (by first|(with_reducible assumption)|assumption);have q23:(((rd_T50 Za Zf).f1):Int)<((Wi.length:Int):Int):=Yu (by first|(with_reducible assumption)|assumption);obtain⟨hx23_0,hf23_0⟩:=Kd.R_celln 0 HO_7.out (((rd_T50 Za Zf).f1):Int) p23 q23;replace p23:=eq_true p23;replace q23:=eq_true q23;have HP33:=Kd.R_putn HO_7.out (((rd_T50 Za Zf).f1):Int) (wrap64 ((rd y403 ((rd_T50 Za Zf).f1)) - (rd l1 Zf)));rw[← Ny406.out] at HP33;have HQ33:=Ya HP33;clear HP33;refine start_ (n:=12) (S:=fun w'=>w'.cell? ⟨Xp,0,none⟩=some (.int .i64 ((rd_T50 Za Zf).f0))∧w'.cell? ⟨Xp,1,none⟩=some (.int .i64 ((rd_T50 Za Zf).f1))∧w'.cell? ⟨Xp,2,none⟩=some (.int .i64 ((rd_T50 Za Zf).f2))∧w'.cell? ⟨Xp,3,none⟩=some (.int .i64 ((rd_T50 Za Zf).f3))∧w'.cell? ⟨go20,(((rd_T50 Za Zf).f1)).toNat,none⟩=some (.int .i64 (rd y403 ((rd_T50 Za Zf).f1)))∧w'.cell? (ad402.add (Zf).toNat)=some (.int .i64 (rd l1 Zf))) (ds:=[11]) #[false,false,false,false,false,false,false,false,false,false,false,false] (by kernel_rfl) rfl rfl ⟨(Yc Wg.out 0).trans rfl,(Yc Wg.out 1).trans rfl,(Yc Wg.out 2).trans rfl,(Yc Wg.out 3).trans rfl,hx404_0,((HB.out.cell (Yb w _ hw405_0)).trans hw405_0)⟩ (fun hHeld=> ?_);refine with_tabW static_Balance.tab9 static_Balance.bits9 (fun HT_ HW_=> ?_);generalize w31.drew=w32 at HO_7 Zz Wg HB HQ30 HQ33 hf23_0 hx23_0 hx404_0 hx405_0 hHeld ⊢;refine pure_ (i:=0) (N:=some 38) (v:= ?_) (a':= ?_) #[true,false,false,false,false,false,false,false,false,false,false,false] rfl rfl (any_of HT_.out (by kernel_rfl)) (fun _ _ _ h=>h) (Or.inl ⟨by rfl,?_⟩) ?_ ?_
   rotate_left
   ·intro w'
    go_simp
    with_reducible rfl
   rotate_left
   ·simp only[Act.put,List.setIfInBounds_toArray,List.set_cons_zero,List.set_cons_succ,i64_w,i32_w]
    rfl
   refine pure_ (i:=1) (N:=some 39) (v:= ?_) (a':= ?_) #[true,true,false,false,false,false,false,false,false,false,false,false] rfl rfl (any_of HT_.out (by kernel_rfl)) (fun _ _ _ h=>h) (Or.inl ⟨by rfl,?_⟩) ?_ ?_
   rotate_left
   ·intro w'
    go_simp
    with_reducible rfl
   rotate_left
   ·simp only[Act.put,List.setIfInBounds_toArray,List.set_cons_zero,List.set_cons_succ,i64_w,i32_w]
    rfl
   refine pure_ (i:=5) (N:=some 43) (v:= ?_) (a':= ?_) #[true,true,false,false,false,true,false,false,false,false,false,false] rfl rfl (any_of HT_.out (by kernel_rfl)) (fun _ _ _ h=>h) (Or.inl ⟨by rfl,?_⟩) ?_ ?_
   rotate_left
   ·intro w'
    go_simp
    with_reducible rfl
   rotate_left
   ·simp only[Act.put,List.setIfInBounds_toArray,List.set_cons_zero,List.set_cons_succ,i64_w,i32_w]
    rfl
   refine pure_ (i:=6) (N:=some 44) (v:= ?_) (a':= ?_) #[true,true,false,false,false,true,true,false,false,false,false,false] rfl rfl (any_of HT_.out (by kernel_rfl)) (fun _ _ _ h=>h) (Or.inl ⟨by rfl,?_⟩) ?_ ?_
   rotate_left
   ·intro w'
    go_simp
    with_reducible rfl
   rotate_left
   ·simp only[Act.put,List.setIfInBounds_toArray,List.set_cons_zero,List.set_cons_succ,i64_w,i32_w]
    rfl
   refine pure_ (i:=7) (N:=some 45) (v:= ?_) (a':= ?_) #[true,true,false,false,false,true,true,true,false,false,false,false] rfl rfl (any_of HT_.out (by kernel_rfl)) (fun _ _ _ h=>h) (Or.inl ⟨by rfl,?_⟩) ?_ ?_
   rotate_left
   ·intro w'
    go_simp
    with_reducible rfl
   rotate_left
   ·simp only[Act.put,List.setIfInBounds_toArray,List.set_cons_zero,List.set_cons_succ,i64_w,i32_w]
    rfl
   refine take_ (i:=2) (N:=some 40) (v:= ?_) (a':= ?_) #[true,true,true,false,false,true,true,true,false,false,false,false] rfl rfl (take_ofW HT_.out HW_.out (by kernel_rfl)) (fun _ _ _ h=>h) (Or.inl ⟨by rfl,?_⟩) hHeld ?_ ?_
   rotate_left
   ·rintro w' ⟨s0,s1,s2,s3,s4,s5⟩
    go_simp
    with_reducible rfl
   rotate_left
   ·simp only[Act.put,List.setIfInBounds_toArray,List.set_cons_zero,List.set_cons_succ,i64_w,i32_w]
    rfl
   refine pure_ (i:=3) (N:=some 41) (v:= ?_) (a':= ?_) #[true,true,true,true,false,true,true,true,false,false,false,false] rfl rfl (any_of HT_.out (by kernel_rfl)) (fun _ _ _ h=>h) (Or.inl ⟨by rfl,?_⟩) ?_ ?_
   rotate_left
   ·intro w'
    go_simp
    with_reducible rfl
   rotate_left
   ·simp only[Act.put,List.setIfInBounds_toArray,List.set_cons_zero,List.set_cons_succ,i64_w,i32_w]
    rfl
   refine take_ (i:=4) (N:=some 42) (v:= ?_) (a':= ?_) #[true,true,true,true,true,true,true,true,false,false,false,false] rfl rfl (take_ofW HT_.out HW_.out (by kernel_rfl)) (fun _ _ _ h=>h) (Or.inl ⟨by rfl,?_⟩) hHeld ?_ ?_
   rotate_left
   ·rintro w' ⟨s0,s1,s2,s3,s4,s5⟩
    go_simp
    with_reducible rfl
   rotate_left
   ·simp only[Act.put,List.setIfInBounds_toArray,List.set_cons_zero,List.set_cons_succ,i64_w,i32_w]
    rfl
   refine take_ (i:=8) (N:=some 46) (v:= ?_) (a':= ?_) #[true,true,true,true,true,true,true,true,true,false,false,false] rfl rfl (take_ofW HT_.out HW_.out (by kernel_rfl)) (fun _ _ _ h=>h) (Or.inl ⟨by rfl,?_⟩) hHeld ?_ ?_
   rotate_left
   ·rintro w' ⟨s0,s1,s2,s3,s4,s5⟩
    go_simp
    with_reducible rfl
   rotate_left
   ·simp only[Act.put,List.setIfInBounds_toArray,List.set_cons_zero,List.set_cons_succ,i64_w,i32_w]
    rfl
   refine pure_ (i:=9) (N:=some 47) (v:= ?_) (a':= ?_) #[true,true,true,true,true,true,true,true,true,true,false,false] rfl rfl (any_of HT_.out (by kernel_rfl)) (fun _ _ _ h=>h) (Or.inl ⟨by rfl,?_⟩) ?_ ?_
   rotate_left
   ·intro w'
    go_simp
    with_reducible rfl
   rotate_left
   ·simp only[Act.put,List.setIfInBounds_toArray,List.set_cons_zero,List.set_cons_succ,i64_w,i32_w]
    rfl
   refine pure_ (i:=10) (N:=some 48) (v:= ?_) (a':= ?_) #[true,true,true,true,true,true,true,true,true,true,true,false] rfl rfl (any_of HT_.out (by kernel_rfl)) (fun _ _ _ h=>h) (Or.inl ⟨by rfl,?_⟩) ?_ ?_
   rotate_left
   ·intro w'
    go_simp
    with_reducible rfl
   rotate_left
   ·simp only[Act.put,List.setIfInBounds_toArray,List.set_cons_zero,List.set_cons_succ,i64_w,i32_w]
    rfl
   refine last_ (i:=11) (N:=none) #[true,true,true,true,true,true,true,true,true,true,true,true] rfl rfl (one_of HT_.out (by kernel_rfl)) (by decide) (fun K hK=> ?_);refine skip_ (w1:= ?_) (by rfl) rfl ?_ ?_
   rotate_left
   ·go_simp
    rfl
   refine hK.out _ _ ?_;clear hK K;refine done_ (done_of HT_.out (by kernel_rfl)) ?_;try go_wp2
   go_roundg k1
   case measure=>have:=HK1.out;omega
   case rel=>exact⟨(y406),(wrap64 (Zf+1)),(by first|rfl|(simp;done)|(simp[*];done)),H',⟨by have:=HK1.out;omega⟩,⟨by(with_reducible repeat(first|apply Yr|apply Yq|apply Yp));exact HQ33.out⟩,⟨by(with_reducible repeat(first|refine Yl ?_ _|refine Ym ?_|refine Yj ?_ _));refine blk_far ?_ (by have h_:=Kd.R_ne HO_7.out Zz.out (by decide);intro e_;exact h_ (by rw[e_];rfl)) _;(with_reducible repeat(first|refine Yl ?_ _|refine Ym ?_|refine Yj ?_ _));exact Zz.out⟩,⟨by repeat(first|(with_reducible first|exact HB.out|apply Ye|apply Yd|apply Yg|refine Yh ?_ GB20.out|refine Yh ?_ Jn.out|refine Yh ?_ GE400.out)|exact HB.out)⟩⟩
end P
namespace P
attribute [local go_sem] max2_int min2_int max_two min_two max_three min_three max_four min_four
def static_Check.l0:Nat→Int→Int→List Int→List Int→Int→Int→Option (Int × Int)
 |0,_,_,_,_,_,_=>none
 |k+1,x1,x2,x10,x29,x30,x31=>if x31<x30 then(if 0≤x31 then(if x31<(x29.length:Int) then(if (rd x29 x31)=0 then(static_Check.l0 k x1 x2 x10 x29 x30 (wrap64 (x31+1))) else(if x31=x1 then(static_Check.l0 k x1 x2 x10 x29 x30 (wrap64 (x31+1))) else(if x31=x2 then(static_Check.l0 k x1 x2 x10 x29 x30 (wrap64 (x31+1))) else(some (0,71))))) else(none)) else(none)) else(if 0≤x1 then(if x1<(x10.length:Int) then(some (rd x10 x1,0)) else(none)) else(none))
def static_Check.f (k:Nat) (Zb:Int) (Zc:Bool) (Za:List (S50)) (a1:Int) (a2:Int) (l3:List Int):Option (Int × Int):=(static_Ends.f k Zb Zc Za a1 a2).bind fun t408=>(if t408=0 then((static_Balance.f k Zb Zc Za l3).bind fun bt409=>(if bt409.2=0 then(static_Check.l0 k a1 a2 bt409.1 bt409.1 (bt409.1.length:Int) 0) else(some (0,bt409.2)))) else(some (0,t408)))
set_option maxHeartbeats 8000000 in
set_option maxRecDepth 100000 in
theorem static_Check.calls (k:Nat) (Zb:Int) (Zc:Bool) (Ze:Option Addr) (Zd:Nat) (Za:List (S50)) (a1:Int) (a2:Int) (A3:Option Addr) (c3:Nat) (l3:List Int) (r1:Int) (r2:Int) (w:World) (Zq:Kd.C k50 w Ze Za.length Za) (Zr:Za.length≤Zd) (hr3:Kd.C (Kd.int .i64) w A3 l3.length l3) (hc3:l3.length≤c3) (h:static_Check.f k Zb Zc Za a1 a2 l3=some (r1,r2)):
  Calls Try.prog 46 #[.agg #[.int .i64 Zb, .bool Zc, .slice Ze Za.length Zd], .int .i64 a1, .int .i64 a2, .slice A3 l3.length c3] w fun e w'=>e= .returned (.tuple #[.int .i64 r1, .int .i64 r2])∧Below w.heap.size w w':=by
 have hu24:=Try.underlying24;have Zk:=Ya Zq;have Zw:=Ya Zr;clear Zq Zr;have HR3:=Ya hr3;have HC3:=Ya hc3;clear hr3 hc3;have HB:=Ya (Yo w.heap.size w);have H:((static_Ends.f k Zb Zc Za a1 a2).bind fun t408=>(if t408=0 then((static_Balance.f k Zb Zc Za l3).bind fun bt409=>(if bt409.2=0 then(static_Check.l0 k a1 a2 bt409.1 bt409.1 (bt409.1.length:Int) 0) else(some (0,bt409.2)))) else(some (0,t408))))=some (r1,r2):=h;clear h;replace H:=Option.bind_eq_some_iff.mp H;obtain⟨t408,A50,H⟩:=H;replace H:(if t408=0 then((static_Balance.f k Zb Zc Za l3).bind fun bt409=>(if bt409.2=0 then(static_Check.l0 k a1 a2 bt409.1 bt409.1 (bt409.1.length:Int) 0) else(some (0,bt409.2)))) else(some (0,t408)))=some (r1,r2):=H;have A5:=Ya A50;clear A50;by_cases c6:t408=0
 rotate_left
 ·rw[Yy c6] at H
  have c6b0:(t408 == 0)=false:=beq_eq_false_iff_ne.mpr c6;have c6b1:(t408 != 0)=true:=bne_iff_ne.mpr c6;simp only[Option.some.injEq,Prod.mk.injEq] at H;obtain⟨rfl,rfl⟩:=H;go_enter Try.func46,Try.ntmps46;go_wp2_with (first|((with_reducible refine gate_dst (N:=4) rfl ?_);refine Yz ?hg (N:=4) ?hd (cs:= #[.int .i64 Zb, .bool Zc, .slice Ze Za.length Zd]) (t:=24) ?hr ?_;(case hd=>rfl);(case hg=>rfl);(case hr=>first|(go_simp;done)|(go_simp;rfl));intro Wm hg w28 Zg hb;have n0_:=Ya (Yk (by repeat(first|(with_reducible first|exact HB.out|apply Ye|apply Yd|apply Yg)|exact HB.out)) hb);have n1_:=Ya (Zg);have n2_:=Ya ((by rw[hg];exact(Yi (by repeat(first|(with_reducible first|exact HB.out|apply Ye|apply Yd|apply Yg)|exact HB.out))):w.heap.size≤Wm));have n3_:=Ya ((by rw[hg];exact(Yi (by repeat(first|(with_reducible first|exact HB.out|apply Ye|apply Yd|apply Yg)|exact HB.out))):w.heap.size≤Wm));clear HB;have HB:=n0_;have Xf:=n1_;have GW407:=n2_;have Ul:=n3_;clear n0_ n1_ n2_ n3_;clear hb Zg hg;have hcz29_0:w28.cell? ⟨Wm,0,none⟩=some (.int .i64 Zb):=(Yc Xf.out 0).trans rfl;have hcz29_1:w28.cell? ⟨Wm,1,none⟩=some (.bool Zc):=(Yc Xf.out 1).trans rfl;have hcz29_2:w28.cell? ⟨Wm,2,none⟩=some (.slice Ze Za.length Zd):=(Yc Xf.out 2).trans rfl;have hfz29_0:=Yf Xf.out 0;have hfz29_1:=Yf Xf.out 1;have hfz29_2:=Yf Xf.out 2)|((with_reducible refine gate_callee (f:=65) rfl ?_);refine goesL_ (some 16) rfl rfl Try.func65 (by kernel_rfl) rfl #[.agg #[.int .i64 Zb, .bool Zc, .slice Ze Za.length Zd], .int .i64 a1, .int .i64 a2] rfl (by(try simp only[List.map_toArray,List.map_cons,List.map_nil]);first|done|rfl|(simp only[List.length_drop,List.length_take];rfl)) ?_;(with_reducible refine(static_Ends.calls k Zb Zc _ _ Za a1 a2 t408 _ ?side1 ?side2 A5.out).mono ?_);(case side1=>repeat(first|exact(Yt Zk.out HB.out)|(with_reducible refine Kd.C_alloc ?_ _)|(with_reducible refine Kd.C_drewN ?_ _)|(with_reducible refine Kd.C_drew ?_)));(case side2=>exact Zw.out);rintro e w30 ⟨rfl,hb⟩;refine⟨_,rfl,?_⟩;have n0_:=Ya (Yn (g:=Wm) (o:= .cells #[.int .i64 Zb, .bool Zc, .slice Ze Za.length Zd] 24 (0,0)) (by(with_reducible repeat(first|refine Yl ?_ _|refine Ym ?_|refine Yj ?_ _));exact Xf.out) hb);have n1_:=Ya (Yk (by repeat(first|(with_reducible first|exact HB.out|apply Ye|apply Yd|apply Yg|refine Yh ?_ Ul.out)|exact HB.out)) hb);clear Xf;clear HB;have Xf:=n0_;have HB:=n1_;clear n0_ n1_;(try clear hb);(try clear hb2);(try clear hk);(try clear hi)));go_ret2;exact⟨by first|rfl|(simp[errW_none,errW_some]<;>rfl)|(simp[*,errW_none,errW_some]<;>rfl),by repeat(first|(with_reducible first|exact HB.out|apply Ye|apply Yd|apply Yg|refine Yh ?_ Ul.out)|exact HB.out)⟩
 rw[Yx c6] at H;have c6b0:(t408 == 0)=true:=beq_iff_eq.mpr c6;have c6b1:(t408 != 0)=false:=bne_eq_false_iff_eq.mpr c6;clear c6;replace H:=Option.bind_eq_some_iff.mp H;obtain⟨⟨t409,t412⟩,A70,H⟩:=H;replace H:(if t412=0 then(static_Check.l0 k a1 a2 t409 t409 (t409.length:Int) 0) else(some (0,t412)))=some (r1,r2):=H;have A7:=Ya A70;clear A70;by_cases c8:t412=0
 rotate_left
 ·rw[Yy c8] at H
  have c8b0:(t412 == 0)=false:=beq_eq_false_iff_ne.mpr c8;have c8b1:(t412 != 0)=true:=bne_iff_ne.mpr c8;simp only[Option.some.injEq,Prod.mk.injEq] at H;obtain⟨rfl,rfl⟩:=H;go_enter Try.func46,Try.ntmps46;go_wp2_with (first|((with_reducible refine gate_dst (N:=4) rfl ?_);refine Yz ?hg (N:=4) ?hd (cs:= #[.int .i64 Zb, .bool Zc, .slice Ze Za.length Zd]) (t:=24) ?hr ?_;(case hd=>rfl);(case hg=>rfl);(case hr=>first|(go_simp;done)|(go_simp;rfl));intro Wm hg w23 Zg hb;have n0_:=Ya (Yk (by repeat(first|(with_reducible first|exact HB.out|apply Ye|apply Yd|apply Yg)|exact HB.out)) hb);have n1_:=Ya (Zg);have n2_:=Ya ((by rw[hg];exact(Yi (by repeat(first|(with_reducible first|exact HB.out|apply Ye|apply Yd|apply Yg)|exact HB.out))):w.heap.size≤Wm));have n3_:=Ya ((by rw[hg];exact(Yi (by repeat(first|(with_reducible first|exact HB.out|apply Ye|apply Yd|apply Yg)|exact HB.out))):w.heap.size≤Wm));clear HB;have HB:=n0_;have Xf:=n1_;have GW407:=n2_;have Ul:=n3_;clear n0_ n1_ n2_ n3_;clear hb Zg hg;have hcz24_0:w23.cell? ⟨Wm,0,none⟩=some (.int .i64 Zb):=(Yc Xf.out 0).trans rfl;have hcz24_1:w23.cell? ⟨Wm,1,none⟩=some (.bool Zc):=(Yc Xf.out 1).trans rfl;have hcz24_2:w23.cell? ⟨Wm,2,none⟩=some (.slice Ze Za.length Zd):=(Yc Xf.out 2).trans rfl;have hfz24_0:=Yf Xf.out 0;have hfz24_1:=Yf Xf.out 1;have hfz24_2:=Yf Xf.out 2)|((with_reducible refine gate_callee (f:=65) rfl ?_);refine goesL_ (some 16) rfl rfl Try.func65 (by kernel_rfl) rfl #[.agg #[.int .i64 Zb, .bool Zc, .slice Ze Za.length Zd], .int .i64 a1, .int .i64 a2] rfl (by(try simp only[List.map_toArray,List.map_cons,List.map_nil]);first|done|rfl|(simp only[List.length_drop,List.length_take];rfl)) ?_;(with_reducible refine(static_Ends.calls k Zb Zc _ _ Za a1 a2 t408 _ ?side1 ?side2 A5.out).mono ?_);(case side1=>repeat(first|exact(Yt Zk.out HB.out)|(with_reducible refine Kd.C_alloc ?_ _)|(with_reducible refine Kd.C_drewN ?_ _)|(with_reducible refine Kd.C_drew ?_)));(case side2=>exact Zw.out);rintro e w25 ⟨rfl,hb⟩;refine⟨_,rfl,?_⟩;have n0_:=Ya (Yn (g:=Wm) (o:= .cells #[.int .i64 Zb, .bool Zc, .slice Ze Za.length Zd] 24 (0,0)) (by(with_reducible repeat(first|refine Yl ?_ _|refine Ym ?_|refine Yj ?_ _));exact Xf.out) hb);have n1_:=Ya (Yk (by repeat(first|(with_reducible first|exact HB.out|apply Ye|apply Yd|apply Yg|refine Yh ?_ Ul.out)|exact HB.out)) hb);clear Xf;clear HB;have Xf:=n0_;have HB:=n1_;clear n0_ n1_;(try clear hb);(try clear hb2);(try clear hk);(try clear hi);have hcz26_0:w25.cell? ⟨Wm,0,none⟩=some (.int .i64 Zb):=(Yc Xf.out 0).trans rfl;have hcz26_1:w25.cell? ⟨Wm,1,none⟩=some (.bool Zc):=(Yc Xf.out 1).trans rfl;have hcz26_2:w25.cell? ⟨Wm,2,none⟩=some (.slice Ze Za.length Zd):=(Yc Xf.out 2).trans rfl;have hfz26_0:=Yf Xf.out 0;have hfz26_1:=Yf Xf.out 1;have hfz26_2:=Yf Xf.out 2)|((with_reducible refine gate_callee (f:=73) rfl ?_);refine goesL_ (some 23) rfl rfl Try.func73 (by kernel_rfl) rfl #[.agg #[.int .i64 Zb, .bool Zc, .slice Ze Za.length Zd], .slice A3 l3.length c3] rfl (by(try simp only[List.map_toArray,List.map_cons,List.map_nil]);first|done|rfl|(simp only[List.length_drop,List.length_take];rfl)) ?_;(with_reducible refine(static_Balance.calls k Zb Zc _ _ Za _ _ l3 t409 t412 _ ?side1 ?side2 ?side3 ?side4 A7.out).mono ?_);(case side1=>repeat(first|exact(Yt Zk.out HB.out)|(with_reducible refine Kd.C_alloc ?_ _)|(with_reducible refine Kd.C_drewN ?_ _)|(with_reducible refine Kd.C_drew ?_)));(case side2=>exact Zw.out);(case side3=>repeat(first|exact(Yt HR3.out HB.out)|(with_reducible refine Kd.C_alloc ?_ _)|(with_reducible refine Kd.C_drewN ?_ _)|(with_reducible refine Kd.C_drew ?_)));(case side4=>exact HC3.out);rintro e w27 ⟨v410,rfl,ho0,hb⟩;refine⟨_,rfl,?_⟩;have n0_:=Ya (Kd.R_lower ho0 (Yi (by repeat(first|(with_reducible first|exact HB.out|apply Ye|apply Yd|apply Yg|refine Yh ?_ Ul.out)|exact HB.out))));have n1_:=Ya (Yn (g:=Wm) (o:= .cells #[.int .i64 Zb, .bool Zc, .slice Ze Za.length Zd] 24 (0,0)) (by(with_reducible repeat(first|refine Yl ?_ _|refine Ym ?_|refine Yj ?_ _));exact Xf.out) hb);have n2_:=Ya (Yk (by repeat(first|(with_reducible first|exact HB.out|apply Ye|apply Yd|apply Yg|refine Yh ?_ Ul.out)|exact HB.out)) hb);clear Xf;clear HB;have HO411:=n0_;have Xf:=n1_;have HB:=n2_;clear n0_ n1_ n2_;(try clear hb);(try clear hb2);(try clear hk);(try clear hi);(try clear ho0)));go_ret2;exact⟨by first|rfl|(simp[errW_none,errW_some]<;>rfl)|(simp[*,errW_none,errW_some]<;>rfl),by repeat(first|(with_reducible first|exact HB.out|apply Ye|apply Yd|apply Yg|refine Yh ?_ Ul.out)|exact HB.out)⟩
 rw[Yx c8] at H;have c8b0:(t412 == 0)=true:=beq_iff_eq.mpr c8;have c8b1:(t412 != 0)=false:=bne_eq_false_iff_eq.mpr c8;clear c8;have H':=Ya H;clear H;go_enter Try.func46,Try.ntmps46;go_wp2_with (first|((with_reducible refine gate_dst (N:=4) rfl ?_);refine Yz ?hg (N:=4) ?hd (cs:= #[.int .i64 Zb, .bool Zc, .slice Ze Za.length Zd]) (t:=24) ?hr ?_;(case hd=>rfl);(case hg=>rfl);(case hr=>first|(go_simp;done)|(go_simp;rfl));intro Wm hg w9 Zg hb;have n0_:=Ya (Yk (by repeat(first|(with_reducible first|exact HB.out|apply Ye|apply Yd|apply Yg)|exact HB.out)) hb);have n1_:=Ya (Zg);have n2_:=Ya ((by rw[hg];exact(Yi (by repeat(first|(with_reducible first|exact HB.out|apply Ye|apply Yd|apply Yg)|exact HB.out))):w.heap.size≤Wm));have n3_:=Ya ((by rw[hg];exact(Yi (by repeat(first|(with_reducible first|exact HB.out|apply Ye|apply Yd|apply Yg)|exact HB.out))):w.heap.size≤Wm));clear HB;have HB:=n0_;have Xf:=n1_;have GW407:=n2_;have Ul:=n3_;clear n0_ n1_ n2_ n3_;clear hb Zg hg;have Va:w9.cell? ⟨Wm,0,none⟩=some (.int .i64 Zb):=(Yc Xf.out 0).trans rfl;have Vb:w9.cell? ⟨Wm,1,none⟩=some (.bool Zc):=(Yc Xf.out 1).trans rfl;have Vc:w9.cell? ⟨Wm,2,none⟩=some (.slice Ze Za.length Zd):=(Yc Xf.out 2).trans rfl;have Vd:=Yf Xf.out 0;have Ve:=Yf Xf.out 1;have Vf:=Yf Xf.out 2)|((with_reducible refine gate_callee (f:=65) rfl ?_);refine goesL_ (some 16) rfl rfl Try.func65 (by kernel_rfl) rfl #[.agg #[.int .i64 Zb, .bool Zc, .slice Ze Za.length Zd], .int .i64 a1, .int .i64 a2] rfl (by(try simp only[List.map_toArray,List.map_cons,List.map_nil]);first|done|rfl|(simp only[List.length_drop,List.length_take];rfl)) ?_;(with_reducible refine(static_Ends.calls k Zb Zc _ _ Za a1 a2 t408 _ ?side1 ?side2 A5.out).mono ?_);(case side1=>repeat(first|exact(Yt Zk.out HB.out)|(with_reducible refine Kd.C_alloc ?_ _)|(with_reducible refine Kd.C_drewN ?_ _)|(with_reducible refine Kd.C_drew ?_)));(case side2=>exact Zw.out);rintro e w11 ⟨rfl,hb⟩;refine⟨_,rfl,?_⟩;have n0_:=Ya (Yn (g:=Wm) (o:= .cells #[.int .i64 Zb, .bool Zc, .slice Ze Za.length Zd] 24 (0,0)) (by(with_reducible repeat(first|refine Yl ?_ _|refine Ym ?_|refine Yj ?_ _));exact Xf.out) hb);have n1_:=Ya (Yk (by repeat(first|(with_reducible first|exact HB.out|apply Ye|apply Yd|apply Yg|refine Yh ?_ Ul.out)|exact HB.out)) hb);clear Xf;clear HB;have Xf:=n0_;have HB:=n1_;clear n0_ n1_;(try clear hb);(try clear hb2);(try clear hk);(try clear hi);have hcz12_0:w11.cell? ⟨Wm,0,none⟩=some (.int .i64 Zb):=(Yc Xf.out 0).trans rfl;have hcz12_1:w11.cell? ⟨Wm,1,none⟩=some (.bool Zc):=(Yc Xf.out 1).trans rfl;have hcz12_2:w11.cell? ⟨Wm,2,none⟩=some (.slice Ze Za.length Zd):=(Yc Xf.out 2).trans rfl;have hfz12_0:=Yf Xf.out 0;have hfz12_1:=Yf Xf.out 1;have hfz12_2:=Yf Xf.out 2)|((with_reducible refine gate_callee (f:=73) rfl ?_);refine goesL_ (some 23) rfl rfl Try.func73 (by kernel_rfl) rfl #[.agg #[.int .i64 Zb, .bool Zc, .slice Ze Za.length Zd], .slice A3 l3.length c3] rfl (by(try simp only[List.map_toArray,List.map_cons,List.map_nil]);first|done|rfl|(simp only[List.length_drop,List.length_take];rfl)) ?_;(with_reducible refine(static_Balance.calls k Zb Zc _ _ Za _ _ l3 t409 t412 _ ?side1 ?side2 ?side3 ?side4 A7.out).mono ?_);(case side1=>repeat(first|exact(Yt Zk.out HB.out)|(with_reducible refine Kd.C_alloc ?_ _)|(with_reducible refine Kd.C_drewN ?_ _)|(with_reducible refine Kd.C_drew ?_)));(case side2=>exact Zw.out);(case side3=>repeat(first|exact(Yt HR3.out HB.out)|(with_reducible refine Kd.C_alloc ?_ _)|(with_reducible refine Kd.C_drewN ?_ _)|(with_reducible refine Kd.C_drew ?_)));(case side4=>exact HC3.out);rintro e w13 ⟨v410,rfl,ho0,hb⟩;refine⟨_,rfl,?_⟩;have n0_:=Ya (Kd.R_lower ho0 (Yi (by repeat(first|(with_reducible first|exact HB.out|apply Ye|apply Yd|apply Yg|refine Yh ?_ Ul.out)|exact HB.out))));have n1_:=Ya (Yn (g:=Wm) (o:= .cells #[.int .i64 Zb, .bool Zc, .slice Ze Za.length Zd] 24 (0,0)) (by(with_reducible repeat(first|refine Yl ?_ _|refine Ym ?_|refine Yj ?_ _));exact Xf.out) hb);have n2_:=Ya (Yk (by repeat(first|(with_reducible first|exact HB.out|apply Ye|apply Yd|apply Yg|refine Yh ?_ Ul.out)|exact HB.out)) hb);clear Xf;clear HB;have HO411:=n0_;have Xf:=n1_;have HB:=n2_;clear n0_ n1_ n2_;(try clear hb);(try clear hb2);(try clear hk);(try clear hi);(try clear ho0);obtain⟨Ao14,co14,eo14⟩:=Kd.R_slice HO411.out;subst eo14));go_loopg [31] k (fun kq v31 w'=> ∃ (Xt:Int),v31= .int .i64 Xt∧Aside0 (static_Check.l0 kq a1 a2 t409 t409 (t409.length:Int) Xt=some (r1,r2))∧Aside0 (kq≤k)∧Aside0 (Kd.R (Kd.int .i64) 3 w' w.heap.size (fun _=>True) (.slice Ao14 t409.length co14) t409)∧Aside0 (Kd.R (Kd.int .i64) 3 w' w.heap.size (fun _=>True) (.slice Ao14 t409.length co14) t409)∧Aside0 (w'.heap[Wm]? =some (.cells #[.int .i64 Zb, .bool Zc,(.slice Ze Za.length Zd)] 24 (0,0)))∧Aside0 (Below w.heap.size w w'))
 case atStart=>exact⟨(0),(by first|rfl|(simp;done)|(simp[*];done)),H',⟨Nat.le_refl _⟩,⟨by(with_reducible repeat(first|apply Yr|apply Yq|apply Yp));exact HO411.out⟩,⟨by(with_reducible repeat(first|apply Yr|apply Yq|apply Yp));exact HO411.out⟩,⟨by(with_reducible repeat(first|refine Yl ?_ _|refine Ym ?_|refine Yj ?_ _));exact Xf.out⟩,⟨by repeat(first|(with_reducible first|exact HB.out|apply Ye|apply Yd|apply Yg|refine Yh ?_ Ul.out)|exact HB.out)⟩⟩
 case round=>
  clear H';try clear p2
  try clear c3
  try clear c4
  try clear c6
  try clear c6b0
  try clear c6b1
  try clear c7
  try clear c8
  try clear c8b0
  try clear c8b1
  try clear Va
  try clear Vb
  try clear Vc
  try clear hcz12_0
  try clear hcz12_1
  try clear hcz12_2
  try clear Vd
  try clear Ve
  try clear Vf
  try clear hfz12_0
  try clear hfz12_1
  try clear hfz12_2
  obtain⟨Xt,rfl,HA,HK1,HO_10,HO_29,Xf,HB⟩:=hrel;cases gk with
  |zero=>exact absurd HA.out (by simp[static_Check.l0])
  |succ k1=>
   have H:=HA.out;clear HA;simp only[static_Check.l0] at H;by_cases c15:Xt<(t409.length:Int)
   rotate_left
   ·rw[Yy c15] at H
    have c15b0:decide (Xt<(t409.length:Int))=false:=Yw c15;clear c15;by_cases c21:0≤a1
    rotate_left
    ·rw[Yy c21] at H
     exact absurd H (by simp)
    rw[Yx c21] at H;have c21b0:decide (0≤a1)=true:=Yv c21;clear c21;by_cases c22:a1<(t409.length:Int)
    rotate_left
    ·rw[Yy c22] at H
     exact absurd H (by simp)
    rw[Yx c22] at H;have c22b0:decide (a1<(t409.length:Int))=true:=Yv c22;clear c22;simp only[Option.some.injEq,Prod.mk.injEq] at H;obtain⟨rfl,rfl⟩:=H;have p414:0≤(a1:Int):=Yu (by first|(with_reducible assumption)|assumption);have q414:a1<(t409.length:Int):=Yu (by first|(with_reducible assumption)|assumption);obtain⟨ad414,e414,hx414_0⟩:=Kd.at_int (Kd.R_reads' HO_10.out).2.2 a1 p414 q414;cases e414;replace p414:=eq_true p414;replace q414:=eq_true q414;go_wp2;go_ret2;exact⟨by first|rfl|(simp[errW_none,errW_some]<;>rfl)|(simp[*,errW_none,errW_some]<;>rfl),by repeat(first|(with_reducible first|exact HB.out|apply Ye|apply Yd|apply Yg|refine Yh ?_ Ul.out)|exact HB.out)⟩
   rw[Yx c15] at H;have c15b0:decide (Xt<(t409.length:Int))=true:=Yv c15;clear c15;by_cases c16:0≤Xt
   rotate_left
   ·rw[Yy c16] at H
    exact absurd H (by simp)
   rw[Yx c16] at H;have c16b0:decide (0≤Xt)=true:=Yv c16;clear c16;by_cases c17:Xt<(t409.length:Int)
   rotate_left
   ·rw[Yy c17] at H
    exact absurd H (by simp)
   rw[Yx c17] at H;have c17b0:decide (Xt<(t409.length:Int))=true:=Yv c17;clear c17;by_cases c18:(rd t409 Xt)=0
   ·rw[Yx c18] at H
    have c18b0:((rd t409 Xt) == 0)=true:=beq_iff_eq.mpr c18;have c18b1:((rd t409 Xt) != 0)=false:=bne_eq_false_iff_eq.mpr c18;clear c18;have H':=Ya H;clear H;have p413:0≤(Xt:Int):=Yu (by first|(with_reducible assumption)|assumption);have q413:Xt<(t409.length:Int):=Yu (by first|(with_reducible assumption)|assumption);obtain⟨ad413,e413,hx413_0⟩:=Kd.at_int (Kd.R_reads' HO_29.out).2.2 Xt p413 q413;cases e413;replace p413:=eq_true p413;replace q413:=eq_true q413;go_wp2;go_roundg k1
    case measure=>have:=HK1.out;omega
    case rel=>exact⟨(wrap64 (Xt+1)),(by first|rfl|(simp;done)|(simp[*];done)),H',⟨by have:=HK1.out;omega⟩,⟨by(with_reducible repeat(first|apply Yr|apply Yq|apply Yp));exact HO_10.out⟩,⟨by(with_reducible repeat(first|apply Yr|apply Yq|apply Yp));exact HO_29.out⟩,⟨by(with_reducible repeat(first|refine Yl ?_ _|refine Ym ?_|refine Yj ?_ _));exact Xf.out⟩,⟨by repeat(first|(with_reducible first|exact HB.out|apply Ye|apply Yd|apply Yg|refine Yh ?_ Ul.out)|exact HB.out)⟩⟩
   rw[Yy c18] at H;have c18b0:((rd t409 Xt) == 0)=false:=beq_eq_false_iff_ne.mpr c18;have c18b1:((rd t409 Xt) != 0)=true:=bne_iff_ne.mpr c18;by_cases c19:Xt=a1
   ·rw[Yx c19] at H
    have c19b0:(Xt == a1)=true:=beq_iff_eq.mpr c19;have c19b1:(Xt != a1)=false:=bne_eq_false_iff_eq.mpr c19;clear c19;have H':=Ya H;clear H;have p413:0≤(Xt:Int):=Yu (by first|(with_reducible assumption)|assumption);have q413:Xt<(t409.length:Int):=Yu (by first|(with_reducible assumption)|assumption);obtain⟨ad413,e413,hx413_0⟩:=Kd.at_int (Kd.R_reads' HO_29.out).2.2 Xt p413 q413;cases e413;replace p413:=eq_true p413;replace q413:=eq_true q413;go_wp2;go_roundg k1
    case measure=>have:=HK1.out;omega
    case rel=>exact⟨(wrap64 (Xt+1)),(by first|rfl|(simp;done)|(simp[*];done)),H',⟨by have:=HK1.out;omega⟩,⟨by(with_reducible repeat(first|apply Yr|apply Yq|apply Yp));exact HO_10.out⟩,⟨by(with_reducible repeat(first|apply Yr|apply Yq|apply Yp));exact HO_29.out⟩,⟨by(with_reducible repeat(first|refine Yl ?_ _|refine Ym ?_|refine Yj ?_ _));exact Xf.out⟩,⟨by repeat(first|(with_reducible first|exact HB.out|apply Ye|apply Yd|apply Yg|refine Yh ?_ Ul.out)|exact HB.out)⟩⟩
   rw[Yy c19] at H;have c19b0:(Xt == a1)=false:=beq_eq_false_iff_ne.mpr c19;have c19b1:(Xt != a1)=true:=bne_iff_ne.mpr c19;by_cases c20:Xt=a2
   rotate_left
   ·rw[Yy c20] at H
    have c20b0:(Xt == a2)=false:=beq_eq_false_iff_ne.mpr c20;have c20b1:(Xt != a2)=true:=bne_iff_ne.mpr c20;simp only[Option.some.injEq,Prod.mk.injEq] at H;obtain⟨rfl,rfl⟩:=H;have p413:0≤(Xt:Int):=Yu (by first|(with_reducible assumption)|assumption);have q413:Xt<(t409.length:Int):=Yu (by first|(with_reducible assumption)|assumption);obtain⟨ad413,e413,hx413_0⟩:=Kd.at_int (Kd.R_reads' HO_29.out).2.2 Xt p413 q413;cases e413;replace p413:=eq_true p413;replace q413:=eq_true q413;go_wp2;go_ret2;exact⟨by first|rfl|(simp[errW_none,errW_some]<;>rfl)|(simp[*,errW_none,errW_some]<;>rfl),by repeat(first|(with_reducible first|exact HB.out|apply Ye|apply Yd|apply Yg|refine Yh ?_ Ul.out)|exact HB.out)⟩
   rw[Yx c20] at H;have c20b0:(Xt == a2)=true:=beq_iff_eq.mpr c20;have c20b1:(Xt != a2)=false:=bne_eq_false_iff_eq.mpr c20;clear c20;have H':=Ya H;clear H;have p413:0≤(Xt:Int):=Yu (by first|(with_reducible assumption)|assumption);have q413:Xt<(t409.length:Int):=Yu (by first|(with_reducible assumption)|assumption);obtain⟨ad413,e413,hx413_0⟩:=Kd.at_int (Kd.R_reads' HO_29.out).2.2 Xt p413 q413;cases e413;replace p413:=eq_true p413;replace q413:=eq_true q413;go_wp2;go_roundg k1
   case measure=>have:=HK1.out;omega
   case rel=>exact⟨(wrap64 (Xt+1)),(by first|rfl|(simp;done)|(simp[*];done)),H',⟨by have:=HK1.out;omega⟩,⟨by(with_reducible repeat(first|apply Yr|apply Yq|apply Yp));exact HO_10.out⟩,⟨by(with_reducible repeat(first|apply Yr|apply Yq|apply Yp));exact HO_29.out⟩,⟨by(with_reducible repeat(first|refine Yl ?_ _|refine Ym ?_|refine Yj ?_ _));exact Xf.out⟩,⟨by repeat(first|(with_reducible first|exact HB.out|apply Ye|apply Yd|apply Yg|refine Yh ?_ Ul.out)|exact HB.out)⟩⟩
end P
namespace P
attribute [local go_sem] max2_int min2_int max_two min_two max_three min_three max_four min_four
def api_Arc.f (l0:List (S50)):Option ((List (S50))):=(some (([]:List (S50)):List (S50))).bind fun y447=>(if y447.length+l0.length<4398046511104 then(some (y447 ++ l0)) else(none))
set_option maxHeartbeats 8000000 in
set_option maxRecDepth 100000 in
theorem api_Arc.calls (A0:Option Addr) (c0:Nat) (l0:List (S50)) (r:List (S50)) (w:World) (hr0:Kd.C k50 w A0 l0.length l0) (hc0:l0.length≤c0) (h:api_Arc.f l0=some r):
  Calls Try.prog 74 #[.slice A0 l0.length c0] w fun e w'=> ∃ v0_:Value,e= .returned (v0_)∧Kd.R k50 50 w' w.heap.size (fun _=>True) v0_ r∧Below w.heap.size w w':=by
 have HR0:=Ya hr0;have HC0:=Ya hc0;clear hr0 hc0;have HB:=Ya (Yo w.heap.size w);have H:((some (([]:List (S50)):List (S50))).bind fun y447=>(if y447.length+l0.length<4398046511104 then(some (y447 ++ l0)) else(none)))=some r:=h;clear h;obtain⟨y447,hy447⟩: ∃ y_:List (S50),y_=(([]:List (S50))):=⟨_,rfl⟩;replace H:(if y447.length+l0.length<4398046511104 then(some (y447 ++ l0)) else(none))=some r:=by first|(rw[hy447];with_reducible exact H)|(have H2_:=(Option.bind_some _ _).symm.trans H;rw[hy447];with_reducible exact H2_)|(have H2_:=(Option.bind_some _ _).symm.trans H;with_reducible exact H2_)|with_reducible exact H|(rw[hy447];exact H)|exact H
 have Ny447:=Ya hy447;clear hy447;by_cases c2:y447.length+l0.length<4398046511104
 rotate_left
 ·rw[Yy c2] at H
  exact absurd H (by simp)
 rw[Yx c2] at H;have LMc2:=Ya c2;clear c2;obtain⟨y450,hy450⟩: ∃ y_:List (S50),y_=(y447 ++ l0):=⟨_,rfl⟩;replace H:(some y450)=some r:=by first|(rw[hy450];with_reducible exact H)|(have H2_:=(Option.bind_some _ _).symm.trans H;rw[hy450];with_reducible exact H2_)|(have H2_:=(Option.bind_some _ _).symm.trans H;with_reducible exact H2_)|with_reducible exact H|(rw[hy450];exact H)|exact H
 have Ny450:=Ya hy450;clear hy450;obtain rfl:=Option.some.inj H;have hl0:=HC0.out;rcases A0 with _|ad0
 ·have hz:l0=[]:=by
   rcases Nat.eq_zero_or_pos l0.length with h0|h0
   ·exact List.eq_nil_of_length_eq_zero h0
   ·obtain⟨ad,he,_⟩:=HR0.out.2.2 h0
    cases he
  subst hz;have hrun: ∀ W:World,(Go.binOp .eql 22 (.slice none 0 c0) (.slice none 0 0)).run Try.prog W= .ok (.bool true) W:=fun W=>Go.run_eql_slice_nil W 22 50 none 0 c0 Try.underlying22
  have Hy:y450=[]:=by rw[Ny450.out,Ny447.out];rfl
  have NHy:=Ya Hy;clear Hy;have HR0':=HR0;clear HR0 HC0 hl0;go_enter Try.func74,Try.ntmps74;go_wp2;go_ret;exact⟨_,rfl,by rw[NHy.out];exact Kd.R_nil _ _ _ _ _,by repeat(first|(with_reducible first|exact HB.out|apply Ye|apply Yd|apply Yg)|exact HB.out)⟩
 have hrun: ∀ W:World,(Go.binOp .eql 22 (.slice (some ad0) l0.length c0) (.slice none 0 0)).run Try.prog W= .ok (.bool false) W:=fun W=>Go.run_eql_slice_nil W 22 50 (some ad0) l0.length c0 Try.underlying22
 clear hl0;go_enter Try.func74,Try.ntmps74;go_wp2_with (first|((with_reducible refine gate_dst (N:=5) rfl ?_);refine Kd.R_lit k50 _ 50 ?hg (N:=5) ?hd (xs:=([]:List (S50))) (inner:=[]) (ok:=fun _=>True) (okp:=fun _=>True) ?hr ?hp (fun _ hk=>hk) trivial (Yo _ _) (Nat.le_refl _) (by simp) ?_;(case hd=>rfl);(case hg=>rfl);(case hr=>first|(go_simp;done)|(go_simp;rfl));(case hp=>exact(Reps.none _ _));intro v448 w3 ho4 hb hg_ hnew_;clear hg_ hnew_;(first|rw[← Ny447.out] at ho4|(simp only[Int.reduceToNat] at ho4;rw[← Ny447.out] at ho4));have n0_:=Ya (Kd.R_lower ho4 (Yi (by repeat(first|(with_reducible first|exact HB.out|apply Ye|apply Yd|apply Yg)|exact HB.out))));have n1_:=Ya (Yk (by repeat(first|(with_reducible first|exact HB.out|apply Ye|apply Yd|apply Yg)|exact HB.out)) hb);clear HB;have HO449:=n0_;have HB:=n1_;clear n0_ n1_;clear hb ho4)|((with_reducible refine gate_builtin (b:= .append) (xs:= #[.tmp 5, .tmp 6]) rfl ?_);at_builtin;refine Kd.R_append_rows k50 (w0:=w) w.heap.size rfl (.tmp 5) (.tmp 6) 22 50 (.agg #[(.int .i64 0),(.int .i64 0),(.int .i64 0),(.int .i64 0)]) 32 rfl Try.underlying22 info50 rfl (by decide) (by omega) v448 y447 l0 _ _ _ (fun _=>True) (fun _=>False) rfl rfl ?aO ?aR (fun _ _ h=>h) (fun _ h=>h.elim) ?aF ?aB ?aS ?aL ?_;(case aR=>repeat(first|exact(Yt HR0.out HB.out)|(with_reducible refine Kd.C_alloc ?_ _)|(with_reducible refine Kd.C_drewN ?_ _)|(with_reducible refine Kd.C_drew ?_)));(case aB=>exact(by repeat(first|(with_reducible first|exact HB.out|apply Ye|apply Yd|apply Yg)|exact HB.out)));(case aF=>exact(fun _ _=>trivial));(case aO=>exact(by(with_reducible repeat(first|apply Yr|apply Yq|apply Yp));exact HO449.out));(case aS=>exact(Yi (by repeat(first|(with_reducible first|exact HB.out|apply Ye|apply Yd|apply Yg)|exact HB.out))));(case aL=>have:=LMc2.out;omega);intro v451 w5 ho hb hg hat;rw[← Ny450.out] at ho;have n0_:=Ya (hb);have n1_:=Ya (ho);clear HB;clear HO449;have HB:=n0_;have HO452:=n1_;clear n0_ n1_;clear ho hb hg hat));go_ret;exact⟨_,by first|rfl|(simp[errW_none,errW_some]<;>rfl)|(simp[*,errW_none,errW_some]<;>rfl),by(with_reducible repeat(first|apply Yr|apply Yq|apply Yp));exact HO452.out,by repeat(first|(with_reducible first|exact HB.out|apply Ye|apply Yd|apply Yg)|exact HB.out)⟩
end P
namespace H
theorem pigeonN (n:Nat): ∀ L:List Nat,L.Nodup→(∀ x,x∈L→x<n)→L.length≤n:=by
 induction n with
 |zero=>
  intro L _ h;cases L with
  |nil=>simp
  |cons x L=>exact absurd (h x List.mem_cons_self) (Nat.not_lt_zero _)
 |succ n ih=>
  intro L hn h;by_cases hm:n∈L
  ·have h1:=ih (L.erase n) (hn.erase n) (fun x hx=>by
    have h2:=(hn.mem_erase_iff).1 hx;have:=h x h2.2;have:=h2.1;omega)
   rw[List.length_erase_of_mem hm] at h1;omega
  ·have:=ih L hn (fun x hx=>by
    have h1:=h x hx;have:x≠n:=fun e=>hm (e▸hx)
    omega)
   omega
section
variable {α:Type}
structure Fd (α:Type) where
 v:Nat
 by_:α
 lv:Nat
def nodes (st:List (Fd α)):List Nat:=st.map Fd.v
def vis (to_:α→Nat) (lv:Nat) (st:List (Fd α)) (e:α):List (Fd α):=if to_ e∈nodes st then st else st ++ [⟨to_ e,e,lv+1⟩]
def proc (to_:α→Nat) (es:Nat→List α) (st:List (Fd α)) (x:Fd α):List (Fd α):=(es x.v).foldl (vis to_ x.lv) st
def bfs (to_:α→Nat) (es:Nat→List α):Nat→Nat→List (Fd α)→List (Fd α)
 |0,_,st=>st
 |n+1,i,st=>match st[i]? with
  |none=>st
  |some x=>bfs to_ es n (i+1) (proc to_ es st x)
theorem vis_pre (to_:α→Nat) (lv:Nat) (st:List (Fd α)) (e:α): ∃ r,vis to_ lv st e=st ++ r:=by
 unfold vis;split
 ·exact⟨[],(List.append_nil _).symm⟩
 ·exact⟨_,rfl⟩
theorem fold_pre (to_:α→Nat) (lv:Nat) (l:List α) (st:List (Fd α)): ∃ r,l.foldl (vis to_ lv) st=st ++ r:=by
 induction l generalizing st with
 |nil=>exact⟨[],(List.append_nil _).symm⟩
 |cons e l ih=>
  obtain⟨r,hr⟩:=vis_pre to_ lv st e;obtain⟨q,hq⟩:=ih (vis to_ lv st e);exact⟨r ++ q,by rw[List.foldl_cons,hq,hr,List.append_assoc]⟩
theorem bfs_pre (to_:α→Nat) (es:Nat→List α) (n i:Nat) (st:List (Fd α)): ∃ r,bfs to_ es n i st=st ++ r:=by
 induction n generalizing i st with
 |zero=>exact⟨[],(List.append_nil _).symm⟩
 |succ n ih=>
  unfold bfs;cases st[i]? with
  |none=>exact⟨[],(List.append_nil _).symm⟩
  |some x=>
   obtain⟨r,hr⟩:=fold_pre to_ x.lv (es x.v) st;obtain⟨q,hq⟩:=ih (i+1) (proc to_ es st x);exact⟨r ++ q,by show bfs to_ es n (i+1) (proc to_ es st x)=_;rw[hq];unfold proc;rw[hr,List.append_assoc]⟩
structure Fds (from_ to_:α→Nat) (es:Nat→List α) (s:Nat) (st:List (Fd α)):Prop where
 nodup:(nodes st).Nodup
 head: ∃ x r,st=x::r∧x.v=s∧x.lv=0
 by_ok: ∀ (j:Nat) (x:Fd α),st[j+1]? =some x→to_ x.by_=x.v∧ ∃ (k:Nat) (y:Fd α),k≤j∧st[k]? =some y∧x.by_∈es y.v∧x.lv=y.lv+1
 up: ∀ (j:Nat) (x y:Fd α),st[j]? =some x→st[j+1]? =some y→x.lv≤y.lv
theorem mem_nodes {st:List (Fd α)} {v:Nat} :v∈nodes st↔ ∃ (j:Nat) (x:Fd α),st[j]? =some x∧x.v=v:=by
 unfold nodes;rw[List.mem_map];constructor
 ·rintro⟨x,hx,rfl⟩
  obtain⟨j,hj⟩:=List.getElem?_of_mem hx;exact⟨j,x,hj,rfl⟩
 ·rintro⟨j,x,hj,rfl⟩
  exact⟨x,List.mem_of_getElem? hj,rfl⟩
theorem Fds.vis {from_ to_:α→Nat} {es:Nat→List α} {s:Nat} {st:List (Fd α)} (h:Fds from_ to_ es s st) {i:Nat} {x:Fd α} (hx:st[i]? =some x) (hm: ∀ y,y∈st→y.lv≤x.lv+1) {e:α} (he:e∈es x.v):
  Fds from_ to_ es s (vis to_ x.lv st e)∧ ∀ y,y∈H.vis to_ x.lv st e→y.lv≤x.lv+1:=by
 unfold H.vis;split
 ·exact⟨h,hm⟩
 ·rename_i hn
  have hil:=(List.getElem?_eq_some_iff.1 hx).1;have hsm: ∀ (j:Nat) (y:Fd α),(st ++ [⟨to_ e,e,x.lv+1⟩])[j]? =some y→(j<st.length∧st[j]? =some y)∨(j=st.length∧y=⟨to_ e,e,x.lv+1⟩):=by
   intro j y hy;rcases Nat.lt_or_ge j st.length with hj|hj
   ·rw[List.getElem?_append_left hj] at hy;exact .inl ⟨hj,hy⟩
   ·rw[List.getElem?_append_right hj] at hy
    have hj0:j - st.length=0:=by
     have:=(List.getElem?_eq_some_iff.1 hy).1;simp at this;omega
    rw[hj0] at hy;injection hy with hy
    exact .inr ⟨by omega,hy.symm⟩
  refine⟨⟨?_,?_,?_,?_⟩,?_⟩
  ·show (nodes (st ++ [_])).Nodup
   unfold nodes;rw[List.map_append];refine List.nodup_append.2 ⟨h.nodup,by simp,?_⟩;intro a ha b hb;simp at hb;subst hb;intro e';subst e';exact hn ha
  ·obtain⟨y,r,hr,h1,h2⟩:=h.head
   exact⟨y,r ++ [_],by rw[hr];rfl,h1,h2⟩
  ·intro j y hy
   rcases hsm _ _ hy with ⟨hj,hy⟩|⟨hj,rfl⟩
   ·obtain⟨h1,k,z,hk,hz,h2,h3⟩:=h.by_ok j y hy
    exact⟨h1,k,z,hk,by rw[List.getElem?_append_left (by omega)];exact hz,h2,h3⟩
   ·exact⟨rfl,i,x,by omega,by rw[List.getElem?_append_left hil];exact hx,he,rfl⟩
  ·intro j y z hy hz
   rcases hsm _ _ hz with ⟨hj,hz⟩|⟨hj,rfl⟩
   ·rw[List.getElem?_append_left (by omega)] at hy
    exact h.up j y z hy hz
   ·rw[List.getElem?_append_left (by omega)] at hy
    exact hm y (List.mem_of_getElem? hy)
  ·intro y hy
   rcases List.mem_append.1 hy with hy|hy
   ·exact hm y hy
   ·rw[List.mem_singleton.1 hy]
    exact Nat.le_refl _
theorem Fds.fold {from_ to_:α→Nat} {es:Nat→List α} {s:Nat} {x:Fd α} (l:List α): ∀ {st:List (Fd α)} (h:Fds from_ to_ es s st) {i:Nat} (hx:st[i]? =some x) (hm: ∀ y,y∈st→y.lv≤x.lv+1) (he: ∀ e,e∈l→e∈es x.v),
  Fds from_ to_ es s (l.foldl (H.vis to_ x.lv) st)∧ ∀ y,y∈l.foldl (H.vis to_ x.lv) st→y.lv≤x.lv+1:=by
 induction l with
 |nil=>intro st h i hx hm he;exact⟨h,hm⟩
 |cons e l ih=>
  intro st h i hx hm he;obtain⟨h1,h2⟩:=h.vis hx hm (he e List.mem_cons_self);obtain⟨r,hr⟩:=vis_pre to_ x.lv st e;have hx':(H.vis to_ x.lv st e)[i]? =some x:=by rw[hr,List.getElem?_append_left (List.getElem?_eq_some_iff.1 hx).1];exact hx
  exact ih h1 hx' h2 (fun e he'=>he e (List.mem_cons_of_mem _ he'))
theorem fold_mem (to_:α→Nat) (lv:Nat) (l:List α) (st:List (Fd α)) {e:α} (he:e∈l):to_ e∈nodes (l.foldl (vis to_ lv) st):=by
 induction l generalizing st with
 |nil=>cases he
 |cons f l ih=>
  rcases List.mem_cons.1 he with rfl|he
  ·obtain⟨r,hr⟩:=fold_pre to_ lv l (vis to_ lv st e)
   rw[List.foldl_cons,hr];have:to_ e∈nodes (vis to_ lv st e):=by
    unfold vis;split
    ·assumption
    ·unfold nodes;rw[List.map_append];exact List.mem_append_right _ (by simp)
   unfold nodes at this ⊢;rw[List.map_append];exact List.mem_append_left _ this
  ·exact ih _ he
structure Upto (from_ to_:α→Nat) (es:Nat→List α) (s i:Nat) (st:List (Fd α)):Prop where
 fds:Fds from_ to_ es s st
 most: ∀ (x:Fd α),st[i]? =some x→ ∀ y,y∈st→y.lv≤x.lv+1
 seen: ∀ (j:Nat) (x:Fd α),j<i→st[j]? =some x→ ∀ e,e∈es x.v→ ∃ (k:Nat) (y:Fd α),st[k]? =some y∧y.v=to_ e∧y.lv≤x.lv+1
theorem upto_start (from_ to_:α→Nat) (es:Nat→List α) (s:Nat) (e0:α):Upto from_ to_ es s 0 [⟨s,e0,0⟩]:=by
 refine⟨⟨by simp[nodes],⟨_,[],rfl,rfl,rfl⟩,?_,?_⟩,?_,?_⟩
 ·intro j x h;simp at h
 ·intro j x y h1 h2;simp at h2
 ·intro x h y hy
  rw[List.mem_singleton.1 hy];exact Nat.zero_le _
 ·intro j x h;exact absurd h (Nat.not_lt_zero _)
theorem Upto.next {from_ to_:α→Nat} {es:Nat→List α} {s i:Nat} {st:List (Fd α)} (h:Upto from_ to_ es s i st) {x:Fd α} (hx:st[i]? =some x):Upto from_ to_ es s (i+1) (proc to_ es st x):=by
 obtain⟨h1,h2⟩:=Fds.fold (es x.v) h.fds hx (h.most x hx) (fun e he=>he);obtain⟨r,hr⟩:=fold_pre to_ x.lv (es x.v) st;have hil:=(List.getElem?_eq_some_iff.1 hx).1;have hx':(proc to_ es st x)[i]? =some x:=by unfold proc;rw[hr,List.getElem?_append_left hil];exact hx
 refine⟨h1,?_,?_⟩
 ·intro y hy z hz
  have h3:=h1.up i x y hx' hy;have h4:=h2 z hz;omega
 ·intro j y hj hy e he
  rcases Nat.lt_or_ge j i with hji|hji
  ·unfold proc at hy ⊢
   rw[hr,List.getElem?_append_left (by omega)] at hy;obtain⟨k,z,hk,hv,hl⟩:=h.seen j y hji hy e he;exact⟨k,z,by rw[hr,List.getElem?_append_left (List.getElem?_eq_some_iff.1 hk).1];exact hk,hv,hl⟩
  ·have hji':j=i:=by omega
   subst hji';rw[hx'] at hy;injection hy with hy
   subst hy;obtain⟨k,z,hk,hv⟩:=mem_nodes.1 (fold_mem to_ x.lv (es x.v) st he);exact⟨k,z,hk,hv,h2 z (List.mem_of_getElem? hk)⟩
theorem bfs_done {from_ to_:α→Nat} {es:Nat→List α} {s N:Nat} (hN: ∀ (u:Nat) (e:α),e∈es u→to_ e<N) (hs:s<N) (n:Nat): ∀ (i:Nat) (st:List (Fd α)),Upto from_ to_ es s i st→N≤i+n→Upto from_ to_ es s (bfs to_ es n i st).length (bfs to_ es n i st):=by
 have hlen: ∀ (st:List (Fd α)),Fds from_ to_ es s st→st.length≤N:=by
  intro st h;have:(nodes st).length≤N:=by
   refine pigeonN N _ h.nodup ?_;intro v hv;obtain⟨j,x,hj,rfl⟩:=mem_nodes.1 hv;cases j with
   |zero=>
    obtain⟨y,r,hr,h1,_⟩:=h.head;rw[hr] at hj;injection hj with hj
    rw[← hj,h1];exact hs
   |succ j=>
    obtain⟨h1,k,y,_,_,h2,_⟩:=h.by_ok j x hj;rw[← h1];exact hN _ _ h2
  unfold nodes at this;rw[List.length_map] at this;exact this
 induction n with
 |zero=>
  intro i st h hi;have hl:=hlen st h.fds;show Upto from_ to_ es s st.length st;exact⟨h.fds,fun x hx=>by have:=(List.getElem?_eq_some_iff.1 hx).1;omega,fun j x hj hx=>h.seen j x (by omega) hx⟩
 |succ n ih=>
  intro i st h hi;unfold bfs;cases hx:st[i]? with
  |none=>
   have hl:=List.getElem?_eq_none_iff.1 hx;show Upto from_ to_ es s st.length st;exact⟨h.fds,fun x hx=>by have:=(List.getElem?_eq_some_iff.1 hx).1;omega,fun j x hj hx=>h.seen j x (by omega) hx⟩
  |some x=>exact ih (i+1) _ (h.next hx) (by omega)
end
end H
namespace H
section
variable {α:Type}
def fnd (st:List (Fd α)) (v:Nat):Option (Fd α):=st.find? fun x=>x.v == v
theorem fnd_some {st:List (Fd α)} {v:Nat} {x:Fd α} (h:fnd st v=some x):x∈st∧x.v=v:=by
 have h1:=List.find?_some h;exact⟨List.mem_of_find?_eq_some h,by simpa using h1⟩
theorem fnd_none {st:List (Fd α)} {v:Nat} :fnd st v=none↔v ∉ nodes st:=by
 unfold fnd nodes;rw[List.find?_eq_none];constructor
 ·intro h hm
  obtain⟨x,hx,rfl⟩:=List.mem_map.1 hm;exact h x hx (by simp)
 ·intro h x hx e
  exact h (List.mem_map.2 ⟨x,hx,by simpa using e⟩)
theorem nodup_inj {st:List (Fd α)} (h:(nodes st).Nodup) {x y:Fd α} (hx:x∈st) (hy:y∈st) (e:x.v=y.v):x=y:=by
 induction st with
 |nil=>cases hx
 |cons z st ih=>
  have h':z.v ∉ nodes st∧(nodes st).Nodup:=List.nodup_cons.1 h;rcases List.mem_cons.1 hx with h1|h1<;>rcases List.mem_cons.1 hy with h2|h2
  ·rw[h1,h2]
  ·exact(h'.1 (List.mem_map.2 ⟨y,h2,by rw[← e,h1]⟩)).elim
  ·exact(h'.1 (List.mem_map.2 ⟨x,h1,by rw[e,h2]⟩)).elim
  ·exact ih h'.2 h1 h2
theorem fnd_of {st:List (Fd α)} (h:(nodes st).Nodup) {x:Fd α} (hx:x∈st):fnd st x.v=some x:=by
 cases hf:fnd st x.v with
 |none=>exact absurd (List.mem_map.2 ⟨x,hx,rfl⟩) (fnd_none.1 hf)
 |some y=>
  obtain⟨h1,h2⟩:=fnd_some hf;rw[nodup_inj h h1 hx h2]
theorem fnd_app {st r:List (Fd α)} {v:Nat} (h:v∈nodes st):fnd (st ++ r) v=fnd st v:=by
 unfold fnd;rw[List.find?_append];cases hf:fnd st v with
 |none=>exact absurd h (fnd_none.1 hf)
 |some x=>unfold fnd at hf;rw[hf];rfl
theorem nodes_app (st r:List (Fd α)):nodes (st ++ r)=nodes st ++ nodes r:=List.map_append
def backL (fr:α→Nat) (st:List (Fd α)) (s:Nat):Nat→Nat→List α
 |0,_=>[]
 |k+1,v=>if v=s then [] else match fnd st v with
  |none=>[]
  |some x=>x.by_::backL fr st s k (fr x.by_)
def wayL (fr:α→Nat) (st:List (Fd α)) (s v:Nat):List α:=(backL fr st s st.length v).reverse
def Leads (to_:α→Nat) (es:Nat→List α):Nat→List α→Nat→Prop
 |u,[],t=>u=t
 |u,e::L,t=>e∈es u∧Leads to_ es (to_ e) L t
theorem Leads.snoc {to_:α→Nat} {es:Nat→List α} {L:List α} {e:α} : ∀ {u v:Nat},Leads to_ es u L v→e∈es v→Leads to_ es u (L ++ [e]) (to_ e):=by
 induction L with
 |nil=>intro u v h he;cases h;exact⟨he,rfl⟩
 |cons f L ih=>intro u v h he;exact⟨h.1,ih h.2 he⟩
theorem Fds.mem_lv {fr to_:α→Nat} {es:Nat→List α} {s:Nat} {st:List (Fd α)} (h:Fds fr to_ es s st) {x:Fd α} (hx:x∈st):
  (x.v=s∧x.lv=0)∨(x.v≠s∧to_ x.by_=x.v∧ ∃ y,y∈st∧x.by_∈es y.v∧x.lv=y.lv+1):=by
 obtain⟨j,hj⟩:=List.getElem?_of_mem hx;obtain⟨z,r,hr,h1,h2⟩:=h.head;have hz:z∈st:=by rw[hr];exact List.mem_cons_self
 cases j with
 |zero=>
  rw[hr] at hj;injection hj with hj
  rw[← hj];exact .inl ⟨h1,h2⟩
 |succ j=>
  obtain⟨h3,k,y,_,hy,h4,h5⟩:=h.by_ok j x hj;refine .inr ⟨?_,h3,y,List.mem_of_getElem? hy,h4,h5⟩;intro e;have:=nodup_inj h.nodup hx hz (by rw[e,h1]);rw[this,h2] at h5;omega
theorem lv_lt {fr to_:α→Nat} {es:Nat→List α} {s:Nat} {st:List (Fd α)} (h:Fds fr to_ es s st) {x:Fd α} (hx:x∈st):x.lv<st.length:=by
 obtain⟨z,r,hr,h1,h2⟩:=h.head;have aux: ∀ (j:Nat) (y:Fd α),st[j]? =some y→y.lv≤j:=by
  intro j
  induction j using Nat.strongRecOn with
  |_ j ih=>
   intro y hy;cases j with
   |zero=>
    rw[hr] at hy;injection hy with hy
    rw[← hy,h2];exact Nat.le_refl _
   |succ j=>
    obtain⟨_,k,w,hk,hw,_,h5⟩:=h.by_ok j y hy;have:=ih k (by omega) w hw;omega
 obtain⟨j,hj⟩:=List.getElem?_of_mem hx;have:=aux j x hj;have:=(List.getElem?_eq_some_iff.1 hj).1;omega
theorem backL_spec {fr to_:α→Nat} {es:Nat→List α} {s:Nat} {st:List (Fd α)} (h:Fds fr to_ es s st) (hes: ∀ u e,e∈es u→fr e=u) (k:Nat): ∀ {x:Fd α},x∈st→x.lv≤k→
  (backL fr st s k x.v).length=x.lv∧Leads to_ es s (backL fr st s k x.v).reverse x.v:=by
 induction k with
 |zero=>
  intro x hx hk;rcases h.mem_lv hx with ⟨h1,h2⟩|⟨_,_,y,_,_,h5⟩
  ·exact⟨by rw[h2];rfl,h1.symm⟩
  ·omega
 |succ k ih=>
  intro x hx hk;unfold backL;rcases h.mem_lv hx with ⟨h1,h2⟩|⟨h1,h3,y,hy,h4,h5⟩
  ·rw[Yx h1,h2]
   exact⟨rfl,h1.symm⟩
  ·rw[Yy h1,fnd_of h.nodup hx]
   show (_::_).length=_∧Leads to_ es s (_::_).reverse _;rw[hes _ _ h4];obtain⟨i1,i2⟩:=ih hy (by omega);refine⟨by rw[List.length_cons,i1,h5],?_⟩;rw[List.reverse_cons, ← h3];exact i2.snoc h4
theorem backL_more {fr to_:α→Nat} {es:Nat→List α} {s:Nat} {st:List (Fd α)} (h:Fds fr to_ es s st) (hes: ∀ u e,e∈es u→fr e=u) (r:List (Fd α)) (k:Nat): ∀ {k':Nat} {x:Fd α},x∈st→x.lv≤k→x.lv≤k'→
  backL fr (st ++ r) s k' x.v=backL fr st s k x.v:=by
 induction k with
 |zero=>
  intro k' x hx hk hk';rcases h.mem_lv hx with ⟨h1,h2⟩|⟨_,_,y,_,_,h5⟩
  ·cases k' with
   |zero=>rfl
   |succ k'=>unfold backL;rw[Yx h1]
  ·omega
 |succ k ih=>
  intro k' x hx hk hk';rcases h.mem_lv hx with ⟨h1,h2⟩|⟨h1,h3,y,hy,h4,h5⟩
  ·cases k' with
   |zero=>unfold backL;rw[Yx h1]
   |succ k'=>unfold backL;rw[Yx h1,Yx h1]
  ·cases k' with
   |zero=>omega
   |succ k'=>
    unfold backL;rw[Yy h1,Yy h1,fnd_app (List.mem_map.2 ⟨x,hx,rfl⟩),fnd_of h.nodup hx];show _::_=_::_;rw[hes _ _ h4,ih hy (by omega) (by omega)]
def dOf (n:Nat) (st:List (Fd α)):List Int:=(List.range n).map fun v=>match fnd st v with
 |some x=>(x.lv:Int)
 |none=> -1
def bOf (z:α) (n:Nat) (st:List (Fd α)):List α:=(List.range n).map fun v=>match fnd st v with
 |some x=>x.by_
 |none=>z
theorem dOf_len (n:Nat) (st:List (Fd α)):(dOf n st).length=n:=by simp[dOf]
theorem bOf_len (z:α) (n:Nat) (st:List (Fd α)):(bOf z n st).length=n:=by simp[bOf]
theorem dOf_get {n v:Nat} (st:List (Fd α)) (d:Int) (hv:v<n):(dOf n st).getD v d=match fnd st v with
  |some x=>(x.lv:Int)
  |none=> -1:=by
 unfold dOf;rw[List.getD_eq_getElem?_getD,List.getElem?_map,List.getElem?_range hv];rfl
theorem bOf_get {n v:Nat} (z:α) (st:List (Fd α)) (d:α) (hv:v<n):(bOf z n st).getD v d=match fnd st v with
  |some x=>x.by_
  |none=>z:=by
 unfold bOf;rw[List.getD_eq_getElem?_getD,List.getElem?_map,List.getElem?_range hv];rfl
theorem dOf_neg {n v:Nat} (st:List (Fd α)) (d:Int) (hv:v<n):(dOf n st).getD v d<0↔v ∉ nodes st:=by
 rw[dOf_get st d hv, ← fnd_none];cases fnd st v with
 |none=>simp
 |some x=>simp
theorem dOf_mem {n:Nat} {st:List (Fd α)} (h:(nodes st).Nodup) {x:Fd α} (hx:x∈st) (d:Int) (hv:x.v<n):(dOf n st).getD x.v d=x.lv:=by
 rw[dOf_get st d hv,fnd_of h hx]
theorem set_map_range {β:Type} (n w:Nat) (f:Nat→β) (b:β):((List.range n).map f).set w b=(List.range n).map fun v=>if v=w then b else f v:=by
 apply List.ext_getElem?;intro i;rw[List.getElem?_set];simp only[List.length_map,List.length_range,List.getElem?_map];by_cases e:w=i
 ·subst e
  by_cases hw:w<n
  ·rw[Yx rfl,Yx hw,List.getElem?_range hw]
   simp
  ·rw[Yx rfl,Yy hw,List.getElem?_eq_none (by simp;omega)]
   rfl
 ·rw[Yy e]
  by_cases hi:i<n
  ·rw[List.getElem?_range hi]
   simp[Ne.symm e]
  ·rw[List.getElem?_eq_none (by simp;omega)]
   rfl
theorem dOf_snoc (n:Nat) {st:List (Fd α)} {x:Fd α} (h:x.v ∉ nodes st):dOf n (st ++ [x])=(dOf n st).set x.v (x.lv:Int):=by
 unfold dOf;rw[set_map_range];apply List.map_congr_left;intro v hv;by_cases e:v=x.v
 ·subst e
  rw[Yx rfl];have h1:=fnd_none.2 h;unfold fnd at h1 ⊢;rw[List.find?_append,h1];simp
 ·rw[Yy e]
  unfold fnd;rw[List.find?_append];cases hf:st.find? (fun y=>y.v == v) with
  |some y=>rfl
  |none=>simp[Ne.symm e]
theorem bOf_snoc (z:α) (n:Nat) {st:List (Fd α)} {x:Fd α} (h:x.v ∉ nodes st):bOf z n (st ++ [x])=(bOf z n st).set x.v x.by_:=by
 unfold bOf;rw[set_map_range];apply List.map_congr_left;intro v hv;by_cases e:v=x.v
 ·subst e
  rw[Yx rfl];have h1:=fnd_none.2 h;unfold fnd at h1 ⊢;rw[List.find?_append,h1];simp
 ·rw[Yy e]
  unfold fnd;rw[List.find?_append];cases hf:st.find? (fun y=>y.v == v) with
  |some y=>rfl
  |none=>simp[Ne.symm e]
theorem dOf_one (n s:Nat) (z:α):dOf n [⟨s,z,0⟩]=(List.replicate n (-1:Int)).set s 0:=by
 have h1:(List.replicate n (-1:Int))=dOf n ([]:List (Fd α)):=by
  unfold dOf;apply List.ext_getElem (by simp);intro i h1 h2;simp[fnd]
 rw[h1,show ([⟨s,z,0⟩]:List (Fd α))=[] ++ [⟨s,z,0⟩] from rfl,dOf_snoc n (by simp[nodes])];rfl
theorem bOf_one (n s:Nat) (z:α):bOf z n [⟨s,z,0⟩]=List.replicate n z:=by
 unfold bOf;apply List.ext_getElem (by simp);intro i h1 h2;simp only[List.getElem_map,List.getElem_range,List.getElem_replicate];unfold fnd;rw[List.find?_cons];cases (s == i)<;>rfl
def bfsN (to_:α→Nat) (es:Nat→List α) (z:α) (n s:Nat):List (Fd α):=bfs to_ es n 0 [⟨s,z,0⟩]
theorem bfsN_upto {fr to_:α→Nat} {es:Nat→List α} {z:α} {n s:Nat} (hN: ∀ (u:Nat) (e:α),e∈es u→to_ e<n) (hs:s<n):Upto fr to_ es s (bfsN to_ es z n s).length (bfsN to_ es z n s):=
 bfs_done hN hs n 0 _ (upto_start fr to_ es s z) (by omega)
theorem bfsN_closed {to_:α→Nat} {es:Nat→List α} {z:α} {n s:Nat} (hN: ∀ (u:Nat) (e:α),e∈es u→to_ e<n) (hs:s<n) {x:Fd α} (hx:x∈bfsN to_ es z n s) {e:α} (he:e∈es x.v):
  ∃ y,y∈bfsN to_ es z n s∧y.v=to_ e∧y.lv≤x.lv+1:=by
 obtain⟨j,hj⟩:=List.getElem?_of_mem hx;obtain⟨k,y,hk,h1,h2⟩:=(bfsN_upto (fr:=fun _=>0) (z:=z) hN hs).seen j x (List.getElem?_eq_some_iff.1 hj).1 hj e he;exact⟨y,List.mem_of_getElem? hk,h1,h2⟩
theorem fds_lt {fr to_:α→Nat} {es:Nat→List α} {n s:Nat} {st:List (Fd α)} (h:Fds fr to_ es s st) (hN: ∀ (u:Nat) (e:α),e∈es u→to_ e<n) (hs:s<n): ∀ v,v∈nodes st→v<n:=by
 intro v hv;obtain⟨x,hx,rfl⟩:=List.mem_map.1 hv;rcases h.mem_lv hx with ⟨h1,_⟩|⟨_,h3,y,_,h4,_⟩
 ·rw[h1];exact hs
 ·rw[← h3];exact hN _ _ h4
theorem fds_len {fr to_:α→Nat} {es:Nat→List α} {n s:Nat} {st:List (Fd α)} (h:Fds fr to_ es s st) (hN: ∀ (u:Nat) (e:α),e∈es u→to_ e<n) (hs:s<n):st.length≤n:=by
 have:=pigeonN n (nodes st) h.nodup (fds_lt h hN hs);unfold nodes at this
 rwa [List.length_map] at this
end
end H
namespace H
section
variable {α:Type}
structure Net_ (α:Type) where
 rows:Nat→List α
 to_:α→Nat
 fr:α→Nat
 D:Nat→Int
 ok:α→Bool
def Net_.adm (g:Net_ α) (u:Nat) (e:α):Bool:=decide (g.D (g.to_ e)=g.D u+1) && g.ok e
theorem adm_lv {g:Net_ α} {u:Nat} {e:α} (h:g.adm u e=true):g.D (g.to_ e)=g.D u+1∧g.ok e=true:=by
 unfold Net_.adm at h;rw[Bool.and_eq_true,decide_eq_true_eq] at h;exact h
end
end H
namespace P
attribute [local go_sem] max2_int min2_int max_two min_two max_three min_three max_four min_four
def static_Flowing_From.f (Zb:Int) (Zc:Bool) (Za:List (S50)) (Zy:List Int) (Zh:Int) (Zv:Bool):Option (Int):=if Zv=true then(if 0≤Zh then(if Zh<(Za.length:Int) then(some ((rd_T50 Za Zh).f1)) else(none)) else(none)) else(if 0≤Zh then(if Zh<(Za.length:Int) then(some ((rd_T50 Za Zh).f0)) else(none)) else(none))
set_option maxHeartbeats 8000000 in
set_option maxRecDepth 100000 in
theorem static_Flowing_From.calls (Zb:Int) (Zc:Bool) (Ze:Option Addr) (Zd:Nat) (Za:List (S50)) (Xy:Option Addr) (Xz:Nat) (Zy:List Int) (Zh:Int) (Zv:Bool) (r:Int) (w:World) (Zq:Kd.C k50 w Ze Za.length Za) (Zr:Za.length≤Zd) (hr0_3:Kd.C (Kd.int .i64) w Xy Zy.length Zy) (hc0_3:Zy.length≤Xz) (h:static_Flowing_From.f Zb Zc Za Zy Zh Zv=some r):
  Calls Try.prog 87 #[.agg #[.int .i64 Zb, .bool Zc, .slice Ze Za.length Zd, .slice Xy Zy.length Xz], .agg #[.int .i64 Zh, .bool Zv]] w fun e w'=>e= .returned (.int .i64 r)∧Below w.heap.size w w':=by
 have hu104:=Try.underlying104;have hu79:=Try.underlying79;have Zk:=Ya Zq;have Zw:=Ya Zr;clear Zq Zr;have HR0_3:=Ya hr0_3;have HC0_3:=Ya hc0_3;clear hr0_3 hc0_3;have HB:=Ya (Yo w.heap.size w);have H:(if Zv=true then(if 0≤Zh then(if Zh<(Za.length:Int) then(some ((rd_T50 Za Zh).f1)) else(none)) else(none)) else(if 0≤Zh then(if Zh<(Za.length:Int) then(some ((rd_T50 Za Zh).f0)) else(none)) else(none)))=some r:=h;clear h;by_cases c3:Zv=true
 ·subst c3
  have H1:(if 0≤Zh then(if Zh<(Za.length:Int) then(some ((rd_T50 Za Zh).f1)) else(none)) else(none))=some r:=by first|(rw[Yx rfl] at H;exact H)|(rw[Yx trivial] at H;exact H)
  clear H;have H:=H1;clear H1;by_cases c4:0≤Zh
  rotate_left
  ·rw[Yy c4] at H
   exact absurd H (by simp)
  rw[Yx c4] at H;have c4b0:decide (0≤Zh)=true:=Yv c4;clear c4;by_cases c5:Zh<(Za.length:Int)
  rotate_left
  ·rw[Yy c5] at H
   exact absurd H (by simp)
  rw[Yx c5] at H;have c5b0:decide (Zh<(Za.length:Int))=true:=Yv c5;clear c5;obtain rfl:=Option.some.inj H;go_enter Try.func87,Try.ntmps87;go_wp2_with (first|((with_reducible refine gate_dst (N:=2) rfl ?_);refine Yz ?hg (N:=2) ?hd (cs:= #[.int .i64 Zb, .bool Zc, .slice Ze Za.length Zd, .slice Xy Zy.length Xz]) (t:=104) ?hr ?_;(case hd=>rfl);(case hg=>rfl);(case hr=>first|(go_simp;done)|(go_simp;rfl));intro Vo hg w6 Zg hb;have n0_:=Ya (Yk (by repeat(first|(with_reducible first|exact HB.out|apply Ye|apply Yd|apply Yg)|exact HB.out)) hb);have n1_:=Ya (Zg);have n2_:=Ya ((by rw[hg];exact(Yi (by repeat(first|(with_reducible first|exact HB.out|apply Ye|apply Yd|apply Yg)|exact HB.out))):w.heap.size≤Vo));have n3_:=Ya ((by rw[hg];exact(Yi (by repeat(first|(with_reducible first|exact HB.out|apply Ye|apply Yd|apply Yg)|exact HB.out))):w.heap.size≤Vo));clear HB;have HB:=n0_;have Wq:=n1_;have GW719:=n2_;have GE719:=n3_;clear n0_ n1_ n2_ n3_;clear hb Zg hg)|((with_reducible refine gate_dst (N:=3) rfl ?_);refine Yz ?hg (N:=3) ?hd (cs:= #[.int .i64 Zh, .bool true]) (t:=79) ?hr ?_;(case hd=>rfl);(case hg=>rfl);(case hr=>first|(go_simp;done)|(go_simp;rfl));intro Jq hg w7 Zg hb;have n0_:=Ya (Yn (g:=Vo) (o:= .cells #[.int .i64 Zb, .bool Zc, .slice Ze Za.length Zd, .slice Xy Zy.length Xz] 104 (0,0)) (by(with_reducible repeat(first|refine Yl ?_ _|refine Ym ?_|refine Yj ?_ _));exact Wq.out) hb);have n1_:=Ya (Yk (by repeat(first|(with_reducible first|exact HB.out|apply Ye|apply Yd|apply Yg|refine Yh ?_ GE719.out)|exact HB.out)) hb);have n2_:=Ya (Zg);have n3_:=Ya ((by rw[hg];exact(Yi (by repeat(first|(with_reducible first|exact HB.out|apply Ye|apply Yd|apply Yg|refine Yh ?_ GE719.out)|exact HB.out))):w.heap.size≤Jq));have n4_:=Ya ((by rw[hg];exact(Yi (by repeat(first|(with_reducible first|exact HB.out|apply Ye|apply Yd|apply Yg|refine Yh ?_ GE719.out)|exact HB.out))):w.heap.size≤Jq));have n5_:=Ya ((by rw[hg];exact Nat.ne_of_lt (blk_lt (g:=Vo) (o:= .cells #[.int .i64 Zb, .bool Zc, .slice Ze Za.length Zd, .slice Xy Zy.length Xz] 104 (0,0)) (by(with_reducible repeat(first|refine Yl ?_ _|refine Ym ?_|refine Yj ?_ _));exact Wq.out)):Vo≠Jq));have n6_:=Ya ((by rw[hg];exact Nat.ne_of_gt (blk_lt (g:=Vo) (o:= .cells #[.int .i64 Zb, .bool Zc, .slice Ze Za.length Zd, .slice Xy Zy.length Xz] 104 (0,0)) (by(with_reducible repeat(first|refine Yl ?_ _|refine Ym ?_|refine Yj ?_ _));exact Wq.out)):Jq≠Vo));clear Wq;clear HB;have Wq:=n0_;have HB:=n1_;have BK720:=n2_;have GW720:=n3_;have GE720:=n4_;have NB719_720:=n5_;have NB720_719:=n6_;clear n0_ n1_ n2_ n3_ n4_ n5_ n6_;clear hb Zg hg;have hnb8:=NB720_719.out;have hnc8:=NB719_720.out;have hcz9_0:w7.cell? ⟨Jq,0,none⟩=some (.int .i64 Zh):=(Yc BK720.out 0).trans rfl;have hcz9_1:w7.cell? ⟨Jq,1,none⟩=some (.bool true):=(Yc BK720.out 1).trans rfl;have hfz9_0:=Yf BK720.out 0;have hfz9_1:=Yf BK720.out 1;have Va:w7.cell? ⟨Vo,0,none⟩=some (.int .i64 Zb):=(Yc Wq.out 0).trans rfl;have Vb:w7.cell? ⟨Vo,1,none⟩=some (.bool Zc):=(Yc Wq.out 1).trans rfl;have Vc:w7.cell? ⟨Vo,2,none⟩=some (.slice Ze Za.length Zd):=(Yc Wq.out 2).trans rfl;have hcz10_3:w7.cell? ⟨Vo,3,none⟩=some (.slice Xy Zy.length Xz):=(Yc Wq.out 3).trans rfl;have Vd:=Yf Wq.out 0;have Ve:=Yf Wq.out 1;have Vf:=Yf Wq.out 2;have hfz10_3:=Yf Wq.out 3;have p721:0≤(Zh:Int):=Yu (by first|(with_reducible assumption)|assumption);have q721:Zh<(Za.length:Int):=Yu (by first|(with_reducible assumption)|assumption);obtain⟨ad721,e721,hx721_0,hx721_1,hx721_2,hx721_3⟩:=at_T50 Zk.out Zh p721 q721;cases e721;replace hx721_0:=(HB.out.cell (Yb w _ hx721_0)).trans hx721_0;replace hx721_1:=(HB.out.cell (Yb w _ hx721_1)).trans hx721_1;replace hx721_2:=(HB.out.cell (Yb w _ hx721_2)).trans hx721_2;replace hx721_3:=(HB.out.cell (Yb w _ hx721_3)).trans hx721_3;replace p721:=eq_true p721;replace q721:=eq_true q721));go_ret;exact⟨by first|rfl|(simp[errW_none,errW_some]<;>rfl)|(simp[*,errW_none,errW_some]<;>rfl),by repeat(first|(with_reducible first|exact HB.out|apply Ye|apply Yd|apply Yg|refine Yh ?_ GE719.out|refine Yh ?_ GE720.out)|exact HB.out)⟩
 replace c3:=Bool.eq_false_iff.mpr c3;subst c3;have H1:(if 0≤Zh then(if Zh<(Za.length:Int) then(some ((rd_T50 Za Zh).f0)) else(none)) else(none))=some r:=by rw[Yy (show ¬ (false=true) by decide)] at H;exact H
 clear H;have H:=H1;clear H1;by_cases c11:0≤Zh
 rotate_left
 ·rw[Yy c11] at H
  exact absurd H (by simp)
 rw[Yx c11] at H;have c11b0:decide (0≤Zh)=true:=Yv c11;clear c11;by_cases c12:Zh<(Za.length:Int)
 rotate_left
 ·rw[Yy c12] at H
  exact absurd H (by simp)
 rw[Yx c12] at H;have c12b0:decide (Zh<(Za.length:Int))=true:=Yv c12;clear c12;obtain rfl:=Option.some.inj H;go_enter Try.func87,Try.ntmps87;go_wp2_with (first|((with_reducible refine gate_dst (N:=2) rfl ?_);refine Yz ?hg (N:=2) ?hd (cs:= #[.int .i64 Zb, .bool Zc, .slice Ze Za.length Zd, .slice Xy Zy.length Xz]) (t:=104) ?hr ?_;(case hd=>rfl);(case hg=>rfl);(case hr=>first|(go_simp;done)|(go_simp;rfl));intro Vo hg w13 Zg hb;have n0_:=Ya (Yk (by repeat(first|(with_reducible first|exact HB.out|apply Ye|apply Yd|apply Yg)|exact HB.out)) hb);have n1_:=Ya (Zg);have n2_:=Ya ((by rw[hg];exact(Yi (by repeat(first|(with_reducible first|exact HB.out|apply Ye|apply Yd|apply Yg)|exact HB.out))):w.heap.size≤Vo));have n3_:=Ya ((by rw[hg];exact(Yi (by repeat(first|(with_reducible first|exact HB.out|apply Ye|apply Yd|apply Yg)|exact HB.out))):w.heap.size≤Vo));clear HB;have HB:=n0_;have Wq:=n1_;have GW719:=n2_;have GE719:=n3_;clear n0_ n1_ n2_ n3_;clear hb Zg hg)|((with_reducible refine gate_dst (N:=3) rfl ?_);refine Yz ?hg (N:=3) ?hd (cs:= #[.int .i64 Zh, .bool false]) (t:=79) ?hr ?_;(case hd=>rfl);(case hg=>rfl);(case hr=>first|(go_simp;done)|(go_simp;rfl));intro Jq hg w14 Zg hb;have n0_:=Ya (Yn (g:=Vo) (o:= .cells #[.int .i64 Zb, .bool Zc, .slice Ze Za.length Zd, .slice Xy Zy.length Xz] 104 (0,0)) (by(with_reducible repeat(first|refine Yl ?_ _|refine Ym ?_|refine Yj ?_ _));exact Wq.out) hb);have n1_:=Ya (Yk (by repeat(first|(with_reducible first|exact HB.out|apply Ye|apply Yd|apply Yg|refine Yh ?_ GE719.out)|exact HB.out)) hb);have n2_:=Ya (Zg);have n3_:=Ya ((by rw[hg];exact(Yi (by repeat(first|(with_reducible first|exact HB.out|apply Ye|apply Yd|apply Yg|refine Yh ?_ GE719.out)|exact HB.out))):w.heap.size≤Jq));have n4_:=Ya ((by rw[hg];exact(Yi (by repeat(first|(with_reducible first|exact HB.out|apply Ye|apply Yd|apply Yg|refine Yh ?_ GE719.out)|exact HB.out))):w.heap.size≤Jq));have n5_:=Ya ((by rw[hg];exact Nat.ne_of_lt (blk_lt (g:=Vo) (o:= .cells #[.int .i64 Zb, .bool Zc, .slice Ze Za.length Zd, .slice Xy Zy.length Xz] 104 (0,0)) (by(with_reducible repeat(first|refine Yl ?_ _|refine Ym ?_|refine Yj ?_ _));exact Wq.out)):Vo≠Jq));have n6_:=Ya ((by rw[hg];exact Nat.ne_of_gt (blk_lt (g:=Vo) (o:= .cells #[.int .i64 Zb, .bool Zc, .slice Ze Za.length Zd, .slice Xy Zy.length Xz] 104 (0,0)) (by(with_reducible repeat(first|refine Yl ?_ _|refine Ym ?_|refine Yj ?_ _));exact Wq.out)):Jq≠Vo));clear Wq;clear HB;have Wq:=n0_;have HB:=n1_;have BK720:=n2_;have GW720:=n3_;have GE720:=n4_;have NB719_720:=n5_;have NB720_719:=n6_;clear n0_ n1_ n2_ n3_ n4_ n5_ n6_;clear hb Zg hg;have hnb15:=NB720_719.out;have hnc15:=NB719_720.out;have Jt:w14.cell? ⟨Jq,0,none⟩=some (.int .i64 Zh):=(Yc BK720.out 0).trans rfl;have Ju:w14.cell? ⟨Jq,1,none⟩=some (.bool false):=(Yc BK720.out 1).trans rfl;have Jv:=Yf BK720.out 0;have Jw:=Yf BK720.out 1;have Ji:w14.cell? ⟨Vo,0,none⟩=some (.int .i64 Zb):=(Yc Wq.out 0).trans rfl;have Jj:w14.cell? ⟨Vo,1,none⟩=some (.bool Zc):=(Yc Wq.out 1).trans rfl;have hcz17_2:w14.cell? ⟨Vo,2,none⟩=some (.slice Ze Za.length Zd):=(Yc Wq.out 2).trans rfl;have hcz17_3:w14.cell? ⟨Vo,3,none⟩=some (.slice Xy Zy.length Xz):=(Yc Wq.out 3).trans rfl;have Jk:=Yf Wq.out 0;have Jl:=Yf Wq.out 1;have hfz17_2:=Yf Wq.out 2;have hfz17_3:=Yf Wq.out 3;have p722:0≤(Zh:Int):=Yu (by first|(with_reducible assumption)|assumption);have q722:Zh<(Za.length:Int):=Yu (by first|(with_reducible assumption)|assumption);obtain⟨ad722,e722,hx722_0,hx722_1,hx722_2,hx722_3⟩:=at_T50 Zk.out Zh p722 q722;cases e722;replace hx722_0:=(HB.out.cell (Yb w _ hx722_0)).trans hx722_0;replace hx722_1:=(HB.out.cell (Yb w _ hx722_1)).trans hx722_1;replace hx722_2:=(HB.out.cell (Yb w _ hx722_2)).trans hx722_2;replace hx722_3:=(HB.out.cell (Yb w _ hx722_3)).trans hx722_3;replace p722:=eq_true p722;replace q722:=eq_true q722));go_ret;exact⟨by first|rfl|(simp[errW_none,errW_some]<;>rfl)|(simp[*,errW_none,errW_some]<;>rfl),by repeat(first|(with_reducible first|exact HB.out|apply Ye|apply Yd|apply Yg|refine Yh ?_ GE719.out|refine Yh ?_ GE720.out)|exact HB.out)⟩
end P
namespace P
attribute [local go_sem] max2_int min2_int max_two min_two max_three min_three max_four min_four
def static_Flowing_To.f (Zb:Int) (Zc:Bool) (Za:List (S50)) (Zy:List Int) (Zh:Int) (Zv:Bool):Option (Int):=(static_Flowing_From.f Zb Zc Za Zy Zh (!Zv)).bind fun t725=>(some t725)
set_option maxHeartbeats 8000000 in
set_option maxRecDepth 100000 in
theorem static_Flowing_To.calls (Zb:Int) (Zc:Bool) (Ze:Option Addr) (Zd:Nat) (Za:List (S50)) (Xy:Option Addr) (Xz:Nat) (Zy:List Int) (Zh:Int) (Zv:Bool) (r:Int) (w:World) (Zq:Kd.C k50 w Ze Za.length Za) (Zr:Za.length≤Zd) (hr0_3:Kd.C (Kd.int .i64) w Xy Zy.length Zy) (hc0_3:Zy.length≤Xz) (h:static_Flowing_To.f Zb Zc Za Zy Zh Zv=some r):
  Calls Try.prog 93 #[.agg #[.int .i64 Zb, .bool Zc, .slice Ze Za.length Zd, .slice Xy Zy.length Xz], .agg #[.int .i64 Zh, .bool Zv]] w fun e w'=>e= .returned (.int .i64 r)∧Below w.heap.size w w':=by
 have hu104:=Try.underlying104;have hu79:=Try.underlying79;have Zk:=Ya Zq;have Zw:=Ya Zr;clear Zq Zr;have HR0_3:=Ya hr0_3;have HC0_3:=Ya hc0_3;clear hr0_3 hc0_3;have HB:=Ya (Yo w.heap.size w);have H:((static_Flowing_From.f Zb Zc Za Zy Zh (!Zv)).bind fun t725=>(some t725))=some r:=h;clear h;replace H:=Option.bind_eq_some_iff.mp H;obtain⟨t725,A30,H⟩:=H;replace H:(some t725)=some r:=H;have A3:=Ya A30;clear A30;obtain rfl:=Option.some.inj H;go_enter Try.func93,Try.ntmps93;go_wp2_with (first|((with_reducible refine gate_dst (N:=2) rfl ?_);refine Yz ?hg (N:=2) ?hd (cs:= #[.int .i64 Zb, .bool Zc, .slice Ze Za.length Zd, .slice Xy Zy.length Xz]) (t:=104) ?hr ?_;(case hd=>rfl);(case hg=>rfl);(case hr=>first|(go_simp;done)|(go_simp;rfl));intro gb723 hg w4 Zg hb;have n0_:=Ya (Yk (by repeat(first|(with_reducible first|exact HB.out|apply Ye|apply Yd|apply Yg)|exact HB.out)) hb);have n1_:=Ya (Zg);have n2_:=Ya ((by rw[hg];exact(Yi (by repeat(first|(with_reducible first|exact HB.out|apply Ye|apply Yd|apply Yg)|exact HB.out))):w.heap.size≤gb723));have n3_:=Ya ((by rw[hg];exact(Yi (by repeat(first|(with_reducible first|exact HB.out|apply Ye|apply Yd|apply Yg)|exact HB.out))):w.heap.size≤gb723));clear HB;have HB:=n0_;have Uo:=n1_;have GW723:=n2_;have GE723:=n3_;clear n0_ n1_ n2_ n3_;clear hb Zg hg)|((with_reducible refine gate_dst (N:=3) rfl ?_);refine Yz ?hg (N:=3) ?hd (cs:= #[.int .i64 Zh, .bool Zv]) (t:=79) ?hr ?_;(case hd=>rfl);(case hg=>rfl);(case hr=>first|(go_simp;done)|(go_simp;rfl));intro gb724 hg w5 Zg hb;have n0_:=Ya (Yn (g:=gb723) (o:= .cells #[.int .i64 Zb, .bool Zc, .slice Ze Za.length Zd, .slice Xy Zy.length Xz] 104 (0,0)) (by(with_reducible repeat(first|refine Yl ?_ _|refine Ym ?_|refine Yj ?_ _));exact Uo.out) hb);have n1_:=Ya (Yk (by repeat(first|(with_reducible first|exact HB.out|apply Ye|apply Yd|apply Yg|refine Yh ?_ GE723.out)|exact HB.out)) hb);have n2_:=Ya (Zg);have n3_:=Ya ((by rw[hg];exact(Yi (by repeat(first|(with_reducible first|exact HB.out|apply Ye|apply Yd|apply Yg|refine Yh ?_ GE723.out)|exact HB.out))):w.heap.size≤gb724));have n4_:=Ya ((by rw[hg];exact(Yi (by repeat(first|(with_reducible first|exact HB.out|apply Ye|apply Yd|apply Yg|refine Yh ?_ GE723.out)|exact HB.out))):w.heap.size≤gb724));have n5_:=Ya ((by rw[hg];exact Nat.ne_of_lt (blk_lt (g:=gb723) (o:= .cells #[.int .i64 Zb, .bool Zc, .slice Ze Za.length Zd, .slice Xy Zy.length Xz] 104 (0,0)) (by(with_reducible repeat(first|refine Yl ?_ _|refine Ym ?_|refine Yj ?_ _));exact Uo.out)):gb723≠gb724));have n6_:=Ya ((by rw[hg];exact Nat.ne_of_gt (blk_lt (g:=gb723) (o:= .cells #[.int .i64 Zb, .bool Zc, .slice Ze Za.length Zd, .slice Xy Zy.length Xz] 104 (0,0)) (by(with_reducible repeat(first|refine Yl ?_ _|refine Ym ?_|refine Yj ?_ _));exact Uo.out)):gb724≠gb723));clear Uo;clear HB;have Uo:=n0_;have HB:=n1_;have BK724:=n2_;have GW724:=n3_;have GE724:=n4_;have NB723_724:=n5_;have NB724_723:=n6_;clear n0_ n1_ n2_ n3_ n4_ n5_ n6_;clear hb Zg hg;have hnb6:=NB724_723.out;have hnc6:=NB723_724.out;have hcz7_0:w5.cell? ⟨gb724,0,none⟩=some (.int .i64 Zh):=(Yc BK724.out 0).trans rfl;have hcz7_1:w5.cell? ⟨gb724,1,none⟩=some (.bool Zv):=(Yc BK724.out 1).trans rfl;have hfz7_0:=Yf BK724.out 0;have hfz7_1:=Yf BK724.out 1;have Vh:w5.cell? ⟨gb723,0,none⟩=some (.int .i64 Zb):=(Yc Uo.out 0).trans rfl;have Vi:w5.cell? ⟨gb723,1,none⟩=some (.bool Zc):=(Yc Uo.out 1).trans rfl;have Vj:w5.cell? ⟨gb723,2,none⟩=some (.slice Ze Za.length Zd):=(Yc Uo.out 2).trans rfl;have hcz8_3:w5.cell? ⟨gb723,3,none⟩=some (.slice Xy Zy.length Xz):=(Yc Uo.out 3).trans rfl;have Vk:=Yf Uo.out 0;have Vl:=Yf Uo.out 1;have Vm:=Yf Uo.out 2;have hfz8_3:=Yf Uo.out 3)|((with_reducible refine gate_callee (f:=87) rfl ?_);refine goesL_ (some 11) rfl rfl Try.func87 (by kernel_rfl) rfl #[.agg #[.int .i64 Zb, .bool Zc, .slice Ze Za.length Zd, .slice Xy Zy.length Xz], .agg #[.int .i64 Zh, .bool (!Zv)]] rfl (by(try simp only[List.map_toArray,List.map_cons,List.map_nil]);first|done|rfl|(simp only[List.length_drop,List.length_take];rfl)) ?_;(with_reducible refine(static_Flowing_From.calls Zb Zc _ _ Za _ _ Zy Zh (!Zv) t725 _ ?side1 ?side2 ?side3 ?side4 A3.out).mono ?_);(case side1=>exact Yt Zk.out (by repeat(first|(with_reducible first|exact HB.out|apply Ye|apply Yd|apply Yg|refine Yh ?_ GE723.out|refine Yh ?_ GE724.out)|exact HB.out)));(case side2=>exact Zw.out);(case side3=>exact Yt HR0_3.out (by repeat(first|(with_reducible first|exact HB.out|apply Ye|apply Yd|apply Yg|refine Yh ?_ GE723.out|refine Yh ?_ GE724.out)|exact HB.out)));(case side4=>exact HC0_3.out);rintro e w9 ⟨rfl,hb⟩;refine⟨_,rfl,?_⟩;have n0_:=Ya (Yn (g:=gb723) (o:= .cells #[.int .i64 Zb, .bool Zc, .slice Ze Za.length Zd, .slice Xy Zy.length Xz] 104 (0,0)) (by(with_reducible repeat(first|refine Yl ?_ _|refine Ym ?_|refine Yj ?_ _));refine blk_far ?_ NB723_724.out _;(with_reducible repeat(first|refine Yl ?_ _|refine Ym ?_|refine Yj ?_ _));exact Uo.out) hb);have n1_:=Ya (Yn (g:=gb724) (o:= .cells #[.int .i64 Zh, .bool (!Zv)] 79 (0,0)) (by(with_reducible repeat(first|refine Yl ?_ _|refine Ym ?_|refine Yj ?_ _));refine YA (cs:= #[.int .i64 Zh, .bool Zv]) ?_ 1 _ rfl;(with_reducible repeat(first|refine Yl ?_ _|refine Ym ?_|refine Yj ?_ _));exact BK724.out) hb);have n2_:=Ya (Yk (by repeat(first|(with_reducible first|exact HB.out|apply Ye|apply Yd|apply Yg|refine Yh ?_ GE723.out|refine Yh ?_ GE724.out)|exact HB.out)) hb);clear Uo;clear BK724;clear HB;have Uo:=n0_;have BK724:=n1_;have HB:=n2_;clear n0_ n1_ n2_;(try clear hb);(try clear hb2);(try clear hk);(try clear hi)));go_ret;exact⟨by first|rfl|(simp[errW_none,errW_some]<;>rfl)|(simp[*,errW_none,errW_some]<;>rfl),by repeat(first|(with_reducible first|exact HB.out|apply Ye|apply Yd|apply Yg|refine Yh ?_ GE723.out|refine Yh ?_ GE724.out)|exact HB.out)⟩
end P
namespace P
attribute [local go_sem] max2_int min2_int max_two min_two max_three min_three max_four min_four
def static_Flowing_Room.f (Zb:Int) (Zc:Bool) (Za:List (S50)) (Zy:List Int) (Zh:Int) (Zv:Bool):Option (Int):=if Zv=true then(if 0≤Zh then(if Zh<(Zy.length:Int) then(some (rd Zy Zh)) else(none)) else(none)) else(if 0≤Zh then(if Zh<(Za.length:Int) then(if Zh<(Zy.length:Int) then(some (wrap64 (((rd_T50 Za Zh).f2) - (rd Zy Zh)))) else(none)) else(none)) else(none))
set_option maxHeartbeats 8000000 in
set_option maxRecDepth 100000 in
theorem static_Flowing_Room.calls (Zb:Int) (Zc:Bool) (Ze:Option Addr) (Zd:Nat) (Za:List (S50)) (Xy:Option Addr) (Xz:Nat) (Zy:List Int) (Zh:Int) (Zv:Bool) (r:Int) (w:World) (Zq:Kd.C k50 w Ze Za.length Za) (Zr:Za.length≤Zd) (hr0_3:Kd.C (Kd.int .i64) w Xy Zy.length Zy) (hc0_3:Zy.length≤Xz) (h:static_Flowing_Room.f Zb Zc Za Zy Zh Zv=some r):
  Calls Try.prog 89 #[.agg #[.int .i64 Zb, .bool Zc, .slice Ze Za.length Zd, .slice Xy Zy.length Xz], .agg #[.int .i64 Zh, .bool Zv]] w fun e w'=>e= .returned (.int .i64 r)∧Below w.heap.size w w':=by
 have hu104:=Try.underlying104;have hu79:=Try.underlying79;have Zk:=Ya Zq;have Zw:=Ya Zr;clear Zq Zr;have HR0_3:=Ya hr0_3;have HC0_3:=Ya hc0_3;clear hr0_3 hc0_3;have HB:=Ya (Yo w.heap.size w);have H:(if Zv=true then(if 0≤Zh then(if Zh<(Zy.length:Int) then(some (rd Zy Zh)) else(none)) else(none)) else(if 0≤Zh then(if Zh<(Za.length:Int) then(if Zh<(Zy.length:Int) then(some (wrap64 (((rd_T50 Za Zh).f2) - (rd Zy Zh)))) else(none)) else(none)) else(none)))=some r:=h;clear h;by_cases c3:Zv=true
 ·subst c3
  have H1:(if 0≤Zh then(if Zh<(Zy.length:Int) then(some (rd Zy Zh)) else(none)) else(none))=some r:=by first|(rw[Yx rfl] at H;exact H)|(rw[Yx trivial] at H;exact H)
  clear H;have H:=H1;clear H1;by_cases c4:0≤Zh
  rotate_left
  ·rw[Yy c4] at H
   exact absurd H (by simp)
  rw[Yx c4] at H;have c4b0:decide (0≤Zh)=true:=Yv c4;clear c4;by_cases c5:Zh<(Zy.length:Int)
  rotate_left
  ·rw[Yy c5] at H
   exact absurd H (by simp)
  rw[Yx c5] at H;have c5b0:decide (Zh<(Zy.length:Int))=true:=Yv c5;clear c5;obtain rfl:=Option.some.inj H;go_enter Try.func89,Try.ntmps89;go_wp2_with (first|((with_reducible refine gate_dst (N:=2) rfl ?_);refine Yz ?hg (N:=2) ?hd (cs:= #[.int .i64 Zb, .bool Zc, .slice Ze Za.length Zd, .slice Xy Zy.length Xz]) (t:=104) ?hr ?_;(case hd=>rfl);(case hg=>rfl);(case hr=>first|(go_simp;done)|(go_simp;rfl));intro Zp hg w6 Zg hb;have n0_:=Ya (Yk (by repeat(first|(with_reducible first|exact HB.out|apply Ye|apply Yd|apply Yg)|exact HB.out)) hb);have n1_:=Ya (Zg);have n2_:=Ya ((by rw[hg];exact(Yi (by repeat(first|(with_reducible first|exact HB.out|apply Ye|apply Yd|apply Yg)|exact HB.out))):w.heap.size≤Zp));have n3_:=Ya ((by rw[hg];exact(Yi (by repeat(first|(with_reducible first|exact HB.out|apply Ye|apply Yd|apply Yg)|exact HB.out))):w.heap.size≤Zp));clear HB;have HB:=n0_;have Zm:=n1_;have GW730:=n2_;have Wz:=n3_;clear n0_ n1_ n2_ n3_;clear hb Zg hg)|((with_reducible refine gate_dst (N:=3) rfl ?_);refine Yz ?hg (N:=3) ?hd (cs:= #[.int .i64 Zh, .bool true]) (t:=79) ?hr ?_;(case hd=>rfl);(case hg=>rfl);(case hr=>first|(go_simp;done)|(go_simp;rfl));intro Xr hg w7 Zg hb;have n0_:=Ya (Yn (g:=Zp) (o:= .cells #[.int .i64 Zb, .bool Zc, .slice Ze Za.length Zd, .slice Xy Zy.length Xz] 104 (0,0)) (by(with_reducible repeat(first|refine Yl ?_ _|refine Ym ?_|refine Yj ?_ _));exact Zm.out) hb);have n1_:=Ya (Yk (by repeat(first|(with_reducible first|exact HB.out|apply Ye|apply Yd|apply Yg|refine Yh ?_ Wz.out)|exact HB.out)) hb);have n2_:=Ya (Zg);have n3_:=Ya ((by rw[hg];exact(Yi (by repeat(first|(with_reducible first|exact HB.out|apply Ye|apply Yd|apply Yg|refine Yh ?_ Wz.out)|exact HB.out))):w.heap.size≤Xr));have n4_:=Ya ((by rw[hg];exact(Yi (by repeat(first|(with_reducible first|exact HB.out|apply Ye|apply Yd|apply Yg|refine Yh ?_ Wz.out)|exact HB.out))):w.heap.size≤Xr));have n5_:=Ya ((by rw[hg];exact Nat.ne_of_lt (blk_lt (g:=Zp) (o:= .cells #[.int .i64 Zb, .bool Zc, .slice Ze Za.length Zd, .slice Xy Zy.length Xz] 104 (0,0)) (by(with_reducible repeat(first|refine Yl ?_ _|refine Ym ?_|refine Yj ?_ _));exact Zm.out)):Zp≠Xr));have n6_:=Ya ((by rw[hg];exact Nat.ne_of_gt (blk_lt (g:=Zp) (o:= .cells #[.int .i64 Zb, .bool Zc, .slice Ze Za.length Zd, .slice Xy Zy.length Xz] 104 (0,0)) (by(with_reducible repeat(first|refine Yl ?_ _|refine Ym ?_|refine Yj ?_ _));exact Zm.out)):Xr≠Zp));clear Zm;clear HB;have Zm:=n0_;have HB:=n1_;have Wn:=n2_;have GW731:=n3_;have GE731:=n4_;have Wr:=n5_;have Ws:=n6_;clear n0_ n1_ n2_ n3_ n4_ n5_ n6_;clear hb Zg hg;have hnb8:=Ws.out;have hnc8:=Wr.out;have hcz9_0:w7.cell? ⟨Xr,0,none⟩=some (.int .i64 Zh):=(Yc Wn.out 0).trans rfl;have hcz9_1:w7.cell? ⟨Xr,1,none⟩=some (.bool true):=(Yc Wn.out 1).trans rfl;have hfz9_0:=Yf Wn.out 0;have hfz9_1:=Yf Wn.out 1;have Va:w7.cell? ⟨Zp,0,none⟩=some (.int .i64 Zb):=(Yc Zm.out 0).trans rfl;have Vb:w7.cell? ⟨Zp,1,none⟩=some (.bool Zc):=(Yc Zm.out 1).trans rfl;have Vc:w7.cell? ⟨Zp,2,none⟩=some (.slice Ze Za.length Zd):=(Yc Zm.out 2).trans rfl;have hcz10_3:w7.cell? ⟨Zp,3,none⟩=some (.slice Xy Zy.length Xz):=(Yc Zm.out 3).trans rfl;have Vd:=Yf Zm.out 0;have Ve:=Yf Zm.out 1;have Vf:=Yf Zm.out 2;have hfz10_3:=Yf Zm.out 3;have p732:0≤(Zh:Int):=Yu (by first|(with_reducible assumption)|assumption);have q732:Zh<(Zy.length:Int):=Yu (by first|(with_reducible assumption)|assumption);obtain⟨ad732,e732,Vv⟩:=Kd.at_int HR0_3.out Zh p732 q732;cases e732;replace Vv:=(HB.out.cell (Yb w _ Vv)).trans Vv;replace p732:=eq_true p732;replace q732:=eq_true q732));repeat(go_quiet (first|((with_reducible refine gate_dst (N:=2) rfl ?_);refine Yz ?hg (N:=2) ?hd (cs:= #[.int .i64 Zb, .bool Zc, .slice Ze Za.length Zd, .slice Xy Zy.length Xz]) (t:=104) ?hr ?_;(case hd=>rfl);(case hg=>rfl);(case hr=>first|(go_simp;done)|(go_simp;rfl));intro Zp hg w6 Zg hb;have n0_:=Ya (Yk (by repeat(first|(with_reducible first|exact HB.out|apply Ye|apply Yd|apply Yg)|exact HB.out)) hb);have n1_:=Ya (Zg);have n2_:=Ya ((by rw[hg];exact(Yi (by repeat(first|(with_reducible first|exact HB.out|apply Ye|apply Yd|apply Yg)|exact HB.out))):w.heap.size≤Zp));have n3_:=Ya ((by rw[hg];exact(Yi (by repeat(first|(with_reducible first|exact HB.out|apply Ye|apply Yd|apply Yg)|exact HB.out))):w.heap.size≤Zp));clear HB;have HB:=n0_;have Zm:=n1_;have GW730:=n2_;have Wz:=n3_;clear n0_ n1_ n2_ n3_;clear hb Zg hg)|((with_reducible refine gate_dst (N:=3) rfl ?_);refine Yz ?hg (N:=3) ?hd (cs:= #[.int .i64 Zh, .bool true]) (t:=79) ?hr ?_;(case hd=>rfl);(case hg=>rfl);(case hr=>first|(go_simp;done)|(go_simp;rfl));intro Xr hg w7 Zg hb;have n0_:=Ya (Yn (g:=Zp) (o:= .cells #[.int .i64 Zb, .bool Zc, .slice Ze Za.length Zd, .slice Xy Zy.length Xz] 104 (0,0)) (by(with_reducible repeat(first|refine Yl ?_ _|refine Ym ?_|refine Yj ?_ _));exact Zm.out) hb);have n1_:=Ya (Yk (by repeat(first|(with_reducible first|exact HB.out|apply Ye|apply Yd|apply Yg|refine Yh ?_ Wz.out)|exact HB.out)) hb);have n2_:=Ya (Zg);have n3_:=Ya ((by rw[hg];exact(Yi (by repeat(first|(with_reducible first|exact HB.out|apply Ye|apply Yd|apply Yg|refine Yh ?_ Wz.out)|exact HB.out))):w.heap.size≤Xr));have n4_:=Ya ((by rw[hg];exact(Yi (by repeat(first|(with_reducible first|exact HB.out|apply Ye|apply Yd|apply Yg|refine Yh ?_ Wz.out)|exact HB.out))):w.heap.size≤Xr));have n5_:=Ya ((by rw[hg];exact Nat.ne_of_lt (blk_lt (g:=Zp) (o:= .cells #[.int .i64 Zb, .bool Zc, .slice Ze Za.length Zd, .slice Xy Zy.length Xz] 104 (0,0)) (by(with_reducible repeat(first|refine Yl ?_ _|refine Ym ?_|refine Yj ?_ _));exact Zm.out)):Zp≠Xr));have n6_:=Ya ((by rw[hg];exact Nat.ne_of_gt (blk_lt (g:=Zp) (o:= .cells #[.int .i64 Zb, .bool Zc, .slice Ze Za.length Zd, .slice Xy Zy.length Xz] 104 (0,0)) (by(with_reducible repeat(first|refine Yl ?_ _|refine Ym ?_|refine Yj ?_ _));exact Zm.out)):Xr≠Zp));clear Zm;clear HB;have Zm:=n0_;have HB:=n1_;have Wn:=n2_;have GW731:=n3_;have GE731:=n4_;have Wr:=n5_;have Ws:=n6_;clear n0_ n1_ n2_ n3_ n4_ n5_ n6_;clear hb Zg hg;have hnb8:=Ws.out;have hnc8:=Wr.out;have hcz9_0:w7.cell? ⟨Xr,0,none⟩=some (.int .i64 Zh):=(Yc Wn.out 0).trans rfl;have hcz9_1:w7.cell? ⟨Xr,1,none⟩=some (.bool true):=(Yc Wn.out 1).trans rfl;have hfz9_0:=Yf Wn.out 0;have hfz9_1:=Yf Wn.out 1;have Va:w7.cell? ⟨Zp,0,none⟩=some (.int .i64 Zb):=(Yc Zm.out 0).trans rfl;have Vb:w7.cell? ⟨Zp,1,none⟩=some (.bool Zc):=(Yc Zm.out 1).trans rfl;have Vc:w7.cell? ⟨Zp,2,none⟩=some (.slice Ze Za.length Zd):=(Yc Zm.out 2).trans rfl;have hcz10_3:w7.cell? ⟨Zp,3,none⟩=some (.slice Xy Zy.length Xz):=(Yc Zm.out 3).trans rfl;have Vd:=Yf Zm.out 0;have Ve:=Yf Zm.out 1;have Vf:=Yf Zm.out 2;have hfz10_3:=Yf Zm.out 3;have p732:0≤(Zh:Int):=Yu (by first|(with_reducible assumption)|assumption);have q732:Zh<(Zy.length:Int):=Yu (by first|(with_reducible assumption)|assumption);obtain⟨ad732,e732,Vv⟩:=Kd.at_int HR0_3.out Zh p732 q732;cases e732;replace Vv:=(HB.out.cell (Yb w _ Vv)).trans Vv;replace p732:=eq_true p732;replace q732:=eq_true q732));try go_wp2_with (first|((with_reducible refine gate_dst (N:=2) rfl ?_);refine Yz ?hg (N:=2) ?hd (cs:= #[.int .i64 Zb, .bool Zc, .slice Ze Za.length Zd, .slice Xy Zy.length Xz]) (t:=104) ?hr ?_;(case hd=>rfl);(case hg=>rfl);(case hr=>first|(go_simp;done)|(go_simp;rfl));intro Zp hg w6 Zg hb;have n0_:=Ya (Yk (by repeat(first|(with_reducible first|exact HB.out|apply Ye|apply Yd|apply Yg)|exact HB.out)) hb);have n1_:=Ya (Zg);have n2_:=Ya ((by rw[hg];exact(Yi (by repeat(first|(with_reducible first|exact HB.out|apply Ye|apply Yd|apply Yg)|exact HB.out))):w.heap.size≤Zp));have n3_:=Ya ((by rw[hg];exact(Yi (by repeat(first|(with_reducible first|exact HB.out|apply Ye|apply Yd|apply Yg)|exact HB.out))):w.heap.size≤Zp));clear HB;have HB:=n0_;have Zm:=n1_;have GW730:=n2_;have Wz:=n3_;clear n0_ n1_ n2_ n3_;clear hb Zg hg)|((with_reducible refine gate_dst (N:=3) rfl ?_);refine Yz ?hg (N:=3) ?hd (cs:= #[.int .i64 Zh, .bool true]) (t:=79) ?hr ?_;(case hd=>rfl);(case hg=>rfl);(case hr=>first|(go_simp;done)|(go_simp;rfl));intro Xr hg w7 Zg hb;have n0_:=Ya (Yn (g:=Zp) (o:= .cells #[.int .i64 Zb, .bool Zc, .slice Ze Za.length Zd, .slice Xy Zy.length Xz] 104 (0,0)) (by(with_reducible repeat(first|refine Yl ?_ _|refine Ym ?_|refine Yj ?_ _));exact Zm.out) hb);have n1_:=Ya (Yk (by repeat(first|(with_reducible first|exact HB.out|apply Ye|apply Yd|apply Yg|refine Yh ?_ Wz.out)|exact HB.out)) hb);have n2_:=Ya (Zg);have n3_:=Ya ((by rw[hg];exact(Yi (by repeat(first|(with_reducible first|exact HB.out|apply Ye|apply Yd|apply Yg|refine Yh ?_ Wz.out)|exact HB.out))):w.heap.size≤Xr));have n4_:=Ya ((by rw[hg];exact(Yi (by repeat(first|(with_reducible first|exact HB.out|apply Ye|apply Yd|apply Yg|refine Yh ?_ Wz.out)|exact HB.out))):w.heap.size≤Xr));have n5_:=Ya ((by rw[hg];exact Nat.ne_of_lt (blk_lt (g:=Zp) (o:= .cells #[.int .i64 Zb, .bool Zc, .slice Ze Za.length Zd, .slice Xy Zy.length Xz] 104 (0,0)) (by(with_reducible repeat(first|refine Yl ?_ _|refine Ym ?_|refine Yj ?_ _));exact Zm.out)):Zp≠Xr));have n6_:=Ya ((by rw[hg];exact Nat.ne_of_gt (blk_lt (g:=Zp) (o:= .cells #[.int .i64 Zb, .bool Zc, .slice Ze Za.length Zd, .slice Xy Zy.length Xz] 104 (0,0)) (by(with_reducible repeat(first|refine Yl ?_ _|refine Ym ?_|refine Yj ?_ _));exact Zm.out)):Xr≠Zp));clear Zm;clear HB;have Zm:=n0_;have HB:=n1_;have Wn:=n2_;have GW731:=n3_;have GE731:=n4_;have Wr:=n5_;have Ws:=n6_;clear n0_ n1_ n2_ n3_ n4_ n5_ n6_;clear hb Zg hg;have hnb8:=Ws.out;have hnc8:=Wr.out;have hcz9_0:w7.cell? ⟨Xr,0,none⟩=some (.int .i64 Zh):=(Yc Wn.out 0).trans rfl;have hcz9_1:w7.cell? ⟨Xr,1,none⟩=some (.bool true):=(Yc Wn.out 1).trans rfl;have hfz9_0:=Yf Wn.out 0;have hfz9_1:=Yf Wn.out 1;have Va:w7.cell? ⟨Zp,0,none⟩=some (.int .i64 Zb):=(Yc Zm.out 0).trans rfl;have Vb:w7.cell? ⟨Zp,1,none⟩=some (.bool Zc):=(Yc Zm.out 1).trans rfl;have Vc:w7.cell? ⟨Zp,2,none⟩=some (.slice Ze Za.length Zd):=(Yc Zm.out 2).trans rfl;have hcz10_3:w7.cell? ⟨Zp,3,none⟩=some (.slice Xy Zy.length Xz):=(Yc Zm.out 3).trans rfl;have Vd:=Yf Zm.out 0;have Ve:=Yf Zm.out 1;have Vf:=Yf Zm.out 2;have hfz10_3:=Yf Zm.out 3;have p732:0≤(Zh:Int):=Yu (by first|(with_reducible assumption)|assumption);have q732:Zh<(Zy.length:Int):=Yu (by first|(with_reducible assumption)|assumption);obtain⟨ad732,e732,Vv⟩:=Kd.at_int HR0_3.out Zh p732 q732;cases e732;replace Vv:=(HB.out.cell (Yb w _ Vv)).trans Vv;replace p732:=eq_true p732;replace q732:=eq_true q732)))
  go_ret;exact⟨by first|rfl|(simp[errW_none,errW_some]<;>rfl)|(simp[*,errW_none,errW_some]<;>rfl),by repeat(first|(with_reducible first|exact HB.out|apply Ye|apply Yd|apply Yg|refine Yh ?_ Wz.out|refine Yh ?_ GE731.out)|exact HB.out)⟩
 replace c3:=Bool.eq_false_iff.mpr c3;subst c3;have H1:(if 0≤Zh then(if Zh<(Za.length:Int) then(if Zh<(Zy.length:Int) then(some (wrap64 (((rd_T50 Za Zh).f2) - (rd Zy Zh)))) else(none)) else(none)) else(none))=some r:=by rw[Yy (show ¬ (false=true) by decide)] at H;exact H
 clear H;have H:=H1;clear H1;by_cases c11:0≤Zh
 rotate_left
 ·rw[Yy c11] at H
  exact absurd H (by simp)
 rw[Yx c11] at H;have c11b0:decide (0≤Zh)=true:=Yv c11;clear c11;by_cases c12:Zh<(Za.length:Int)
 rotate_left
 ·rw[Yy c12] at H
  exact absurd H (by simp)
 rw[Yx c12] at H;have c12b0:decide (Zh<(Za.length:Int))=true:=Yv c12;clear c12;by_cases c13:Zh<(Zy.length:Int)
 rotate_left
 ·rw[Yy c13] at H
  exact absurd H (by simp)
 rw[Yx c13] at H;have c13b0:decide (Zh<(Zy.length:Int))=true:=Yv c13;clear c13;obtain rfl:=Option.some.inj H;go_enter Try.func89,Try.ntmps89;go_wp2_with (first|((with_reducible refine gate_dst (N:=2) rfl ?_);refine Yz ?hg (N:=2) ?hd (cs:= #[.int .i64 Zb, .bool Zc, .slice Ze Za.length Zd, .slice Xy Zy.length Xz]) (t:=104) ?hr ?_;(case hd=>rfl);(case hg=>rfl);(case hr=>first|(go_simp;done)|(go_simp;rfl));intro Zp hg w14 Zg hb;have n0_:=Ya (Yk (by repeat(first|(with_reducible first|exact HB.out|apply Ye|apply Yd|apply Yg)|exact HB.out)) hb);have n1_:=Ya (Zg);have n2_:=Ya ((by rw[hg];exact(Yi (by repeat(first|(with_reducible first|exact HB.out|apply Ye|apply Yd|apply Yg)|exact HB.out))):w.heap.size≤Zp));have n3_:=Ya ((by rw[hg];exact(Yi (by repeat(first|(with_reducible first|exact HB.out|apply Ye|apply Yd|apply Yg)|exact HB.out))):w.heap.size≤Zp));clear HB;have HB:=n0_;have Zm:=n1_;have GW730:=n2_;have Wz:=n3_;clear n0_ n1_ n2_ n3_;clear hb Zg hg)|((with_reducible refine gate_dst (N:=3) rfl ?_);refine Yz ?hg (N:=3) ?hd (cs:= #[.int .i64 Zh, .bool false]) (t:=79) ?hr ?_;(case hd=>rfl);(case hg=>rfl);(case hr=>first|(go_simp;done)|(go_simp;rfl));intro Xr hg w15 Zg hb;have n0_:=Ya (Yn (g:=Zp) (o:= .cells #[.int .i64 Zb, .bool Zc, .slice Ze Za.length Zd, .slice Xy Zy.length Xz] 104 (0,0)) (by(with_reducible repeat(first|refine Yl ?_ _|refine Ym ?_|refine Yj ?_ _));exact Zm.out) hb);have n1_:=Ya (Yk (by repeat(first|(with_reducible first|exact HB.out|apply Ye|apply Yd|apply Yg|refine Yh ?_ Wz.out)|exact HB.out)) hb);have n2_:=Ya (Zg);have n3_:=Ya ((by rw[hg];exact(Yi (by repeat(first|(with_reducible first|exact HB.out|apply Ye|apply Yd|apply Yg|refine Yh ?_ Wz.out)|exact HB.out))):w.heap.size≤Xr));have n4_:=Ya ((by rw[hg];exact(Yi (by repeat(first|(with_reducible first|exact HB.out|apply Ye|apply Yd|apply Yg|refine Yh ?_ Wz.out)|exact HB.out))):w.heap.size≤Xr));have n5_:=Ya ((by rw[hg];exact Nat.ne_of_lt (blk_lt (g:=Zp) (o:= .cells #[.int .i64 Zb, .bool Zc, .slice Ze Za.length Zd, .slice Xy Zy.length Xz] 104 (0,0)) (by(with_reducible repeat(first|refine Yl ?_ _|refine Ym ?_|refine Yj ?_ _));exact Zm.out)):Zp≠Xr));have n6_:=Ya ((by rw[hg];exact Nat.ne_of_gt (blk_lt (g:=Zp) (o:= .cells #[.int .i64 Zb, .bool Zc, .slice Ze Za.length Zd, .slice Xy Zy.length Xz] 104 (0,0)) (by(with_reducible repeat(first|refine Yl ?_ _|refine Ym ?_|refine Yj ?_ _));exact Zm.out)):Xr≠Zp));clear Zm;clear HB;have Zm:=n0_;have HB:=n1_;have Wn:=n2_;have GW731:=n3_;have GE731:=n4_;have Wr:=n5_;have Ws:=n6_;clear n0_ n1_ n2_ n3_ n4_ n5_ n6_;clear hb Zg hg;have hnb16:=Ws.out;have hnc16:=Wr.out;have Ji:w15.cell? ⟨Xr,0,none⟩=some (.int .i64 Zh):=(Yc Wn.out 0).trans rfl;have Jj:w15.cell? ⟨Xr,1,none⟩=some (.bool false):=(Yc Wn.out 1).trans rfl;have Jk:=Yf Wn.out 0;have Jl:=Yf Wn.out 1;have hcz18_0:w15.cell? ⟨Zp,0,none⟩=some (.int .i64 Zb):=(Yc Zm.out 0).trans rfl;have hcz18_1:w15.cell? ⟨Zp,1,none⟩=some (.bool Zc):=(Yc Zm.out 1).trans rfl;have hcz18_2:w15.cell? ⟨Zp,2,none⟩=some (.slice Ze Za.length Zd):=(Yc Zm.out 2).trans rfl;have hcz18_3:w15.cell? ⟨Zp,3,none⟩=some (.slice Xy Zy.length Xz):=(Yc Zm.out 3).trans rfl;have hfz18_0:=Yf Zm.out 0;have hfz18_1:=Yf Zm.out 1;have hfz18_2:=Yf Zm.out 2;have hfz18_3:=Yf Zm.out 3;have p733:0≤(Zh:Int):=Yu (by first|(with_reducible assumption)|assumption);have q733:Zh<(Za.length:Int):=Yu (by first|(with_reducible assumption)|assumption);obtain⟨ad733,e733,Vw,Vx,Vy,Vz⟩:=at_T50 Zk.out Zh p733 q733;cases e733;replace Vw:=(HB.out.cell (Yb w _ Vw)).trans Vw;replace Vx:=(HB.out.cell (Yb w _ Vx)).trans Vx;replace Vy:=(HB.out.cell (Yb w _ Vy)).trans Vy;replace Vz:=(HB.out.cell (Yb w _ Vz)).trans Vz;replace p733:=eq_true p733;replace q733:=eq_true q733;have p734:0≤(Zh:Int):=Yu (by first|(with_reducible assumption)|assumption);have q734:Zh<(Zy.length:Int):=Yu (by first|(with_reducible assumption)|assumption);obtain⟨ad734,e734,Ua⟩:=Kd.at_int HR0_3.out Zh p734 q734;cases e734;replace Ua:=(HB.out.cell (Yb w _ Ua)).trans Ua;replace p734:=eq_true p734;replace q734:=eq_true q734));repeat(go_quiet (first|((with_reducible refine gate_dst (N:=2) rfl ?_);refine Yz ?hg (N:=2) ?hd (cs:= #[.int .i64 Zb, .bool Zc, .slice Ze Za.length Zd, .slice Xy Zy.length Xz]) (t:=104) ?hr ?_;(case hd=>rfl);(case hg=>rfl);(case hr=>first|(go_simp;done)|(go_simp;rfl));intro Zp hg w14 Zg hb;have n0_:=Ya (Yk (by repeat(first|(with_reducible first|exact HB.out|apply Ye|apply Yd|apply Yg)|exact HB.out)) hb);have n1_:=Ya (Zg);have n2_:=Ya ((by rw[hg];exact(Yi (by repeat(first|(with_reducible first|exact HB.out|apply Ye|apply Yd|apply Yg)|exact HB.out))):w.heap.size≤Zp));have n3_:=Ya ((by rw[hg];exact(Yi (by repeat(first|(with_reducible first|exact HB.out|apply Ye|apply Yd|apply Yg)|exact HB.out))):w.heap.size≤Zp));clear HB;have HB:=n0_;have Zm:=n1_;have GW730:=n2_;have Wz:=n3_;clear n0_ n1_ n2_ n3_;clear hb Zg hg)|((with_reducible refine gate_dst (N:=3) rfl ?_);refine Yz ?hg (N:=3) ?hd (cs:= #[.int .i64 Zh, .bool false]) (t:=79) ?hr ?_;(case hd=>rfl);(case hg=>rfl);(case hr=>first|(go_simp;done)|(go_simp;rfl));intro Xr hg w15 Zg hb;have n0_:=Ya (Yn (g:=Zp) (o:= .cells #[.int .i64 Zb, .bool Zc, .slice Ze Za.length Zd, .slice Xy Zy.length Xz] 104 (0,0)) (by(with_reducible repeat(first|refine Yl ?_ _|refine Ym ?_|refine Yj ?_ _));exact Zm.out) hb);have n1_:=Ya (Yk (by repeat(first|(with_reducible first|exact HB.out|apply Ye|apply Yd|apply Yg|refine Yh ?_ Wz.out)|exact HB.out)) hb);have n2_:=Ya (Zg);have n3_:=Ya ((by rw[hg];exact(Yi (by repeat(first|(with_reducible first|exact HB.out|apply Ye|apply Yd|apply Yg|refine Yh ?_ Wz.out)|exact HB.out))):w.heap.size≤Xr));have n4_:=Ya ((by rw[hg];exact(Yi (by repeat(first|(with_reducible first|exact HB.out|apply Ye|apply Yd|apply Yg|refine Yh ?_ Wz.out)|exact HB.out))):w.heap.size≤Xr));have n5_:=Ya ((by rw[hg];exact Nat.ne_of_lt (blk_lt (g:=Zp) (o:= .cells #[.int .i64 Zb, .bool Zc, .slice Ze Za.length Zd, .slice Xy Zy.length Xz] 104 (0,0)) (by(with_reducible repeat(first|refine Yl ?_ _|refine Ym ?_|refine Yj ?_ _));exact Zm.out)):Zp≠Xr));have n6_:=Ya ((by rw[hg];exact Nat.ne_of_gt (blk_lt (g:=Zp) (o:= .cells #[.int .i64 Zb, .bool Zc, .slice Ze Za.length Zd, .slice Xy Zy.length Xz] 104 (0,0)) (by(with_reducible repeat(first|refine Yl ?_ _|refine Ym ?_|refine Yj ?_ _));exact Zm.out)):Xr≠Zp));clear Zm;clear HB;have Zm:=n0_;have HB:=n1_;have Wn:=n2_;have GW731:=n3_;have GE731:=n4_;have Wr:=n5_;have Ws:=n6_;clear n0_ n1_ n2_ n3_ n4_ n5_ n6_;clear hb Zg hg;have hnb16:=Ws.out;have hnc16:=Wr.out;have Ji:w15.cell? ⟨Xr,0,none⟩=some (.int .i64 Zh):=(Yc Wn.out 0).trans rfl;have Jj:w15.cell? ⟨Xr,1,none⟩=some (.bool false):=(Yc Wn.out 1).trans rfl;have Jk:=Yf Wn.out 0;have Jl:=Yf Wn.out 1;have hcz18_0:w15.cell? ⟨Zp,0,none⟩=some (.int .i64 Zb):=(Yc Zm.out 0).trans rfl;have hcz18_1:w15.cell? ⟨Zp,1,none⟩=some (.bool Zc):=(Yc Zm.out 1).trans rfl;have hcz18_2:w15.cell? ⟨Zp,2,none⟩=some (.slice Ze Za.length Zd):=(Yc Zm.out 2).trans rfl;have hcz18_3:w15.cell? ⟨Zp,3,none⟩=some (.slice Xy Zy.length Xz):=(Yc Zm.out 3).trans rfl;have hfz18_0:=Yf Zm.out 0;have hfz18_1:=Yf Zm.out 1;have hfz18_2:=Yf Zm.out 2;have hfz18_3:=Yf Zm.out 3;have p733:0≤(Zh:Int):=Yu (by first|(with_reducible assumption)|assumption);have q733:Zh<(Za.length:Int):=Yu (by first|(with_reducible assumption)|assumption);obtain⟨ad733,e733,Vw,Vx,Vy,Vz⟩:=at_T50 Zk.out Zh p733 q733;cases e733;replace Vw:=(HB.out.cell (Yb w _ Vw)).trans Vw;replace Vx:=(HB.out.cell (Yb w _ Vx)).trans Vx;replace Vy:=(HB.out.cell (Yb w _ Vy)).trans Vy;replace Vz:=(HB.out.cell (Yb w _ Vz)).trans Vz;replace p733:=eq_true p733;replace q733:=eq_true q733;have p734:0≤(Zh:Int):=Yu (by first|(with_reducible assumption)|assumption);have q734:Zh<(Zy.length:Int):=Yu (by first|(with_reducible assumption)|assumption);obtain⟨ad734,e734,Ua⟩:=Kd.at_int HR0_3.out Zh p734 q734;cases e734;replace Ua:=(HB.out.cell (Yb w _ Ua)).trans Ua;replace p734:=eq_true p734;replace q734:=eq_true q734));try go_wp2_with (first|((with_reducible refine gate_dst (N:=2) rfl ?_);refine Yz ?hg (N:=2) ?hd (cs:= #[.int .i64 Zb, .bool Zc, .slice Ze Za.length Zd, .slice Xy Zy.length Xz]) (t:=104) ?hr ?_;(case hd=>rfl);(case hg=>rfl);(case hr=>first|(go_simp;done)|(go_simp;rfl));intro Zp hg w14 Zg hb;have n0_:=Ya (Yk (by repeat(first|(with_reducible first|exact HB.out|apply Ye|apply Yd|apply Yg)|exact HB.out)) hb);have n1_:=Ya (Zg);have n2_:=Ya ((by rw[hg];exact(Yi (by repeat(first|(with_reducible first|exact HB.out|apply Ye|apply Yd|apply Yg)|exact HB.out))):w.heap.size≤Zp));have n3_:=Ya ((by rw[hg];exact(Yi (by repeat(first|(with_reducible first|exact HB.out|apply Ye|apply Yd|apply Yg)|exact HB.out))):w.heap.size≤Zp));clear HB;have HB:=n0_;have Zm:=n1_;have GW730:=n2_;have Wz:=n3_;clear n0_ n1_ n2_ n3_;clear hb Zg hg)|((with_reducible refine gate_dst (N:=3) rfl ?_);refine Yz ?hg (N:=3) ?hd (cs:= #[.int .i64 Zh, .bool false]) (t:=79) ?hr ?_;(case hd=>rfl);(case hg=>rfl);(case hr=>first|(go_simp;done)|(go_simp;rfl));intro Xr hg w15 Zg hb;have n0_:=Ya (Yn (g:=Zp) (o:= .cells #[.int .i64 Zb, .bool Zc, .slice Ze Za.length Zd, .slice Xy Zy.length Xz] 104 (0,0)) (by(with_reducible repeat(first|refine Yl ?_ _|refine Ym ?_|refine Yj ?_ _));exact Zm.out) hb);have n1_:=Ya (Yk (by repeat(first|(with_reducible first|exact HB.out|apply Ye|apply Yd|apply Yg|refine Yh ?_ Wz.out)|exact HB.out)) hb);have n2_:=Ya (Zg);have n3_:=Ya ((by rw[hg];exact(Yi (by repeat(first|(with_reducible first|exact HB.out|apply Ye|apply Yd|apply Yg|refine Yh ?_ Wz.out)|exact HB.out))):w.heap.size≤Xr));have n4_:=Ya ((by rw[hg];exact(Yi (by repeat(first|(with_reducible first|exact HB.out|apply Ye|apply Yd|apply Yg|refine Yh ?_ Wz.out)|exact HB.out))):w.heap.size≤Xr));have n5_:=Ya ((by rw[hg];exact Nat.ne_of_lt (blk_lt (g:=Zp) (o:= .cells #[.int .i64 Zb, .bool Zc, .slice Ze Za.length Zd, .slice Xy Zy.length Xz] 104 (0,0)) (by(with_reducible repeat(first|refine Yl ?_ _|refine Ym ?_|refine Yj ?_ _));exact Zm.out)):Zp≠Xr));have n6_:=Ya ((by rw[hg];exact Nat.ne_of_gt (blk_lt (g:=Zp) (o:= .cells #[.int .i64 Zb, .bool Zc, .slice Ze Za.length Zd, .slice Xy Zy.length Xz] 104 (0,0)) (by(with_reducible repeat(first|refine Yl ?_ _|refine Ym ?_|refine Yj ?_ _));exact Zm.out)):Xr≠Zp));clear Zm;clear HB;have Zm:=n0_;have HB:=n1_;have Wn:=n2_;have GW731:=n3_;have GE731:=n4_;have Wr:=n5_;have Ws:=n6_;clear n0_ n1_ n2_ n3_ n4_ n5_ n6_;clear hb Zg hg;have hnb16:=Ws.out;have hnc16:=Wr.out;have Ji:w15.cell? ⟨Xr,0,none⟩=some (.int .i64 Zh):=(Yc Wn.out 0).trans rfl;have Jj:w15.cell? ⟨Xr,1,none⟩=some (.bool false):=(Yc Wn.out 1).trans rfl;have Jk:=Yf Wn.out 0;have Jl:=Yf Wn.out 1;have hcz18_0:w15.cell? ⟨Zp,0,none⟩=some (.int .i64 Zb):=(Yc Zm.out 0).trans rfl;have hcz18_1:w15.cell? ⟨Zp,1,none⟩=some (.bool Zc):=(Yc Zm.out 1).trans rfl;have hcz18_2:w15.cell? ⟨Zp,2,none⟩=some (.slice Ze Za.length Zd):=(Yc Zm.out 2).trans rfl;have hcz18_3:w15.cell? ⟨Zp,3,none⟩=some (.slice Xy Zy.length Xz):=(Yc Zm.out 3).trans rfl;have hfz18_0:=Yf Zm.out 0;have hfz18_1:=Yf Zm.out 1;have hfz18_2:=Yf Zm.out 2;have hfz18_3:=Yf Zm.out 3;have p733:0≤(Zh:Int):=Yu (by first|(with_reducible assumption)|assumption);have q733:Zh<(Za.length:Int):=Yu (by first|(with_reducible assumption)|assumption);obtain⟨ad733,e733,Vw,Vx,Vy,Vz⟩:=at_T50 Zk.out Zh p733 q733;cases e733;replace Vw:=(HB.out.cell (Yb w _ Vw)).trans Vw;replace Vx:=(HB.out.cell (Yb w _ Vx)).trans Vx;replace Vy:=(HB.out.cell (Yb w _ Vy)).trans Vy;replace Vz:=(HB.out.cell (Yb w _ Vz)).trans Vz;replace p733:=eq_true p733;replace q733:=eq_true q733;have p734:0≤(Zh:Int):=Yu (by first|(with_reducible assumption)|assumption);have q734:Zh<(Zy.length:Int):=Yu (by first|(with_reducible assumption)|assumption);obtain⟨ad734,e734,Ua⟩:=Kd.at_int HR0_3.out Zh p734 q734;cases e734;replace Ua:=(HB.out.cell (Yb w _ Ua)).trans Ua;replace p734:=eq_true p734;replace q734:=eq_true q734)))
 go_ret;exact⟨by first|rfl|(simp[errW_none,errW_some]<;>rfl)|(simp[*,errW_none,errW_some]<;>rfl),by repeat(first|(with_reducible first|exact HB.out|apply Ye|apply Yd|apply Yg|refine Yh ?_ Wz.out|refine Yh ?_ GE731.out)|exact HB.out)⟩
end P
namespace H
abbrev Ed:=Nat × Nat × Int
abbrev Tm:=Nat→Option Int
def trig (σ:Tm) (e:Ed):Bool:=
 match σ e.1 with
 |none=>false
 |some x=>match σ e.2.1 with
  |none=>true
  |some y=>decide (x+e.2.2<y)
def relax (σ:Tm) (e:Ed):Tm:=if trig σ e then(fun v=>if v=e.2.1 then some ((σ e.1).getD 0+e.2.2) else σ v) else σ
def Bet (σ τ:Tm):Prop:= ∀ v y,τ v=some y→ ∃ x,σ v=some x∧x≤y
theorem Bet.refl (σ:Tm):Bet σ σ:=fun _ y h=>⟨y,h,Int.le_refl _⟩
theorem Bet.trans {a b c:Tm} (h1:Bet a b) (h2:Bet b c):Bet a c:=fun v y h=>by
 obtain⟨x,hx,hl⟩:=h2 v y h;obtain⟨z,hz,hm⟩:=h1 v x hx;exact⟨z,hz,Int.le_trans hm hl⟩
theorem relax_off {σ:Tm} {e:Ed} (h:trig σ e=false):relax σ e=σ:=by unfold relax;rw[h];rfl
theorem trig_some {σ:Tm} {e:Ed} (h:trig σ e=true): ∃ x,σ e.1=some x∧ ∀ y,σ e.2.1=some y→x+e.2.2<y:=by
 unfold trig at h;cases h1:σ e.1 with
 |none=>rw[h1] at h;cases h
 |some x=>
  rw[h1] at h;refine⟨x,rfl,fun y hy=> ?_⟩;rw[hy] at h;exact Yu h
theorem trig_off {σ:Tm} {e:Ed} (h:trig σ e=false) {x:Int} (hx:σ e.1=some x): ∃ y,σ e.2.1=some y∧y≤x+e.2.2:=by
 unfold trig at h;rw[hx] at h;cases h2:σ e.2.1 with
 |none=>rw[h2] at h;cases h
 |some y=>
  rw[h2] at h;have:=of_decide_eq_false h;exact⟨y,rfl,by omega⟩
theorem relax_on {σ:Tm} {e:Ed} (h:trig σ e=true) {x:Int} (hx:σ e.1=some x) (v:Nat):relax σ e v=if v=e.2.1 then some (x+e.2.2) else σ v:=by
 unfold relax;rw[Yx h,hx];rfl
theorem relax_bet (σ:Tm) (e:Ed):Bet (relax σ e) σ:=by
 cases h:trig σ e with
 |false=>rw[relax_off h];exact Bet.refl _
 |true=>
  obtain⟨x,hx,hl⟩:=trig_some h;intro v y hy;rw[relax_on h hx];by_cases hv:v=e.2.1
  ·subst hv
   rw[Yx rfl];have:=hl y hy;exact⟨_,rfl,by omega⟩
  ·rw[Yy hv]
   exact⟨y,hy,Int.le_refl _⟩
theorem relax_hits {σ:Tm} {e:Ed} {x:Int} (hx:σ e.1=some x): ∃ y,relax σ e e.2.1=some y∧y≤x+e.2.2:=by
 cases h:trig σ e with
 |false=>rw[relax_off h];exact trig_off h hx
 |true=>rw[relax_on h hx,Yx rfl];exact⟨_,rfl,Int.le_refl _⟩
def pass (E:List Ed) (σ:Tm):Tm:=E.foldl relax σ
theorem pass_bet (E:List Ed) (σ:Tm):Bet (pass E σ) σ:=by
 induction E generalizing σ with
 |nil=>exact Bet.refl _
 |cons e E ih=>exact(ih (relax σ e)).trans (relax_bet σ e)
theorem pass_hits {E:List Ed} {e:Ed} (he:e∈E) {σ:Tm} {x:Int} (hx:σ e.1=some x): ∃ y,pass E σ e.2.1=some y∧y≤x+e.2.2:=by
 induction E generalizing σ x with
 |nil=>cases he
 |cons h E ih=>
  rcases List.mem_cons.1 he with rfl|he
  ·obtain⟨y,hy,hl⟩:=relax_hits hx
   obtain⟨z,hz,hm⟩:=pass_bet E (relax σ e) _ y hy;exact⟨z,hz,by omega⟩
  ·obtain⟨x',hx',hl⟩:=relax_bet σ h _ x hx
   obtain⟨y,hy,hm⟩:=ih he hx';exact⟨y,hy,by omega⟩
def Path (E:List Ed):Nat→List Ed→Nat→Prop
 |a,[],b=>a=b
 |a,e::l,b=>e∈E∧e.1=a∧Path E e.2.1 l b
def long:List Ed→Int
 |[]=>0
 |e::l=>e.2.2+long l
theorem long_app (l m:List Ed):long (l ++ m)=long l+long m:=by
 induction l with
 |nil=>simp[long]
 |cons e l ih=>simp only[List.cons_append,long,ih];omega
def its (E:List Ed):Nat→Tm→Tm
 |0,σ=>σ
 |k+1,σ=>its E k (pass E σ)
structure NoGain (E:List Ed) (r:Nat→Prop):Prop where
 on: ∀ e,e∈E→r e.1→r e.2.1
 cyc: ∀ (a:Nat) (l:List Ed),r a→Path E a l a→0≤long l
def visits (a:Nat) (l:List Ed):List Nat:=a::l.map (fun e=>e.2.1)
theorem path_split {E:List Ed} {a b x:Nat} {l:List Ed} (h:Path E a l b) (hx:x∈visits a l): ∃ l1 l2,l=l1 ++ l2∧Path E a l1 x∧Path E x l2 b:=by
 induction l generalizing a with
 |nil=>
  rcases List.mem_cons.1 hx with rfl|hx
  ·exact⟨[],[],rfl,rfl,h⟩
  ·cases hx
 |cons e l ih=>
  rcases List.mem_cons.1 hx with rfl|hx
  ·exact⟨[],e::l,rfl,rfl,h⟩
  ·obtain⟨he,hu,hp⟩:=h
   have hx':x∈visits e.2.1 l:=by simpa [visits] using hx
   obtain⟨l1,l2,e1,h1,h2⟩:=ih hp hx';exact⟨e::l1,l2,by rw[e1];rfl,⟨he,hu,h1⟩,h2⟩
theorem cut_or {E:List Ed} {r:Nat→Prop} (ht:NoGain E r) {a b:Nat} {l:List Ed} (h:Path E a l b) (ha:r a):
  (∃ l',l'.length<l.length∧Path E a l' b∧long l'≤long l)∨(visits a l).Nodup:=by
 induction l generalizing a with
 |nil=>right;simp[visits]
 |cons e l ih=>
  obtain⟨he,hu,hp⟩:=h;have hr:=ht.on e he (hu▸ha);by_cases hm:a∈visits e.2.1 l
  ·left
   obtain⟨l1,l2,e1,h1,h2⟩:=path_split hp hm;refine⟨l2,by rw[e1];simp;omega,h2,?_⟩;have hc:=ht.cyc a (e::l1) ha ⟨he,hu,h1⟩;rw[e1];simp only[long,long_app] at hc ⊢;omega
  ·rcases ih hp hr with ⟨l',h1,h2,h3⟩|hn
   ·left
    refine⟨e::l',by simp;omega,⟨he,hu,h2⟩,?_⟩;simp only[long];omega
   ·right
    show (a::visits e.2.1 l).Nodup;exact List.nodup_cons.2 ⟨hm,hn⟩
theorem pigeon (n:Nat): ∀ L:List Nat,L.Nodup→(∀ x,x∈L→x<n)→L.length≤n:=by
 induction n with
 |zero=>
  intro L _ h;cases L with
  |nil=>simp
  |cons x L=>exact absurd (h x List.mem_cons_self) (Nat.not_lt_zero _)
 |succ n ih=>
  intro L hn h;by_cases hm:n∈L
  ·have h1:=ih (L.erase n) (hn.erase n) (fun x hx=>by
    have h2:=(hn.mem_erase_iff).1 hx;have:=h x h2.2;have:=h2.1;omega)
   rw[List.length_erase_of_mem hm] at h1;omega
  ·have:=ih L hn (fun x hx=>by
    have h1:=h x hx;have:x≠n:=fun e=>hm (e▸hx)
    omega)
   omega
theorem path_nodes {E:List Ed} {n:Nat} (hE: ∀ e,e∈E→e.1<n∧e.2.1<n) {a b:Nat} {l:List Ed} (h:Path E a l b) (ha:a<n): ∀ x,x∈visits a l→x<n:=by
 induction l generalizing a with
 |nil=>intro x hx;rcases List.mem_cons.1 hx with rfl|hx;exact ha;cases hx
 |cons e l ih=>
  intro x hx;obtain⟨he,hu,hp⟩:=h;rcases List.mem_cons.1 hx with rfl|hx
  ·exact ha
  ·exact ih hp (hE e he).2 x (by simpa [visits] using hx)
theorem short {E:List Ed} {n:Nat} (hE: ∀ e,e∈E→e.1<n∧e.2.1<n) {r:Nat→Prop} (ht:NoGain E r) {a b:Nat} (ha:r a) (han:a<n):
  ∀ (m:Nat) (l:List Ed),l.length≤m→Path E a l b→ ∃ l',l'.length<n∧Path E a l' b∧long l'≤long l:=by
 intro m
 induction m with
 |zero=>
  intro l hl h;exact⟨l,by omega,h,Int.le_refl _⟩
 |succ m ih=>
  intro l hl h;rcases cut_or ht h ha with ⟨l',h1,h2,h3⟩|hn
  ·obtain⟨l2,h4,h5,h6⟩:=ih l' (by omega) h2
   exact⟨l2,h4,h5,Int.le_trans h6 h3⟩
  ·refine⟨l,?_,h,Int.le_refl _⟩
   have:=pigeon n _ hn (path_nodes hE h han);simp[visits] at this;omega
def passT (E:List Ed) (σ:Tm) (b:Bool):Tm × Bool:=E.foldl (fun s e=>(relax s.1 e,s.2 || trig s.1 e)) (σ,b)
theorem passT_fst (E:List Ed) (σ:Tm) (b:Bool):(passT E σ b).1=pass E σ:=by
 induction E generalizing σ b with
 |nil=>rfl
 |cons e E ih=>exact ih (relax σ e) (b || trig σ e)
theorem passT_true (E:List Ed) (σ:Tm):(passT E σ true).2=true:=by
 induction E generalizing σ with
 |nil=>rfl
 |cons e E ih=>show (passT E (relax σ e) (true || trig σ e)).2=true;rw[Bool.true_or];exact ih _
theorem passT_false {E:List Ed} {σ:Tm} (h:(passT E σ false).2=false): ∀ e,e∈E→trig σ e=false:=by
 induction E with
 |nil=>intro e he;cases he
 |cons e E ih=>
  have h':(passT E (relax σ e) (false || trig σ e)).2=false:=h;rw[Bool.false_or] at h';cases ht:trig σ e with
  |true=>rw[ht,passT_true] at h';cases h'
  |false=>
   rw[ht,relax_off ht] at h';intro x hx;rcases List.mem_cons.1 hx with rfl|hx
   ·exact ht
   ·exact ih h' x hx
theorem passT_still {E:List Ed} {σ:Tm} (h: ∀ e,e∈E→trig σ e=false):passT E σ false=(σ,false):=by
 induction E with
 |nil=>rfl
 |cons e E ih=>
  have h1:=h e List.mem_cons_self;show passT E (relax σ e) (false || trig σ e)=_;rw[h1,relax_off h1];exact ih (fun e he=>h e (List.mem_cons_of_mem _ he))
theorem pass_fix {E:List Ed} {σ:Tm} (h:pass E σ=σ): ∀ e,e∈E→trig σ e=false:=by
 intro e he;cases ht:trig σ e with
 |false=>rfl
 |true=>
  obtain⟨x,hx,hl⟩:=trig_some ht;obtain⟨y,hy,hm⟩:=pass_hits he hx;rw[h] at hy;have:=hl y hy;omega
end H
namespace H
open P
def Arr (w:World) (g N:Nat) (M:Nat→S79):Prop:=
 ∃ cells:Array Value,w.heap[g]? =some (.cells cells 79 (0,0))∧ ∀ x,x<N→cells[x * 2]? =some (.int .i64 (M x).f0)∧cells[x * 2+1]? =some (.bool (M x).f1)
theorem Arr.cell0 {w:World} {g N:Nat} {M:Nat→S79} (h:Arr w g N M) {x:Nat} (hx:x<N):w.cell? ⟨g,x * 2,none⟩=some (.int .i64 (M x).f0):=by
 obtain⟨cells,hb,hc⟩:=h;simp[World.cell?,hb,(hc x hx).1]
theorem Arr.cell1 {w:World} {g N:Nat} {M:Nat→S79} (h:Arr w g N M) {x:Nat} (hx:x<N):w.cell? ⟨g,x * 2+1,none⟩=some (.bool (M x).f1):=by
 obtain⟨cells,hb,hc⟩:=h;simp[World.cell?,hb,(hc x hx).2]
theorem Arr.free {w:World} {g N:Nat} {M:Nat→S79} (h:Arr w g N M) (j:Nat):w.frozen? ⟨g,j,none⟩=false:=by
 obtain⟨cells,hb,_⟩:=h;simp[World.frozen?,hb]
theorem Arr.lt {w:World} {g N:Nat} {M:Nat→S79} (h:Arr w g N M):g<w.heap.size:=by
 obtain⟨cells,hb,_⟩:=h;exact(Array.getElem?_eq_some_iff.1 hb).1
theorem Arr.congr {w:World} {g N:Nat} {M M':Nat→S79} (h:Arr w g N M) (e: ∀ x,x<N→M' x=M x):Arr w g N M':=by
 obtain⟨cells,hb,hc⟩:=h;exact⟨cells,hb,fun x hx=>by rw[e x hx];exact hc x hx⟩
theorem Arr.same {w w':World} {g N:Nat} {M:Nat→S79} (h:Arr w g N M) (e:w'.heap[g]? =w.heap[g]?):Arr w' g N M:=by
 obtain⟨cells,hb,hc⟩:=h;exact⟨cells,e.trans hb,hc⟩
theorem Arr.below {w w':World} {g N:Nat} {M:Nat→S79} (h:Arr w g N M) (hb:Below w.heap.size w w'):Arr w' g N M:=h.same (hb.block g h.lt)
def upd (M:Nat→S79) (x:Nat) (s:S79) (y:Nat):S79:=if y=x then s else M y
theorem Arr.put {w:World} {g N:Nat} {M:Nat→S79} (h:Arr w g N M) {x:Nat} (hx:x<N) (s:S79):Arr ((w.setCell ⟨g,x * 2,none⟩ (.int .i64 s.f0)).setCell ⟨g,x * 2+1,none⟩ (.bool s.f1)) g N (upd M x s):=by
 obtain⟨cells,hb,hc⟩:=h;refine⟨_,blk_set (blk_set hb _ _) _ _,fun y hy=> ?_⟩;have hs0:=(Array.getElem?_eq_some_iff.1 (hc x hx).1).1;have hs1:=(Array.getElem?_eq_some_iff.1 (hc x hx).2).1;simp only[Array.getElem?_setIfInBounds,Array.size_setIfInBounds];unfold upd;by_cases e:y=x
 ·subst e
  constructor
  ·rw[Yy (by omega),Yx rfl,Yx hs0,Yx rfl]
  ·rw[Yx rfl,Yx hs1,Yx rfl]
 ·rw[Yy e]
  constructor
  ·rw[Yy (by omega),Yy (by omega)];exact(hc y hy).1
  ·rw[Yy (by omega),Yy (by omega)];exact(hc y hy).2
theorem Arr.drew {w:World} {g N:Nat} {M:Nat→S79} (h:Arr w g N M):Arr w.drew g N M:=h.same rfl
def Fr (w w':World) (g:Nat):Prop:=w.grownBy w' (some g)∧ ∀ cells t ro,w.heap[g]? =some (.cells cells t ro)→ ∃ cells',w'.heap[g]? =some (.cells cells' t ro)∧cells'.size=cells.size
theorem grow_set {w w':World} {g:Nat} (h:Fr w w' g) (j:Nat) (u:Value):Fr w (w'.setCell ⟨g,j,none⟩ u) g:=
 ⟨⟨h.1.os,h.1.tape,h.1.output,by simpa [World.setCell] using h.1.size,fun k hk hne=>(Below.heap_setCell w' ⟨g,j,none⟩ u k (fun e=>hne (by rw[e]))).trans (h.1.block k hk hne)⟩,
  fun cells t ro hb=>by
  obtain⟨c',h1,h2⟩:=h.2 cells t ro hb;refine⟨c'.setIfInBounds j u,?_,by simpa using h2⟩;simp[World.setCell,Array.getElem?_modify,h1]⟩
theorem grow_drew {w w':World} {g:Nat} (h:Fr w w' g):Fr w w'.drew g:=⟨⟨h.1.os,h.1.tape,h.1.output,h.1.size,h.1.block⟩,h.2⟩
theorem grow_refl (w:World) (g:Nat):Fr w w g:=⟨⟨rfl,rfl,rfl,Nat.le_refl _,fun _ _ _=>rfl⟩,fun cells t ro hb=>⟨cells,hb,rfl⟩⟩
theorem grow_trans {w w' w'':World} {g:Nat} (h:Fr w w' g) (k:Fr w' w'' g):Fr w w'' g:=
 ⟨⟨k.1.os.trans h.1.os,k.1.tape.trans h.1.tape,k.1.output.trans h.1.output,Nat.le_trans h.1.size k.1.size,fun i hi hne=>(k.1.block i (Nat.lt_of_lt_of_le hi h.1.size) hne).trans (h.1.block i hi hne)⟩,
  fun cells t ro hb=>by
  obtain⟨c',h1,h2⟩:=h.2 cells t ro hb;obtain⟨c2,h3,h4⟩:=k.2 c' t ro h1;exact⟨c2,h3,h4.trans h2⟩⟩
theorem grow_below {w w':World} {g:Nat} (h:Below w.heap.size w w'):Fr w w' g:=
 ⟨grown_of_below h _,fun cells t ro hb=>⟨cells,(h.block g (Array.getElem?_eq_some_iff.1 hb).1).trans hb,rfl⟩⟩
def swapM (M:Nat→S79) (a b n:Nat) (x:Nat):S79:=if a≤x∧x<a+n then M (x - a+b) else if b≤x∧x<b+n then M (x - b+a) else M x
set_option maxHeartbeats 2000000 in
set_option maxRecDepth 100000 in
theorem swapRange_calls (g N cap:Nat) (M:Nat→S79) (a b n:Nat) (f:Value) (w:World) (h:Arr w g N M) (hN:N≤1000000) (ha:a+n≤b) (hb:b+n≤N):
  Calls Try.prog 112 #[.slice (some ⟨g,0,none⟩) N cap, .int .i64 (a:Int), .int .i64 (b:Int), .int .i64 (n:Int),f] w fun e w'=>e= .returned (.tuple #[])∧Arr w' g N (swapM M a b n)∧Fr w w' g:=by
 have HA:=Ya h;clear h;go_enter Try.func112,Try.ntmps112;go_wp2;go_loopw [10] (fun i wr=> ∃ k:Nat,k≤n∧i= .int .i64 k∧Aside0 (Arr wr g N (swapM M a b k))∧Aside0 (Fr w wr g)) (fun i _=>n - (intOf i).toNat)
 case atStart=>exact⟨0,Nat.zero_le _,rfl,⟨HA.out.congr fun x _=>by unfold swapM;rw[Yy (by omega),Yy (by omega)]⟩,⟨grow_refl _ _⟩⟩
 case round=>
  obtain⟨k,hk,rfl,HA1,HG⟩:=hrel;by_cases hlt:k<n
  ·have c0:=HA1.out.cell0 (x:=b+k) (by omega)
   have c1:=HA1.out.cell1 (x:=b+k) (by omega);have d0:=HA1.out.cell0 (x:=a+k) (by omega);have d1:=HA1.out.cell1 (x:=a+k) (by omega);have f0:=HA1.out.free;obtain⟨s1,hs1⟩: ∃ s,swapM M a b k (b+k)=s:=⟨_,rfl⟩;obtain⟨s2,hs2⟩: ∃ s,swapM M a b k (a+k)=s:=⟨_,rfl⟩;rw[hs1] at c0 c1;rw[hs2] at d0 d1;have HE:Aside0 (∀ x,upd (upd (swapM M a b k) (a+k) s1) (b+k) s2 x=swapM M a b (k+1) x):=⟨fun x=>by
    rw[← hs1, ← hs2];unfold upd swapM;by_cases e1:x=b+k
    ·subst e1
     rw[Yx rfl,Yy (by omega),Yy (by omega),Yy (by omega),Yx (by omega)];congr 1;omega
    ·rw[Yy e1]
     by_cases e2:x=a+k
     ·subst e2
      rw[Yx rfl,Yy (by omega),Yy (by omega),Yx (by omega)];congr 1;omega
     ·rw[Yy e2]
      by_cases e3:a≤x∧x<a+k
      ·rw[Yx e3,Yx (by omega)]
      ·rw[Yy e3,Yy (show ¬ (a≤x∧x<a+(k+1)) by omega)]
       by_cases e4:b≤x∧x<b+k
       ·rw[Yx e4,Yx (by omega)]
       ·rw[Yy e4,Yy (by omega)]⟩
   clear hs1 hs2;go_wp2;go_region;have HA2:Aside0 (Arr (((((wr.setCell ⟨g,(a+k) * 2,none⟩ (.int .i64 s1.f0)).setCell ⟨g,(a+k) * 2+1,none⟩ (.bool s1.f1)).setCell ⟨g,(b+k) * 2,none⟩ (.int .i64 s2.f0)).setCell ⟨g,(b+k) * 2+1,none⟩ (.bool s2.f1)).drew) g N (swapM M a b (k+1))):=
    ⟨(((HA1.out.put (by omega) s1).put (by omega) s2).drew).congr fun x _=>(HE.out x).symm⟩
   have HG2:=Ya (grow_drew (grow_set (grow_set (grow_set (grow_set HG.out ((a+k) * 2) (.int .i64 s1.f0)) ((a+k) * 2+1) (.bool s1.f1)) ((b+k) * 2) (.int .i64 s2.f0)) ((b+k) * 2+1) (.bool s2.f1)));clear c0 c1 d0 d1 f0 HA1 HG HE;go_wp2;go_roundw
   case rel=>exact⟨k+1,by omega,by go_num,HA2,HG2⟩
   case measure=>simp[intOf];omega
  ·have e:k=n:=by omega
   subst e;go_wp2;go_end0;exact⟨rfl,HA1.out,HG.out⟩
def rotM (M:Nat→S79) (a m b:Nat) (x:Nat):S79:=if a≤x∧x<b then(if x<a+(b - m) then M (x+(m - a)) else M (x - (b - m))) else M x
def RotAt (M K:Nat→S79) (a m b i j:Nat):Prop:=
 (∀ x, ¬ (m - i≤x∧x<m+j)→K x=rotM M a m b x)∧(∀ x,m - i≤x→x<m - i+j→rotM M a m b x=K (x+i))∧(∀ x,m - i+j≤x→x<m+j→rotM M a m b x=K (x - j))
theorem rot_start (M:Nat→S79) {a m b:Nat} (h1:a≤m) (h2:m≤b):RotAt M M a m b (m - a) (b - m):=by
 refine⟨fun x hx=> ?_,fun x h3 h4=> ?_,fun x h3 h4=> ?_⟩
 ·unfold rotM;rw[Yy (by omega)]
 ·unfold rotM;rw[Yx (by omega),Yx (by omega)]
 ·unfold rotM;rw[Yx (by omega),Yy (by omega)]
theorem rot_left {M K:Nat→S79} {a m b i j:Nat} (h:RotAt M K a m b i j) (hj:0<j) (hij:j<i) (him:i≤m):RotAt M (swapM K (m - i) m j) a m b (i - j) j:=by
 obtain⟨h1,h2,h3⟩:=h;refine⟨fun x hx=> ?_,fun x h4 h5=> ?_,fun x h4 h5=> ?_⟩
 ·unfold swapM
  by_cases e:m - i≤x∧x<m - i+j
  ·rw[Yx e,h2 x e.1 e.2]
   congr 1;omega
  ·rw[Yy e,Yy (by omega)]
   exact h1 x (by omega)
 ·rw[h3 x (by omega) (by omega)]
  unfold swapM;rw[Yy (by omega),Yx (by omega)];congr 1;omega
 ·rw[h3 x (by omega) (by omega)]
  unfold swapM;rw[Yy (by omega),Yy (by omega)]
theorem rot_right {M K:Nat→S79} {a m b i j:Nat} (h:RotAt M K a m b i j) (hi:0<i) (hij:i<j) (him:i≤m):RotAt M (swapM K (m - i) (m+j - i) i) a m b i (j - i):=by
 obtain⟨h1,h2,h3⟩:=h;refine⟨fun x hx=> ?_,fun x h4 h5=> ?_,fun x h4 h5=> ?_⟩
 ·unfold swapM
  rw[Yy (by omega)];by_cases e:m+j - i≤x∧x<m+j - i+i
  ·rw[Yx e,h3 x (by omega) (by omega)]
   congr 1;omega
  ·rw[Yy e]
   exact h1 x (by omega)
 ·rw[h2 x (by omega) (by omega)]
  unfold swapM;rw[Yy (by omega),Yy (by omega)]
 ·rw[h2 x (by omega) (by omega)]
  unfold swapM;rw[Yx (by omega)];congr 1;omega
theorem rot_last {M K:Nat→S79} {a m b i:Nat} (h:RotAt M K a m b i i) (him:i≤m) (x:Nat):swapM K (m - i) m i x=rotM M a m b x:=by
 obtain⟨h1,h2,h3⟩:=h;unfold swapM;by_cases e:m - i≤x∧x<m - i+i
 ·rw[Yx e,h2 x e.1 e.2]
  congr 1;omega
 ·rw[Yy e]
  by_cases e2:m≤x∧x<m+i
  ·rw[Yx e2,h3 x (by omega) (by omega)]
   congr 1;omega
  ·rw[Yy e2]
   exact h1 x (by omega)
set_option maxHeartbeats 2000000 in
set_option maxRecDepth 100000 in
theorem rotate_calls (g N cap:Nat) (M:Nat→S79) (a m b:Nat) (f:Value) (w:World) (h:Arr w g N M) (hN:N≤1000000) (ham:a<m) (hmb:m<b) (hb:b≤N):
  Calls Try.prog 109 #[.slice (some ⟨g,0,none⟩) N cap, .int .i64 (a:Int), .int .i64 (m:Int), .int .i64 (b:Int),f] w fun e w'=>e= .returned (.tuple #[])∧Arr w' g N (rotM M a m b)∧Fr w w' g:=by
 have HA:=Ya h;clear h;go_enter Try.func109,Try.ntmps109;go_wp2;go_loopw [10,11] (fun vi vj wr=> ∃ i j:Nat,0<i∧0<j∧i≤m - a∧j≤b - m∧vi= .int .i64 i∧vj= .int .i64 j∧(∃ K,Aside0 (RotAt M K a m b i j)∧Aside0 (Arr wr g N K))∧Aside0 (Fr w wr g)) (fun vi vj _=>(intOf vi).toNat+(intOf vj).toNat)
 case atStart=>exact⟨m - a,b - m,by omega,by omega,Nat.le_refl _,Nat.le_refl _,by rw[Int.natCast_sub (by omega)],by rw[Int.natCast_sub (by omega)],⟨M,⟨rot_start M (by omega) (by omega)⟩,HA⟩,⟨grow_refl _ _⟩⟩
 case round=>
  obtain⟨i,j,hi,hj,him,hjb,rfl,rfl,⟨K,HK,HA1⟩,HG⟩:=hrel;have e0:(m:Int) - (i:Int)=((m - i:Nat):Int):=by omega
  have E0:=Ya e0;by_cases hij:i=j
  ·subst hij
   have hne:((i:Int) != (i:Int))=false:=by simp
   clear e0;go_wp2_with fail;rw[E0.out];refine(swapRange_calls g N cap K (m - i) m i f _ HA1.out hN (by omega) (by omega)).mono ?_;rintro e w1 ⟨rfl,ha1,hg1⟩;have HA2:=Ya ha1;have HG2:=Ya (grow_trans HG.out hg1);clear ha1 hg1;go_wp2_with fail;go_end0;exact⟨rfl,HA2.out.congr fun x _=>(rot_last HK.out (by omega) x).symm,HG2.out⟩
  ·have hne:((i:Int) != (j:Int))=true:=by rw[bne_iff_ne];omega
   by_cases hlt:j<i
   ·have e1:(i:Int) - (j:Int)=((i - j:Nat):Int):=by omega
    have E1:=Ya e1;clear e0 e1;go_wp2_with fail;rw[E0.out];refine(swapRange_calls g N cap K (m - i) m j f _ HA1.out hN (by omega) (by omega)).mono ?_;rintro e w1 ⟨rfl,ha1,hg1⟩;have HA2:=Ya ha1;have HG2:=Ya (grow_trans HG.out hg1);clear ha1 hg1;go_wp2_with fail;go_roundw
    case rel=>exact⟨i - j,j,by omega,hj,by omega,hjb,by rw[E1.out],rfl,⟨_,⟨rot_left HK.out hj hlt (by omega)⟩,HA2⟩,HG2⟩
    case measure=>simp[intOf];omega
   ·have e1:(j:Int) - (i:Int)=((j - i:Nat):Int):=by omega
    have E1:=Ya e1;have e2:(m:Int)+(j:Int) - (i:Int)=((m+j - i:Nat):Int):=by omega
    have E2:=Ya e2;clear e0 e1 e2;go_wp2_with fail;rw[E0.out,E2.out];refine(swapRange_calls g N cap K (m - i) (m+j - i) i f _ HA1.out hN (by omega) (by omega)).mono ?_;rintro e w1 ⟨rfl,ha1,hg1⟩;have HA2:=Ya ha1;have HG2:=Ya (grow_trans HG.out hg1);clear ha1 hg1;go_wp2_with fail;go_roundw
    case rel=>exact⟨i,j - i,hi,by omega,him,by omega,rfl,by rw[E1.out],⟨_,⟨rot_right HK.out hi (by omega) (by omega)⟩,HA2⟩,HG2⟩
    case measure=>simp[intOf];omega
end H
namespace H
open P
def Le (K:Nat→S79) (a b:Nat):Prop:= ∀ i j,a≤i→i<j→j<b→(K i).f0≤(K j).f0
def Stab (M:Nat→S79) (N:Nat):Prop:= ∀ i j,i<j→j<N→(M i).f0=(M j).f0→(M i).f1=false∧(M j).f1=true
def Small (M:Nat→S79) (N:Nat):Prop:= ∀ i,i<N→0≤(M i).f0∧(M i).f0≤1000000
def Mix (M K:Nat→S79) (a b:Nat):Prop:=
 (∀ x, ¬ (a≤x∧x<b)→K x=M x)∧(∀ x,a≤x→x<b→ ∃ y,a≤y∧y<b∧K x=M y)∧(∀ y,a≤y→y<b→ ∃ x,a≤x∧x<b∧K x=M y)
theorem mix_refl (M:Nat→S79) (a b:Nat):Mix M M a b:=⟨fun _ _=>rfl,fun x h1 h2=>⟨x,h1,h2,rfl⟩,fun x h1 h2=>⟨x,h1,h2,rfl⟩⟩
theorem mix_trans {M K L:Nat→S79} {a b:Nat} (h:Mix M K a b) (k:Mix K L a b):Mix M L a b:=by
 refine⟨fun x hx=>(k.1 x hx).trans (h.1 x hx),fun x h1 h2=> ?_,fun y h1 h2=> ?_⟩
 ·obtain⟨y,h3,h4,e⟩:=k.2.1 x h1 h2
  obtain⟨z,h5,h6,e2⟩:=h.2.1 y h3 h4;exact⟨z,h5,h6,e.trans e2⟩
 ·obtain⟨x,h3,h4,e⟩:=h.2.2 y h1 h2
  obtain⟨z,h5,h6,e2⟩:=k.2.2 x h3 h4;exact⟨z,h5,h6,e2.trans e⟩
theorem mix_wide {M K:Nat→S79} {a b a' b':Nat} (h:Mix M K a b) (ha:a'≤a) (hb:b≤b'):Mix M K a' b':=by
 refine⟨fun x hx=>h.1 x (by omega),fun x h1 h2=> ?_,fun y h1 h2=> ?_⟩
 ·by_cases e:a≤x∧x<b
  ·obtain⟨y,h3,h4,e⟩:=h.2.1 x e.1 e.2
   exact⟨y,by omega,by omega,e⟩
  ·exact⟨x,h1,h2,h.1 x e⟩
 ·by_cases e:a≤y∧y<b
  ·obtain⟨x,h3,h4,e⟩:=h.2.2 y e.1 e.2
   exact⟨x,by omega,by omega,e⟩
  ·exact⟨y,h1,h2,h.1 y e⟩
theorem mix_small {M K:Nat→S79} {a b N:Nat} (h:Mix M K a b) (hb:b≤N) (hs:Small M N):Small K N:=fun x hx=>by
 by_cases e:a≤x∧x<b
 ·obtain⟨y,h3,h4,e⟩:=h.2.1 x e.1 e.2
  rw[e];exact hs y (by omega)
 ·rw[h.1 x e];exact hs x hx
def sw (K:Nat→S79) (p x:Nat):S79:=if x=p then K (p+1) else if x=p+1 then K p else K x
theorem sw_put1 (K:Nat→S79) (p x:Nat):upd (upd K (p+1) (K p)) p (K (p+1)) x=sw K p x:=by
 unfold upd sw;rfl
theorem sw_put2 (K:Nat→S79) (p x:Nat):upd (upd K p (K (p+1))) (p+1) (K p) x=sw K p x:=by
 unfold upd sw;by_cases e:x=p
 ·subst e;rw[Yy (by omega),Yx rfl,Yx rfl]
 ·by_cases e2:x=p+1
  ·rw[Yx e2,Yy e,Yx e2]
  ·rw[Yy e2,Yy e,Yy e,Yy e2]
theorem sw_at (K:Nat→S79) (p:Nat):sw K p p=K (p+1):=Yx rfl
theorem sw_at1 (K:Nat→S79) (p:Nat):sw K p (p+1)=K p:=by unfold sw;rw[Yy (by omega),Yx rfl]
theorem sw_off (K:Nat→S79) (p x:Nat) (h:x≠p) (h1:x≠p+1):sw K p x=K x:=by unfold sw;rw[Yy h,Yy h1]
theorem sw_mix (K:Nat→S79) (p a b:Nat) (ha:a≤p) (hb:p+1<b):Mix K (sw K p) a b:=by
 refine⟨fun x hx=>sw_off K p x (by omega) (by omega),fun x h1 h2=> ?_,fun x h1 h2=> ?_⟩
 ·by_cases e:x=p
  ·subst e;exact⟨x+1,by omega,by omega,sw_at K x⟩
  ·by_cases e2:x=p+1
   ·subst e2;exact⟨p,by omega,by omega,sw_at1 K p⟩
   ·exact⟨x,h1,h2,sw_off K p x e e2⟩
 ·by_cases e:x=p
  ·subst e;exact⟨x+1,by omega,by omega,sw_at1 K x⟩
  ·by_cases e2:x=p+1
   ·subst e2;exact⟨p,by omega,by omega,sw_at K p⟩
   ·exact⟨x,h1,h2,sw_off K p x e e2⟩
theorem sw_stab {K:Nat→S79} {p N:Nat} (h:Stab K N) (hp:p+1<N) (hlt:(K (p+1)).f0<(K p).f0):Stab (sw K p) N:=by
 intro i j hij hj he;have h0: ∀ x,x=p∨x=p+1∨(x≠p∧x≠p+1):=fun x=>by omega
 rcases h0 i with rfl|rfl|⟨i1,i2⟩<;>rcases h0 j with e|e|⟨j1,j2⟩
 ·omega
 ·subst e;rw[sw_at,sw_at1] at he;omega
 ·rw[sw_at,sw_off _ _ _ j1 j2] at he ⊢;exact h _ _ (by omega) hj he
 ·omega
 ·omega
 ·rw[sw_at1,sw_off _ _ _ j1 j2] at he ⊢;exact h _ _ (by omega) hj he
 ·subst e;rw[sw_at,sw_off _ _ _ i1 i2] at he ⊢;exact h _ _ (by omega) (by omega) he
 ·subst e;rw[sw_at1,sw_off _ _ _ i1 i2] at he ⊢;exact h _ _ (by omega) (by omega) he
 ·rw[sw_off _ _ _ i1 i2,sw_off _ _ _ j1 j2] at he ⊢;exact h _ _ hij hj he
def Hole (K:Nat→S79) (a k j:Nat):Prop:=
 (∀ x y,a≤x→x<y→y≤k→x≠j→y≠j→(K x).f0≤(K y).f0)∧(∀ y,j<y→y≤k→(K j).f0≤(K y).f0)
theorem hole_start {K:Nat→S79} {a k:Nat} (h:Le K a k):Hole K a k k:=⟨fun x y h1 h2 h3 h4 h5=>h x y h1 h2 (by omega),fun y h1 h2=>by omega⟩
theorem hole_stop {K:Nat→S79} {a k j:Nat} (h:Hole K a k j) (hj:j=a∨(a<j∧(K (j - 1)).f0≤(K j).f0)):Le K a (k+1):=by
 intro x y h1 h2 h3;by_cases e1:x=j
 ·subst e1;exact h.2 y h2 (by omega)
 ·by_cases e2:y=j
  ·subst e2
   rcases hj with hj|⟨hj,hle⟩
   ·omega
   ·by_cases e3:x=y - 1
    ·subst e3;exact hle
    ·exact Int.le_trans (h.1 x (y - 1) h1 (by omega) (by omega) e1 (by omega)) hle
  ·exact h.1 x y h1 h2 (by omega) e1 e2
theorem hole_swap {K:Nat→S79} {a k p:Nat} (h:Hole K a k (p+1)) (ha:a≤p) (hk:p+1≤k) (hlt:(K (p+1)).f0<(K p).f0):Hole (sw K p) a k p:=by
 refine⟨fun x y h1 h2 h3 h4 h5=> ?_,fun y h1 h2=> ?_⟩
 ·by_cases e1:x=p+1
  ·subst e1;rw[sw_at1,sw_off _ _ _ h5 (by omega)];exact h.1 p y (by omega) (by omega) h3 (by omega) (by omega)
  ·by_cases e2:y=p+1
   ·subst e2;rw[sw_at1,sw_off _ _ _ h4 e1];exact h.1 x p h1 (by omega) (by omega) e1 (by omega)
   ·rw[sw_off _ _ _ h4 e1,sw_off _ _ _ h5 e2];exact h.1 x y h1 h2 h3 e1 e2
 ·rw[sw_at]
  by_cases e2:y=p+1
  ·subst e2;rw[sw_at1];omega
  ·rw[sw_off _ _ _ (by omega) e2];exact h.2 y (by omega) h2
def Sorted (M K:Nat→S79) (N a b:Nat):Prop:=Mix M K a b∧Stab K N∧Small K N∧Le K a b
theorem le_one (K:Nat→S79) (a b:Nat) (h:b≤a+1):Le K a b:=fun i j h1 h2 h3=>by omega
theorem rot_lo (M:Nat→S79) {s m e x:Nat} (h1:s≤x) (h2:x<s+(e - m)) (h3:m≤e) (h4:s≤m):rotM M s m e x=M (x+(m - s)):=by
 unfold rotM;rw[Yx (by omega),Yx h2]
theorem rot_hi (M:Nat→S79) {s m e x:Nat} (h1:s+(e - m)≤x) (h2:x<e) (h4:s≤m):rotM M s m e x=M (x - (e - m)):=by
 unfold rotM;rw[Yx (by omega),Yy (by omega)]
theorem rot_off (M:Nat→S79) {s m e x:Nat} (h: ¬ (s≤x∧x<e)):rotM M s m e x=M x:=by
 unfold rotM;rw[Yy h]
theorem rot_mix (M:Nat→S79) {s m e:Nat} (h1:s≤m) (h2:m≤e):Mix M (rotM M s m e) s e:=by
 refine⟨fun x hx=>rot_off M hx,fun x h3 h4=> ?_,fun x h3 h4=> ?_⟩
 ·by_cases c:x<s+(e - m)
  ·exact⟨x+(m - s),by omega,by omega,rot_lo M h3 c h2 h1⟩
  ·exact⟨x - (e - m),by omega,by omega,rot_hi M (by omega) h4 h1⟩
 ·by_cases c:x<m
  ·refine⟨x+(e - m),by omega,by omega,?_⟩
   rw[rot_hi M (by omega) (by omega) h1];congr 1;omega
  ·refine⟨x - (m - s),by omega,by omega,?_⟩
   rw[rot_lo M (by omega) (by omega) h2 h1];congr 1;omega
theorem rot_stab {M:Nat→S79} {N s m e:Nat} (h:Stab M N) (h1:s≤m) (h2:m≤e) (he:e≤N) (hc: ∀ x y,s≤x→x<m→m≤y→y<e→(M y).f0<(M x).f0):Stab (rotM M s m e) N:=by
 intro i j hij hj heq;have h0: ∀ x, ¬ (s≤x∧x<e)∨(s≤x∧x<s+(e - m))∨(s+(e - m)≤x∧x<e):=fun x=>by omega
 rcases h0 i with a1|⟨a1,a2⟩|⟨a1,a2⟩<;>rcases h0 j with b1|⟨b1,b2⟩|⟨b1,b2⟩
 ·rw[rot_off M a1,rot_off M b1] at heq ⊢;exact h _ _ hij hj heq
 ·rw[rot_off M a1,rot_lo M b1 b2 h2 h1] at heq ⊢;exact h _ _ (by omega) (by omega) heq
 ·rw[rot_off M a1,rot_hi M b1 b2 h1] at heq ⊢;exact h _ _ (by omega) (by omega) heq
 ·rw[rot_lo M a1 a2 h2 h1,rot_off M b1] at heq ⊢;exact h _ _ (by omega) (by omega) heq
 ·rw[rot_lo M a1 a2 h2 h1,rot_lo M b1 b2 h2 h1] at heq ⊢;exact h _ _ (by omega) (by omega) heq
 ·rw[rot_lo M a1 a2 h2 h1,rot_hi M b1 b2 h1] at heq;have:=hc (j - (e - m)) (i+(m - s)) (by omega) (by omega) (by omega) (by omega);omega
 ·rw[rot_hi M a1 a2 h1,rot_off M b1] at heq ⊢;exact h _ _ (by omega) (by omega) heq
 ·omega
 ·rw[rot_hi M a1 a2 h1,rot_hi M b1 b2 h1] at heq ⊢;exact h _ _ (by omega) (by omega) heq
theorem rot_none (M:Nat→S79) {s m e:Nat} (h1:s≤m) (h2:m≤e) (h:s=m∨m=e) (x:Nat):rotM M s m e x=M x:=by
 by_cases c:s≤x∧x<e
 ·rcases h with h|h
  ·subst h;rw[rot_lo M c.1 (by omega) h2 h1];congr 1;omega
  ·subst h;rw[rot_hi M (by omega) c.2 h1];congr 1;omega
 ·exact rot_off M c
theorem le_le {K:Nat→S79} {a b x y:Nat} (h:Le K a b) (h1:a≤x) (h2:x≤y) (h3:y<b):(K x).f0≤(K y).f0:=by
 by_cases e:x=y
 ·subst e;exact Int.le_refl _
 ·exact h x y h1 (by omega) h3
theorem le_join {K:Nat→S79} {a m b:Nat} (h1:Le K a m) (h2:Le K m b) (hc: ∀ x y,a≤x→x<m→m≤y→y<b→(K x).f0≤(K y).f0):Le K a b:=by
 intro i j hi hij hj;by_cases e:j<m
 ·exact h1 i j hi hij e
 ·by_cases e2:i<m
  ·exact hc i j hi e2 (by omega) hj
  ·exact h2 i j (by omega) hij hj
theorem rot_one_lo {M:Nat→S79} {a b i:Nat} (h:Le M (a+1) b) (h1:a+1≤i) (h2:i≤b) (hlt: ∀ y,a+1≤y→y<i→(M y).f0<(M a).f0) (hge: ∀ y,i≤y→y<b→(M a).f0≤(M y).f0):Le (rotM M a (a+1) i) a b:=by
 have lo: ∀ x,a≤x→x+1<i→rotM M a (a+1) i x=M (x+1):=fun x h3 h4=>by rw[rot_lo M h3 (by omega) h1 (by omega)];congr 1;omega
 have at_:rotM M a (a+1) i (i - 1)=M a:=by rw[rot_hi M (by omega) (by omega) (by omega)];congr 1;omega
 have hi: ∀ x,i≤x→rotM M a (a+1) i x=M x:=fun x h3=>rot_off M (by omega)
 intro x y h3 h4 h5;by_cases c1:x+1<i
 ·rw[lo x h3 c1]
  by_cases c2:y+1<i
  ·rw[lo y (by omega) c2];exact h _ _ (by omega) (by omega) (by omega)
  ·by_cases c3:y=i - 1
   ·subst c3;rw[at_];have:=hlt (x+1) (by omega) c1;omega
   ·rw[hi y (by omega)];exact h _ _ (by omega) (by omega) (by omega)
 ·by_cases c2:x=i - 1
  ·subst c2;rw[at_,hi y (by omega)];exact hge y (by omega) h5
  ·rw[hi x (by omega),hi y (by omega)];exact h _ _ (by omega) h4 h5
theorem rot_one_hi {M:Nat→S79} {a m i:Nat} (h:Le M a m) (h1:a≤i) (h2:i≤m) (hle: ∀ y,a≤y→y<i→(M y).f0≤(M m).f0) (hgt: ∀ y,i≤y→y<m→(M m).f0<(M y).f0):Le (rotM M i m (m+1)) a (m+1):=by
 have lo: ∀ x,x<i→rotM M i m (m+1) x=M x:=fun x h3=>rot_off M (by omega)
 have at_:rotM M i m (m+1) i=M m:=by rw[rot_lo M (Nat.le_refl _) (by omega) (by omega) h2];congr 1;omega
 have hi: ∀ x,i<x→x<m+1→rotM M i m (m+1) x=M (x - 1):=fun x h3 h4=>by rw[rot_hi M (by omega) h4 h2];congr 1;omega
 intro x y h3 h4 h5;by_cases c1:x<i
 ·rw[lo x c1]
  by_cases c2:y<i
  ·rw[lo y c2];exact h _ _ h3 h4 (by omega)
  ·by_cases c3:y=i
   ·subst c3;rw[at_];exact hle x h3 c1
   ·rw[hi y (by omega) h5];exact h _ _ h3 (by omega) (by omega)
 ·by_cases c2:x=i
  ·subst c2;rw[at_,hi y h4 h5];have:=hgt (y - 1) (by omega) (by omega);omega
  ·rw[hi x (by omega) (by omega),hi y (by omega) h5];exact h _ _ (by omega) (by omega) (by omega)
theorem sym_rot {M:Nat→S79} {a m b mid s e N:Nat} (h1:Le M a m) (h2:Le M m b) (has:a≤s) (hsm:s≤m) (hme:m≤e) (heb:e≤b) (hsum:s+e=mid+m) (hsmid:s≤mid) (hmide:mid≤e)
  (hge:a<s→e<b→(M (s - 1)).f0≤(M e).f0) (hlt:s<m→m<e→(M (e - 1)).f0<(M s).f0) (hst:Stab M N) (hb:b≤N):
  Stab (rotM M s m e) N∧Le (rotM M s m e) a s∧Le (rotM M s m e) s mid∧Le (rotM M s m e) mid e∧Le (rotM M s m e) e b∧ ∀ x y,a≤x→x<mid→mid≤y→y<b→(rotM M s m e x).f0≤(rotM M s m e y).f0:=by
 have hx: ∀ x y,s≤x→x<m→m≤y→y<e→(M y).f0<(M x).f0:=fun x y h3 h4 h5 h6=>by
  have k1:=hlt (by omega) (by omega);have k2:(M y).f0≤(M (e - 1)).f0:=le_le h2 h5 (by omega) (by omega);have k3:(M s).f0≤(M x).f0:=le_le h1 has h3 h4;omega
 have hy: ∀ x y,a≤x→x<s→e≤y→y<b→(M x).f0≤(M y).f0:=fun x y h3 h4 h5 h6=>by
  have k1:=hge (by omega) (by omega);have k2:(M x).f0≤(M (s - 1)).f0:=le_le h1 h3 (by omega) (by omega);have k3:(M e).f0≤(M y).f0:=le_le h2 hme h5 h6;omega
 have p1: ∀ x,x<s→rotM M s m e x=M x:=fun x h=>rot_off M (by omega)
 have p2: ∀ x,s≤x→x<mid→rotM M s m e x=M (x+(m - s)):=fun x h3 h4=>rot_lo M h3 (by omega) hme hsm
 have p3: ∀ x,mid≤x→x<e→rotM M s m e x=M (x - (e - m)):=fun x h3 h4=>rot_hi M (by omega) h4 hsm
 have p4: ∀ x,e≤x→rotM M s m e x=M x:=fun x h=>rot_off M (by omega)
 refine⟨rot_stab hst hsm hme (by omega) hx,?_,?_,?_,?_,?_⟩
 ·intro x y h3 h4 h5;rw[p1 x (by omega),p1 y h5];exact h1 _ _ h3 h4 (by omega)
 ·intro x y h3 h4 h5;rw[p2 x h3 (by omega),p2 y (by omega) h5];exact h2 _ _ (by omega) (by omega) (by omega)
 ·intro x y h3 h4 h5;rw[p3 x h3 (by omega),p3 y (by omega) h5];exact h1 _ _ (by omega) (by omega) (by omega)
 ·intro x y h3 h4 h5;rw[p4 x h3,p4 y (by omega)];exact h2 _ _ (by omega) h4 h5
 ·intro x y h3 h4 h5 h6
  by_cases c1:x<s
  ·rw[p1 x c1]
   by_cases c2:y<e
   ·rw[p3 y h5 c2];exact le_le h1 h3 (by omega) (by omega)
   ·rw[p4 y (by omega)];exact hy x y h3 c1 (by omega) h6
  ·rw[p2 x (by omega) h4]
   by_cases c2:y<e
   ·rw[p3 y h5 c2];exact Int.le_of_lt (hx _ _ (by omega) (by omega) (by omega) (by omega))
   ·rw[p4 y (by omega)];exact le_le h2 (by omega) (by omega) h6
theorem mix_cross {K L:Nat→S79} {a m b:Nat} (hc: ∀ x y,a≤x→x<m→m≤y→y<b→(K x).f0≤(K y).f0) (h:Mix K L a m∨Mix K L m b):
  ∀ x y,a≤x→x<m→m≤y→y<b→(L x).f0≤(L y).f0:=by
 intro x y h1 h2 h3 h4;rcases h with h|h
 ·obtain⟨z,h5,h6,e⟩:=h.2.1 x h1 h2
  rw[e,h.1 y (by omega)];exact hc z y h5 h6 h3 h4
 ·obtain⟨z,h5,h6,e⟩:=h.2.1 y h3 h4
  rw[e,h.1 x (by omega)];exact hc x z h1 h2 h5 h6
theorem mix_le {K L:Nat→S79} {a b c d:Nat} (h:Mix K L c d) (hd:b≤c∨d≤a) (hl:Le K a b):Le L a b:=fun i j h1 h2 h3=>by
 rw[h.1 i (by omega),h.1 j (by omega)];exact hl i j h1 h2 h3
theorem sw_rot_lo (M:Nat→S79) {a k:Nat} (h:a≤k) (x:Nat):sw (rotM M a (a+1) (k+1)) k x=rotM M a (a+1) (k+2) x:=by
 unfold sw rotM;by_cases e1:x=k
 ·subst e1;rw[Yx rfl,Yy (by omega),Yx (by omega),Yx (by omega)];congr 1;omega
 ·rw[Yy e1]
  by_cases e2:x=k+1
  ·subst e2;rw[Yx rfl,Yx (by omega),Yy (by omega),Yx (by omega),Yy (by omega)];congr 1;omega
  ·rw[Yy e2]
   by_cases e3:a≤x∧x<k
   ·rw[Yx (by omega),Yx (by omega),Yx (by omega),Yx (by omega)]
   ·rw[Yy (by omega),Yy (by omega)]
theorem sw_rot_hi (M:Nat→S79) {k m:Nat} (h:k<m) (x:Nat):sw (rotM M (k+1) m (m+1)) k x=rotM M k m (m+1) x:=by
 unfold sw rotM;by_cases e1:x=k
 ·subst e1;rw[Yx rfl,Yx (by omega),Yx (by omega),Yx (by omega),Yx (by omega)];congr 1;omega
 ·rw[Yy e1]
  by_cases e2:x=k+1
  ·subst e2;rw[Yx rfl,Yy (by omega),Yx (by omega),Yy (by omega)];congr 1;omega
  ·rw[Yy e2]
   by_cases e3:k≤x∧x<m+1
   ·rw[Yx (by omega),Yy (by omega),Yx (by omega),Yy (by omega)]
   ·rw[Yy (by omega),Yy (by omega)]
end H
end Go.Proofs.Ytoedkglggapggaa
