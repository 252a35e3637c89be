/- What the law's row needs of these texts, taken out of them by wip/tool/mini.py: P0 P2 P3 P4 P5 P6 P7 QBase P19 P20 P21 QNet P22 QFlowA QSums QTcSet QTcRises QTcOf QTcTakes P23 P24 P25. -/
import Derived.Test.YtjaoknhhoicigaaProg
import Derived.Below
import Derived.Deep.Draws
import Derived.Deep.AppendLies
import Derived.Maps.AppendAt
import Derived.OwnWalk
import Derived.Laws.BytesArg
import Derived.Laws.MakeOwn
import Derived.Laws.OwnMore
import Derived.Deep.OwnRows
import Derived.Tactics
import Derived.Lib.ConvBytes
import Derived.Laws.Slices
import Derived.WalkKit
import Derived.KernelRfl
import Derived.RowKit3
import Derived.Deep.LoopGhost
import Derived.Deep.QuietTactic
import Derived.BigQuiet
import Derived.WideLaws
import Derived.Deep.DeepCutAuto
import Derived.Deep.CutBlock
import Derived.Deep.RegionHeld3
import Derived.Laws.Rows
import Derived.Lib.AppendStr
import Derived.ArgAppend
import Derived.Laws.IdiomCopy
import Derived.OrdersHeld
import Derived.Laws.BitsLemmas
import Derived.RowKit
import Derived.Test.YtjaoknhhoicigaaVnhcebm
import Derived.Maps.OwnSet
import Derived.DeepKeys4
import Derived.LoopTactic
import Derived.Carry
set_option linter.unusedVariables false
set_option linter.unusedSimpArgs false
open Go.RowKit Go.Proofs.YtjaoknhhoicigaaW.PrintWords Go.Proofs.YtjaoknhhoicigaaW.PrintLast Go.Proofs.YtjaoknhhoicigaaW.PrintMore
namespace Go.Proofs.Ytjaoknhhoicigaa
namespace P
attribute [local go_sem] max2_int min2_int max_two min_two max_three min_three max_four min_four
def errW:Option Int→Value
 |none=> .nilIface
 |some c=> .iface 0 (.int .i64 c)
theorem errW_none:errW none= .nilIface:=rfl
theorem errW_some (c:Int):errW (some c)= .iface 0 (.int .i64 c):=rfl
theorem info3:(Try.prog.info? 3).map (fun i=>(i.zero,i.size,i.bytes))=some (some (.int .i64 0),1,8):=by kernel_rfl
theorem info53:(Try.prog.info? 53).map (fun i=>(i.zero,i.size,i.bytes))=some (some (.agg #[(.int .i64 0),(.int .i64 0)]),2,16):=by kernel_rfl
theorem info56:(Try.prog.info? 56).map (fun i=>(i.zero,i.size,i.bytes))=some (some (.slice none 0 0),1,24):=by kernel_rfl
theorem info61:(Try.prog.info? 61).map (fun i=>(i.zero,i.size,i.bytes))=some (some (.agg #[(.int .i64 0),(.int .i64 0),(.int .i64 0)]),3,24):=by kernel_rfl
theorem info73:(Try.prog.info? 73).map (fun i=>(i.zero,i.size,i.bytes))=some (some (.agg #[(.int .i64 0),(.int .i64 0),(.int .i64 0),(.int .i64 0)]),4,32):=by kernel_rfl
structure S73 where
 f0:Int
 f1:Int
 f2:Int
 f3:Int
def z73:S73:=⟨(0:Int),(0:Int),(0:Int),(0:Int)⟩
def k73:Kd S73:=Kd.iso (Kd.pair (Kd.int .i64) (Kd.pair (Kd.int .i64) (Kd.pair (Kd.int .i64) (Kd.int .i64)))) (fun x:S73=>(x.f0,x.f1,x.f2,x.f3))
theorem k73_open {w:World} {x:S73} {cs:List Value} (h:k73.K w x cs):cs=[.int .i64 x.f0, .int .i64 x.f1, .int .i64 x.f2, .int .i64 x.f3]:=by
 obtain⟨_,_,rfl,rfl,⟨_,_,rfl,rfl,⟨_,_,rfl,rfl,rfl⟩⟩⟩:=h;exact rfl
theorem k73_mkM (w:World) (base:Nat) (ok:Nat→Prop) (x:S73)  :k73.M w base ok x [.int .i64 x.f0, .int .i64 x.f1, .int .i64 x.f2, .int .i64 x.f3]:=⟨[.int .i64 x.f0],[.int .i64 x.f1, .int .i64 x.f2, .int .i64 x.f3],rfl,rfl,⟨[.int .i64 x.f1],[.int .i64 x.f2, .int .i64 x.f3],rfl,rfl,⟨[.int .i64 x.f2],[.int .i64 x.f3],rfl,rfl,rfl⟩⟩⟩
def rd_T73 (xs:List S73) (i:Int):S73:=xs.getD i.toNat z73
theorem at_T73 {w:World} {A:Option Addr} {n:Nat} {xs:List S73} (h:Kd.C k73 w A n xs) (i:Int) (h0:0≤i) (h1:i<n): ∃ ad ,A=some ad∧w.cell? (ad.add (i.toNat * 4))=some (.int .i64 (rd_T73 xs i).f0)∧w.cell? ⟨(ad.add (i.toNat * 4)).block,(ad.add (i.toNat * 4)).off+1,none⟩=some (.int .i64 (rd_T73 xs i).f1)∧w.cell? ⟨(ad.add (i.toNat * 4)).block,(ad.add (i.toNat * 4)).off+2,none⟩=some (.int .i64 (rd_T73 xs i).f2)∧w.cell? ⟨(ad.add (i.toNat * 4)).block,(ad.add (i.toNat * 4)).off+3,none⟩=some (.int .i64 (rd_T73 xs i).f3):=by
 obtain⟨ad,c,e,_,hK,hc0⟩:=Kd.C_get h z73 i h0 h1;have hc: ∀ j u,c[j]? =some u→w.cell? (ad.add (i.toNat * 4+j))=some u:=hc0;obtain rfl:=k73_open hK;exact⟨ad,e,hc 0 _ rfl,by rw[← add_field _ _ 1 (by omega)];exact hc 1 _ rfl,by rw[← add_field _ _ 2 (by omega)];exact hc 2 _ rfl,by rw[← add_field _ _ 3 (by omega)];exact hc 3 _ rfl⟩
structure S53 where
 f0:Int
 f1:Int
def z53:S53:=⟨(0:Int),(0:Int)⟩
def k53:Kd S53:=Kd.iso (Kd.pair (Kd.int .i64) (Kd.int .i64)) (fun x:S53=>(x.f0,x.f1))
theorem k53_open {w:World} {x:S53} {cs:List Value} (h:k53.K w x cs):cs=[.int .i64 x.f0, .int .i64 x.f1]:=by
 obtain⟨_,_,rfl,rfl,rfl⟩:=h;exact rfl
theorem k53_mkM (w:World) (base:Nat) (ok:Nat→Prop) (x:S53)  :k53.M w base ok x [.int .i64 x.f0, .int .i64 x.f1]:=⟨[.int .i64 x.f0],[.int .i64 x.f1],rfl,rfl,rfl⟩
def rd_T53 (xs:List S53) (i:Int):S53:=xs.getD i.toNat z53
theorem at_T53 {w:World} {A:Option Addr} {n:Nat} {xs:List S53} (h:Kd.C k53 w A n xs) (i:Int) (h0:0≤i) (h1:i<n): ∃ ad ,A=some ad∧w.cell? (ad.add (i.toNat * 2))=some (.int .i64 (rd_T53 xs i).f0)∧w.cell? ⟨(ad.add (i.toNat * 2)).block,(ad.add (i.toNat * 2)).off+1,none⟩=some (.int .i64 (rd_T53 xs i).f1):=by
 obtain⟨ad,c,e,_,hK,hc0⟩:=Kd.C_get h z53 i h0 h1;have hc: ∀ j u,c[j]? =some u→w.cell? (ad.add (i.toNat * 2+j))=some u:=hc0;obtain rfl:=k53_open hK;exact⟨ad,e,hc 0 _ rfl,by rw[← add_field _ _ 1 (by omega)];exact hc 1 _ rfl⟩
structure S77 where
 f0:Int
 f1:Int
 f2:Int
 f3:Int
def z77:S77:=⟨(0:Int),(0:Int),(0:Int),(0:Int)⟩
def k77:Kd S77:=Kd.iso (Kd.pair (Kd.int .u8) (Kd.pair (Kd.int .u8) (Kd.pair (Kd.int .u8) (Kd.int .u8)))) (fun x:S77=>(x.f0,x.f1,x.f2,x.f3))
theorem k77_open {w:World} {x:S77} {cs:List Value} (h:k77.K w x cs):cs=[.int .u8 x.f0, .int .u8 x.f1, .int .u8 x.f2, .int .u8 x.f3]:=by
 obtain⟨_,_,rfl,rfl,⟨_,_,rfl,rfl,⟨_,_,rfl,rfl,rfl⟩⟩⟩:=h;exact rfl
def rd_T77 (xs:List S77) (i:Int):S77:=xs.getD i.toNat z77
theorem at_T77 {w:World} {A:Option Addr} {n:Nat} {xs:List S77} (h:Kd.C k77 w A n xs) (i:Int) (h0:0≤i) (h1:i<n): ∃ ad ,A=some ad∧w.cell? (ad.add (i.toNat * 4))=some (.int .u8 (rd_T77 xs i).f0)∧w.cell? ⟨(ad.add (i.toNat * 4)).block,(ad.add (i.toNat * 4)).off+1,none⟩=some (.int .u8 (rd_T77 xs i).f1)∧w.cell? ⟨(ad.add (i.toNat * 4)).block,(ad.add (i.toNat * 4)).off+2,none⟩=some (.int .u8 (rd_T77 xs i).f2)∧w.cell? ⟨(ad.add (i.toNat * 4)).block,(ad.add (i.toNat * 4)).off+3,none⟩=some (.int .u8 (rd_T77 xs i).f3):=by
 obtain⟨ad,c,e,_,hK,hc0⟩:=Kd.C_get h z77 i h0 h1;have hc: ∀ j u,c[j]? =some u→w.cell? (ad.add (i.toNat * 4+j))=some u:=hc0;obtain rfl:=k77_open hK;exact⟨ad,e,hc 0 _ rfl,by rw[← add_field _ _ 1 (by omega)];exact hc 1 _ rfl,by rw[← add_field _ _ 2 (by omega)];exact hc 2 _ rfl,by rw[← add_field _ _ 3 (by omega)];exact hc 3 _ rfl⟩
structure S59 where
 f0:Int
 f1:Int
 f2:Int
def z59:S59:=⟨(0:Int),(0:Int),(0:Int)⟩
def k59:Kd S59:=Kd.iso (Kd.pair (Kd.int .u8) (Kd.pair (Kd.int .u8) (Kd.int .u8))) (fun x:S59=>(x.f0,x.f1,x.f2))
theorem k59_open {w:World} {x:S59} {cs:List Value} (h:k59.K w x cs):cs=[.int .u8 x.f0, .int .u8 x.f1, .int .u8 x.f2]:=by
 obtain⟨_,_,rfl,rfl,⟨_,_,rfl,rfl,rfl⟩⟩:=h;exact rfl
def rd_T59 (xs:List S59) (i:Int):S59:=xs.getD i.toNat z59
theorem at_T59 {w:World} {A:Option Addr} {n:Nat} {xs:List S59} (h:Kd.C k59 w A n xs) (i:Int) (h0:0≤i) (h1:i<n): ∃ ad ,A=some ad∧w.cell? (ad.add (i.toNat * 3))=some (.int .u8 (rd_T59 xs i).f0)∧w.cell? ⟨(ad.add (i.toNat * 3)).block,(ad.add (i.toNat * 3)).off+1,none⟩=some (.int .u8 (rd_T59 xs i).f1)∧w.cell? ⟨(ad.add (i.toNat * 3)).block,(ad.add (i.toNat * 3)).off+2,none⟩=some (.int .u8 (rd_T59 xs i).f2):=by
 obtain⟨ad,c,e,_,hK,hc0⟩:=Kd.C_get h z59 i h0 h1;have hc: ∀ j u,c[j]? =some u→w.cell? (ad.add (i.toNat * 3+j))=some u:=hc0;obtain rfl:=k59_open hK;exact⟨ad,e,hc 0 _ rfl,by rw[← add_field _ _ 1 (by omega)];exact hc 1 _ rfl,by rw[← add_field _ _ 2 (by omega)];exact hc 2 _ rfl⟩
structure S61 where
 f0:Int
 f1:Int
 f2:Int
def z61:S61:=⟨(0:Int),(0:Int),(0:Int)⟩
def k61:Kd S61:=Kd.iso (Kd.pair (Kd.int .i64) (Kd.pair (Kd.int .i64) (Kd.int .i64))) (fun x:S61=>(x.f0,x.f1,x.f2))
theorem k61_open {w:World} {x:S61} {cs:List Value} (h:k61.K w x cs):cs=[.int .i64 x.f0, .int .i64 x.f1, .int .i64 x.f2]:=by
 obtain⟨_,_,rfl,rfl,⟨_,_,rfl,rfl,rfl⟩⟩:=h;exact rfl
theorem k61_openM {w:World} {base:Nat} {ok:Nat→Prop} {x:S61} {cs:List Value} (h:k61.M w base ok x cs):cs=[.int .i64 x.f0, .int .i64 x.f1, .int .i64 x.f2]:=by
 obtain⟨_,_,rfl,rfl,⟨_,_,rfl,rfl,rfl⟩⟩:=h;exact rfl
theorem k61_mkM (w:World) (base:Nat) (ok:Nat→Prop) (x:S61)  :k61.M w base ok x [.int .i64 x.f0, .int .i64 x.f1, .int .i64 x.f2]:=⟨[.int .i64 x.f0],[.int .i64 x.f1, .int .i64 x.f2],rfl,rfl,⟨[.int .i64 x.f1],[.int .i64 x.f2],rfl,rfl,rfl⟩⟩
def rd_T61 (xs:List S61) (i:Int):S61:=xs.getD i.toNat z61
theorem at_T61 {w:World} {A:Option Addr} {n:Nat} {xs:List S61} (h:Kd.C k61 w A n xs) (i:Int) (h0:0≤i) (h1:i<n): ∃ ad ,A=some ad∧w.cell? (ad.add (i.toNat * 3))=some (.int .i64 (rd_T61 xs i).f0)∧w.cell? ⟨(ad.add (i.toNat * 3)).block,(ad.add (i.toNat * 3)).off+1,none⟩=some (.int .i64 (rd_T61 xs i).f1)∧w.cell? ⟨(ad.add (i.toNat * 3)).block,(ad.add (i.toNat * 3)).off+2,none⟩=some (.int .i64 (rd_T61 xs i).f2):=by
 obtain⟨ad,c,e,_,hK,hc0⟩:=Kd.C_get h z61 i h0 h1;have hc: ∀ j u,c[j]? =some u→w.cell? (ad.add (i.toNat * 3+j))=some u:=hc0;obtain rfl:=k61_open hK;exact⟨ad,e,hc 0 _ rfl,by rw[← add_field _ _ 1 (by omega)];exact hc 1 _ rfl,by rw[← add_field _ _ 2 (by omega)];exact hc 2 _ rfl⟩
def rd_L7 (xs:List (List Int)) (i:Int):(List Int):=xs.getD i.toNat ([]:List Int)
theorem at_L7 {w:World} {A:Option Addr} {n:Nat} {xs:List (List Int)} (h:Kd.C (Kd.slice 3 (Kd.int .i64)) w A n xs) (i:Int) (h0:0≤i) (h1:i<n): ∃ ad A0 c0,A=some ad∧w.cell? (ad.add i.toNat)=some (.slice A0 (rd_L7 xs i).length c0)∧(rd_L7 xs i).length≤c0∧(Kd.int .i64).C w A0 (rd_L7 xs i).length (rd_L7 xs i):=by
 obtain⟨ad,c,e,_,hK,hc0⟩:=Kd.C_get h ([]:List Int) i h0 h1;have hc: ∀ j u,c[j]? =some u→w.cell? (ad.add (i.toNat * 1+j))=some u:=hc0;obtain⟨A0,c0,rfl,l0,g0⟩:=hK;exact⟨ad,A0,c0,e,by have hq:=hc 0 _ rfl;rwa [Nat.mul_one,Nat.add_zero] at hq,l0,g0⟩
end P
namespace P
attribute [local go_sem] max2_int min2_int max_two min_two max_three min_three max_four min_four
def span_Horizon.f (a0:Int):Option (Int):=if a0<0 then(some 1) else(if a0>1024 then(some 2) else(some 0))
set_option maxHeartbeats 8000000 in
set_option maxRecDepth 100000 in
theorem span_Horizon.calls (a0:Int) (r:Int) (w:World) (h:span_Horizon.f a0=some r):
  Calls Try.prog 34 #[.int .i64 a0] w fun e w'=>e= .returned (.int .i64 r)∧Drawn0 w w':=by
 have H:(if a0<0 then(some 1) else(if a0>1024 then(some 2) else(some 0)))=some r:=h;clear h;by_cases c2:a0<0
 ·rw[Yx c2] at H
  have c2b0:decide (a0<0)=true:=Yv c2;clear c2;obtain rfl:=Option.some.inj H;go_enter Try.func34,Try.ntmps34;go_wp2;go_ret;exact⟨by first|rfl|(simp;done)|(simp[*];done),by repeat(first|exact Drawn0.refl _|apply Drawn0.step)⟩
 rw[Yy c2] at H;have c2b0:decide (a0<0)=false:=Yw c2;clear c2;by_cases c3:a0>1024
 rotate_left
 ·rw[Yy c3] at H
  have c3b0:decide (1024<a0)=false:=Yw c3;clear c3;obtain rfl:=Option.some.inj H;go_enter Try.func34,Try.ntmps34;go_wp2;go_ret;exact⟨by first|rfl|(simp;done)|(simp[*];done),by repeat(first|exact Drawn0.refl _|apply Drawn0.step)⟩
 rw[Yx c3] at H;have c3b0:decide (1024<a0)=true:=Yv c3;clear c3;obtain rfl:=Option.some.inj H;go_enter Try.func34,Try.ntmps34;go_wp2;go_ret;exact⟨by first|rfl|(simp;done)|(simp[*];done),by repeat(first|exact Drawn0.refl _|apply Drawn0.step)⟩
end P
namespace P
attribute [local go_sem] max2_int min2_int max_two min_two max_three min_three max_four min_four
def netfmt_nodes.f (a0:Int):Option (Int):=if a0<1 then(some 51) else(if a0>50 then(some 2) else(some 0))
set_option maxHeartbeats 8000000 in
set_option maxRecDepth 100000 in
theorem netfmt_nodes.calls (a0:Int) (r:Int) (w:World) (h:netfmt_nodes.f a0=some r):
  Calls Try.prog 44 #[.int .i64 a0] w fun e w'=>e= .returned (.int .i64 r)∧Drawn0 w w':=by
 have H:(if a0<1 then(some 51) else(if a0>50 then(some 2) else(some 0)))=some r:=h;clear h;by_cases c2:a0<1
 ·rw[Yx c2] at H
  have c2b0:decide (a0<1)=true:=Yv c2;clear c2;obtain rfl:=Option.some.inj H;go_enter Try.func44,Try.ntmps44;go_wp2;go_ret;exact⟨by first|rfl|(simp;done)|(simp[*];done),by repeat(first|exact Drawn0.refl _|apply Drawn0.step)⟩
 rw[Yy c2] at H;have c2b0:decide (a0<1)=false:=Yw c2;clear c2;by_cases c3:a0>50
 rotate_left
 ·rw[Yy c3] at H
  have c3b0:decide (50<a0)=false:=Yw c3;clear c3;obtain rfl:=Option.some.inj H;go_enter Try.func44,Try.ntmps44;go_wp2;go_ret;exact⟨by first|rfl|(simp;done)|(simp[*];done),by repeat(first|exact Drawn0.refl _|apply Drawn0.step)⟩
 rw[Yx c3] at H;have c3b0:decide (50<a0)=true:=Yv c3;clear c3;obtain rfl:=Option.some.inj H;go_enter Try.func44,Try.ntmps44;go_wp2;go_ret;exact⟨by first|rfl|(simp;done)|(simp[*];done),by repeat(first|exact Drawn0.refl _|apply Drawn0.step)⟩
end P
namespace P
attribute [local go_sem] max2_int min2_int max_two min_two max_three min_three max_four min_four
def netfmt_arc.j0:Nat→Bool→Int→Int→Int→Int→Option (Int)
 |0,_,_,_,_,_=>none
 |k+1,x5,x102000,x102001,x102002,x102003=>if x5=true then(some 51) else(if x102002>1048576 then(some 2) else(if x102003>1048576 then(some 2) else(some 0)))
def netfmt_arc.f (k:Nat) (a0:Int) (Wm:Int) (Wn:Int) (Ws:Int) (Wt:Int):Option (Int):=if (mn (mn (mn Wm Wn) Ws) Wt)<0 then(netfmt_arc.j0 k true Wm Wn Ws Wt) else(netfmt_arc.j0 k (decide ((mx Wm Wn)≥a0)) Wm Wn Ws Wt)
theorem netfmt_arc.mono_l: ∀ k,(∀ y0 y1 y2 y3 y4,LeO (netfmt_arc.j0 k y0 y1 y2 y3 y4) (netfmt_arc.j0 (k+1) y0 y1 y2 y3 y4))
 |0=>fun _ _ _ _ _ r h=>by simp[netfmt_arc.j0] at h
 |k+1=>by
  have ih0:=netfmt_arc.mono_l k
  ·intro y0 y1 y2 y3 y4
   unfold netfmt_arc.j0;repeat' first
   |(with_reducible exact ih0 _ _ _ _ _)
   |(with_reducible exact LeO.refl _)
   |(with_reducible exact LeO.none _)
   |(with_reducible refine LeO.ite ?_ ?_)
   |(with_reducible refine LeO.bind ?_ (fun _=> ?_))
   |exact ih0 _ _ _ _ _
   |exact LeO.none _
   |refine LeO.ite ?_ ?_
   |refine LeO.bind ?_ (fun _=> ?_)
theorem netfmt_arc.mono: ∀ a0 a1 a2 a3 a4 k,LeO (netfmt_arc.f k a0 a1 a2 a3 a4) (netfmt_arc.f (k+1) a0 a1 a2 a3 a4):=by
 intro a0 a1 a2 a3 a4 k;have ih0:=netfmt_arc.mono_l k;unfold netfmt_arc.f;repeat' first
   |(with_reducible exact ih0 _ _ _ _ _)
   |(with_reducible exact LeO.refl _)
   |(with_reducible exact LeO.none _)
   |(with_reducible refine LeO.ite ?_ ?_)
   |(with_reducible refine LeO.bind ?_ (fun _=> ?_))
   |exact ih0 _ _ _ _ _
   |exact LeO.none _
   |refine LeO.ite ?_ ?_
   |refine LeO.bind ?_ (fun _=> ?_)
set_option maxHeartbeats 8000000 in
set_option maxRecDepth 100000 in
theorem netfmt_arc.calls (k:Nat) (a0:Int) (Wm:Int) (Wn:Int) (Ws:Int) (Wt:Int) (r:Int) (w:World) (h:netfmt_arc.f k a0 Wm Wn Ws Wt=some r):
  Calls Try.prog 45 #[.int .i64 a0, .agg #[.int .i64 Wm, .int .i64 Wn, .int .i64 Ws, .int .i64 Wt]] w fun e w'=>e= .returned (.int .i64 r)∧Below w.heap.size w w':=by
 have hu73:=Try.underlying73;have HB:=Ya (Yo w.heap.size w);have H:(if (mn (mn (mn Wm Wn) Ws) Wt)<0 then(netfmt_arc.j0 k true Wm Wn Ws Wt) else(netfmt_arc.j0 k (decide ((mx Wm Wn)≥a0)) Wm Wn Ws Wt))=some r:=h;clear h;have HC3:=Ya H;clear H;go_enter Try.func45,Try.ntmps45;go_upto_region 1 with (first|((with_reducible refine gate_dst (N:=3) rfl ?_);(try (refine gate_guard (by rfl) ?_;dsimp only));refine Yz ?hg (N:=3) ?hd (cs:= #[.int .i64 Wm, .int .i64 Wn, .int .i64 Ws, .int .i64 Wt]) (t:=73) ?hr ?_;(case hd=>rfl);(case hg=>rfl);(case hr=>first|(go_simp;done)|(go_simp;rfl));intro Jj hg w4 Zi hb;have n0_:=Ya (Yk (by repeat(first|(with_reducible first|exact HB.out|apply Ye|apply Yd|apply Yg)|exact HB.out)) hb);have n1_:=Ya (Zi);have n2_:=Ya ((by rw[hg];exact(Yi (by repeat(first|(with_reducible first|exact HB.out|apply Ye|apply Yd|apply Yg)|exact HB.out))):w.heap.size≤Jj));have n3_:=Ya ((by rw[hg];exact(Yi (by repeat(first|(with_reducible first|exact HB.out|apply Ye|apply Yd|apply Yg)|exact HB.out))):w.heap.size≤Jj));clear HB;have HB:=n0_;have Wv:=n1_;have GW101:=n2_;have GE101:=n3_;clear n0_ n1_ n2_ n3_;clear hb Zi hg))
 (try simp only[Act.put,List.setIfInBounds_toArray,List.set_cons_zero,List.set_cons_succ])
 go_cut [5] (fun v5 wc=> ∃ (kq:Nat) (x5_2:Bool),v5= .bool x5_2∧Aside0 (netfmt_arc.j0 kq x5_2 Wm Wn Ws Wt=some r)∧Aside0 (kq≤k)∧Aside0 (wc.heap[Jj]? =some (.cells #[.int .i64 Wm, .int .i64 Wn, .int .i64 Ws, .int .i64 Wt] 73 (0,0)))∧Aside0 (Below w.heap.size w wc))
 case first=>
  have H:=HC3.out;clear HC3;obtain⟨ji5,hji5⟩: ∃ j_:Int,(mn Wm Wn)=j_:=⟨_,rfl⟩;replace H:(if (mn (mn (ji5) Ws) Wt)<0 then(netfmt_arc.j0 k true Wm Wn Ws Wt) else(netfmt_arc.j0 k (decide ((mx Wm Wn)≥a0)) Wm Wn Ws Wt))=some r:=by first|(rw[hji5] at H;exact H)|(simp only[hji5] at H ⊢;exact H)
  have hji5_:(if Wn<Wm then Wn else Wm)=ji5:=hji5;obtain⟨ji6,hji6⟩: ∃ j_:Int,(mn (ji5) Ws)=j_:=⟨_,rfl⟩;replace H:(if (mn (ji6) Wt)<0 then(netfmt_arc.j0 k true Wm Wn Ws Wt) else(netfmt_arc.j0 k (decide ((mx Wm Wn)≥a0)) Wm Wn Ws Wt))=some r:=by first|(rw[hji6] at H;exact H)|(simp only[hji6] at H ⊢;exact H)
  have hji6_:(if Ws<(ji5) then Ws else(ji5))=ji6:=hji6;obtain⟨ji7,hji7⟩: ∃ j_:Int,(mn (ji6) Wt)=j_:=⟨_,rfl⟩;replace H:(if (ji7)<0 then(netfmt_arc.j0 k true Wm Wn Ws Wt) else(netfmt_arc.j0 k (decide ((mx Wm Wn)≥a0)) Wm Wn Ws Wt))=some r:=by first|(rw[hji7] at H;exact H)|(simp only[hji7] at H ⊢;exact H)
  have hji7_:(if Wt<(ji6) then Wt else(ji6))=ji7:=hji7;by_cases c8:(ji7)<0
  ·rw[Yx c8] at H
   have c8b0:decide ((ji7)<0)=true:=Yv c8;clear c8
   (first|rw[c8b0]|(simp only[i64_w,i32_w];rw[c8b0])|skip)
   have H':=Ya H;clear H;have hcz9_0:w4.cell? ⟨Jj,0,none⟩=some (.int .i64 Wm):=(Yc Wv.out 0).trans rfl;have hcz9_1:w4.cell? ⟨Jj,1,none⟩=some (.int .i64 Wn):=(Yc Wv.out 1).trans rfl;have hcz9_2:w4.cell? ⟨Jj,2,none⟩=some (.int .i64 Ws):=(Yc Wv.out 2).trans rfl;have hcz9_3:w4.cell? ⟨Jj,3,none⟩=some (.int .i64 Wt):=(Yc Wv.out 3).trans rfl;have hfz9_0:=Yf Wv.out 0;have hfz9_1:=Yf Wv.out 1;have hfz9_2:=Yf Wv.out 2;have hfz9_3:=Yf Wv.out 3;go_wp2;go_meet
   case rel=>exact⟨_,(true),(by first|rfl|(simp;done)|(simp[*];done)),H',⟨by first|omega|exact Nat.le_refl _⟩,⟨by(with_reducible repeat(first|refine Yl ?_ _|refine Ym ?_|refine Yj ?_ _));exact Wv.out⟩,⟨by repeat(first|(with_reducible first|exact HB.out|apply Ye|apply Yd|apply Yg|refine Yh ?_ GE101.out)|exact HB.out)⟩⟩
  rw[Yy c8] at H;have c8b0:decide ((ji7)<0)=false:=Yw c8;clear c8
  (first|rw[c8b0]|(simp only[i64_w,i32_w];rw[c8b0])|skip)
  obtain⟨ji10,hji10⟩: ∃ j_:Int,(mx Wm Wn)=j_:=⟨_,rfl⟩;replace H:(netfmt_arc.j0 k (decide ((ji10)≥a0)) Wm Wn Ws Wt)=some r:=by first|(rw[hji10] at H;exact H)|(simp only[hji10] at H ⊢;exact H)
  have hji10_:(if Wm<Wn then Wn else Wm)=ji10:=hji10;have H':=Ya H;clear H;have hcz11_0:w4.cell? ⟨Jj,0,none⟩=some (.int .i64 Wm):=(Yc Wv.out 0).trans rfl;have hcz11_1:w4.cell? ⟨Jj,1,none⟩=some (.int .i64 Wn):=(Yc Wv.out 1).trans rfl;have hcz11_2:w4.cell? ⟨Jj,2,none⟩=some (.int .i64 Ws):=(Yc Wv.out 2).trans rfl;have hcz11_3:w4.cell? ⟨Jj,3,none⟩=some (.int .i64 Wt):=(Yc Wv.out 3).trans rfl;have hfz11_0:=Yf Wv.out 0;have hfz11_1:=Yf Wv.out 1;have hfz11_2:=Yf Wv.out 2;have hfz11_3:=Yf Wv.out 3;go_wp2;go_meet
  case rel=>exact⟨_,(decide ((ji10)≥a0)),(by first|rfl|(simp;done)|(simp only[← hji10]<;>(first|rfl|simp))|(simp[*];done)),H',⟨by first|omega|exact Nat.le_refl _⟩,⟨by(with_reducible repeat(first|refine Yl ?_ _|refine Ym ?_|refine Yj ?_ _));exact Wv.out⟩,⟨by repeat(first|(with_reducible first|exact HB.out|apply Ye|apply Yd|apply Yg|refine Yh ?_ GE101.out)|exact HB.out)⟩⟩
 case rest=>
  clear HC3;try clear p2
  try clear c4
  try clear c8
  try clear c8b0
  try clear hcz11_0
  try clear hcz11_1
  try clear hcz11_2
  try clear hcz11_3
  try clear hcz9_0
  try clear hcz9_1
  try clear hcz9_2
  try clear hcz9_3
  try clear hfz11_0
  try clear hfz11_1
  try clear hfz11_2
  try clear hfz11_3
  try clear hfz9_0
  try clear hfz9_1
  try clear hfz9_2
  try clear hfz9_3
  obtain⟨kq,x5_2,rfl,HA,HJ2,Wv,HB⟩:=hcut;cases kq with
  |zero=>exact absurd HA.out (by simp[netfmt_arc.j0])
  |succ kj2=>
   have H:=HA.out;clear HA;simp only[netfmt_arc.j0] at H;by_cases c12:x5_2=true
   ·subst c12
    have H1:(some 51)=some r:=by first|(rw[Yx rfl] at H;exact H)|(rw[Yx trivial] at H;exact H)
    clear H;have H:=H1;clear H1;obtain rfl:=Option.some.inj H;go_wp2;go_ret;exact⟨by first|rfl|(simp[errW_none,errW_some]<;>rfl)|(simp[*,errW_none,errW_some]<;>rfl),by repeat(first|(with_reducible first|exact HB.out|apply Ye|apply Yd|apply Yg|refine Yh ?_ GE101.out)|exact HB.out)⟩
   replace c12:=Bool.eq_false_iff.mpr c12;subst c12;have H1:(if Ws>1048576 then(some 2) else(if Wt>1048576 then(some 2) else(some 0)))=some r:=by rw[Yy (show ¬ (false=true) by decide)] at H;exact H
   clear H;have H:=H1;clear H1;by_cases c13:Ws>1048576
   ·rw[Yx c13] at H
    have c13b0:decide (1048576<Ws)=true:=Yv c13;clear c13;obtain rfl:=Option.some.inj H;have hcz14_0:wc.cell? ⟨Jj,0,none⟩=some (.int .i64 Wm):=(Yc Wv.out 0).trans rfl;have hcz14_1:wc.cell? ⟨Jj,1,none⟩=some (.int .i64 Wn):=(Yc Wv.out 1).trans rfl;have hcz14_2:wc.cell? ⟨Jj,2,none⟩=some (.int .i64 Ws):=(Yc Wv.out 2).trans rfl;have hcz14_3:wc.cell? ⟨Jj,3,none⟩=some (.int .i64 Wt):=(Yc Wv.out 3).trans rfl;have hfz14_0:=Yf Wv.out 0;have hfz14_1:=Yf Wv.out 1;have hfz14_2:=Yf Wv.out 2;have hfz14_3:=Yf Wv.out 3;go_wp2;go_ret;exact⟨by first|rfl|(simp[errW_none,errW_some]<;>rfl)|(simp[*,errW_none,errW_some]<;>rfl),by repeat(first|(with_reducible first|exact HB.out|apply Ye|apply Yd|apply Yg|refine Yh ?_ GE101.out)|exact HB.out)⟩
   rw[Yy c13] at H;have c13b0:decide (1048576<Ws)=false:=Yw c13;clear c13;by_cases c15:Wt>1048576
   rotate_left
   ·rw[Yy c15] at H
    have c15b0:decide (1048576<Wt)=false:=Yw c15;clear c15;obtain rfl:=Option.some.inj H;have hcz17_0:wc.cell? ⟨Jj,0,none⟩=some (.int .i64 Wm):=(Yc Wv.out 0).trans rfl;have hcz17_1:wc.cell? ⟨Jj,1,none⟩=some (.int .i64 Wn):=(Yc Wv.out 1).trans rfl;have hcz17_2:wc.cell? ⟨Jj,2,none⟩=some (.int .i64 Ws):=(Yc Wv.out 2).trans rfl;have hcz17_3:wc.cell? ⟨Jj,3,none⟩=some (.int .i64 Wt):=(Yc Wv.out 3).trans rfl;have hfz17_0:=Yf Wv.out 0;have hfz17_1:=Yf Wv.out 1;have hfz17_2:=Yf Wv.out 2;have hfz17_3:=Yf Wv.out 3;go_wp2;go_ret;exact⟨by first|rfl|(simp[errW_none,errW_some]<;>rfl)|(simp[*,errW_none,errW_some]<;>rfl),by repeat(first|(with_reducible first|exact HB.out|apply Ye|apply Yd|apply Yg|refine Yh ?_ GE101.out)|exact HB.out)⟩
   rw[Yx c15] at H;have c15b0:decide (1048576<Wt)=true:=Yv c15;clear c15;obtain rfl:=Option.some.inj H;have hcz16_0:wc.cell? ⟨Jj,0,none⟩=some (.int .i64 Wm):=(Yc Wv.out 0).trans rfl;have hcz16_1:wc.cell? ⟨Jj,1,none⟩=some (.int .i64 Wn):=(Yc Wv.out 1).trans rfl;have hcz16_2:wc.cell? ⟨Jj,2,none⟩=some (.int .i64 Ws):=(Yc Wv.out 2).trans rfl;have hcz16_3:wc.cell? ⟨Jj,3,none⟩=some (.int .i64 Wt):=(Yc Wv.out 3).trans rfl;have hfz16_0:=Yf Wv.out 0;have hfz16_1:=Yf Wv.out 1;have hfz16_2:=Yf Wv.out 2;have hfz16_3:=Yf Wv.out 3;go_wp2;go_ret;exact⟨by first|rfl|(simp[errW_none,errW_some]<;>rfl)|(simp[*,errW_none,errW_some]<;>rfl),by repeat(first|(with_reducible first|exact HB.out|apply Ye|apply Yd|apply Yg|refine Yh ?_ GE101.out)|exact HB.out)⟩
end P
namespace P
attribute [local go_sem] max2_int min2_int max_two min_two max_three min_three max_four min_four
def netfmt_Check.l0:Nat→List (S73)→Int→Int→Int→Bool→List (S73)→Option (Int)
 |0,_,_,_,_,_,_=>none
 |k+1,x18,x19,x20,x103000,x103001,x103002=>if x20<x19 then(if 0≤x20 then(if x20<(x18.length:Int) then((netfmt_arc.f k x103000 ((rd_T73 x18 x20).f0) ((rd_T73 x18 x20).f1) ((rd_T73 x18 x20).f2) ((rd_T73 x18 x20).f3)).bind fun t106=>(if t106=0 then(netfmt_Check.l0 k x18 x19 (wrap64 (x20+1)) x103000 x103001 x103002) else(some t106))) else(none)) else(none)) else(some 0)
def netfmt_Check.f (k:Nat) (Zb:Int) (Zc:Bool) (Za:List (S73)):Option (Int):=(netfmt_nodes.f Zb).bind fun t103=>(if t103=0 then(if (Za.length:Int)>200 then(some 2) else(netfmt_Check.l0 k Za (Za.length:Int) 0 Zb Zc Za)) else(some t103))
theorem netfmt_Check.mono_l: ∀ k,(∀ y0 y1 y2 y3 y4 y5,LeO (netfmt_Check.l0 k y0 y1 y2 y3 y4 y5) (netfmt_Check.l0 (k+1) y0 y1 y2 y3 y4 y5))
 |0=>fun _ _ _ _ _ _ r h=>by simp[netfmt_Check.l0] at h
 |k+1=>by
  have ih0:=netfmt_Check.mono_l k
  ·intro y0 y1 y2 y3 y4 y5
   unfold netfmt_Check.l0;repeat' first
   |(with_reducible exact ih0 _ _ _ _ _ _)
   |(with_reducible exact netfmt_arc.mono _ _ _ _ _ _)
   |(with_reducible exact LeO.refl _)
   |(with_reducible exact LeO.none _)
   |(with_reducible refine LeO.ite ?_ ?_)
   |(with_reducible refine LeO.bind ?_ (fun _=> ?_))
   |exact ih0 _ _ _ _ _ _
   |exact netfmt_arc.mono _ _ _ _ _ _
   |exact LeO.none _
   |refine LeO.ite ?_ ?_
   |refine LeO.bind ?_ (fun _=> ?_)
theorem netfmt_Check.mono: ∀ a0 a1 a2 k,LeO (netfmt_Check.f k a0 a1 a2) (netfmt_Check.f (k+1) a0 a1 a2):=by
 intro a0 a1 a2 k;have ih0:=netfmt_Check.mono_l k;unfold netfmt_Check.f;repeat' first
   |(with_reducible exact ih0 _ _ _ _ _ _)
   |(with_reducible exact netfmt_arc.mono _ _ _ _ _ _)
   |(with_reducible exact LeO.refl _)
   |(with_reducible exact LeO.none _)
   |(with_reducible refine LeO.ite ?_ ?_)
   |(with_reducible refine LeO.bind ?_ (fun _=> ?_))
   |exact ih0 _ _ _ _ _ _
   |exact netfmt_arc.mono _ _ _ _ _ _
   |exact LeO.none _
   |refine LeO.ite ?_ ?_
   |refine LeO.bind ?_ (fun _=> ?_)
set_option maxHeartbeats 8000000 in
set_option maxRecDepth 100000 in
theorem netfmt_Check.calls (k:Nat) (Zb:Int) (Zc:Bool) (Zg:Option Addr) (Zd:Nat) (Za:List (S73)) (r:Int) (w:World) (Wg:Kd.C k73 w Zg Za.length Za) (Wh:Za.length≤Zd) (h:netfmt_Check.f k Zb Zc Za=some r):
  Calls Try.prog 33 #[.agg #[.int .i64 Zb, .bool Zc, .slice Zg Za.length Zd]] w fun e w'=>e= .returned (.int .i64 r)∧Below w.heap.size w w':=by
 have hu32:=Try.underlying32;have hu73:=Try.underlying73;have Xl:=Ya Wg;have Wd:=Ya Wh;clear Wg Wh;have HB:=Ya (Yo w.heap.size w);have H:((netfmt_nodes.f Zb).bind fun t103=>(if t103=0 then(if (Za.length:Int)>200 then(some 2) else(netfmt_Check.l0 k Za (Za.length:Int) 0 Zb Zc Za)) else(some t103)))=some r:=h;clear h;replace H:=Option.bind_eq_some_iff.mp H;obtain⟨t103,A20,H⟩:=H;replace H:(if t103=0 then(if (Za.length:Int)>200 then(some 2) else(netfmt_Check.l0 k Za (Za.length:Int) 0 Zb Zc Za)) else(some t103))=some r:=H;have A2:=Ya A20;clear A20;by_cases c3:t103=0
 rotate_left
 ·rw[Yy c3] at H
  have c3b0:(t103 == 0)=false:=beq_eq_false_iff_ne.mpr c3;have c3b1:(t103 != 0)=true:=bne_iff_ne.mpr c3;obtain rfl:=Option.some.inj H;go_enter Try.func33,Try.ntmps33;go_wp2_with (first|((with_reducible refine gate_dst (N:=1) rfl ?_);refine Yz ?hg (N:=1) ?hd (cs:= #[.int .i64 Zb, .bool Zc, .slice Zg Za.length Zd]) (t:=32) ?hr ?_;(case hd=>rfl);(case hg=>rfl);(case hr=>first|(go_simp;done)|(go_simp;rfl));intro Vk hg w24 Zi hb;have n0_:=Ya (Yk (by repeat(first|(with_reducible first|exact HB.out|apply Ye|apply Yd|apply Yg)|exact HB.out)) hb);have n1_:=Ya (Zi);have n2_:=Ya ((by rw[hg];exact(Yi (by repeat(first|(with_reducible first|exact HB.out|apply Ye|apply Yd|apply Yg)|exact HB.out))):w.heap.size≤Vk));have n3_:=Ya ((by rw[hg];exact(Yi (by repeat(first|(with_reducible first|exact HB.out|apply Ye|apply Yd|apply Yg)|exact HB.out))):w.heap.size≤Vk));clear HB;have HB:=n0_;have Wi:=n1_;have GW102:=n2_;have GE102:=n3_;clear n0_ n1_ n2_ n3_;clear hb Zi hg;have hcz25_0:w24.cell? ⟨Vk,0,none⟩=some (.int .i64 Zb):=(Yc Wi.out 0).trans rfl;have hcz25_1:w24.cell? ⟨Vk,1,none⟩=some (.bool Zc):=(Yc Wi.out 1).trans rfl;have hcz25_2:w24.cell? ⟨Vk,2,none⟩=some (.slice Zg Za.length Zd):=(Yc Wi.out 2).trans rfl;have hfz25_0:=Yf Wi.out 0;have hfz25_1:=Yf Wi.out 1;have hfz25_2:=Yf Wi.out 2)|((with_reducible refine gate_callee (f:=44) rfl ?_);refine goesL_ (some 9) rfl rfl Try.func44 (by kernel_rfl) rfl #[.int .i64 Zb] rfl (by(try simp only[List.map_toArray,List.map_cons,List.map_nil]);first|done|rfl|(simp only[List.length_drop,List.length_take];rfl)) ?_;(with_reducible refine(netfmt_nodes.calls Zb t103 _ A2.out).mono ?_);rintro e w' ⟨rfl,⟨nd,rfl⟩⟩;refine⟨_,rfl,?_⟩));go_ret;exact⟨by first|rfl|(simp[errW_none,errW_some]<;>rfl)|(simp[*,errW_none,errW_some]<;>rfl),by repeat(first|(with_reducible first|exact HB.out|apply Ye|apply Yd|apply Yg|refine Yh ?_ GE102.out)|exact HB.out)⟩
 rw[Yx c3] at H;have c3b0:(t103 == 0)=true:=beq_iff_eq.mpr c3;have c3b1:(t103 != 0)=false:=bne_eq_false_iff_eq.mpr c3;clear c3;by_cases c4:(Za.length:Int)>200
 ·rw[Yx c4] at H
  have c4b0:decide (200<(Za.length:Int))=true:=Yv c4;have c4b1:decide (200<Za.length)=true:=Yv (by omega);clear c4;obtain rfl:=Option.some.inj H;go_enter Try.func33,Try.ntmps33;go_wp2_with (first|((with_reducible refine gate_dst (N:=1) rfl ?_);refine Yz ?hg (N:=1) ?hd (cs:= #[.int .i64 Zb, .bool Zc, .slice Zg Za.length Zd]) (t:=32) ?hr ?_;(case hd=>rfl);(case hg=>rfl);(case hr=>first|(go_simp;done)|(go_simp;rfl));intro Vk hg w5 Zi hb;have n0_:=Ya (Yk (by repeat(first|(with_reducible first|exact HB.out|apply Ye|apply Yd|apply Yg)|exact HB.out)) hb);have n1_:=Ya (Zi);have n2_:=Ya ((by rw[hg];exact(Yi (by repeat(first|(with_reducible first|exact HB.out|apply Ye|apply Yd|apply Yg)|exact HB.out))):w.heap.size≤Vk));have n3_:=Ya ((by rw[hg];exact(Yi (by repeat(first|(with_reducible first|exact HB.out|apply Ye|apply Yd|apply Yg)|exact HB.out))):w.heap.size≤Vk));clear HB;have HB:=n0_;have Wi:=n1_;have GW102:=n2_;have GE102:=n3_;clear n0_ n1_ n2_ n3_;clear hb Zi hg;have hcz6_0:w5.cell? ⟨Vk,0,none⟩=some (.int .i64 Zb):=(Yc Wi.out 0).trans rfl;have hcz6_1:w5.cell? ⟨Vk,1,none⟩=some (.bool Zc):=(Yc Wi.out 1).trans rfl;have hcz6_2:w5.cell? ⟨Vk,2,none⟩=some (.slice Zg Za.length Zd):=(Yc Wi.out 2).trans rfl;have hfz6_0:=Yf Wi.out 0;have hfz6_1:=Yf Wi.out 1;have hfz6_2:=Yf Wi.out 2)|((with_reducible refine gate_callee (f:=44) rfl ?_);refine goesL_ (some 9) rfl rfl Try.func44 (by kernel_rfl) rfl #[.int .i64 Zb] rfl (by(try simp only[List.map_toArray,List.map_cons,List.map_nil]);first|done|rfl|(simp only[List.length_drop,List.length_take];rfl)) ?_;(with_reducible refine(netfmt_nodes.calls Zb t103 _ A2.out).mono ?_);rintro e w' ⟨rfl,⟨nd,rfl⟩⟩;refine⟨_,rfl,?_⟩));go_ret;exact⟨by first|rfl|(simp[errW_none,errW_some]<;>rfl)|(simp[*,errW_none,errW_some]<;>rfl),by repeat(first|(with_reducible first|exact HB.out|apply Ye|apply Yd|apply Yg|refine Yh ?_ GE102.out)|exact HB.out)⟩
 rw[Yy c4] at H;have c4b0:decide (200<(Za.length:Int))=false:=Yw c4;have c4b1:decide (200<Za.length)=false:=Yw (by omega);clear c4;have H':=Ya H;clear H;go_enter Try.func33,Try.ntmps33;go_wp2_with (first|((with_reducible refine gate_dst (N:=1) rfl ?_);refine Yz ?hg (N:=1) ?hd (cs:= #[.int .i64 Zb, .bool Zc, .slice Zg Za.length Zd]) (t:=32) ?hr ?_;(case hd=>rfl);(case hg=>rfl);(case hr=>first|(go_simp;done)|(go_simp;rfl));intro Vk hg w7 Zi hb;have n0_:=Ya (Yk (by repeat(first|(with_reducible first|exact HB.out|apply Ye|apply Yd|apply Yg)|exact HB.out)) hb);have n1_:=Ya (Zi);have n2_:=Ya ((by rw[hg];exact(Yi (by repeat(first|(with_reducible first|exact HB.out|apply Ye|apply Yd|apply Yg)|exact HB.out))):w.heap.size≤Vk));have n3_:=Ya ((by rw[hg];exact(Yi (by repeat(first|(with_reducible first|exact HB.out|apply Ye|apply Yd|apply Yg)|exact HB.out))):w.heap.size≤Vk));clear HB;have HB:=n0_;have Wi:=n1_;have GW102:=n2_;have GE102:=n3_;clear n0_ n1_ n2_ n3_;clear hb Zi hg;have hcz8_0:w7.cell? ⟨Vk,0,none⟩=some (.int .i64 Zb):=(Yc Wi.out 0).trans rfl;have hcz8_1:w7.cell? ⟨Vk,1,none⟩=some (.bool Zc):=(Yc Wi.out 1).trans rfl;have hcz8_2:w7.cell? ⟨Vk,2,none⟩=some (.slice Zg Za.length Zd):=(Yc Wi.out 2).trans rfl;have hfz8_0:=Yf Wi.out 0;have hfz8_1:=Yf Wi.out 1;have hfz8_2:=Yf Wi.out 2)|((with_reducible refine gate_callee (f:=44) rfl ?_);refine goesL_ (some 9) rfl rfl Try.func44 (by kernel_rfl) rfl #[.int .i64 Zb] rfl (by(try simp only[List.map_toArray,List.map_cons,List.map_nil]);first|done|rfl|(simp only[List.length_drop,List.length_take];rfl)) ?_;(with_reducible refine(netfmt_nodes.calls Zb t103 _ A2.out).mono ?_);rintro e w' ⟨rfl,⟨nd,rfl⟩⟩;refine⟨_,rfl,?_⟩));go_loopg [20] k (fun kq v20 w'=> ∃ (We:Int),v20= .int .i64 We∧Aside0 (netfmt_Check.l0 kq Za (Za.length:Int) We Zb Zc Za=some r)∧Aside0 (kq≤k)∧Aside0 (w'.heap[Vk]? =some (.cells #[.int .i64 Zb, .bool Zc,(.slice Zg Za.length Zd)] 32 (0,0)))∧Aside0 (Below w.heap.size w w'))
 case atStart=>exact⟨(0),(by first|rfl|(simp;done)|(simp[*];done)),H',⟨Nat.le_refl _⟩,⟨by(with_reducible repeat(first|refine Yl ?_ _|refine Ym ?_|refine Yj ?_ _));exact Wi.out⟩,⟨by repeat(first|(with_reducible first|exact HB.out|apply Ye|apply Yd|apply Yg|refine Yh ?_ GE102.out)|exact HB.out)⟩⟩
 case round=>
  clear H';try clear p2
  try clear c3
  try clear c3b0
  try clear c3b1
  try clear c4
  try clear c4b0
  try clear c4b1
  try clear hcz6_0
  try clear hcz6_1
  try clear hcz6_2
  try clear hcz8_0
  try clear hcz8_1
  try clear hcz8_2
  try clear hfz6_0
  try clear hfz6_1
  try clear hfz6_2
  try clear hfz8_0
  try clear hfz8_1
  try clear hfz8_2
  obtain⟨We,rfl,HA,HK1,Wi,HB⟩:=hrel;cases gk with
  |zero=>exact absurd HA.out (by simp[netfmt_Check.l0])
  |succ k1=>
   have H:=HA.out;clear HA;simp only[netfmt_Check.l0] at H;by_cases c9:We<(Za.length:Int)
   rotate_left
   ·rw[Yy c9] at H
    have c9b0:decide (We<(Za.length:Int))=false:=Yw c9;clear c9;obtain rfl:=Option.some.inj H;go_wp2;go_ret;exact⟨by first|rfl|(simp[errW_none,errW_some]<;>rfl)|(simp[*,errW_none,errW_some]<;>rfl),by repeat(first|(with_reducible first|exact HB.out|apply Ye|apply Yd|apply Yg|refine Yh ?_ GE102.out)|exact HB.out)⟩
   rw[Yx c9] at H;have c9b0:decide (We<(Za.length:Int))=true:=Yv c9;clear c9;by_cases c10:0≤We
   rotate_left
   ·rw[Yy c10] at H
    exact absurd H (by simp)
   rw[Yx c10] at H;have c10b0:decide (0≤We)=true:=Yv c10;clear c10;by_cases c11:We<(Za.length:Int)
   rotate_left
   ·rw[Yy c11] at H
    exact absurd H (by simp)
   rw[Yx c11] at H;have c11b0:decide (We<(Za.length:Int))=true:=Yv c11;clear c11;replace H:=Option.bind_eq_some_iff.mp H;obtain⟨t106,A120,H⟩:=H;replace H:(if t106=0 then(netfmt_Check.l0 k1 Za (Za.length:Int) (wrap64 (We+1)) Zb Zc Za) else(some t106))=some r:=H;have A12:=Ya A120;clear A120;by_cases c13:t106=0
   rotate_left
   ·rw[Yy c13] at H
    have c13b0:(t106 == 0)=false:=beq_eq_false_iff_ne.mpr c13;have c13b1:(t106 != 0)=true:=bne_iff_ne.mpr c13;obtain rfl:=Option.some.inj H;have p104:0≤(We:Int):=Yu (by first|(with_reducible assumption)|assumption);have q104:We<(Za.length:Int):=Yu (by first|(with_reducible assumption)|assumption);obtain⟨ad104,e104,hx104_0,hx104_1,hx104_2,hx104_3⟩:=at_T73 Xl.out We p104 q104;cases e104;replace hx104_0:=(HB.out.cell (Yb w _ hx104_0)).trans hx104_0;replace hx104_1:=(HB.out.cell (Yb w _ hx104_1)).trans hx104_1;replace hx104_2:=(HB.out.cell (Yb w _ hx104_2)).trans hx104_2;replace hx104_3:=(HB.out.cell (Yb w _ hx104_3)).trans hx104_3;replace p104:=eq_true p104;replace q104:=eq_true q104;go_wp2_with (first|((with_reducible refine gate_dst (N:=5) rfl ?_);refine Yz ?hg (N:=5) ?hd (cs:= #[.int .i64 0, .int .i64 0, .int .i64 0, .int .i64 0]) (t:=73) ?hr ?_;(case hd=>rfl);(case hg=>rfl);(case hr=>first|(go_simp;done)|(go_simp;rfl));intro Jz hg w19 Zi hb;have n0_:=Ya (Yn (g:=Vk) (o:= .cells #[.int .i64 Zb, .bool Zc, .slice (some ad104) Za.length Zd] 32 (0,0)) (by(with_reducible repeat(first|refine Yl ?_ _|refine Ym ?_|refine Yj ?_ _));exact Wi.out) hb);have n1_:=Ya (Yk (by repeat(first|(with_reducible first|exact HB.out|apply Ye|apply Yd|apply Yg|refine Yh ?_ GE102.out)|exact HB.out)) hb);have n2_:=Ya (Zi);have n3_:=Ya ((by rw[hg];exact(Yi (by repeat(first|(with_reducible first|exact HB.out|apply Ye|apply Yd|apply Yg|refine Yh ?_ GE102.out)|exact HB.out))):w.heap.size≤Jz));have n4_:=Ya ((by rw[hg];exact(Yi (by repeat(first|(with_reducible first|exact HB.out|apply Ye|apply Yd|apply Yg|refine Yh ?_ GE102.out)|exact HB.out))):w.heap.size≤Jz));have n5_:=Ya ((by rw[hg];exact Nat.ne_of_lt (blk_lt (g:=Vk) (o:= .cells #[.int .i64 Zb, .bool Zc, .slice (some ad104) Za.length Zd] 32 (0,0)) (by(with_reducible repeat(first|refine Yl ?_ _|refine Ym ?_|refine Yj ?_ _));exact Wi.out)):Vk≠Jz));have n6_:=Ya ((by rw[hg];exact Nat.ne_of_gt (blk_lt (g:=Vk) (o:= .cells #[.int .i64 Zb, .bool Zc, .slice (some ad104) Za.length Zd] 32 (0,0)) (by(with_reducible repeat(first|refine Yl ?_ _|refine Ym ?_|refine Yj ?_ _));exact Wi.out)):Jz≠Vk));clear Wi;clear HB;have Wi:=n0_;have HB:=n1_;have Jk:=n2_;have GW105:=n3_;have GE105:=n4_;have Ul:=n5_;have NB105_102:=n6_;clear n0_ n1_ n2_ n3_ n4_ n5_ n6_;clear hb Zi hg;have hnb20:=NB105_102.out;have hnc20:=Ul.out;have hcz21_0:w19.cell? ⟨Jz,0,none⟩=some (.int .i64 0):=(Yc Jk.out 0).trans rfl;have hcz21_1:w19.cell? ⟨Jz,1,none⟩=some (.int .i64 0):=(Yc Jk.out 1).trans rfl;have hcz21_2:w19.cell? ⟨Jz,2,none⟩=some (.int .i64 0):=(Yc Jk.out 2).trans rfl;have hcz21_3:w19.cell? ⟨Jz,3,none⟩=some (.int .i64 0):=(Yc Jk.out 3).trans rfl;have hfz21_0:=Yf Jk.out 0;have hfz21_1:=Yf Jk.out 1;have hfz21_2:=Yf Jk.out 2;have hfz21_3:=Yf Jk.out 3;have hcz22_0:w19.cell? ⟨Vk,0,none⟩=some (.int .i64 Zb):=(Yc Wi.out 0).trans rfl;have hcz22_1:w19.cell? ⟨Vk,1,none⟩=some (.bool Zc):=(Yc Wi.out 1).trans rfl;have hcz22_2:w19.cell? ⟨Vk,2,none⟩=some (.slice (some ad104) Za.length Zd):=(Yc Wi.out 2).trans rfl;have hfz22_0:=Yf Wi.out 0;have hfz22_1:=Yf Wi.out 1;have hfz22_2:=Yf Wi.out 2)|((with_reducible refine gate_callee (f:=45) rfl ?_);refine goesL_ (some 27) rfl rfl Try.func45 (by kernel_rfl) rfl #[.int .i64 Zb, .agg #[.int .i64 ((rd_T73 Za We).f0), .int .i64 ((rd_T73 Za We).f1), .int .i64 ((rd_T73 Za We).f2), .int .i64 ((rd_T73 Za We).f3)]] rfl (by(try simp only[List.map_toArray,List.map_cons,List.map_nil]);first|done|rfl|(simp only[List.length_drop,List.length_take];rfl)) ?_;(with_reducible refine(netfmt_arc.calls k1 Zb ((rd_T73 Za We).f0) ((rd_T73 Za We).f1) ((rd_T73 Za We).f2) ((rd_T73 Za We).f3) t106 _ A12.out).mono ?_);rintro e w23 ⟨rfl,hb⟩;refine⟨_,rfl,?_⟩;have n0_:=Ya (Yn (g:=Vk) (o:= .cells #[.int .i64 Zb, .bool Zc, .slice (some ad104) Za.length Zd] 32 (0,0)) (by(with_reducible repeat(first|refine Yl ?_ _|refine Ym ?_|refine Yj ?_ _));refine blk_far ?_ Ul.out _;(with_reducible repeat(first|refine Yl ?_ _|refine Ym ?_|refine Yj ?_ _));refine blk_far ?_ Ul.out _;(with_reducible repeat(first|refine Yl ?_ _|refine Ym ?_|refine Yj ?_ _));refine blk_far ?_ Ul.out _;(with_reducible repeat(first|refine Yl ?_ _|refine Ym ?_|refine Yj ?_ _));refine blk_far ?_ Ul.out _;(with_reducible repeat(first|refine Yl ?_ _|refine Ym ?_|refine Yj ?_ _));exact Wi.out) hb);have n1_:=Ya (Yn (g:=Jz) (o:= .cells #[.int .i64 ((rd_T73 Za We).f0), .int .i64 ((rd_T73 Za We).f1), .int .i64 ((rd_T73 Za We).f2), .int .i64 ((rd_T73 Za We).f3)] 73 (0,0)) (by(with_reducible repeat(first|refine Yl ?_ _|refine Ym ?_|refine Yj ?_ _));refine YA (cs:= #[.int .i64 ((rd_T73 Za We).f0), .int .i64 ((rd_T73 Za We).f1), .int .i64 ((rd_T73 Za We).f2), .int .i64 0]) ?_ 3 _ rfl;(with_reducible repeat(first|refine Yl ?_ _|refine Ym ?_|refine Yj ?_ _));refine YA (cs:= #[.int .i64 ((rd_T73 Za We).f0), .int .i64 ((rd_T73 Za We).f1), .int .i64 0, .int .i64 0]) ?_ 2 _ rfl;(with_reducible repeat(first|refine Yl ?_ _|refine Ym ?_|refine Yj ?_ _));refine YA (cs:= #[.int .i64 ((rd_T73 Za We).f0), .int .i64 0, .int .i64 0, .int .i64 0]) ?_ 1 _ rfl;(with_reducible repeat(first|refine Yl ?_ _|refine Ym ?_|refine Yj ?_ _));refine YA (cs:= #[.int .i64 0, .int .i64 0, .int .i64 0, .int .i64 0]) ?_ 0 _ rfl;(with_reducible repeat(first|refine Yl ?_ _|refine Ym ?_|refine Yj ?_ _));exact Jk.out) hb);have n2_:=Ya (Yk (by repeat(first|(with_reducible first|exact HB.out|apply Ye|apply Yd|apply Yg|refine Yh ?_ GE102.out|refine Yh ?_ GE105.out)|exact HB.out)) hb);clear Wi;clear Jk;clear HB;have Wi:=n0_;have Jk:=n1_;have HB:=n2_;clear n0_ n1_ n2_;(try clear hb);(try clear hb2);(try clear hk);(try clear hi)));go_ret;exact⟨by first|rfl|(simp[errW_none,errW_some]<;>rfl)|(simp[*,errW_none,errW_some]<;>rfl),by repeat(first|(with_reducible first|exact HB.out|apply Ye|apply Yd|apply Yg|refine Yh ?_ GE102.out|refine Yh ?_ GE105.out)|exact HB.out)⟩
   rw[Yx c13] at H;have c13b0:(t106 == 0)=true:=beq_iff_eq.mpr c13;have c13b1:(t106 != 0)=false:=bne_eq_false_iff_eq.mpr c13;clear c13;have H':=Ya H;clear H;have p104:0≤(We:Int):=Yu (by first|(with_reducible assumption)|assumption);have q104:We<(Za.length:Int):=Yu (by first|(with_reducible assumption)|assumption);obtain⟨ad104,e104,hx104_0,hx104_1,hx104_2,hx104_3⟩:=at_T73 Xl.out We p104 q104;cases e104;replace hx104_0:=(HB.out.cell (Yb w _ hx104_0)).trans hx104_0;replace hx104_1:=(HB.out.cell (Yb w _ hx104_1)).trans hx104_1;replace hx104_2:=(HB.out.cell (Yb w _ hx104_2)).trans hx104_2;replace hx104_3:=(HB.out.cell (Yb w _ hx104_3)).trans hx104_3;replace p104:=eq_true p104;replace q104:=eq_true q104;go_wp2_with (first|((with_reducible refine gate_dst (N:=5) rfl ?_);refine Yz ?hg (N:=5) ?hd (cs:= #[.int .i64 0, .int .i64 0, .int .i64 0, .int .i64 0]) (t:=73) ?hr ?_;(case hd=>rfl);(case hg=>rfl);(case hr=>first|(go_simp;done)|(go_simp;rfl));intro Jz hg w14 Zi hb;have n0_:=Ya (Yn (g:=Vk) (o:= .cells #[.int .i64 Zb, .bool Zc, .slice (some ad104) Za.length Zd] 32 (0,0)) (by(with_reducible repeat(first|refine Yl ?_ _|refine Ym ?_|refine Yj ?_ _));exact Wi.out) hb);have n1_:=Ya (Yk (by repeat(first|(with_reducible first|exact HB.out|apply Ye|apply Yd|apply Yg|refine Yh ?_ GE102.out)|exact HB.out)) hb);have n2_:=Ya (Zi);have n3_:=Ya ((by rw[hg];exact(Yi (by repeat(first|(with_reducible first|exact HB.out|apply Ye|apply Yd|apply Yg|refine Yh ?_ GE102.out)|exact HB.out))):w.heap.size≤Jz));have n4_:=Ya ((by rw[hg];exact(Yi (by repeat(first|(with_reducible first|exact HB.out|apply Ye|apply Yd|apply Yg|refine Yh ?_ GE102.out)|exact HB.out))):w.heap.size≤Jz));have n5_:=Ya ((by rw[hg];exact Nat.ne_of_lt (blk_lt (g:=Vk) (o:= .cells #[.int .i64 Zb, .bool Zc, .slice (some ad104) Za.length Zd] 32 (0,0)) (by(with_reducible repeat(first|refine Yl ?_ _|refine Ym ?_|refine Yj ?_ _));exact Wi.out)):Vk≠Jz));have n6_:=Ya ((by rw[hg];exact Nat.ne_of_gt (blk_lt (g:=Vk) (o:= .cells #[.int .i64 Zb, .bool Zc, .slice (some ad104) Za.length Zd] 32 (0,0)) (by(with_reducible repeat(first|refine Yl ?_ _|refine Ym ?_|refine Yj ?_ _));exact Wi.out)):Jz≠Vk));clear Wi;clear HB;have Wi:=n0_;have HB:=n1_;have Jk:=n2_;have GW105:=n3_;have GE105:=n4_;have Ul:=n5_;have NB105_102:=n6_;clear n0_ n1_ n2_ n3_ n4_ n5_ n6_;clear hb Zi hg;have hnb15:=NB105_102.out;have hnc15:=Ul.out;have hcz16_0:w14.cell? ⟨Jz,0,none⟩=some (.int .i64 0):=(Yc Jk.out 0).trans rfl;have hcz16_1:w14.cell? ⟨Jz,1,none⟩=some (.int .i64 0):=(Yc Jk.out 1).trans rfl;have hcz16_2:w14.cell? ⟨Jz,2,none⟩=some (.int .i64 0):=(Yc Jk.out 2).trans rfl;have hcz16_3:w14.cell? ⟨Jz,3,none⟩=some (.int .i64 0):=(Yc Jk.out 3).trans rfl;have hfz16_0:=Yf Jk.out 0;have hfz16_1:=Yf Jk.out 1;have hfz16_2:=Yf Jk.out 2;have hfz16_3:=Yf Jk.out 3;have hcz17_0:w14.cell? ⟨Vk,0,none⟩=some (.int .i64 Zb):=(Yc Wi.out 0).trans rfl;have hcz17_1:w14.cell? ⟨Vk,1,none⟩=some (.bool Zc):=(Yc Wi.out 1).trans rfl;have hcz17_2:w14.cell? ⟨Vk,2,none⟩=some (.slice (some ad104) Za.length Zd):=(Yc Wi.out 2).trans rfl;have hfz17_0:=Yf Wi.out 0;have hfz17_1:=Yf Wi.out 1;have hfz17_2:=Yf Wi.out 2)|((with_reducible refine gate_callee (f:=45) rfl ?_);refine goesL_ (some 27) rfl rfl Try.func45 (by kernel_rfl) rfl #[.int .i64 Zb, .agg #[.int .i64 ((rd_T73 Za We).f0), .int .i64 ((rd_T73 Za We).f1), .int .i64 ((rd_T73 Za We).f2), .int .i64 ((rd_T73 Za We).f3)]] rfl (by(try simp only[List.map_toArray,List.map_cons,List.map_nil]);first|done|rfl|(simp only[List.length_drop,List.length_take];rfl)) ?_;(with_reducible refine(netfmt_arc.calls k1 Zb ((rd_T73 Za We).f0) ((rd_T73 Za We).f1) ((rd_T73 Za We).f2) ((rd_T73 Za We).f3) t106 _ A12.out).mono ?_);rintro e w18 ⟨rfl,hb⟩;refine⟨_,rfl,?_⟩;have n0_:=Ya (Yn (g:=Vk) (o:= .cells #[.int .i64 Zb, .bool Zc, .slice (some ad104) Za.length Zd] 32 (0,0)) (by(with_reducible repeat(first|refine Yl ?_ _|refine Ym ?_|refine Yj ?_ _));refine blk_far ?_ Ul.out _;(with_reducible repeat(first|refine Yl ?_ _|refine Ym ?_|refine Yj ?_ _));refine blk_far ?_ Ul.out _;(with_reducible repeat(first|refine Yl ?_ _|refine Ym ?_|refine Yj ?_ _));refine blk_far ?_ Ul.out _;(with_reducible repeat(first|refine Yl ?_ _|refine Ym ?_|refine Yj ?_ _));refine blk_far ?_ Ul.out _;(with_reducible repeat(first|refine Yl ?_ _|refine Ym ?_|refine Yj ?_ _));exact Wi.out) hb);have n1_:=Ya (Yn (g:=Jz) (o:= .cells #[.int .i64 ((rd_T73 Za We).f0), .int .i64 ((rd_T73 Za We).f1), .int .i64 ((rd_T73 Za We).f2), .int .i64 ((rd_T73 Za We).f3)] 73 (0,0)) (by(with_reducible repeat(first|refine Yl ?_ _|refine Ym ?_|refine Yj ?_ _));refine YA (cs:= #[.int .i64 ((rd_T73 Za We).f0), .int .i64 ((rd_T73 Za We).f1), .int .i64 ((rd_T73 Za We).f2), .int .i64 0]) ?_ 3 _ rfl;(with_reducible repeat(first|refine Yl ?_ _|refine Ym ?_|refine Yj ?_ _));refine YA (cs:= #[.int .i64 ((rd_T73 Za We).f0), .int .i64 ((rd_T73 Za We).f1), .int .i64 0, .int .i64 0]) ?_ 2 _ rfl;(with_reducible repeat(first|refine Yl ?_ _|refine Ym ?_|refine Yj ?_ _));refine YA (cs:= #[.int .i64 ((rd_T73 Za We).f0), .int .i64 0, .int .i64 0, .int .i64 0]) ?_ 1 _ rfl;(with_reducible repeat(first|refine Yl ?_ _|refine Ym ?_|refine Yj ?_ _));refine YA (cs:= #[.int .i64 0, .int .i64 0, .int .i64 0, .int .i64 0]) ?_ 0 _ rfl;(with_reducible repeat(first|refine Yl ?_ _|refine Ym ?_|refine Yj ?_ _));exact Jk.out) hb);have n2_:=Ya (Yk (by repeat(first|(with_reducible first|exact HB.out|apply Ye|apply Yd|apply Yg|refine Yh ?_ GE102.out|refine Yh ?_ GE105.out)|exact HB.out)) hb);clear Wi;clear Jk;clear HB;have Wi:=n0_;have Jk:=n1_;have HB:=n2_;clear n0_ n1_ n2_;(try clear hb);(try clear hb2);(try clear hk);(try clear hi)));go_roundg k1
   case measure=>have:=HK1.out;omega
   case rel=>exact⟨(wrap64 (We+1)),(by first|rfl|(simp;done)|(simp[*];done)),H',⟨by have:=HK1.out;omega⟩,⟨by(with_reducible repeat(first|refine Yl ?_ _|refine Ym ?_|refine Yj ?_ _));exact Wi.out⟩,⟨by repeat(first|(with_reducible first|exact HB.out|apply Ye|apply Yd|apply Yg|refine Yh ?_ GE102.out|refine Yh ?_ GE105.out)|exact HB.out)⟩⟩
end P
namespace P
attribute [local go_sem] max2_int min2_int max_two min_two max_three min_three max_four min_four
def static_Ends.f (k:Nat) (Zb:Int) (Zc:Bool) (Za:List (S73)) (a1:Int) (a2:Int):Option (Int):=(netfmt_Check.f k Zb Zc Za).bind fun t108=>(if t108=0 then(if (mn a1 a2)<0 then(some 70) else(if (mx a1 a2)≥Zb then(some 70) else(if a1=a2 then(some 70) else(some 0)))) else(some t108))
set_option maxHeartbeats 8000000 in
set_option maxRecDepth 100000 in
theorem static_Ends.calls (k:Nat) (Zb:Int) (Zc:Bool) (Zg:Option Addr) (Zd:Nat) (Za:List (S73)) (a1:Int) (a2:Int) (r:Int) (w:World) (Wg:Kd.C k73 w Zg Za.length Za) (Wh:Za.length≤Zd) (h:static_Ends.f k Zb Zc Za a1 a2=some r):
  Calls Try.prog 37 #[.agg #[.int .i64 Zb, .bool Zc, .slice Zg Za.length Zd], .int .i64 a1, .int .i64 a2] w fun e w'=>e= .returned (.int .i64 r)∧Below w.heap.size w w':=by
 have hu32:=Try.underlying32;have Xl:=Ya Wg;have Wd:=Ya Wh;clear Wg Wh;have HB:=Ya (Yo w.heap.size w);have H:((netfmt_Check.f k Zb Zc Za).bind fun t108=>(if t108=0 then(if (mn a1 a2)<0 then(some 70) else(if (mx a1 a2)≥Zb then(some 70) else(if a1=a2 then(some 70) else(some 0)))) else(some t108)))=some r:=h;clear h;replace H:=Option.bind_eq_some_iff.mp H;obtain⟨t108,A40,H⟩:=H;replace H:(if t108=0 then(if (mn a1 a2)<0 then(some 70) else(if (mx a1 a2)≥Zb then(some 70) else(if a1=a2 then(some 70) else(some 0)))) else(some t108))=some r:=H;have A4:=Ya A40;clear A40;by_cases c5:t108=0
 rotate_left
 ·rw[Yy c5] at H
  have c5b0:(t108 == 0)=false:=beq_eq_false_iff_ne.mpr c5;have c5b1:(t108 != 0)=true:=bne_iff_ne.mpr c5;obtain rfl:=Option.some.inj H;go_enter Try.func37,Try.ntmps37;go_wp2_with (first|((with_reducible refine gate_dst (N:=3) rfl ?_);(try (refine gate_guard (by rfl) ?_;dsimp only));refine Yz ?hg (N:=3) ?hd (cs:= #[.int .i64 Zb, .bool Zc, .slice Zg Za.length Zd]) (t:=32) ?hr ?_;(case hd=>rfl);(case hg=>rfl);(case hr=>first|(go_simp;done)|(go_simp;rfl));intro Ww hg w26 Zi hb;have n0_:=Ya (Yk (by repeat(first|(with_reducible first|exact HB.out|apply Ye|apply Yd|apply Yg)|exact HB.out)) hb);have n1_:=Ya (Zi);have n2_:=Ya ((by rw[hg];exact(Yi (by repeat(first|(with_reducible first|exact HB.out|apply Ye|apply Yd|apply Yg)|exact HB.out))):w.heap.size≤Ww));have n3_:=Ya ((by rw[hg];exact(Yi (by repeat(first|(with_reducible first|exact HB.out|apply Ye|apply Yd|apply Yg)|exact HB.out))):w.heap.size≤Ww));clear HB;have HB:=n0_;have Xh:=n1_;have GW107:=n2_;have GE107:=n3_;clear n0_ n1_ n2_ n3_;clear hb Zi hg;have hcz27_0:w26.cell? ⟨Ww,0,none⟩=some (.int .i64 Zb):=(Yc Xh.out 0).trans rfl;have hcz27_1:w26.cell? ⟨Ww,1,none⟩=some (.bool Zc):=(Yc Xh.out 1).trans rfl;have hcz27_2:w26.cell? ⟨Ww,2,none⟩=some (.slice Zg Za.length Zd):=(Yc Xh.out 2).trans rfl;have hfz27_0:=Yf Xh.out 0;have hfz27_1:=Yf Xh.out 1;have hfz27_2:=Yf Xh.out 2)|((with_reducible refine gate_callee (f:=33) rfl ?_);refine goesL_ (some 9) rfl rfl Try.func33 (by kernel_rfl) rfl #[.agg #[.int .i64 Zb, .bool Zc, .slice Zg Za.length Zd]] rfl (by(try simp only[List.map_toArray,List.map_cons,List.map_nil]);first|done|rfl|(simp only[List.length_drop,List.length_take];rfl)) ?_;(with_reducible refine(netfmt_Check.calls k Zb Zc _ _ Za t108 _ ?side1 ?side2 A4.out).mono ?_);(case side1=>repeat(first|exact(Yt Xl.out HB.out)|(with_reducible refine Kd.C_alloc ?_ _)|(with_reducible refine Kd.C_drewN ?_ _)|(with_reducible refine Kd.C_drew ?_)));(case side2=>exact Wd.out);rintro e w28 ⟨rfl,hb⟩;refine⟨_,rfl,?_⟩;have n0_:=Ya (Yn (g:=Ww) (o:= .cells #[.int .i64 Zb, .bool Zc, .slice Zg Za.length Zd] 32 (0,0)) (by(with_reducible repeat(first|refine Yl ?_ _|refine Ym ?_|refine Yj ?_ _));exact Xh.out) hb);have n1_:=Ya (Yk (by repeat(first|(with_reducible first|exact HB.out|apply Ye|apply Yd|apply Yg|refine Yh ?_ GE107.out)|exact HB.out)) hb);clear Xh;clear HB;have Xh:=n0_;have HB:=n1_;clear n0_ n1_;(try clear hb);(try clear hb2);(try clear hk);(try clear hi)));go_ret;exact⟨by first|rfl|(simp[errW_none,errW_some]<;>rfl)|(simp[*,errW_none,errW_some]<;>rfl),by repeat(first|(with_reducible first|exact HB.out|apply Ye|apply Yd|apply Yg|refine Yh ?_ GE107.out)|exact HB.out)⟩
 rw[Yx c5] at H;have c5b0:(t108 == 0)=true:=beq_iff_eq.mpr c5;have c5b1:(t108 != 0)=false:=bne_eq_false_iff_eq.mpr c5;clear c5;obtain⟨ji6,hji6⟩: ∃ j_:Int,(mn a1 a2)=j_:=⟨_,rfl⟩;replace H:(if (ji6)<0 then(some 70) else(if (mx a1 a2)≥Zb then(some 70) else(if a1=a2 then(some 70) else(some 0))))=some r:=by first|(rw[hji6] at H;exact H)|(simp only[hji6] at H ⊢;exact H)
 (try rw[hji6] at A4)
 have hji6_:(if a2<a1 then a2 else a1)=ji6:=hji6;by_cases c7:(ji6)<0
 ·rw[Yx c7] at H
  have c7b0:decide ((ji6)<0)=true:=Yv c7;clear c7;obtain rfl:=Option.some.inj H;go_enter Try.func37,Try.ntmps37;go_wp2_with (first|((with_reducible refine gate_dst (N:=3) rfl ?_);(try (refine gate_guard (by rfl) ?_;dsimp only));refine Yz ?hg (N:=3) ?hd (cs:= #[.int .i64 Zb, .bool Zc, .slice Zg Za.length Zd]) (t:=32) ?hr ?_;(case hd=>rfl);(case hg=>rfl);(case hr=>first|(go_simp;done)|(go_simp;rfl));intro Ww hg w8 Zi hb;have n0_:=Ya (Yk (by repeat(first|(with_reducible first|exact HB.out|apply Ye|apply Yd|apply Yg)|exact HB.out)) hb);have n1_:=Ya (Zi);have n2_:=Ya ((by rw[hg];exact(Yi (by repeat(first|(with_reducible first|exact HB.out|apply Ye|apply Yd|apply Yg)|exact HB.out))):w.heap.size≤Ww));have n3_:=Ya ((by rw[hg];exact(Yi (by repeat(first|(with_reducible first|exact HB.out|apply Ye|apply Yd|apply Yg)|exact HB.out))):w.heap.size≤Ww));clear HB;have HB:=n0_;have Xh:=n1_;have GW107:=n2_;have GE107:=n3_;clear n0_ n1_ n2_ n3_;clear hb Zi hg;have hcz9_0:w8.cell? ⟨Ww,0,none⟩=some (.int .i64 Zb):=(Yc Xh.out 0).trans rfl;have hcz9_1:w8.cell? ⟨Ww,1,none⟩=some (.bool Zc):=(Yc Xh.out 1).trans rfl;have hcz9_2:w8.cell? ⟨Ww,2,none⟩=some (.slice Zg Za.length Zd):=(Yc Xh.out 2).trans rfl;have hfz9_0:=Yf Xh.out 0;have hfz9_1:=Yf Xh.out 1;have hfz9_2:=Yf Xh.out 2)|((with_reducible refine gate_callee (f:=33) rfl ?_);refine goesL_ (some 9) rfl rfl Try.func33 (by kernel_rfl) rfl #[.agg #[.int .i64 Zb, .bool Zc, .slice Zg Za.length Zd]] rfl (by(try simp only[List.map_toArray,List.map_cons,List.map_nil]);first|done|rfl|(simp only[List.length_drop,List.length_take];rfl)) ?_;(with_reducible refine(netfmt_Check.calls k Zb Zc _ _ Za t108 _ ?side1 ?side2 A4.out).mono ?_);(case side1=>repeat(first|exact(Yt Xl.out HB.out)|(with_reducible refine Kd.C_alloc ?_ _)|(with_reducible refine Kd.C_drewN ?_ _)|(with_reducible refine Kd.C_drew ?_)));(case side2=>exact Wd.out);rintro e w10 ⟨rfl,hb⟩;refine⟨_,rfl,?_⟩;have n0_:=Ya (Yn (g:=Ww) (o:= .cells #[.int .i64 Zb, .bool Zc, .slice Zg Za.length Zd] 32 (0,0)) (by(with_reducible repeat(first|refine Yl ?_ _|refine Ym ?_|refine Yj ?_ _));exact Xh.out) hb);have n1_:=Ya (Yk (by repeat(first|(with_reducible first|exact HB.out|apply Ye|apply Yd|apply Yg|refine Yh ?_ GE107.out)|exact HB.out)) hb);clear Xh;clear HB;have Xh:=n0_;have HB:=n1_;clear n0_ n1_;(try clear hb);(try clear hb2);(try clear hk);(try clear hi)));go_ret;exact⟨by first|rfl|(simp[errW_none,errW_some]<;>rfl)|(simp only[← hji6];first|rfl|(simp[errW_none,errW_some]<;>rfl))|(simp[*,errW_none,errW_some]<;>rfl),by repeat(first|(with_reducible first|exact HB.out|apply Ye|apply Yd|apply Yg|refine Yh ?_ GE107.out)|exact HB.out)⟩
 rw[Yy c7] at H;have c7b0:decide ((ji6)<0)=false:=Yw c7;clear c7;obtain⟨ji11,hji11⟩: ∃ j_:Int,(mx a1 a2)=j_:=⟨_,rfl⟩;replace H:(if (ji11)≥Zb then(some 70) else(if a1=a2 then(some 70) else(some 0)))=some r:=by first|(rw[hji11] at H;exact H)|(simp only[hji11] at H ⊢;exact H)
 (try rw[hji11] at A4)
 have hji11_:(if a1<a2 then a2 else a1)=ji11:=hji11;by_cases c12:(ji11)≥Zb
 ·rw[Yx c12] at H
  have c12b0:decide (Zb≤(ji11))=true:=Yv c12;clear c12;obtain rfl:=Option.some.inj H;go_enter Try.func37,Try.ntmps37;go_wp2_with (first|((with_reducible refine gate_dst (N:=3) rfl ?_);(try (refine gate_guard (by rfl) ?_;dsimp only));refine Yz ?hg (N:=3) ?hd (cs:= #[.int .i64 Zb, .bool Zc, .slice Zg Za.length Zd]) (t:=32) ?hr ?_;(case hd=>rfl);(case hg=>rfl);(case hr=>first|(go_simp;done)|(go_simp;rfl));intro Ww hg w13 Zi hb;have n0_:=Ya (Yk (by repeat(first|(with_reducible first|exact HB.out|apply Ye|apply Yd|apply Yg)|exact HB.out)) hb);have n1_:=Ya (Zi);have n2_:=Ya ((by rw[hg];exact(Yi (by repeat(first|(with_reducible first|exact HB.out|apply Ye|apply Yd|apply Yg)|exact HB.out))):w.heap.size≤Ww));have n3_:=Ya ((by rw[hg];exact(Yi (by repeat(first|(with_reducible first|exact HB.out|apply Ye|apply Yd|apply Yg)|exact HB.out))):w.heap.size≤Ww));clear HB;have HB:=n0_;have Xh:=n1_;have GW107:=n2_;have GE107:=n3_;clear n0_ n1_ n2_ n3_;clear hb Zi hg;have hcz14_0:w13.cell? ⟨Ww,0,none⟩=some (.int .i64 Zb):=(Yc Xh.out 0).trans rfl;have hcz14_1:w13.cell? ⟨Ww,1,none⟩=some (.bool Zc):=(Yc Xh.out 1).trans rfl;have hcz14_2:w13.cell? ⟨Ww,2,none⟩=some (.slice Zg Za.length Zd):=(Yc Xh.out 2).trans rfl;have hfz14_0:=Yf Xh.out 0;have hfz14_1:=Yf Xh.out 1;have hfz14_2:=Yf Xh.out 2)|((with_reducible refine gate_callee (f:=33) rfl ?_);refine goesL_ (some 9) rfl rfl Try.func33 (by kernel_rfl) rfl #[.agg #[.int .i64 Zb, .bool Zc, .slice Zg Za.length Zd]] rfl (by(try simp only[List.map_toArray,List.map_cons,List.map_nil]);first|done|rfl|(simp only[List.length_drop,List.length_take];rfl)) ?_;(with_reducible refine(netfmt_Check.calls k Zb Zc _ _ Za t108 _ ?side1 ?side2 A4.out).mono ?_);(case side1=>repeat(first|exact(Yt Xl.out HB.out)|(with_reducible refine Kd.C_alloc ?_ _)|(with_reducible refine Kd.C_drewN ?_ _)|(with_reducible refine Kd.C_drew ?_)));(case side2=>exact Wd.out);rintro e w15 ⟨rfl,hb⟩;refine⟨_,rfl,?_⟩;have n0_:=Ya (Yn (g:=Ww) (o:= .cells #[.int .i64 Zb, .bool Zc, .slice Zg Za.length Zd] 32 (0,0)) (by(with_reducible repeat(first|refine Yl ?_ _|refine Ym ?_|refine Yj ?_ _));exact Xh.out) hb);have n1_:=Ya (Yk (by repeat(first|(with_reducible first|exact HB.out|apply Ye|apply Yd|apply Yg|refine Yh ?_ GE107.out)|exact HB.out)) hb);clear Xh;clear HB;have Xh:=n0_;have HB:=n1_;clear n0_ n1_;(try clear hb);(try clear hb2);(try clear hk);(try clear hi);have hcz16_0:w15.cell? ⟨Ww,0,none⟩=some (.int .i64 Zb):=(Yc Xh.out 0).trans rfl;have hcz16_1:w15.cell? ⟨Ww,1,none⟩=some (.bool Zc):=(Yc Xh.out 1).trans rfl;have hcz16_2:w15.cell? ⟨Ww,2,none⟩=some (.slice Zg Za.length Zd):=(Yc Xh.out 2).trans rfl;have hfz16_0:=Yf Xh.out 0;have hfz16_1:=Yf Xh.out 1;have hfz16_2:=Yf Xh.out 2));go_ret;exact⟨by first|rfl|(simp[errW_none,errW_some]<;>rfl)|(simp only[← hji6, ← hji11];first|rfl|(simp[errW_none,errW_some]<;>rfl))|(simp[*,errW_none,errW_some]<;>rfl),by repeat(first|(with_reducible first|exact HB.out|apply Ye|apply Yd|apply Yg|refine Yh ?_ GE107.out)|exact HB.out)⟩
 rw[Yy c12] at H;have c12b0:decide (Zb≤(ji11))=false:=Yw c12;clear c12;by_cases c17:a1=a2
 rotate_left
 ·rw[Yy c17] at H
  have c17b0:(a1 == a2)=false:=beq_eq_false_iff_ne.mpr c17;have c17b1:(a1 != a2)=true:=bne_iff_ne.mpr c17;obtain rfl:=Option.some.inj H;go_enter Try.func37,Try.ntmps37;go_wp2_with (first|((with_reducible refine gate_dst (N:=3) rfl ?_);(try (refine gate_guard (by rfl) ?_;dsimp only));refine Yz ?hg (N:=3) ?hd (cs:= #[.int .i64 Zb, .bool Zc, .slice Zg Za.length Zd]) (t:=32) ?hr ?_;(case hd=>rfl);(case hg=>rfl);(case hr=>first|(go_simp;done)|(go_simp;rfl));intro Ww hg w22 Zi hb;have n0_:=Ya (Yk (by repeat(first|(with_reducible first|exact HB.out|apply Ye|apply Yd|apply Yg)|exact HB.out)) hb);have n1_:=Ya (Zi);have n2_:=Ya ((by rw[hg];exact(Yi (by repeat(first|(with_reducible first|exact HB.out|apply Ye|apply Yd|apply Yg)|exact HB.out))):w.heap.size≤Ww));have n3_:=Ya ((by rw[hg];exact(Yi (by repeat(first|(with_reducible first|exact HB.out|apply Ye|apply Yd|apply Yg)|exact HB.out))):w.heap.size≤Ww));clear HB;have HB:=n0_;have Xh:=n1_;have GW107:=n2_;have GE107:=n3_;clear n0_ n1_ n2_ n3_;clear hb Zi hg;have hcz23_0:w22.cell? ⟨Ww,0,none⟩=some (.int .i64 Zb):=(Yc Xh.out 0).trans rfl;have hcz23_1:w22.cell? ⟨Ww,1,none⟩=some (.bool Zc):=(Yc Xh.out 1).trans rfl;have hcz23_2:w22.cell? ⟨Ww,2,none⟩=some (.slice Zg Za.length Zd):=(Yc Xh.out 2).trans rfl;have hfz23_0:=Yf Xh.out 0;have hfz23_1:=Yf Xh.out 1;have hfz23_2:=Yf Xh.out 2)|((with_reducible refine gate_callee (f:=33) rfl ?_);refine goesL_ (some 9) rfl rfl Try.func33 (by kernel_rfl) rfl #[.agg #[.int .i64 Zb, .bool Zc, .slice Zg Za.length Zd]] rfl (by(try simp only[List.map_toArray,List.map_cons,List.map_nil]);first|done|rfl|(simp only[List.length_drop,List.length_take];rfl)) ?_;(with_reducible refine(netfmt_Check.calls k Zb Zc _ _ Za t108 _ ?side1 ?side2 A4.out).mono ?_);(case side1=>repeat(first|exact(Yt Xl.out HB.out)|(with_reducible refine Kd.C_alloc ?_ _)|(with_reducible refine Kd.C_drewN ?_ _)|(with_reducible refine Kd.C_drew ?_)));(case side2=>exact Wd.out);rintro e w24 ⟨rfl,hb⟩;refine⟨_,rfl,?_⟩;have n0_:=Ya (Yn (g:=Ww) (o:= .cells #[.int .i64 Zb, .bool Zc, .slice Zg Za.length Zd] 32 (0,0)) (by(with_reducible repeat(first|refine Yl ?_ _|refine Ym ?_|refine Yj ?_ _));exact Xh.out) hb);have n1_:=Ya (Yk (by repeat(first|(with_reducible first|exact HB.out|apply Ye|apply Yd|apply Yg|refine Yh ?_ GE107.out)|exact HB.out)) hb);clear Xh;clear HB;have Xh:=n0_;have HB:=n1_;clear n0_ n1_;(try clear hb);(try clear hb2);(try clear hk);(try clear hi);have hcz25_0:w24.cell? ⟨Ww,0,none⟩=some (.int .i64 Zb):=(Yc Xh.out 0).trans rfl;have hcz25_1:w24.cell? ⟨Ww,1,none⟩=some (.bool Zc):=(Yc Xh.out 1).trans rfl;have hcz25_2:w24.cell? ⟨Ww,2,none⟩=some (.slice Zg Za.length Zd):=(Yc Xh.out 2).trans rfl;have hfz25_0:=Yf Xh.out 0;have hfz25_1:=Yf Xh.out 1;have hfz25_2:=Yf Xh.out 2));go_ret;exact⟨by first|rfl|(simp[errW_none,errW_some]<;>rfl)|(simp only[← hji6, ← hji11];first|rfl|(simp[errW_none,errW_some]<;>rfl))|(simp[*,errW_none,errW_some]<;>rfl),by repeat(first|(with_reducible first|exact HB.out|apply Ye|apply Yd|apply Yg|refine Yh ?_ GE107.out)|exact HB.out)⟩
 rw[Yx c17] at H;have c17b0:(a1 == a2)=true:=beq_iff_eq.mpr c17;have c17b1:(a1 != a2)=false:=bne_eq_false_iff_eq.mpr c17;clear c17;obtain rfl:=Option.some.inj H;go_enter Try.func37,Try.ntmps37;go_wp2_with (first|((with_reducible refine gate_dst (N:=3) rfl ?_);(try (refine gate_guard (by rfl) ?_;dsimp only));refine Yz ?hg (N:=3) ?hd (cs:= #[.int .i64 Zb, .bool Zc, .slice Zg Za.length Zd]) (t:=32) ?hr ?_;(case hd=>rfl);(case hg=>rfl);(case hr=>first|(go_simp;done)|(go_simp;rfl));intro Ww hg w18 Zi hb;have n0_:=Ya (Yk (by repeat(first|(with_reducible first|exact HB.out|apply Ye|apply Yd|apply Yg)|exact HB.out)) hb);have n1_:=Ya (Zi);have n2_:=Ya ((by rw[hg];exact(Yi (by repeat(first|(with_reducible first|exact HB.out|apply Ye|apply Yd|apply Yg)|exact HB.out))):w.heap.size≤Ww));have n3_:=Ya ((by rw[hg];exact(Yi (by repeat(first|(with_reducible first|exact HB.out|apply Ye|apply Yd|apply Yg)|exact HB.out))):w.heap.size≤Ww));clear HB;have HB:=n0_;have Xh:=n1_;have GW107:=n2_;have GE107:=n3_;clear n0_ n1_ n2_ n3_;clear hb Zi hg;have hcz19_0:w18.cell? ⟨Ww,0,none⟩=some (.int .i64 Zb):=(Yc Xh.out 0).trans rfl;have hcz19_1:w18.cell? ⟨Ww,1,none⟩=some (.bool Zc):=(Yc Xh.out 1).trans rfl;have hcz19_2:w18.cell? ⟨Ww,2,none⟩=some (.slice Zg Za.length Zd):=(Yc Xh.out 2).trans rfl;have hfz19_0:=Yf Xh.out 0;have hfz19_1:=Yf Xh.out 1;have hfz19_2:=Yf Xh.out 2)|((with_reducible refine gate_callee (f:=33) rfl ?_);refine goesL_ (some 9) rfl rfl Try.func33 (by kernel_rfl) rfl #[.agg #[.int .i64 Zb, .bool Zc, .slice Zg Za.length Zd]] rfl (by(try simp only[List.map_toArray,List.map_cons,List.map_nil]);first|done|rfl|(simp only[List.length_drop,List.length_take];rfl)) ?_;(with_reducible refine(netfmt_Check.calls k Zb Zc _ _ Za t108 _ ?side1 ?side2 A4.out).mono ?_);(case side1=>repeat(first|exact(Yt Xl.out HB.out)|(with_reducible refine Kd.C_alloc ?_ _)|(with_reducible refine Kd.C_drewN ?_ _)|(with_reducible refine Kd.C_drew ?_)));(case side2=>exact Wd.out);rintro e w20 ⟨rfl,hb⟩;refine⟨_,rfl,?_⟩;have n0_:=Ya (Yn (g:=Ww) (o:= .cells #[.int .i64 Zb, .bool Zc, .slice Zg Za.length Zd] 32 (0,0)) (by(with_reducible repeat(first|refine Yl ?_ _|refine Ym ?_|refine Yj ?_ _));exact Xh.out) hb);have n1_:=Ya (Yk (by repeat(first|(with_reducible first|exact HB.out|apply Ye|apply Yd|apply Yg|refine Yh ?_ GE107.out)|exact HB.out)) hb);clear Xh;clear HB;have Xh:=n0_;have HB:=n1_;clear n0_ n1_;(try clear hb);(try clear hb2);(try clear hk);(try clear hi);have hcz21_0:w20.cell? ⟨Ww,0,none⟩=some (.int .i64 Zb):=(Yc Xh.out 0).trans rfl;have hcz21_1:w20.cell? ⟨Ww,1,none⟩=some (.bool Zc):=(Yc Xh.out 1).trans rfl;have hcz21_2:w20.cell? ⟨Ww,2,none⟩=some (.slice Zg Za.length Zd):=(Yc Xh.out 2).trans rfl;have hfz21_0:=Yf Xh.out 0;have hfz21_1:=Yf Xh.out 1;have hfz21_2:=Yf Xh.out 2));go_ret;exact⟨by first|rfl|(simp[errW_none,errW_some]<;>rfl)|(simp only[← hji6, ← hji11];first|rfl|(simp[errW_none,errW_some]<;>rfl))|(simp[*,errW_none,errW_some]<;>rfl),by repeat(first|(with_reducible first|exact HB.out|apply Ye|apply Yd|apply Yg|refine Yh ?_ GE107.out)|exact HB.out)⟩
end P
namespace P
attribute [local go_sem] max2_int min2_int max_two min_two max_three min_three max_four min_four
def span_Asked.f (k:Nat) (Zb:Int) (Zc:Bool) (Za:List (S73)) (a1:Int) (a2:Int) (a3:Int):Option (Int):=(static_Ends.f k Zb Zc Za a1 a2).bind fun t110=>(if t110=0 then((span_Horizon.f a3).bind fun t111=>(some t111)) else(some t110))
set_option maxHeartbeats 8000000 in
set_option maxRecDepth 100000 in
theorem span_Asked.calls (k:Nat) (Zb:Int) (Zc:Bool) (Zg:Option Addr) (Zd:Nat) (Za:List (S73)) (a1:Int) (a2:Int) (a3:Int) (r:Int) (w:World) (Wg:Kd.C k73 w Zg Za.length Za) (Wh:Za.length≤Zd) (h:span_Asked.f k Zb Zc Za a1 a2 a3=some r):
  Calls Try.prog 21 #[.agg #[.int .i64 Zb, .bool Zc, .slice Zg Za.length Zd], .int .i64 a1, .int .i64 a2, .int .i64 a3] w fun e w'=>e= .returned (.int .i64 r)∧Below w.heap.size w w':=by
 have hu32:=Try.underlying32;have Xl:=Ya Wg;have Wd:=Ya Wh;clear Wg Wh;have HB:=Ya (Yo w.heap.size w);have H:((static_Ends.f k Zb Zc Za a1 a2).bind fun t110=>(if t110=0 then((span_Horizon.f a3).bind fun t111=>(some t111)) else(some t110)))=some r:=h;clear h;replace H:=Option.bind_eq_some_iff.mp H;obtain⟨t110,A50,H⟩:=H;replace H:(if t110=0 then((span_Horizon.f a3).bind fun t111=>(some t111)) else(some t110))=some r:=H;have A5:=Ya A50;clear A50;by_cases c6:t110=0
 rotate_left
 ·rw[Yy c6] at H
  have c6b0:(t110 == 0)=false:=beq_eq_false_iff_ne.mpr c6;have c6b1:(t110 != 0)=true:=bne_iff_ne.mpr c6;obtain rfl:=Option.some.inj H;go_enter Try.func21,Try.ntmps21;go_wp2_with (first|((with_reducible refine gate_dst (N:=4) rfl ?_);refine Yz ?hg (N:=4) ?hd (cs:= #[.int .i64 Zb, .bool Zc, .slice Zg Za.length Zd]) (t:=32) ?hr ?_;(case hd=>rfl);(case hg=>rfl);(case hr=>first|(go_simp;done)|(go_simp;rfl));intro gb109 hg w11 Zi hb;have n0_:=Ya (Yk (by repeat(first|(with_reducible first|exact HB.out|apply Ye|apply Yd|apply Yg)|exact HB.out)) hb);have n1_:=Ya (Zi);have n2_:=Ya ((by rw[hg];exact(Yi (by repeat(first|(with_reducible first|exact HB.out|apply Ye|apply Yd|apply Yg)|exact HB.out))):w.heap.size≤gb109));have n3_:=Ya ((by rw[hg];exact(Yi (by repeat(first|(with_reducible first|exact HB.out|apply Ye|apply Yd|apply Yg)|exact HB.out))):w.heap.size≤gb109));clear HB;have HB:=n0_;have BK109:=n1_;have GW109:=n2_;have GE109:=n3_;clear n0_ n1_ n2_ n3_;clear hb Zi hg;have hcz12_0:w11.cell? ⟨gb109,0,none⟩=some (.int .i64 Zb):=(Yc BK109.out 0).trans rfl;have hcz12_1:w11.cell? ⟨gb109,1,none⟩=some (.bool Zc):=(Yc BK109.out 1).trans rfl;have hcz12_2:w11.cell? ⟨gb109,2,none⟩=some (.slice Zg Za.length Zd):=(Yc BK109.out 2).trans rfl;have hfz12_0:=Yf BK109.out 0;have hfz12_1:=Yf BK109.out 1;have hfz12_2:=Yf BK109.out 2)|((with_reducible refine gate_callee (f:=37) rfl ?_);refine goesL_ (some 13) rfl rfl Try.func37 (by kernel_rfl) rfl #[.agg #[.int .i64 Zb, .bool Zc, .slice Zg Za.length Zd], .int .i64 a1, .int .i64 a2] rfl (by(try simp only[List.map_toArray,List.map_cons,List.map_nil]);first|done|rfl|(simp only[List.length_drop,List.length_take];rfl)) ?_;(with_reducible refine(static_Ends.calls k Zb Zc _ _ Za a1 a2 t110 _ ?side1 ?side2 A5.out).mono ?_);(case side1=>repeat(first|exact(Yt Xl.out HB.out)|(with_reducible refine Kd.C_alloc ?_ _)|(with_reducible refine Kd.C_drewN ?_ _)|(with_reducible refine Kd.C_drew ?_)));(case side2=>exact Wd.out);rintro e w13 ⟨rfl,hb⟩;refine⟨_,rfl,?_⟩;have n0_:=Ya (Yn (g:=gb109) (o:= .cells #[.int .i64 Zb, .bool Zc, .slice Zg Za.length Zd] 32 (0,0)) (by(with_reducible repeat(first|refine Yl ?_ _|refine Ym ?_|refine Yj ?_ _));exact BK109.out) hb);have n1_:=Ya (Yk (by repeat(first|(with_reducible first|exact HB.out|apply Ye|apply Yd|apply Yg|refine Yh ?_ GE109.out)|exact HB.out)) hb);clear BK109;clear HB;have BK109:=n0_;have HB:=n1_;clear n0_ n1_;(try clear hb);(try clear hb2);(try clear hk);(try clear hi)));go_ret;exact⟨by first|rfl|(simp[errW_none,errW_some]<;>rfl)|(simp[*,errW_none,errW_some]<;>rfl),by repeat(first|(with_reducible first|exact HB.out|apply Ye|apply Yd|apply Yg|refine Yh ?_ GE109.out)|exact HB.out)⟩
 rw[Yx c6] at H;have c6b0:(t110 == 0)=true:=beq_iff_eq.mpr c6;have c6b1:(t110 != 0)=false:=bne_eq_false_iff_eq.mpr c6;clear c6;replace H:=Option.bind_eq_some_iff.mp H;obtain⟨t111,A70,H⟩:=H;replace H:(some t111)=some r:=H;have A7:=Ya A70;clear A70;obtain rfl:=Option.some.inj H;go_enter Try.func21,Try.ntmps21;go_wp2_with (first|((with_reducible refine gate_dst (N:=4) rfl ?_);refine Yz ?hg (N:=4) ?hd (cs:= #[.int .i64 Zb, .bool Zc, .slice Zg Za.length Zd]) (t:=32) ?hr ?_;(case hd=>rfl);(case hg=>rfl);(case hr=>first|(go_simp;done)|(go_simp;rfl));intro gb109 hg w8 Zi hb;have n0_:=Ya (Yk (by repeat(first|(with_reducible first|exact HB.out|apply Ye|apply Yd|apply Yg)|exact HB.out)) hb);have n1_:=Ya (Zi);have n2_:=Ya ((by rw[hg];exact(Yi (by repeat(first|(with_reducible first|exact HB.out|apply Ye|apply Yd|apply Yg)|exact HB.out))):w.heap.size≤gb109));have n3_:=Ya ((by rw[hg];exact(Yi (by repeat(first|(with_reducible first|exact HB.out|apply Ye|apply Yd|apply Yg)|exact HB.out))):w.heap.size≤gb109));clear HB;have HB:=n0_;have BK109:=n1_;have GW109:=n2_;have GE109:=n3_;clear n0_ n1_ n2_ n3_;clear hb Zi hg;have hcz9_0:w8.cell? ⟨gb109,0,none⟩=some (.int .i64 Zb):=(Yc BK109.out 0).trans rfl;have hcz9_1:w8.cell? ⟨gb109,1,none⟩=some (.bool Zc):=(Yc BK109.out 1).trans rfl;have hcz9_2:w8.cell? ⟨gb109,2,none⟩=some (.slice Zg Za.length Zd):=(Yc BK109.out 2).trans rfl;have hfz9_0:=Yf BK109.out 0;have hfz9_1:=Yf BK109.out 1;have hfz9_2:=Yf BK109.out 2)|((with_reducible refine gate_callee (f:=37) rfl ?_);refine goesL_ (some 13) rfl rfl Try.func37 (by kernel_rfl) rfl #[.agg #[.int .i64 Zb, .bool Zc, .slice Zg Za.length Zd], .int .i64 a1, .int .i64 a2] rfl (by(try simp only[List.map_toArray,List.map_cons,List.map_nil]);first|done|rfl|(simp only[List.length_drop,List.length_take];rfl)) ?_;(with_reducible refine(static_Ends.calls k Zb Zc _ _ Za a1 a2 t110 _ ?side1 ?side2 A5.out).mono ?_);(case side1=>repeat(first|exact(Yt Xl.out HB.out)|(with_reducible refine Kd.C_alloc ?_ _)|(with_reducible refine Kd.C_drewN ?_ _)|(with_reducible refine Kd.C_drew ?_)));(case side2=>exact Wd.out);rintro e w10 ⟨rfl,hb⟩;refine⟨_,rfl,?_⟩;have n0_:=Ya (Yn (g:=gb109) (o:= .cells #[.int .i64 Zb, .bool Zc, .slice Zg Za.length Zd] 32 (0,0)) (by(with_reducible repeat(first|refine Yl ?_ _|refine Ym ?_|refine Yj ?_ _));exact BK109.out) hb);have n1_:=Ya (Yk (by repeat(first|(with_reducible first|exact HB.out|apply Ye|apply Yd|apply Yg|refine Yh ?_ GE109.out)|exact HB.out)) hb);clear BK109;clear HB;have BK109:=n0_;have HB:=n1_;clear n0_ n1_;(try clear hb);(try clear hb2);(try clear hk);(try clear hi))|((with_reducible refine gate_callee (f:=34) rfl ?_);refine goesL_ (some 18) rfl rfl Try.func34 (by kernel_rfl) rfl #[.int .i64 a3] rfl (by(try simp only[List.map_toArray,List.map_cons,List.map_nil]);first|done|rfl|(simp only[List.length_drop,List.length_take];rfl)) ?_;(with_reducible refine(span_Horizon.calls a3 t111 _ A7.out).mono ?_);rintro e w' ⟨rfl,⟨nd,rfl⟩⟩;refine⟨_,rfl,?_⟩));go_ret;exact⟨by first|rfl|(simp[errW_none,errW_some]<;>rfl)|(simp[*,errW_none,errW_some]<;>rfl),by repeat(first|(with_reducible first|exact HB.out|apply Ye|apply Yd|apply Yg|refine Yh ?_ GE109.out)|exact HB.out)⟩
end P
namespace Q
theorem Ev.pos {α:Type} {c:Prop} [Decidable c] {f g:Nat→Option α} {r:α} (h:c) (e:Ev f r):Ev (fun k=>if c then f k else g k) r:=
 Ev.congr (fun _=>Yx h) e
theorem Ev.neg {α:Type} {c:Prop} [Decidable c] {f g:Nat→Option α} {r:α} (h: ¬ c) (e:Ev g r):Ev (fun k=>if c then f k else g k) r:=
 Ev.congr (fun _=>Yy h) e
theorem Ev.ite {α:Type} {c:Prop} [Decidable c] {f g:Nat→Option α} {r:α} (e:c→Ev f r) (e': ¬ c→Ev g r):Ev (fun k=>if c then f k else g k) r:=by
 by_cases h:c
 ·exact Ev.pos h (e h)
 ·exact Ev.neg h (e' h)
theorem Ev.succ {α:Type} {g:Nat→Option α} {r:α} (e:Ev (fun k=>g (k+1)) r):Ev g r:=Ev.step (fun _=>rfl) e
theorem Ev.let_ {α β:Type} {a:α} {f:Nat→α→Option β} {r:β} (e:Ev (fun k=>f k a) r):Ev (fun k=>(some a).bind (f k)) r:=e
theorem Ev.call {α β:Type} {g:Option α} {a:α} {f:Nat→α→Option β} {r:β} (h:g=some a) (e:Ev (fun k=>f k a) r):Ev (fun k=>g.bind (f k)) r:=by
 subst h;exact e
theorem Ev.done {α:Type} {a r:α} (h:a=r):Ev (fun _=>some a) r:=h▸Ev.now a
theorem Ev.eq {α:Type} {g:Nat→Option α} {a r:α} (h:Ev g a) (e:a=r):Ev g r:=e▸h
theorem wrap_id {x:Int} (h0: -9223372036854775808≤x) (h1:x≤9223372036854775807):wrap64 x=x:=by
 unfold wrap64;omega
theorem wrap_succ {i n:Nat} (h:i<n) (hn:n≤9223372036854775807):wrap64 ((i:Int)+1)=((i+1:Nat):Int):=by
 unfold wrap64;omega
theorem drop_getD {α:Type} (l:List α) (i:Nat) (d:α) (h:i<l.length):l.drop i=l.getD i d::l.drop (i+1):=by
 rw[List.drop_eq_getElem_cons h,List.getD_eq_getElem?_getD,List.getElem?_eq_getElem h];rfl
theorem rd_nat (xs:List Int) (i:Nat):rd xs (i:Int)=xs.getD i 0:=by
 unfold rd;rw[Int.toNat_natCast]
theorem getD_mem {α:Type} {l:List α} {i:Nat} {d:α} (h:i<l.length):l.getD i d∈l:=by
 rw[List.getD_eq_getElem?_getD,List.getElem?_eq_getElem h];exact List.getElem_mem h
theorem getD_set {α:Type} (l:List α) (i j:Nat) (a d:α) (h:i<l.length):(l.set i a).getD j d=if i=j then a else l.getD j d:=by
 rw[List.getD_eq_getElem?_getD,List.getD_eq_getElem?_getD,List.getElem?_set];by_cases e:i=j
 ·subst e;simp[h]
 ·simp[e]
end Q
namespace P
attribute [local go_sem] max2_int min2_int max_two min_two max_three min_three max_four min_four
def ebbtideref05_nodes.f (a0:Int):Option (Int):=if a0<1 then(some 51) else(if a0>50 then(some 2) else(some 0))
set_option maxHeartbeats 8000000 in
set_option maxRecDepth 100000 in
theorem ebbtideref05_nodes.calls (a0:Int) (r:Int) (w:World) (h:ebbtideref05_nodes.f a0=some r):
  Calls Try.prog 60 #[.int .i64 a0] w fun e w'=>e= .returned (.int .i64 r)∧Drawn0 w w':=by
 have H:(if a0<1 then(some 51) else(if a0>50 then(some 2) else(some 0)))=some r:=h;clear h;by_cases c2:a0<1
 ·rw[Yx c2] at H
  have c2b0:decide (a0<1)=true:=Yv c2;clear c2;obtain rfl:=Option.some.inj H;go_enter Try.func60,Try.ntmps60;go_wp2;go_ret;exact⟨by first|rfl|(simp;done)|(simp[*];done),by repeat(first|exact Drawn0.refl _|apply Drawn0.step)⟩
 rw[Yy c2] at H;have c2b0:decide (a0<1)=false:=Yw c2;clear c2;by_cases c3:a0>50
 rotate_left
 ·rw[Yy c3] at H
  have c3b0:decide (50<a0)=false:=Yw c3;clear c3;obtain rfl:=Option.some.inj H;go_enter Try.func60,Try.ntmps60;go_wp2;go_ret;exact⟨by first|rfl|(simp;done)|(simp[*];done),by repeat(first|exact Drawn0.refl _|apply Drawn0.step)⟩
 rw[Yx c3] at H;have c3b0:decide (50<a0)=true:=Yv c3;clear c3;obtain rfl:=Option.some.inj H;go_enter Try.func60,Try.ntmps60;go_wp2;go_ret;exact⟨by first|rfl|(simp;done)|(simp[*];done),by repeat(first|exact Drawn0.refl _|apply Drawn0.step)⟩
end P
namespace P
attribute [local go_sem] max2_int min2_int max_two min_two max_three min_three max_four min_four
def ebbtideref05_Arc.j0:Nat→Bool→Int→Int→Int→Int→Option (Int)
 |0,_,_,_,_,_=>none
 |k+1,x34,x199000,x199001,x199002,x199003=>if x34=true then(some 51) else(if x199002>1048576 then(some 2) else(if x199003>1048576 then(some 2) else(some 0)))
def ebbtideref05_Arc.f (k:Nat) (a0:Int) (Wm:Int) (Wn:Int) (Ws:Int) (Wt:Int):Option (Int):=if Wm<0 then(ebbtideref05_Arc.j0 k true Wm Wn Ws Wt) else(if Wm≥a0 then(ebbtideref05_Arc.j0 k true Wm Wn Ws Wt) else(if Wn<0 then(ebbtideref05_Arc.j0 k true Wm Wn Ws Wt) else(if Wn≥a0 then(ebbtideref05_Arc.j0 k true Wm Wn Ws Wt) else(if Ws<0 then(ebbtideref05_Arc.j0 k true Wm Wn Ws Wt) else(ebbtideref05_Arc.j0 k (decide (Wt<0)) Wm Wn Ws Wt)))))
set_option maxHeartbeats 8000000 in
set_option maxRecDepth 100000 in
theorem ebbtideref05_Arc.calls (k:Nat) (a0:Int) (Wm:Int) (Wn:Int) (Ws:Int) (Wt:Int) (r:Int) (w:World) (h:ebbtideref05_Arc.f k a0 Wm Wn Ws Wt=some r):
  Calls Try.prog 61 #[.int .i64 a0, .agg #[.int .i64 Wm, .int .i64 Wn, .int .i64 Ws, .int .i64 Wt]] w fun e w'=>e= .returned (.int .i64 r)∧Below w.heap.size w w':=by
 have hu73:=Try.underlying73;have HB:=Ya (Yo w.heap.size w);have H:(if Wm<0 then(ebbtideref05_Arc.j0 k true Wm Wn Ws Wt) else(if Wm≥a0 then(ebbtideref05_Arc.j0 k true Wm Wn Ws Wt) else(if Wn<0 then(ebbtideref05_Arc.j0 k true Wm Wn Ws Wt) else(if Wn≥a0 then(ebbtideref05_Arc.j0 k true Wm Wn Ws Wt) else(if Ws<0 then(ebbtideref05_Arc.j0 k true Wm Wn Ws Wt) else(ebbtideref05_Arc.j0 k (decide (Wt<0)) Wm Wn Ws Wt))))))=some r:=h;clear h;have HC3:=Ya H;clear H;go_enter Try.func61,Try.ntmps61;go_upto_region 1 with (first|((with_reducible refine gate_dst (N:=3) rfl ?_);refine Yz ?hg (N:=3) ?hd (cs:= #[.int .i64 Wm, .int .i64 Wn, .int .i64 Ws, .int .i64 Wt]) (t:=73) ?hr ?_;(case hd=>rfl);(case hg=>rfl);(case hr=>first|(go_simp;done)|(go_simp;rfl));intro Vd hg w4 Zi hb;have n0_:=Ya (Yk (by repeat(first|(with_reducible first|exact HB.out|apply Ye|apply Yd|apply Yg)|exact HB.out)) hb);have n1_:=Ya (Zi);have n2_:=Ya ((by rw[hg];exact(Yi (by repeat(first|(with_reducible first|exact HB.out|apply Ye|apply Yd|apply Yg)|exact HB.out))):w.heap.size≤Vd));have n3_:=Ya ((by rw[hg];exact(Yi (by repeat(first|(with_reducible first|exact HB.out|apply Ye|apply Yd|apply Yg)|exact HB.out))):w.heap.size≤Vd));clear HB;have HB:=n0_;have Xb:=n1_;have GW198:=n2_;have GE198:=n3_;clear n0_ n1_ n2_ n3_;clear hb Zi hg))
 (try simp only[Act.put,List.setIfInBounds_toArray,List.set_cons_zero,List.set_cons_succ])
 go_cut [34] (fun v34 wc=> ∃ (kq:Nat) (x34_2:Bool),v34= .bool x34_2∧Aside0 (ebbtideref05_Arc.j0 kq x34_2 Wm Wn Ws Wt=some r)∧Aside0 (kq≤k)∧Aside0 (wc.heap[Vd]? =some (.cells #[.int .i64 Wm, .int .i64 Wn, .int .i64 Ws, .int .i64 Wt] 73 (0,0)))∧Aside0 (Below w.heap.size w wc))
 case first=>
  have H:=HC3.out;clear HC3;by_cases c5:Wm<0
  ·rw[Yx c5] at H
   have c5b0:decide (Wm<0)=true:=Yv c5;clear c5
   (first|rw[c5b0]|(simp only[i64_w,i32_w];rw[c5b0])|skip)
   have H':=Ya H;clear H;have hcz6_0:w4.cell? ⟨Vd,0,none⟩=some (.int .i64 Wm):=(Yc Xb.out 0).trans rfl;have hcz6_1:w4.cell? ⟨Vd,1,none⟩=some (.int .i64 Wn):=(Yc Xb.out 1).trans rfl;have hcz6_2:w4.cell? ⟨Vd,2,none⟩=some (.int .i64 Ws):=(Yc Xb.out 2).trans rfl;have hcz6_3:w4.cell? ⟨Vd,3,none⟩=some (.int .i64 Wt):=(Yc Xb.out 3).trans rfl;have hfz6_0:=Yf Xb.out 0;have hfz6_1:=Yf Xb.out 1;have hfz6_2:=Yf Xb.out 2;have hfz6_3:=Yf Xb.out 3;go_wp2;go_meet
   case rel=>exact⟨_,(true),(by first|rfl|(simp;done)|(simp[*];done)),H',⟨by first|omega|exact Nat.le_refl _⟩,⟨by(with_reducible repeat(first|refine Yl ?_ _|refine Ym ?_|refine Yj ?_ _));exact Xb.out⟩,⟨by repeat(first|(with_reducible first|exact HB.out|apply Ye|apply Yd|apply Yg|refine Yh ?_ GE198.out)|exact HB.out)⟩⟩
  rw[Yy c5] at H;have c5b0:decide (Wm<0)=false:=Yw c5;clear c5
  (first|rw[c5b0]|(simp only[i64_w,i32_w];rw[c5b0])|skip)
  by_cases c7:Wm≥a0
  ·rw[Yx c7] at H
   have c7b0:decide (a0≤Wm)=true:=Yv c7;clear c7;have H':=Ya H;clear H;have hcz8_0:w4.cell? ⟨Vd,0,none⟩=some (.int .i64 Wm):=(Yc Xb.out 0).trans rfl;have hcz8_1:w4.cell? ⟨Vd,1,none⟩=some (.int .i64 Wn):=(Yc Xb.out 1).trans rfl;have hcz8_2:w4.cell? ⟨Vd,2,none⟩=some (.int .i64 Ws):=(Yc Xb.out 2).trans rfl;have hcz8_3:w4.cell? ⟨Vd,3,none⟩=some (.int .i64 Wt):=(Yc Xb.out 3).trans rfl;have hfz8_0:=Yf Xb.out 0;have hfz8_1:=Yf Xb.out 1;have hfz8_2:=Yf Xb.out 2;have hfz8_3:=Yf Xb.out 3;go_wp2;go_meet
   case rel=>exact⟨_,(true),(by first|rfl|(simp;done)|(simp[*];done)),H',⟨by first|omega|exact Nat.le_refl _⟩,⟨by(with_reducible repeat(first|refine Yl ?_ _|refine Ym ?_|refine Yj ?_ _));exact Xb.out⟩,⟨by repeat(first|(with_reducible first|exact HB.out|apply Ye|apply Yd|apply Yg|refine Yh ?_ GE198.out)|exact HB.out)⟩⟩
  rw[Yy c7] at H;have c7b0:decide (a0≤Wm)=false:=Yw c7;clear c7;by_cases c9:Wn<0
  ·rw[Yx c9] at H
   have c9b0:decide (Wn<0)=true:=Yv c9;clear c9;have H':=Ya H;clear H;have hcz10_0:w4.cell? ⟨Vd,0,none⟩=some (.int .i64 Wm):=(Yc Xb.out 0).trans rfl;have hcz10_1:w4.cell? ⟨Vd,1,none⟩=some (.int .i64 Wn):=(Yc Xb.out 1).trans rfl;have hcz10_2:w4.cell? ⟨Vd,2,none⟩=some (.int .i64 Ws):=(Yc Xb.out 2).trans rfl;have hcz10_3:w4.cell? ⟨Vd,3,none⟩=some (.int .i64 Wt):=(Yc Xb.out 3).trans rfl;have hfz10_0:=Yf Xb.out 0;have hfz10_1:=Yf Xb.out 1;have hfz10_2:=Yf Xb.out 2;have hfz10_3:=Yf Xb.out 3;go_wp2;go_meet
   case rel=>exact⟨_,(true),(by first|rfl|(simp;done)|(simp[*];done)),H',⟨by first|omega|exact Nat.le_refl _⟩,⟨by(with_reducible repeat(first|refine Yl ?_ _|refine Ym ?_|refine Yj ?_ _));exact Xb.out⟩,⟨by repeat(first|(with_reducible first|exact HB.out|apply Ye|apply Yd|apply Yg|refine Yh ?_ GE198.out)|exact HB.out)⟩⟩
  rw[Yy c9] at H;have c9b0:decide (Wn<0)=false:=Yw c9;clear c9;by_cases c11:Wn≥a0
  ·rw[Yx c11] at H
   have c11b0:decide (a0≤Wn)=true:=Yv c11;clear c11;have H':=Ya H;clear H;have hcz12_0:w4.cell? ⟨Vd,0,none⟩=some (.int .i64 Wm):=(Yc Xb.out 0).trans rfl;have hcz12_1:w4.cell? ⟨Vd,1,none⟩=some (.int .i64 Wn):=(Yc Xb.out 1).trans rfl;have hcz12_2:w4.cell? ⟨Vd,2,none⟩=some (.int .i64 Ws):=(Yc Xb.out 2).trans rfl;have hcz12_3:w4.cell? ⟨Vd,3,none⟩=some (.int .i64 Wt):=(Yc Xb.out 3).trans rfl;have hfz12_0:=Yf Xb.out 0;have hfz12_1:=Yf Xb.out 1;have hfz12_2:=Yf Xb.out 2;have hfz12_3:=Yf Xb.out 3;go_wp2;go_meet
   case rel=>exact⟨_,(true),(by first|rfl|(simp;done)|(simp[*];done)),H',⟨by first|omega|exact Nat.le_refl _⟩,⟨by(with_reducible repeat(first|refine Yl ?_ _|refine Ym ?_|refine Yj ?_ _));exact Xb.out⟩,⟨by repeat(first|(with_reducible first|exact HB.out|apply Ye|apply Yd|apply Yg|refine Yh ?_ GE198.out)|exact HB.out)⟩⟩
  rw[Yy c11] at H;have c11b0:decide (a0≤Wn)=false:=Yw c11;clear c11;by_cases c13:Ws<0
  rotate_left
  ·rw[Yy c13] at H
   have c13b0:decide (Ws<0)=false:=Yw c13;clear c13;have H':=Ya H;clear H;have hcz15_0:w4.cell? ⟨Vd,0,none⟩=some (.int .i64 Wm):=(Yc Xb.out 0).trans rfl;have hcz15_1:w4.cell? ⟨Vd,1,none⟩=some (.int .i64 Wn):=(Yc Xb.out 1).trans rfl;have hcz15_2:w4.cell? ⟨Vd,2,none⟩=some (.int .i64 Ws):=(Yc Xb.out 2).trans rfl;have hcz15_3:w4.cell? ⟨Vd,3,none⟩=some (.int .i64 Wt):=(Yc Xb.out 3).trans rfl;have hfz15_0:=Yf Xb.out 0;have hfz15_1:=Yf Xb.out 1;have hfz15_2:=Yf Xb.out 2;have hfz15_3:=Yf Xb.out 3;go_wp2;go_meet
   case rel=>exact⟨_,(decide (Wt<0)),(by first|rfl|(simp;done)|(simp[*];done)),H',⟨by first|omega|exact Nat.le_refl _⟩,⟨by(with_reducible repeat(first|refine Yl ?_ _|refine Ym ?_|refine Yj ?_ _));exact Xb.out⟩,⟨by repeat(first|(with_reducible first|exact HB.out|apply Ye|apply Yd|apply Yg|refine Yh ?_ GE198.out)|exact HB.out)⟩⟩
  rw[Yx c13] at H;have c13b0:decide (Ws<0)=true:=Yv c13;clear c13;have H':=Ya H;clear H;have hcz14_0:w4.cell? ⟨Vd,0,none⟩=some (.int .i64 Wm):=(Yc Xb.out 0).trans rfl;have hcz14_1:w4.cell? ⟨Vd,1,none⟩=some (.int .i64 Wn):=(Yc Xb.out 1).trans rfl;have hcz14_2:w4.cell? ⟨Vd,2,none⟩=some (.int .i64 Ws):=(Yc Xb.out 2).trans rfl;have hcz14_3:w4.cell? ⟨Vd,3,none⟩=some (.int .i64 Wt):=(Yc Xb.out 3).trans rfl;have hfz14_0:=Yf Xb.out 0;have hfz14_1:=Yf Xb.out 1;have hfz14_2:=Yf Xb.out 2;have hfz14_3:=Yf Xb.out 3;go_wp2;go_meet
  case rel=>exact⟨_,(true),(by first|rfl|(simp;done)|(simp[*];done)),H',⟨by first|omega|exact Nat.le_refl _⟩,⟨by(with_reducible repeat(first|refine Yl ?_ _|refine Ym ?_|refine Yj ?_ _));exact Xb.out⟩,⟨by repeat(first|(with_reducible first|exact HB.out|apply Ye|apply Yd|apply Yg|refine Yh ?_ GE198.out)|exact HB.out)⟩⟩
 case rest=>
  clear HC3;try clear c1
  try clear p2
  try clear c5
  try clear c5b0
  try clear c6
  try clear c7
  try clear c7b0
  try clear c9
  try clear c9b0
  try clear c11
  try clear c11b0
  try clear c13
  try clear c13b0
  try clear hcz10_0
  try clear hcz10_1
  try clear hcz10_2
  try clear hcz10_3
  try clear hcz12_0
  try clear hcz12_1
  try clear hcz12_2
  try clear hcz12_3
  try clear hcz14_0
  try clear hcz14_1
  try clear hcz14_2
  try clear hcz14_3
  try clear hcz15_0
  try clear hcz15_1
  try clear hcz15_2
  try clear hcz15_3
  try clear hcz6_0
  try clear hcz6_1
  try clear hcz6_2
  try clear hcz6_3
  try clear hcz8_0
  try clear hcz8_1
  try clear hcz8_2
  try clear hcz8_3
  try clear hfz10_0
  try clear hfz10_1
  try clear hfz10_2
  try clear hfz10_3
  try clear hfz12_0
  try clear hfz12_1
  try clear hfz12_2
  try clear hfz12_3
  try clear hfz14_0
  try clear hfz14_1
  try clear hfz14_2
  try clear hfz14_3
  try clear hfz15_0
  try clear hfz15_1
  try clear hfz15_2
  try clear hfz15_3
  try clear hfz6_0
  try clear hfz6_1
  try clear hfz6_2
  try clear hfz6_3
  try clear hfz8_0
  try clear hfz8_1
  try clear hfz8_2
  try clear hfz8_3
  obtain⟨kq,x34_2,rfl,HA,HJ2,Xb,HB⟩:=hcut;cases kq with
  |zero=>exact absurd HA.out (by simp[ebbtideref05_Arc.j0])
  |succ kj2=>
   have H:=HA.out;clear HA;simp only[ebbtideref05_Arc.j0] at H;by_cases c16:x34_2=true
   ·subst c16
    have H1:(some 51)=some r:=by first|(rw[Yx rfl] at H;exact H)|(rw[Yx trivial] at H;exact H)
    clear H;have H:=H1;clear H1;obtain rfl:=Option.some.inj H;go_wp2;go_ret;exact⟨by first|rfl|(simp[errW_none,errW_some]<;>rfl)|(simp[*,errW_none,errW_some]<;>rfl),by repeat(first|(with_reducible first|exact HB.out|apply Ye|apply Yd|apply Yg|refine Yh ?_ GE198.out)|exact HB.out)⟩
   replace c16:=Bool.eq_false_iff.mpr c16;subst c16;have H1:(if Ws>1048576 then(some 2) else(if Wt>1048576 then(some 2) else(some 0)))=some r:=by rw[Yy (show ¬ (false=true) by decide)] at H;exact H
   clear H;have H:=H1;clear H1;by_cases c17:Ws>1048576
   ·rw[Yx c17] at H
    have c17b0:decide (1048576<Ws)=true:=Yv c17;clear c17;obtain rfl:=Option.some.inj H;have hcz18_0:wc.cell? ⟨Vd,0,none⟩=some (.int .i64 Wm):=(Yc Xb.out 0).trans rfl;have hcz18_1:wc.cell? ⟨Vd,1,none⟩=some (.int .i64 Wn):=(Yc Xb.out 1).trans rfl;have hcz18_2:wc.cell? ⟨Vd,2,none⟩=some (.int .i64 Ws):=(Yc Xb.out 2).trans rfl;have hcz18_3:wc.cell? ⟨Vd,3,none⟩=some (.int .i64 Wt):=(Yc Xb.out 3).trans rfl;have hfz18_0:=Yf Xb.out 0;have hfz18_1:=Yf Xb.out 1;have hfz18_2:=Yf Xb.out 2;have hfz18_3:=Yf Xb.out 3;go_wp2;go_ret;exact⟨by first|rfl|(simp[errW_none,errW_some]<;>rfl)|(simp[*,errW_none,errW_some]<;>rfl),by repeat(first|(with_reducible first|exact HB.out|apply Ye|apply Yd|apply Yg|refine Yh ?_ GE198.out)|exact HB.out)⟩
   rw[Yy c17] at H;have c17b0:decide (1048576<Ws)=false:=Yw c17;clear c17;by_cases c19:Wt>1048576
   rotate_left
   ·rw[Yy c19] at H
    have c19b0:decide (1048576<Wt)=false:=Yw c19;clear c19;obtain rfl:=Option.some.inj H;have hcz21_0:wc.cell? ⟨Vd,0,none⟩=some (.int .i64 Wm):=(Yc Xb.out 0).trans rfl;have hcz21_1:wc.cell? ⟨Vd,1,none⟩=some (.int .i64 Wn):=(Yc Xb.out 1).trans rfl;have hcz21_2:wc.cell? ⟨Vd,2,none⟩=some (.int .i64 Ws):=(Yc Xb.out 2).trans rfl;have hcz21_3:wc.cell? ⟨Vd,3,none⟩=some (.int .i64 Wt):=(Yc Xb.out 3).trans rfl;have hfz21_0:=Yf Xb.out 0;have hfz21_1:=Yf Xb.out 1;have hfz21_2:=Yf Xb.out 2;have hfz21_3:=Yf Xb.out 3;go_wp2;go_ret;exact⟨by first|rfl|(simp[errW_none,errW_some]<;>rfl)|(simp[*,errW_none,errW_some]<;>rfl),by repeat(first|(with_reducible first|exact HB.out|apply Ye|apply Yd|apply Yg|refine Yh ?_ GE198.out)|exact HB.out)⟩
   rw[Yx c19] at H;have c19b0:decide (1048576<Wt)=true:=Yv c19;clear c19;obtain rfl:=Option.some.inj H;have hcz20_0:wc.cell? ⟨Vd,0,none⟩=some (.int .i64 Wm):=(Yc Xb.out 0).trans rfl;have hcz20_1:wc.cell? ⟨Vd,1,none⟩=some (.int .i64 Wn):=(Yc Xb.out 1).trans rfl;have hcz20_2:wc.cell? ⟨Vd,2,none⟩=some (.int .i64 Ws):=(Yc Xb.out 2).trans rfl;have hcz20_3:wc.cell? ⟨Vd,3,none⟩=some (.int .i64 Wt):=(Yc Xb.out 3).trans rfl;have hfz20_0:=Yf Xb.out 0;have hfz20_1:=Yf Xb.out 1;have hfz20_2:=Yf Xb.out 2;have hfz20_3:=Yf Xb.out 3;go_wp2;go_ret;exact⟨by first|rfl|(simp[errW_none,errW_some]<;>rfl)|(simp[*,errW_none,errW_some]<;>rfl),by repeat(first|(with_reducible first|exact HB.out|apply Ye|apply Yd|apply Yg|refine Yh ?_ GE198.out)|exact HB.out)⟩
end P
namespace P
attribute [local go_sem] max2_int min2_int max_two min_two max_three min_three max_four min_four
def ebbtideref05_Check.l0:Nat→Int→Int→Bool→List (S73)→Option (Int)
 |0,_,_,_,_=>none
 |k+1,x4,x200000,x200001,x200002=>if x4<(x200002.length:Int) then(if 0≤x4 then((ebbtideref05_Arc.f k x200000 ((rd_T73 x200002 x4).f0) ((rd_T73 x200002 x4).f1) ((rd_T73 x200002 x4).f2) ((rd_T73 x200002 x4).f3)).bind fun t202=>(if t202=0 then(ebbtideref05_Check.l0 k (wrap64 (x4+1)) x200000 x200001 x200002) else(some t202))) else(none)) else(some 0)
def ebbtideref05_Check.f (k:Nat) (Zb:Int) (Zc:Bool) (Za:List (S73)):Option (Int):=(ebbtideref05_nodes.f Zb).bind fun t200=>(if t200=0 then(if (Za.length:Int)>200 then(some 2) else(ebbtideref05_Check.l0 k 0 Zb Zc Za)) else(some t200))
def ebbtideref05_Check.T9:Bool × List (List Nat × List Nat):=(true,[([],[]),([0],[0]),([],[]),([2],[2]),([],[]),([3,4],[3,4]),([5],[5]),([1,6],[1,6]),([7,7,0,1,2,3,4,5,6,7],[7])])
def ebbtideref05_Check.B9:List Nat:=[0,1,0,4,0,28,60,127,255]
theorem ebbtideref05_Check.tab9:rtab .any (opsOf Try.f57 9)=ebbtideref05_Check.T9:=by kernel_rfl
theorem ebbtideref05_Check.bits9:waitsOk ebbtideref05_Check.T9.2 ebbtideref05_Check.B9=true:=by kernel_rfl
set_option maxHeartbeats 8000000 in
set_option maxRecDepth 100000 in
theorem ebbtideref05_Check.calls (k:Nat) (Zb:Int) (Zc:Bool) (Zg:Option Addr) (Zd:Nat) (Za:List (S73)) (r:Int) (w:World) (Wg:Kd.C k73 w Zg Za.length Za) (Wh:Za.length≤Zd) (h:ebbtideref05_Check.f k Zb Zc Za=some r):
  Calls Try.prog 57 #[.agg #[.int .i64 Zb, .bool Zc, .slice Zg Za.length Zd]] w fun e w'=>e= .returned (.int .i64 r)∧Below w.heap.size w w':=by
 have hu32:=Try.underlying32;have hu73:=Try.underlying73;have Xl:=Ya Wg;have Wd:=Ya Wh;clear Wg Wh;have HB:=Ya (Yo w.heap.size w);have H:((ebbtideref05_nodes.f Zb).bind fun t200=>(if t200=0 then(if (Za.length:Int)>200 then(some 2) else(ebbtideref05_Check.l0 k 0 Zb Zc Za)) else(some t200)))=some r:=h;clear h;replace H:=Option.bind_eq_some_iff.mp H;obtain⟨t200,A20,H⟩:=H;replace H:(if t200=0 then(if (Za.length:Int)>200 then(some 2) else(ebbtideref05_Check.l0 k 0 Zb Zc Za)) else(some t200))=some r:=H;have A2:=Ya A20;clear A20;by_cases c3:t200=0
 rotate_left
 ·rw[Yy c3] at H
  have c3b0:(t200 == 0)=false:=beq_eq_false_iff_ne.mpr c3;have c3b1:(t200 != 0)=true:=bne_iff_ne.mpr c3;obtain rfl:=Option.some.inj H;go_enter Try.func57,Try.ntmps57;go_wp2_with (first|((with_reducible refine gate_dst (N:=1) rfl ?_);refine Yz ?hg (N:=1) ?hd (cs:= #[.int .i64 Zb, .bool Zc, .slice Zg Za.length Zd]) (t:=32) ?hr ?_;(case hd=>rfl);(case hg=>rfl);(case hr=>first|(go_simp;done)|(go_simp;rfl));intro Vl hg w20 Zi hb;have n0_:=Ya (Yk (by repeat(first|(with_reducible first|exact HB.out|apply Ye|apply Yd|apply Yg)|exact HB.out)) hb);have n1_:=Ya (Zi);have n2_:=Ya ((by rw[hg];exact(Yi (by repeat(first|(with_reducible first|exact HB.out|apply Ye|apply Yd|apply Yg)|exact HB.out))):w.heap.size≤Vl));have n3_:=Ya ((by rw[hg];exact(Yi (by repeat(first|(with_reducible first|exact HB.out|apply Ye|apply Yd|apply Yg)|exact HB.out))):w.heap.size≤Vl));clear HB;have HB:=n0_;have Xi:=n1_;have GW199:=n2_;have GE199:=n3_;clear n0_ n1_ n2_ n3_;clear hb Zi hg;have hcz21_0:w20.cell? ⟨Vl,0,none⟩=some (.int .i64 Zb):=(Yc Xi.out 0).trans rfl;have hcz21_1:w20.cell? ⟨Vl,1,none⟩=some (.bool Zc):=(Yc Xi.out 1).trans rfl;have hcz21_2:w20.cell? ⟨Vl,2,none⟩=some (.slice Zg Za.length Zd):=(Yc Xi.out 2).trans rfl;have hfz21_0:=Yf Xi.out 0;have hfz21_1:=Yf Xi.out 1;have hfz21_2:=Yf Xi.out 2)|((with_reducible refine gate_callee (f:=60) rfl ?_);refine goesL_ (some 8) rfl rfl Try.func60 (by kernel_rfl) rfl #[.int .i64 Zb] rfl (by(try simp only[List.map_toArray,List.map_cons,List.map_nil]);first|done|rfl|(simp only[List.length_drop,List.length_take];rfl)) ?_;(with_reducible refine(ebbtideref05_nodes.calls Zb t200 _ A2.out).mono ?_);rintro e w' ⟨rfl,⟨nd,rfl⟩⟩;refine⟨_,rfl,?_⟩));go_ret;exact⟨by first|rfl|(simp[errW_none,errW_some]<;>rfl)|(simp[*,errW_none,errW_some]<;>rfl),by repeat(first|(with_reducible first|exact HB.out|apply Ye|apply Yd|apply Yg|refine Yh ?_ GE199.out)|exact HB.out)⟩
 rw[Yx c3] at H;have c3b0:(t200 == 0)=true:=beq_iff_eq.mpr c3;have c3b1:(t200 != 0)=false:=bne_eq_false_iff_eq.mpr c3;clear c3;by_cases c4:(Za.length:Int)>200
 ·rw[Yx c4] at H
  have c4b0:decide (200<(Za.length:Int))=true:=Yv c4;have c4b1:decide (200<Za.length)=true:=Yv (by omega);clear c4;obtain rfl:=Option.some.inj H;go_enter Try.func57,Try.ntmps57;go_wp2_with (first|((with_reducible refine gate_dst (N:=1) rfl ?_);refine Yz ?hg (N:=1) ?hd (cs:= #[.int .i64 Zb, .bool Zc, .slice Zg Za.length Zd]) (t:=32) ?hr ?_;(case hd=>rfl);(case hg=>rfl);(case hr=>first|(go_simp;done)|(go_simp;rfl));intro Vl hg w5 Zi hb;have n0_:=Ya (Yk (by repeat(first|(with_reducible first|exact HB.out|apply Ye|apply Yd|apply Yg)|exact HB.out)) hb);have n1_:=Ya (Zi);have n2_:=Ya ((by rw[hg];exact(Yi (by repeat(first|(with_reducible first|exact HB.out|apply Ye|apply Yd|apply Yg)|exact HB.out))):w.heap.size≤Vl));have n3_:=Ya ((by rw[hg];exact(Yi (by repeat(first|(with_reducible first|exact HB.out|apply Ye|apply Yd|apply Yg)|exact HB.out))):w.heap.size≤Vl));clear HB;have HB:=n0_;have Xi:=n1_;have GW199:=n2_;have GE199:=n3_;clear n0_ n1_ n2_ n3_;clear hb Zi hg;have hcz6_0:w5.cell? ⟨Vl,0,none⟩=some (.int .i64 Zb):=(Yc Xi.out 0).trans rfl;have hcz6_1:w5.cell? ⟨Vl,1,none⟩=some (.bool Zc):=(Yc Xi.out 1).trans rfl;have hcz6_2:w5.cell? ⟨Vl,2,none⟩=some (.slice Zg Za.length Zd):=(Yc Xi.out 2).trans rfl;have hfz6_0:=Yf Xi.out 0;have hfz6_1:=Yf Xi.out 1;have hfz6_2:=Yf Xi.out 2)|((with_reducible refine gate_callee (f:=60) rfl ?_);refine goesL_ (some 8) rfl rfl Try.func60 (by kernel_rfl) rfl #[.int .i64 Zb] rfl (by(try simp only[List.map_toArray,List.map_cons,List.map_nil]);first|done|rfl|(simp only[List.length_drop,List.length_take];rfl)) ?_;(with_reducible refine(ebbtideref05_nodes.calls Zb t200 _ A2.out).mono ?_);rintro e w' ⟨rfl,⟨nd,rfl⟩⟩;refine⟨_,rfl,?_⟩));go_ret;exact⟨by first|rfl|(simp[errW_none,errW_some]<;>rfl)|(simp[*,errW_none,errW_some]<;>rfl),by repeat(first|(with_reducible first|exact HB.out|apply Ye|apply Yd|apply Yg|refine Yh ?_ GE199.out)|exact HB.out)⟩
 rw[Yy c4] at H;have c4b0:decide (200<(Za.length:Int))=false:=Yw c4;have c4b1:decide (200<Za.length)=false:=Yw (by omega);clear c4;have H':=Ya H;clear H;go_enter Try.func57,Try.ntmps57;go_wp2_with (first|((with_reducible refine gate_dst (N:=1) rfl ?_);refine Yz ?hg (N:=1) ?hd (cs:= #[.int .i64 Zb, .bool Zc, .slice Zg Za.length Zd]) (t:=32) ?hr ?_;(case hd=>rfl);(case hg=>rfl);(case hr=>first|(go_simp;done)|(go_simp;rfl));intro Vl hg w7 Zi hb;have n0_:=Ya (Yk (by repeat(first|(with_reducible first|exact HB.out|apply Ye|apply Yd|apply Yg)|exact HB.out)) hb);have n1_:=Ya (Zi);have n2_:=Ya ((by rw[hg];exact(Yi (by repeat(first|(with_reducible first|exact HB.out|apply Ye|apply Yd|apply Yg)|exact HB.out))):w.heap.size≤Vl));have n3_:=Ya ((by rw[hg];exact(Yi (by repeat(first|(with_reducible first|exact HB.out|apply Ye|apply Yd|apply Yg)|exact HB.out))):w.heap.size≤Vl));clear HB;have HB:=n0_;have Xi:=n1_;have GW199:=n2_;have GE199:=n3_;clear n0_ n1_ n2_ n3_;clear hb Zi hg;have hcz8_0:w7.cell? ⟨Vl,0,none⟩=some (.int .i64 Zb):=(Yc Xi.out 0).trans rfl;have hcz8_1:w7.cell? ⟨Vl,1,none⟩=some (.bool Zc):=(Yc Xi.out 1).trans rfl;have hcz8_2:w7.cell? ⟨Vl,2,none⟩=some (.slice Zg Za.length Zd):=(Yc Xi.out 2).trans rfl;have hfz8_0:=Yf Xi.out 0;have hfz8_1:=Yf Xi.out 1;have hfz8_2:=Yf Xi.out 2)|((with_reducible refine gate_callee (f:=60) rfl ?_);refine goesL_ (some 8) rfl rfl Try.func60 (by kernel_rfl) rfl #[.int .i64 Zb] rfl (by(try simp only[List.map_toArray,List.map_cons,List.map_nil]);first|done|rfl|(simp only[List.length_drop,List.length_take];rfl)) ?_;(with_reducible refine(ebbtideref05_nodes.calls Zb t200 _ A2.out).mono ?_);rintro e w' ⟨rfl,⟨nd,rfl⟩⟩;refine⟨_,rfl,?_⟩));go_loopg [4] k (fun kq v4 w'=> ∃ (Wa:Int),v4= .int .i64 Wa∧Aside0 (ebbtideref05_Check.l0 kq Wa Zb Zc Za=some r)∧Aside0 (kq≤k)∧Aside0 (w'.heap[Vl]? =some (.cells #[.int .i64 Zb, .bool Zc,(.slice Zg Za.length Zd)] 32 (0,0)))∧Aside0 (Below w.heap.size w w'))
 case atStart=>exact⟨(0),(by first|rfl|(simp;done)|(simp[*];done)),H',⟨Nat.le_refl _⟩,⟨by(with_reducible repeat(first|refine Yl ?_ _|refine Ym ?_|refine Yj ?_ _));exact Xi.out⟩,⟨by repeat(first|(with_reducible first|exact HB.out|apply Ye|apply Yd|apply Yg|refine Yh ?_ GE199.out)|exact HB.out)⟩⟩
 case round=>
  clear H';try clear p2
  try clear c3
  try clear c3b0
  try clear c3b1
  try clear c4
  try clear c4b0
  try clear c4b1
  try clear c5
  try clear c6
  try clear hcz6_0
  try clear hcz6_1
  try clear hcz6_2
  try clear hcz8_0
  try clear hcz8_1
  try clear hcz8_2
  try clear hfz6_0
  try clear hfz6_1
  try clear hfz6_2
  try clear hfz8_0
  try clear hfz8_1
  try clear hfz8_2
  obtain⟨Wa,rfl,HA,HK1,Xi,HB⟩:=hrel;cases gk with
  |zero=>exact absurd HA.out (by simp[ebbtideref05_Check.l0])
  |succ k1=>
   have H:=HA.out;clear HA;simp only[ebbtideref05_Check.l0] at H;by_cases c9:Wa<(Za.length:Int)
   rotate_left
   ·rw[Yy c9] at H
    have c9b0:decide (Wa<(Za.length:Int))=false:=Yw c9;clear c9;obtain rfl:=Option.some.inj H;have hcz19_0:wr.cell? ⟨Vl,0,none⟩=some (.int .i64 Zb):=(Yc Xi.out 0).trans rfl;have hcz19_1:wr.cell? ⟨Vl,1,none⟩=some (.bool Zc):=(Yc Xi.out 1).trans rfl;have hcz19_2:wr.cell? ⟨Vl,2,none⟩=some (.slice Zg Za.length Zd):=(Yc Xi.out 2).trans rfl;have hfz19_0:=Yf Xi.out 0;have hfz19_1:=Yf Xi.out 1;have hfz19_2:=Yf Xi.out 2;go_wp2;go_ret;exact⟨by first|rfl|(simp[errW_none,errW_some]<;>rfl)|(simp[*,errW_none,errW_some]<;>rfl),by repeat(first|(with_reducible first|exact HB.out|apply Ye|apply Yd|apply Yg|refine Yh ?_ GE199.out)|exact HB.out)⟩
   rw[Yx c9] at H;have c9b0:decide (Wa<(Za.length:Int))=true:=Yv c9;clear c9;by_cases c10:0≤Wa
   rotate_left
   ·rw[Yy c10] at H
    exact absurd H (by simp)
   rw[Yx c10] at H;have c10b0:decide (0≤Wa)=true:=Yv c10;clear c10;replace H:=Option.bind_eq_some_iff.mp H;obtain⟨t202,A110,H⟩:=H;replace H:(if t202=0 then(ebbtideref05_Check.l0 k1 (wrap64 (Wa+1)) Zb Zc Za) else(some t202))=some r:=H;have A11:=Ya A110;clear A110;by_cases c12:t202=0
   rotate_left
   ·rw[Yy c12] at H
    have c12b0:(t202 == 0)=false:=beq_eq_false_iff_ne.mpr c12;have c12b1:(t202 != 0)=true:=bne_iff_ne.mpr c12;obtain rfl:=Option.some.inj H;have hcz16_0:wr.cell? ⟨Vl,0,none⟩=some (.int .i64 Zb):=(Yc Xi.out 0).trans rfl;have hcz16_1:wr.cell? ⟨Vl,1,none⟩=some (.bool Zc):=(Yc Xi.out 1).trans rfl;have hcz16_2:wr.cell? ⟨Vl,2,none⟩=some (.slice Zg Za.length Zd):=(Yc Xi.out 2).trans rfl;have hfz16_0:=Yf Xi.out 0;have hfz16_1:=Yf Xi.out 1;have hfz16_2:=Yf Xi.out 2;try go_wp2
    have n0_:=Ya (Ym Xi.out);have n1_:=Ya (Yg HB.out);clear Xi;clear HB;have Xi:=n0_;have HB:=n1_;clear n0_ n1_;have p201:0≤(Wa:Int):=Yu (by first|(with_reducible assumption)|assumption);have q201:Wa<(Za.length:Int):=Yu (by first|(with_reducible assumption)|assumption);obtain⟨ad201,e201,hx201_0,hx201_1,hx201_2,hx201_3⟩:=at_T73 Xl.out Wa p201 q201;have hw201_3:=hx201_3;have hw201_2:=hx201_2;have hw201_1:=hx201_1;have hw201_0:=hx201_0;cases e201;replace hx201_0:=(HB.out.cell (Yb w _ hx201_0)).trans hx201_0;replace hx201_1:=(HB.out.cell (Yb w _ hx201_1)).trans hx201_1;replace hx201_2:=(HB.out.cell (Yb w _ hx201_2)).trans hx201_2;replace hx201_3:=(HB.out.cell (Yb w _ hx201_3)).trans hx201_3;replace p201:=eq_true p201;replace q201:=eq_true q201;refine start_ (n:=9) (S:=fun w'=>w'.cell? ⟨Vl,0,none⟩=some (.int .i64 Zb)∧w'.cell? ⟨Vl,1,none⟩=some (.bool Zc)∧w'.cell? ⟨Vl,2,none⟩=some (.slice (some ad201) Za.length Zd)∧w'.cell? (ad201.add ((Wa).toNat * 4))=some (.int .i64 ((rd_T73 Za Wa).f0))∧w'.cell? ⟨(ad201.add ((Wa).toNat * 4)).block,(ad201.add ((Wa).toNat * 4)).off+1,none⟩=some (.int .i64 ((rd_T73 Za Wa).f1))∧w'.cell? ⟨(ad201.add ((Wa).toNat * 4)).block,(ad201.add ((Wa).toNat * 4)).off+2,none⟩=some (.int .i64 ((rd_T73 Za Wa).f2))∧w'.cell? ⟨(ad201.add ((Wa).toNat * 4)).block,(ad201.add ((Wa).toNat * 4)).off+3,none⟩=some (.int .i64 ((rd_T73 Za Wa).f3))) (ds:=[]) #[false,false,false,false,false,false,false,false,false] (by kernel_rfl) rfl rfl ⟨(Yc Xi.out 0).trans rfl,(Yc Xi.out 1).trans rfl,(Yc Xi.out 2).trans rfl,((HB.out.cell (Yb w _ hw201_0)).trans hw201_0),((HB.out.cell (Yb w _ hw201_1)).trans hw201_1),((HB.out.cell (Yb w _ hw201_2)).trans hw201_2),((HB.out.cell (Yb w _ hw201_3)).trans hw201_3)⟩ (fun hHeld=> ?_);refine with_tabW ebbtideref05_Check.tab9 ebbtideref05_Check.bits9 (fun HT_ HW_=> ?_);generalize wr.drew=w17 at Xi HB hx201_0 hx201_1 hx201_2 hx201_3 hHeld ⊢;refine pure_ (i:=0) (N:=some 23) (v:= ?_) (a':= ?_) #[true,false,false,false,false,false,false,false,false] rfl rfl (any_of HT_.out (by kernel_rfl)) (fun _ _ _ h=>h) (Or.inl ⟨by rfl,?_⟩) ?_ ?_
    rotate_left
    ·intro w'
     go_simp
     with_reducible rfl
    rotate_left
    ·simp only[Act.put,List.setIfInBounds_toArray,List.set_cons_zero,List.set_cons_succ,i64_w,i32_w]
     rfl
    refine pure_ (i:=2) (N:=some 25) (v:= ?_) (a':= ?_) #[true,false,true,false,false,false,false,false,false] rfl rfl (any_of HT_.out (by kernel_rfl)) (fun _ _ _ h=>h) (Or.inl ⟨by rfl,?_⟩) ?_ ?_
    rotate_left
    ·intro w'
     go_simp
     with_reducible rfl
    rotate_left
    ·simp only[Act.put,List.setIfInBounds_toArray,List.set_cons_zero,List.set_cons_succ,i64_w,i32_w]
     rfl
    refine pure_ (i:=4) (N:=some 27) (v:= ?_) (a':= ?_) #[true,false,true,false,true,false,false,false,false] rfl rfl (any_of HT_.out (by kernel_rfl)) (fun _ _ _ h=>h) (Or.inl ⟨by rfl,?_⟩) ?_ ?_
    rotate_left
    ·intro w'
     go_simp
     with_reducible rfl
    rotate_left
    ·simp only[Act.put,List.setIfInBounds_toArray,List.set_cons_zero,List.set_cons_succ,i64_w,i32_w]
     rfl
    refine take_ (i:=1) (N:=some 24) (v:= ?_) (a':= ?_) #[true,true,true,false,true,false,false,false,false] rfl rfl (take_ofW HT_.out HW_.out (by kernel_rfl)) (fun _ _ _ h=>h) (Or.inl ⟨by rfl,?_⟩) hHeld ?_ ?_
    rotate_left
    ·rintro w' ⟨s0,s1,s2,s3,s4,s5,s6⟩
     go_simp
     with_reducible rfl
    rotate_left
    ·simp only[Act.put,List.setIfInBounds_toArray,List.set_cons_zero,List.set_cons_succ,i64_w,i32_w]
     rfl
    refine take_ (i:=3) (N:=some 26) (v:= ?_) (a':= ?_) #[true,true,true,true,true,false,false,false,false] rfl rfl (take_ofW HT_.out HW_.out (by kernel_rfl)) (fun _ _ _ h=>h) (Or.inl ⟨by rfl,?_⟩) hHeld ?_ ?_
    rotate_left
    ·rintro w' ⟨s0,s1,s2,s3,s4,s5,s6⟩
     go_simp
     with_reducible rfl
    rotate_left
    ·simp only[Act.put,List.setIfInBounds_toArray,List.set_cons_zero,List.set_cons_succ,i64_w,i32_w]
     rfl
    refine pure_ (i:=5) (N:=some 28) (v:= ?_) (a':= ?_) #[true,true,true,true,true,true,false,false,false] rfl rfl (any_of HT_.out (by kernel_rfl)) (fun _ _ _ h=>h) (Or.inl ⟨by rfl,?_⟩) ?_ ?_
    rotate_left
    ·intro w'
     go_simp
     with_reducible rfl
    rotate_left
    ·simp only[Act.put,List.setIfInBounds_toArray,List.set_cons_zero,List.set_cons_succ,i64_w,i32_w]
     rfl
    refine take_ (i:=6) (N:=some 29) (v:= ?_) (a':= ?_) #[true,true,true,true,true,true,true,false,false] rfl rfl (take_ofW HT_.out HW_.out (by kernel_rfl)) (fun _ _ _ h=>h) (Or.inl ⟨by rfl,?_⟩) hHeld ?_ ?_
    rotate_left
    ·rintro w' ⟨s0,s1,s2,s3,s4,s5,s6⟩
     go_simp
     with_reducible rfl
    rotate_left
    ·simp only[Act.put,List.setIfInBounds_toArray,List.set_cons_zero,List.set_cons_succ,i64_w,i32_w]
     rfl
    refine one_ (i:=7) (N:=some 30) #[true,true,true,true,true,true,true,true,false] rfl rfl (one_of HT_.out (by kernel_rfl)) (by decide) (fun K hK=> ?_);refine goes_ Try.func61 (by kernel_rfl) rfl #[.int .i64 Zb, .agg #[.int .i64 ((rd_T73 Za Wa).f0), .int .i64 ((rd_T73 Za Wa).f1), .int .i64 ((rd_T73 Za Wa).f2), .int .i64 ((rd_T73 Za Wa).f3)]] (by rfl) rfl rfl (by(try simp only[List.map_toArray,List.map_cons,List.map_nil]);first|done|rfl|(simp only[List.length_drop,List.length_take];rfl)) ?_
    with_reducible refine(ebbtideref05_Arc.calls k1 Zb ((rd_T73 Za Wa).f0) ((rd_T73 Za Wa).f1) ((rd_T73 Za Wa).f2) ((rd_T73 Za Wa).f3) t202 _ A11.out).mono ?_
    rintro e w18 ⟨rfl,hb⟩;refine⟨_,rfl,?_⟩;have n0_:=Ya (Yn (g:=Vl) (o:= .cells #[.int .i64 Zb, .bool Zc, .slice (some ad201) Za.length Zd] 32 (0,0)) (by(with_reducible repeat(first|refine Yl ?_ _|refine Ym ?_|refine Yj ?_ _));exact Xi.out) hb);have n1_:=Ya (Yk (by repeat(first|(with_reducible first|exact HB.out|apply Ye|apply Yd|apply Yg|refine Yh ?_ GE199.out)|exact HB.out)) hb);clear Xi;clear HB;have Xi:=n0_;have HB:=n1_;clear n0_ n1_
    (try clear hb)
    (try clear hb2)
    (try clear hk)
    (try clear hi)
    refine hK.out _ _ ⟨(Yc Xi.out 0).trans rfl,(Yc Xi.out 1).trans rfl,(Yc Xi.out 2).trans rfl,((HB.out.cell (Yb w _ hw201_0)).trans hw201_0),((HB.out.cell (Yb w _ hw201_1)).trans hw201_1),((HB.out.cell (Yb w _ hw201_2)).trans hw201_2),((HB.out.cell (Yb w _ hw201_3)).trans hw201_3)⟩ (fun hHeld=> ?_);clear hK K;refine norm_ (a':= ?_) ?_ ?_
    rotate_left
    ·show Act.put _ (some 30) _=_
     simp only[Act.put,List.setIfInBounds_toArray,List.set_cons_zero,List.set_cons_succ,i64_w,i32_w];rfl
    refine pure_ (i:=8) (N:=some 5) (v:= ?_) (a':= ?_) #[true,true,true,true,true,true,true,true,true] rfl rfl (any_of HT_.out (by kernel_rfl)) (fun _ _ _ h=>h) (Or.inl ⟨by rfl,?_⟩) ?_ ?_
    rotate_left
    ·intro w'
     go_simp
     with_reducible rfl
    rotate_left
    ·simp only[Act.put,List.setIfInBounds_toArray,List.set_cons_zero,List.set_cons_succ,i64_w,i32_w]
     rfl
    refine done_ (done_of HT_.out (by kernel_rfl)) ?_;try go_wp2
    go_ret;exact⟨by first|rfl|(simp[errW_none,errW_some]<;>rfl)|(simp[*,errW_none,errW_some]<;>rfl),by repeat(first|(with_reducible first|exact HB.out|apply Ye|apply Yd|apply Yg|refine Yh ?_ GE199.out)|exact HB.out)⟩
   rw[Yx c12] at H;have c12b0:(t202 == 0)=true:=beq_iff_eq.mpr c12;have c12b1:(t202 != 0)=false:=bne_eq_false_iff_eq.mpr c12;clear c12;have H':=Ya H;clear H;have hcz13_0:wr.cell? ⟨Vl,0,none⟩=some (.int .i64 Zb):=(Yc Xi.out 0).trans rfl;have hcz13_1:wr.cell? ⟨Vl,1,none⟩=some (.bool Zc):=(Yc Xi.out 1).trans rfl;have hcz13_2:wr.cell? ⟨Vl,2,none⟩=some (.slice Zg Za.length Zd):=(Yc Xi.out 2).trans rfl;have hfz13_0:=Yf Xi.out 0;have hfz13_1:=Yf Xi.out 1;have hfz13_2:=Yf Xi.out 2;try go_wp2
   have n0_:=Ya (Ym Xi.out);have n1_:=Ya (Yg HB.out);clear Xi;clear HB;have Xi:=n0_;have HB:=n1_;clear n0_ n1_;have p201:0≤(Wa:Int):=Yu (by first|(with_reducible assumption)|assumption);have q201:Wa<(Za.length:Int):=Yu (by first|(with_reducible assumption)|assumption);obtain⟨ad201,e201,hx201_0,hx201_1,hx201_2,hx201_3⟩:=at_T73 Xl.out Wa p201 q201;have hw201_3:=hx201_3;have hw201_2:=hx201_2;have hw201_1:=hx201_1;have hw201_0:=hx201_0;cases e201;replace hx201_0:=(HB.out.cell (Yb w _ hx201_0)).trans hx201_0;replace hx201_1:=(HB.out.cell (Yb w _ hx201_1)).trans hx201_1;replace hx201_2:=(HB.out.cell (Yb w _ hx201_2)).trans hx201_2;replace hx201_3:=(HB.out.cell (Yb w _ hx201_3)).trans hx201_3;replace p201:=eq_true p201;replace q201:=eq_true q201;refine start_ (n:=9) (S:=fun w'=>w'.cell? ⟨Vl,0,none⟩=some (.int .i64 Zb)∧w'.cell? ⟨Vl,1,none⟩=some (.bool Zc)∧w'.cell? ⟨Vl,2,none⟩=some (.slice (some ad201) Za.length Zd)∧w'.cell? (ad201.add ((Wa).toNat * 4))=some (.int .i64 ((rd_T73 Za Wa).f0))∧w'.cell? ⟨(ad201.add ((Wa).toNat * 4)).block,(ad201.add ((Wa).toNat * 4)).off+1,none⟩=some (.int .i64 ((rd_T73 Za Wa).f1))∧w'.cell? ⟨(ad201.add ((Wa).toNat * 4)).block,(ad201.add ((Wa).toNat * 4)).off+2,none⟩=some (.int .i64 ((rd_T73 Za Wa).f2))∧w'.cell? ⟨(ad201.add ((Wa).toNat * 4)).block,(ad201.add ((Wa).toNat * 4)).off+3,none⟩=some (.int .i64 ((rd_T73 Za Wa).f3))) (ds:=[]) #[false,false,false,false,false,false,false,false,false] (by kernel_rfl) rfl rfl ⟨(Yc Xi.out 0).trans rfl,(Yc Xi.out 1).trans rfl,(Yc Xi.out 2).trans rfl,((HB.out.cell (Yb w _ hw201_0)).trans hw201_0),((HB.out.cell (Yb w _ hw201_1)).trans hw201_1),((HB.out.cell (Yb w _ hw201_2)).trans hw201_2),((HB.out.cell (Yb w _ hw201_3)).trans hw201_3)⟩ (fun hHeld=> ?_);refine with_tabW ebbtideref05_Check.tab9 ebbtideref05_Check.bits9 (fun HT_ HW_=> ?_);generalize wr.drew=w14 at Xi HB hx201_0 hx201_1 hx201_2 hx201_3 hHeld ⊢;refine pure_ (i:=0) (N:=some 23) (v:= ?_) (a':= ?_) #[true,false,false,false,false,false,false,false,false] rfl rfl (any_of HT_.out (by kernel_rfl)) (fun _ _ _ h=>h) (Or.inl ⟨by rfl,?_⟩) ?_ ?_
   rotate_left
   ·intro w'
    go_simp
    with_reducible rfl
   rotate_left
   ·simp only[Act.put,List.setIfInBounds_toArray,List.set_cons_zero,List.set_cons_succ,i64_w,i32_w]
    rfl
   refine pure_ (i:=2) (N:=some 25) (v:= ?_) (a':= ?_) #[true,false,true,false,false,false,false,false,false] rfl rfl (any_of HT_.out (by kernel_rfl)) (fun _ _ _ h=>h) (Or.inl ⟨by rfl,?_⟩) ?_ ?_
   rotate_left
   ·intro w'
    go_simp
    with_reducible rfl
   rotate_left
   ·simp only[Act.put,List.setIfInBounds_toArray,List.set_cons_zero,List.set_cons_succ,i64_w,i32_w]
    rfl
   refine pure_ (i:=4) (N:=some 27) (v:= ?_) (a':= ?_) #[true,false,true,false,true,false,false,false,false] rfl rfl (any_of HT_.out (by kernel_rfl)) (fun _ _ _ h=>h) (Or.inl ⟨by rfl,?_⟩) ?_ ?_
   rotate_left
   ·intro w'
    go_simp
    with_reducible rfl
   rotate_left
   ·simp only[Act.put,List.setIfInBounds_toArray,List.set_cons_zero,List.set_cons_succ,i64_w,i32_w]
    rfl
   refine take_ (i:=1) (N:=some 24) (v:= ?_) (a':= ?_) #[true,true,true,false,true,false,false,false,false] rfl rfl (take_ofW HT_.out HW_.out (by kernel_rfl)) (fun _ _ _ h=>h) (Or.inl ⟨by rfl,?_⟩) hHeld ?_ ?_
   rotate_left
   ·rintro w' ⟨s0,s1,s2,s3,s4,s5,s6⟩
    go_simp
    with_reducible rfl
   rotate_left
   ·simp only[Act.put,List.setIfInBounds_toArray,List.set_cons_zero,List.set_cons_succ,i64_w,i32_w]
    rfl
   refine take_ (i:=3) (N:=some 26) (v:= ?_) (a':= ?_) #[true,true,true,true,true,false,false,false,false] rfl rfl (take_ofW HT_.out HW_.out (by kernel_rfl)) (fun _ _ _ h=>h) (Or.inl ⟨by rfl,?_⟩) hHeld ?_ ?_
   rotate_left
   ·rintro w' ⟨s0,s1,s2,s3,s4,s5,s6⟩
    go_simp
    with_reducible rfl
   rotate_left
   ·simp only[Act.put,List.setIfInBounds_toArray,List.set_cons_zero,List.set_cons_succ,i64_w,i32_w]
    rfl
   refine pure_ (i:=5) (N:=some 28) (v:= ?_) (a':= ?_) #[true,true,true,true,true,true,false,false,false] rfl rfl (any_of HT_.out (by kernel_rfl)) (fun _ _ _ h=>h) (Or.inl ⟨by rfl,?_⟩) ?_ ?_
   rotate_left
   ·intro w'
    go_simp
    with_reducible rfl
   rotate_left
   ·simp only[Act.put,List.setIfInBounds_toArray,List.set_cons_zero,List.set_cons_succ,i64_w,i32_w]
    rfl
   refine take_ (i:=6) (N:=some 29) (v:= ?_) (a':= ?_) #[true,true,true,true,true,true,true,false,false] rfl rfl (take_ofW HT_.out HW_.out (by kernel_rfl)) (fun _ _ _ h=>h) (Or.inl ⟨by rfl,?_⟩) hHeld ?_ ?_
   rotate_left
   ·rintro w' ⟨s0,s1,s2,s3,s4,s5,s6⟩
    go_simp
    with_reducible rfl
   rotate_left
   ·simp only[Act.put,List.setIfInBounds_toArray,List.set_cons_zero,List.set_cons_succ,i64_w,i32_w]
    rfl
   refine one_ (i:=7) (N:=some 30) #[true,true,true,true,true,true,true,true,false] rfl rfl (one_of HT_.out (by kernel_rfl)) (by decide) (fun K hK=> ?_);refine goes_ Try.func61 (by kernel_rfl) rfl #[.int .i64 Zb, .agg #[.int .i64 ((rd_T73 Za Wa).f0), .int .i64 ((rd_T73 Za Wa).f1), .int .i64 ((rd_T73 Za Wa).f2), .int .i64 ((rd_T73 Za Wa).f3)]] (by rfl) rfl rfl (by(try simp only[List.map_toArray,List.map_cons,List.map_nil]);first|done|rfl|(simp only[List.length_drop,List.length_take];rfl)) ?_
   with_reducible refine(ebbtideref05_Arc.calls k1 Zb ((rd_T73 Za Wa).f0) ((rd_T73 Za Wa).f1) ((rd_T73 Za Wa).f2) ((rd_T73 Za Wa).f3) t202 _ A11.out).mono ?_
   rintro e w15 ⟨rfl,hb⟩;refine⟨_,rfl,?_⟩;have n0_:=Ya (Yn (g:=Vl) (o:= .cells #[.int .i64 Zb, .bool Zc, .slice (some ad201) Za.length Zd] 32 (0,0)) (by(with_reducible repeat(first|refine Yl ?_ _|refine Ym ?_|refine Yj ?_ _));exact Xi.out) hb);have n1_:=Ya (Yk (by repeat(first|(with_reducible first|exact HB.out|apply Ye|apply Yd|apply Yg|refine Yh ?_ GE199.out)|exact HB.out)) hb);clear Xi;clear HB;have Xi:=n0_;have HB:=n1_;clear n0_ n1_
   (try clear hb)
   (try clear hb2)
   (try clear hk)
   (try clear hi)
   refine hK.out _ _ ⟨(Yc Xi.out 0).trans rfl,(Yc Xi.out 1).trans rfl,(Yc Xi.out 2).trans rfl,((HB.out.cell (Yb w _ hw201_0)).trans hw201_0),((HB.out.cell (Yb w _ hw201_1)).trans hw201_1),((HB.out.cell (Yb w _ hw201_2)).trans hw201_2),((HB.out.cell (Yb w _ hw201_3)).trans hw201_3)⟩ (fun hHeld=> ?_);clear hK K;refine norm_ (a':= ?_) ?_ ?_
   rotate_left
   ·show Act.put _ (some 30) _=_
    simp only[Act.put,List.setIfInBounds_toArray,List.set_cons_zero,List.set_cons_succ,i64_w,i32_w];rfl
   refine pure_ (i:=8) (N:=some 5) (v:= ?_) (a':= ?_) #[true,true,true,true,true,true,true,true,true] rfl rfl (any_of HT_.out (by kernel_rfl)) (fun _ _ _ h=>h) (Or.inl ⟨by rfl,?_⟩) ?_ ?_
   rotate_left
   ·intro w'
    go_simp
    with_reducible rfl
   rotate_left
   ·simp only[Act.put,List.setIfInBounds_toArray,List.set_cons_zero,List.set_cons_succ,i64_w,i32_w]
    rfl
   refine done_ (done_of HT_.out (by kernel_rfl)) ?_;try go_wp2
   go_roundg k1
   case measure=>have:=HK1.out;omega
   case rel=>exact⟨(wrap64 (Wa+1)),(by first|rfl|(simp;done)|(simp[*];done)),H',⟨by have:=HK1.out;omega⟩,⟨by(with_reducible repeat(first|refine Yl ?_ _|refine Ym ?_|refine Yj ?_ _));exact Xi.out⟩,⟨by repeat(first|(with_reducible first|exact HB.out|apply Ye|apply Yd|apply Yg|refine Yh ?_ GE199.out)|exact HB.out)⟩⟩
end P
namespace Q
open P
def arcErr (n:Int) (a:S73):Int:=
 if a.f0<0∨a.f1<0∨a.f2<0∨a.f3<0∨n≤a.f0∨n≤a.f1 then 51 else if 1048576<a.f2∨1048576<a.f3 then 2 else 0
def arcsErr (n:Int):List S73→Int
 |[]=>0
 |a::l=>if arcErr n a=0 then arcsErr n l else arcErr n a
def netErr (n:Int) (l:List S73):Int:=if n<1 then 51 else if n>50 then 2 else if (l.length:Int)>200 then 2 else arcsErr n l
structure ArcOk (n:Int) (a:S73):Prop where
 f0:0≤a.f0
 f1:0≤a.f1
 f2:0≤a.f2
 f3:0≤a.f3
 h0:a.f0<n
 h1:a.f1<n
 h2:a.f2≤1048576
 h3:a.f3≤1048576
structure NetOk (n:Int) (l:List S73):Prop where
 lo:1≤n
 hi:n≤50
 len:l.length≤200
 arcs: ∀ a∈l,ArcOk n a
theorem arcErr_ok {n:Int} {a:S73} (h:arcErr n a=0):ArcOk n a:=by
 unfold arcErr at h;split at h
 ·omega
 ·split at h
  ·omega
  ·constructor<;>omega
theorem arcsErr_ok {n:Int} : ∀ {l:List S73},arcsErr n l=0→ ∀ a∈l,ArcOk n a
 |[],_,a,ha=>by cases ha
 |b::l,h,a,ha=>by
  unfold arcsErr at h;split at h
  ·rename_i hb
   rcases List.mem_cons.1 ha with rfl|ha
   ·exact arcErr_ok hb
   ·exact arcsErr_ok h a ha
  ·exact absurd h (by assumption)
theorem netErr_ok {n:Int} {l:List S73} (h:netErr n l=0):NetOk n l:=by
 unfold netErr at h;split at h
 ·omega
 ·split at h
  ·omega
  ·split at h
   ·omega
   ·exact⟨by omega,by omega,by omega,arcsErr_ok h⟩
theorem arcOk_err {n:Int} {a:S73} (h:ArcOk n a):arcErr n a=0:=by
 have:=h.f0;have:=h.f1;have:=h.f2;have:=h.f3;have:=h.h0;have:=h.h1;have:=h.h2;have:=h.h3;unfold arcErr;rw[Yy (by omega),Yy (by omega)]
theorem arcsOk_err {n:Int} : ∀ {l:List S73},(∀ a∈l,ArcOk n a)→arcsErr n l=0
 |[],_=>rfl
 |b::l,h=>by
  unfold arcsErr;rw[Yx (arcOk_err (h b (List.mem_cons_self ..)))];exact arcsOk_err fun a ha=>h a (List.mem_cons_of_mem _ ha)
theorem netOk_err {n:Int} {l:List S73} (h:NetOk n l):netErr n l=0:=by
 have:=h.lo;have:=h.hi;have:=h.len;unfold netErr;rw[Yy (by omega),Yy (by omega),Yy (by omega),arcsOk_err h.arcs]
theorem nodes_eq (n:Int):netfmt_nodes.f n=some (if n<1 then 51 else if n>50 then 2 else 0):=by
 unfold netfmt_nodes.f;split
 ·rfl
 ·split<;>rfl
theorem arc_ev (n:Int) (a:S73):Ev (fun k=>netfmt_arc.f k n a.f0 a.f1 a.f2 a.f3) (arcErr n a):=by
 unfold netfmt_arc.f arcErr;refine Ev.ite (fun h=> ?_) (fun h=> ?_)
 ·refine Ev.succ ?_;simp only[netfmt_arc.j0]
  repeat(first|exact Ev.now _|with_reducible refine Ev.pos (by first|assumption|omega) ?_|with_reducible refine Ev.neg (by first|assumption|omega) ?_|with_reducible refine Ev.let_ ?_)
  exact Ev.done (by unfold mn at h;rw[Yx (by omega)])
 ·refine Ev.succ ?_;simp only[netfmt_arc.j0]
  unfold mn at h;unfold mx;refine Ev.ite (fun g=> ?_) (fun g=> ?_)
  ·have g:=Yu g
   exact Ev.done (by rw[Yx (by omega)])
  ·have g:=of_decide_eq_false (Bool.eq_false_iff.2 g)
   refine Ev.ite (fun g1=> ?_) (fun g1=> ?_)
   ·exact Ev.done (by rw[Yy (by omega),Yx (by omega)])
   ·refine Ev.ite (fun g2=> ?_) (fun g2=> ?_)
    ·exact Ev.done (by rw[Yy (by omega),Yx (by omega)])
    ·exact Ev.done (by rw[Yy (by omega),Yy (by omega)])
theorem check_l0 (l:List S73) (n:Int) (b:Bool) (hl:l.length≤9223372036854775807) (d:Nat): ∀ i:Nat,i+d=l.length→
  Ev (fun k=>netfmt_Check.l0 k l (l.length:Int) (i:Int) n b l) (arcsErr n (l.drop i)):=by
 induction d with
 |zero=>
  intro i hi;refine Ev.succ ?_;simp only[netfmt_Check.l0];repeat(first|exact Ev.now _|with_reducible refine Ev.pos (by first|assumption|omega) ?_|with_reducible refine Ev.neg (by first|assumption|omega) ?_|with_reducible refine Ev.let_ ?_)
  rw[List.drop_of_length_le (by omega)];exact Ev.now _
 |succ d ih=>
  intro i hi;refine Ev.succ ?_;simp only[netfmt_Check.l0];repeat(first|exact Ev.now _|with_reducible refine Ev.pos (by first|assumption|omega) ?_|with_reducible refine Ev.neg (by first|assumption|omega) ?_|with_reducible refine Ev.let_ ?_)
  refine Ev.bind (arc_ev n (rd_T73 l i)) ?_;rw[drop_getD l i z73 (by omega)];have hr:rd_T73 l (i:Int)=l.getD i z73:=by unfold rd_T73;rw[Int.toNat_natCast]
  rw[hr];unfold arcsErr;refine Ev.ite (fun h=> ?_) (fun h=> ?_)
  ·rw[Yx h,wrap_succ (n:=l.length) (by omega) hl]
   exact ih (i+1) (by omega)
  ·rw[Yy h]
   exact Ev.now _
theorem check_ev (n:Int) (b:Bool) (l:List S73):Ev (fun k=>netfmt_Check.f k n b l) (netErr n l):=by
 unfold netfmt_Check.f netErr;refine Ev.call (nodes_eq n) ?_;by_cases h:n<1
 ·rw[Yx h,Yx h]
  repeat(first|exact Ev.now _|with_reducible refine Ev.pos (by first|assumption|omega) ?_|with_reducible refine Ev.neg (by first|assumption|omega) ?_|with_reducible refine Ev.let_ ?_)
 ·rw[Yy h,Yy h]
  by_cases h2:n>50
  ·rw[Yx h2,Yx h2]
   repeat(first|exact Ev.now _|with_reducible refine Ev.pos (by first|assumption|omega) ?_|with_reducible refine Ev.neg (by first|assumption|omega) ?_|with_reducible refine Ev.let_ ?_)
  ·rw[Yy h2,Yy h2]
   repeat(first|exact Ev.now _|with_reducible refine Ev.pos (by first|assumption|omega) ?_|with_reducible refine Ev.neg (by first|assumption|omega) ?_|with_reducible refine Ev.let_ ?_)
   refine Ev.ite (fun g=> ?_) (fun g=> ?_)
   ·rw[Yx g]
    exact Ev.now _
   ·rw[Yy g]
    exact check_l0 l n b (by omega) l.length 0 (by omega)
theorem ref_nodes_eq (n:Int):ebbtideref05_nodes.f n=some (if n<1 then 51 else if n>50 then 2 else 0):=by
 unfold ebbtideref05_nodes.f;split
 ·rfl
 ·split<;>rfl
theorem ref_arc_j0 (x:Bool) (n:Int) (a:S73) (hx:x=true↔a.f0<0∨a.f1<0∨a.f2<0∨a.f3<0∨n≤a.f0∨n≤a.f1):Ev (fun k=>ebbtideref05_Arc.j0 k x a.f0 a.f1 a.f2 a.f3) (arcErr n a):=by
 unfold arcErr;refine Ev.succ ?_;simp only[ebbtideref05_Arc.j0];refine Ev.ite (fun g=> ?_) (fun g=> ?_)
 ·exact Ev.done (by rw[Yx (hx.1 g)])
 ·have g':=fun h=>g (hx.2 h)
  refine Ev.ite (fun g1=> ?_) (fun g1=> ?_)
  ·exact Ev.done (by rw[Yy g',Yx (by omega)])
  ·refine Ev.ite (fun g2=> ?_) (fun g2=> ?_)
   ·exact Ev.done (by rw[Yy g',Yx (by omega)])
   ·exact Ev.done (by rw[Yy g',Yy (by omega)])
theorem ref_arc_ev (n:Int) (a:S73):Ev (fun k=>ebbtideref05_Arc.f k n a.f0 a.f1 a.f2 a.f3) (arcErr n a):=by
 unfold ebbtideref05_Arc.f;refine Ev.ite (fun h=> ?_) (fun h=> ?_)
 ·exact ref_arc_j0 _ _ _ ⟨fun _=>by omega,fun _=>rfl⟩
 refine Ev.ite (fun h=> ?_) (fun h=> ?_)
 ·exact ref_arc_j0 _ _ _ ⟨fun _=>by omega,fun _=>rfl⟩
 refine Ev.ite (fun h=> ?_) (fun h=> ?_)
 ·exact ref_arc_j0 _ _ _ ⟨fun _=>by omega,fun _=>rfl⟩
 refine Ev.ite (fun h=> ?_) (fun h=> ?_)
 ·exact ref_arc_j0 _ _ _ ⟨fun _=>by omega,fun _=>rfl⟩
 refine Ev.ite (fun h=> ?_) (fun h=> ?_)
 ·exact ref_arc_j0 _ _ _ ⟨fun _=>by omega,fun _=>rfl⟩
 ·exact ref_arc_j0 _ _ _ ⟨fun g=>by have:=Yu g;omega,fun g=>Yv (by omega)⟩
theorem ref_check_l0 (l:List S73) (n:Int) (b:Bool) (hl:l.length≤9223372036854775807) (d:Nat): ∀ i:Nat,i+d=l.length→
  Ev (fun k=>ebbtideref05_Check.l0 k (i:Int) n b l) (arcsErr n (l.drop i)):=by
 induction d with
 |zero=>
  intro i hi;refine Ev.succ ?_;simp only[ebbtideref05_Check.l0];repeat(first|exact Ev.now _|with_reducible refine Ev.pos (by first|assumption|omega) ?_|with_reducible refine Ev.neg (by first|assumption|omega) ?_|with_reducible refine Ev.let_ ?_)
  rw[List.drop_of_length_le (by omega)];exact Ev.now _
 |succ d ih=>
  intro i hi;refine Ev.succ ?_;simp only[ebbtideref05_Check.l0];repeat(first|exact Ev.now _|with_reducible refine Ev.pos (by first|assumption|omega) ?_|with_reducible refine Ev.neg (by first|assumption|omega) ?_|with_reducible refine Ev.let_ ?_)
  refine Ev.bind (ref_arc_ev n (rd_T73 l i)) ?_;rw[drop_getD l i z73 (by omega)];have hr:rd_T73 l (i:Int)=l.getD i z73:=by unfold rd_T73;rw[Int.toNat_natCast]
  rw[hr];unfold arcsErr;refine Ev.ite (fun h=> ?_) (fun h=> ?_)
  ·rw[Yx h,wrap_succ (n:=l.length) (by omega) hl]
   exact ih (i+1) (by omega)
  ·rw[Yy h]
   exact Ev.now _
theorem ref_check_ev (n:Int) (b:Bool) (l:List S73):Ev (fun k=>ebbtideref05_Check.f k n b l) (netErr n l):=by
 unfold ebbtideref05_Check.f netErr;refine Ev.call (ref_nodes_eq n) ?_;by_cases h:n<1
 ·rw[Yx h,Yx h]
  repeat(first|exact Ev.now _|with_reducible refine Ev.pos (by first|assumption|omega) ?_|with_reducible refine Ev.neg (by first|assumption|omega) ?_|with_reducible refine Ev.let_ ?_)
 ·rw[Yy h,Yy h]
  by_cases h2:n>50
  ·rw[Yx h2,Yx h2]
   repeat(first|exact Ev.now _|with_reducible refine Ev.pos (by first|assumption|omega) ?_|with_reducible refine Ev.neg (by first|assumption|omega) ?_|with_reducible refine Ev.let_ ?_)
  ·rw[Yy h2,Yy h2]
   repeat(first|exact Ev.now _|with_reducible refine Ev.pos (by first|assumption|omega) ?_|with_reducible refine Ev.neg (by first|assumption|omega) ?_|with_reducible refine Ev.let_ ?_)
   refine Ev.ite (fun g=> ?_) (fun g=> ?_)
   ·rw[Yx g]
    exact Ev.now _
   ·rw[Yy g]
    exact ref_check_l0 l n b (by omega) l.length 0 (by omega)
end Q
namespace P
attribute [local go_sem] max2_int min2_int max_two min_two max_three min_three max_four min_four
def ebbtideref06_Node.f (Zb:Int) (Zc:Bool) (Za:List (S73)) (a1:Int):Option (Bool):=if a1≥0 then(some (decide (a1<Zb))) else(some false)
set_option maxHeartbeats 8000000 in
set_option maxRecDepth 100000 in
theorem ebbtideref06_Node.calls (Zb:Int) (Zc:Bool) (Zg:Option Addr) (Zd:Nat) (Za:List (S73)) (a1:Int) (r:Bool) (w:World) (Wg:Kd.C k73 w Zg Za.length Za) (Wh:Za.length≤Zd) (h:ebbtideref06_Node.f Zb Zc Za a1=some r):
  Calls Try.prog 59 #[.agg #[.int .i64 Zb, .bool Zc, .slice Zg Za.length Zd], .int .i64 a1] w fun e w'=>e= .returned (.bool r)∧Below w.heap.size w w':=by
 have hu32:=Try.underlying32;have Xl:=Ya Wg;have Wd:=Ya Wh;clear Wg Wh;have HB:=Ya (Yo w.heap.size w);have H:(if a1≥0 then(some (decide (a1<Zb))) else(some false))=some r:=h;clear h;by_cases c3:a1≥0
 rotate_left
 ·rw[Yy c3] at H
  have c3b0:decide (0≤a1)=false:=Yw c3;clear c3;obtain rfl:=Option.some.inj H;go_enter Try.func59,Try.ntmps59;go_wp2_with (first|((with_reducible refine gate_dst (N:=2) rfl ?_);refine Yz ?hg (N:=2) ?hd (cs:= #[.int .i64 Zb, .bool Zc, .slice Zg Za.length Zd]) (t:=32) ?hr ?_;(case hd=>rfl);(case hg=>rfl);(case hr=>first|(go_simp;done)|(go_simp;rfl));intro gb203 hg w6 Zi hb;have n0_:=Ya (Yk (by repeat(first|(with_reducible first|exact HB.out|apply Ye|apply Yd|apply Yg)|exact HB.out)) hb);have n1_:=Ya (Zi);have n2_:=Ya ((by rw[hg];exact(Yi (by repeat(first|(with_reducible first|exact HB.out|apply Ye|apply Yd|apply Yg)|exact HB.out))):w.heap.size≤gb203));have n3_:=Ya ((by rw[hg];exact(Yi (by repeat(first|(with_reducible first|exact HB.out|apply Ye|apply Yd|apply Yg)|exact HB.out))):w.heap.size≤gb203));clear HB;have HB:=n0_;have BK203:=n1_;have GW203:=n2_;have GE203:=n3_;clear n0_ n1_ n2_ n3_;clear hb Zi hg));go_ret;exact⟨by first|rfl|(simp[errW_none,errW_some]<;>rfl)|(simp[*,errW_none,errW_some]<;>rfl),by repeat(first|(with_reducible first|exact HB.out|apply Ye|apply Yd|apply Yg|refine Yh ?_ GE203.out)|exact HB.out)⟩
 rw[Yx c3] at H;have c3b0:decide (0≤a1)=true:=Yv c3;clear c3;obtain rfl:=Option.some.inj H;go_enter Try.func59,Try.ntmps59;go_wp2_with (first|((with_reducible refine gate_dst (N:=2) rfl ?_);refine Yz ?hg (N:=2) ?hd (cs:= #[.int .i64 Zb, .bool Zc, .slice Zg Za.length Zd]) (t:=32) ?hr ?_;(case hd=>rfl);(case hg=>rfl);(case hr=>first|(go_simp;done)|(go_simp;rfl));intro gb203 hg w4 Zi hb;have n0_:=Ya (Yk (by repeat(first|(with_reducible first|exact HB.out|apply Ye|apply Yd|apply Yg)|exact HB.out)) hb);have n1_:=Ya (Zi);have n2_:=Ya ((by rw[hg];exact(Yi (by repeat(first|(with_reducible first|exact HB.out|apply Ye|apply Yd|apply Yg)|exact HB.out))):w.heap.size≤gb203));have n3_:=Ya ((by rw[hg];exact(Yi (by repeat(first|(with_reducible first|exact HB.out|apply Ye|apply Yd|apply Yg)|exact HB.out))):w.heap.size≤gb203));clear HB;have HB:=n0_;have BK203:=n1_;have GW203:=n2_;have GE203:=n3_;clear n0_ n1_ n2_ n3_;clear hb Zi hg;have hcz5_0:w4.cell? ⟨gb203,0,none⟩=some (.int .i64 Zb):=(Yc BK203.out 0).trans rfl;have hcz5_1:w4.cell? ⟨gb203,1,none⟩=some (.bool Zc):=(Yc BK203.out 1).trans rfl;have hcz5_2:w4.cell? ⟨gb203,2,none⟩=some (.slice Zg Za.length Zd):=(Yc BK203.out 2).trans rfl;have hfz5_0:=Yf BK203.out 0;have hfz5_1:=Yf BK203.out 1;have hfz5_2:=Yf BK203.out 2));go_ret;exact⟨by first|rfl|(simp[errW_none,errW_some]<;>rfl)|(simp[*,errW_none,errW_some]<;>rfl),by repeat(first|(with_reducible first|exact HB.out|apply Ye|apply Yd|apply Yg|refine Yh ?_ GE203.out)|exact HB.out)⟩
end P
namespace Q
open P
theorem rdArc_nat (l:List S73) (i:Nat):rd_T73 l (i:Int)=l.getD i z73:=by unfold rd_T73;rw[Int.toNat_natCast]
theorem node_eq (n:Int) (b:Bool) (l:List S73) (v:Int):ebbtideref06_Node.f n b l v=some (decide (0≤v∧v<n)):=by
 unfold ebbtideref06_Node.f;split
 ·rename_i h
  congr 1;by_cases g:v<n<;>simp[g]<;>omega
 ·rename_i h
  congr 1;symm;exact Yw (by omega)
end Q
namespace Q
def sumTo:Nat→(Nat→Int)→Int
 |0,_=>0
 |n+1,g=>sumTo n g+g n
theorem sumTo_add (n:Nat) (g h:Nat→Int):sumTo n (fun v=>g v+h v)=sumTo n g+sumTo n h:=by
 induction n with
 |zero=>rfl
 |succ n ih=>simp only[sumTo,ih];omega
theorem sumTo_sub (n:Nat) (g h:Nat→Int):sumTo n (fun v=>g v - h v)=sumTo n g - sumTo n h:=by
 induction n with
 |zero=>rfl
 |succ n ih=>simp only[sumTo,ih];omega
theorem sumTo_congr (n:Nat) {g h:Nat→Int} (e: ∀ v,v<n→g v=h v):sumTo n g=sumTo n h:=by
 induction n with
 |zero=>rfl
 |succ n ih=>simp only[sumTo];rw[ih (fun v hv=>e v (by omega)),e n (by omega)]
theorem sumTo_small (n:Nat) (g:Nat→Int) (B:Int) (h: ∀ v,v<n→ -B≤g v∧g v≤B): -(n * B)≤sumTo n g∧sumTo n g≤n * B:=by
 induction n with
 |zero=>simp[sumTo]
 |succ n ih=>
  have h1:=ih (fun v hv=>h v (by omega));have h2:=h n (by omega);have e:((n+1:Nat):Int) * B=n * B+B:=by rw[show ((n+1:Nat):Int)=(n:Int)+1 by omega,Int.add_mul,Int.one_mul]
  simp only[sumTo];omega
theorem sumTo_nonneg (n:Nat) (g:Nat→Int) (h: ∀ v,v<n→0≤g v):0≤sumTo n g:=by
 induction n with
 |zero=>simp[sumTo]
 |succ n ih=>
  have h1:=ih (fun v hv=>h v (by omega));have h2:=h n (by omega);simp only[sumTo];omega
end Q
namespace H
open Go.Maps 
theorem tc_laidOut:laidOutB Try.prog=true:=by kernel_rfl
theorem slotLaw:Keyed Try.prog 53:=Keyed.of_law (deep_law_laid tc_laidOut (m:=Try.prog.types.size+1) (Yu (by kernel_rfl)) (Yu (by kernel_rfl)) (by kernel_rfl) (by kernel_rfl))
theorem tc_sizes: ∃ m,Try.prog.types.size=m+1:=⟨Try.prog.types.size - 1,by
 have h:Try.prog.types.size - 1+1=Try.prog.types.size:=by kernel_rfl
 exact h.symm⟩
def slotV (v a:Int):Value:= .agg #[.int .i64 v, .int .i64 a]
def slotK (v a:Int):Lit:= .string (keyBytes [.int .i64 v, .int .i64 a])
theorem slot_key (v a:Int) (hv:(Lit.int .i64 v).wf=true) (ha:(Lit.int .i64 a).wf=true):keyOf Try.prog 53 (slotV v a)=some (slotK v a):=by
 obtain⟨m,hm⟩:=tc_sizes;have h1:Try.prog.keyType 53=true:=by kernel_rfl
 have h2:Try.prog.cellsOf 53=2:=by kernel_rfl
 have h3:Try.prog.cellsOf 3=1:=by kernel_rfl
 have h4:(slotV v a).formed Try.prog 53=true:=by
  unfold slotV Value.formed;simp[Try.underlying53,h2]
 unfold keyOf;rw[Try.underlying53];simp only[h1,h4,hm];simp[Program.keyLits,Try.underlying53,Try.underlying3,h2,h3,slotV,slotK,Value.cells,hv,ha]
theorem slotK_inj {v a v' a':Int} (hv:(Lit.int .i64 v).wf=true) (ha:(Lit.int .i64 a).wf=true) (hv':(Lit.int .i64 v').wf=true) (ha':(Lit.int .i64 a').wf=true) (h:slotK v a=slotK v' a'):v=v'∧a=a':=by
 have h1:=slotLaw.inj (slot_key v a hv ha) (by rw[h];exact slot_key v' a' hv' ha');unfold slotV at h1;injection h1 with h1
 have h2:=congrArg Array.toList h1;simp at h2;exact h2
def SetAt (w:World) (b n:Nat) (S:Int→Int→Bool):Prop:=
 ∃ D:DataW Unit,w.ownsMap Try.prog 53 unitElem b n D∧ ∀ v a,(Lit.int .i64 v).wf=true→(Lit.int .i64 a).wf=true→Maps.has D (slotK v a)=S v a
theorem SetAt.kept {w w':World} {b n:Nat} {S:Int→Int→Bool} {row:Option Nat} (h:SetAt w b n S) (hg:w.grownBy w' row) (hne:some b≠row):SetAt w' b n S:=by
 obtain⟨D,h1,h2⟩:=h;exact⟨D,h1.kept hg hne,h2⟩
theorem SetAt.below {w w':World} {b n:Nat} {S:Int→Int→Bool} (h:SetAt w b n S) (hb:Below w.heap.size w w'):SetAt w' b n S:=h.kept (grown_of_below hb none) (by simp)
theorem zeroUnit (w:World):(zeroValue 91).run Try.prog w= .ok (.agg #[]) w:=by kernel_rfl
theorem wf_i64 {x:Int} (h0: -9223372036854775808≤x) (h1:x≤9223372036854775807):(Lit.int .i64 x).wf=true:=by
 simp[Lit.wf,IntKind.min,IntKind.max,IntKind.signed,IntKind.bits];omega
set_option maxHeartbeats 400000 in
set_option maxRecDepth 100000 in
theorem has_calls {b n:Nat} {S:Int→Int→Bool} (v a:Int) (hv:(Lit.int .i64 v).wf=true) (ha:(Lit.int .i64 a).wf=true) (w:World) (h:SetAt w b n S):
  Calls Try.prog 23 #[.map (some b), .int .i64 v, .int .i64 a] w fun e w'=>e= .returned (.bool (S v a))∧Below w.heap.size w w':=by
 obtain⟨D,hown,hS⟩:=h;have hkey:=slot_key v a hv ha;rw[← hS v a hv ha];clear hS hv ha;go_enter Try.func23,Try.ntmps23;go_wp2_with (first|(at_lookup;refine wpList_lookup_own_unit _ rfl _ _ 67 rfl 53 91 slotLaw Try.underlying67 (zeroUnit _) b n D rfl hown _ _ rfl hkey ?_)|go_in);go_ret;exact⟨rfl,(Yo _ _).alloc (Nat.le_refl _) _⟩
end H
namespace H
open Go.Maps 
def risesN (S:Int→Int→Bool) (v:Int):Nat→Bool
 |0=>true
 |k+1=>risesN S v k && !(S v k && !S v (k+1))
theorem rises_not {S:Int→Int→Bool} {v:Int} {k:Nat} (h:(S v k && !S v (k+1))=true): ∀ n,k<n→risesN S v n=false
 |0,hk=>absurd hk (Nat.not_lt_zero _)
 |n+1,hk=>by
  unfold risesN;by_cases e:k=n
  ·subst e;rw[h];simp
  ·rw[rises_not h n (by omega)];rfl
set_option maxHeartbeats 800000 in
set_option maxRecDepth 100000 in
theorem rises_calls {b n:Nat} {S:Int→Int→Bool} (v:Int) (m:Nat) (hv:(Lit.int .i64 v).wf=true) (hm:m≤2000) (w:World) (h:SetAt w b n S):
  Calls Try.prog 24 #[.map (some b), .int .i64 v, .int .i64 (m:Int)] w fun e w'=>e= .returned (.bool (risesN S v m))∧Below w.heap.size w w':=by
 have HV:=Ya hv;have HS:=Ya h;clear hv h;go_enter Try.func24,Try.ntmps24;go_wp2;go_loopw [9,7] (fun i _ wr=> ∃ k:Nat,k≤m∧i= .int .i64 k∧Aside0 (risesN S v k=true)∧Aside0 (SetAt wr b n S)∧Aside0 (Below w.heap.size w wr)) (fun i _ _=>m - (intOf i).toNat)
 case atStart=>exact⟨0,Nat.zero_le _,rfl,⟨rfl⟩,HS,⟨Yo _ _⟩⟩
 case round=>
  obtain⟨k,hk,rfl,HR,HS,HB⟩:=hrel;by_cases hlt:k<m
  ·go_wp2_with fail
   refine(has_calls v (k:Int) HV.out (wf_i64 (by omega) (by omega)) _ HS.out).mono ?_;rintro e w1 ⟨rfl,hb1⟩;have HB1:=Ya hb1;have HS1:=Ya (HS.out.below hb1);clear hb1;cases hx:S v k with
   |false=>
    have HX:=Ya hx;clear hx;go_wp2_with fail;go_roundw
    case rel=>exact⟨k+1,by omega,by go_num,⟨by unfold risesN;rw[HR.out,HX.out];rfl⟩,HS1,⟨below_then HB.out HB.out.size HB1.out⟩⟩
    case measure=>simp[intOf];omega
   |true=>
    have HX:=Ya hx;clear hx;go_wp2_with fail;refine(has_calls v ((k:Int)+1) HV.out (wf_i64 (by omega) (by omega)) _ HS1.out).mono ?_;rintro e w2 ⟨rfl,hb2⟩;have HB2:=Ya hb2;have HS2:=Ya (HS1.out.below hb2);clear hb2;cases hy:S v ((k:Int)+1) with
    |true=>
     have HY:=Ya hy;clear hy;go_wp2_with fail;go_roundw
     case rel=>exact⟨k+1,by omega,by go_num,⟨by unfold risesN;rw[HR.out,HX.out,HY.out];rfl⟩,HS2,⟨below_then (below_then HB.out HB.out.size HB1.out) (by have:=HB.out.size;have:=HB1.out.size;omega) HB2.out⟩⟩
     case measure=>simp[intOf];omega
    |false=>
     have HY:=Ya hy;clear hy;go_wp2_with fail;go_ret;exact⟨by rw[rises_not (k:=k) (by rw[HX.out,HY.out];rfl) m hlt];rfl,below_then (below_then HB.out HB.out.size HB1.out) (by have:=HB.out.size;have:=HB1.out.size;omega) HB2.out⟩
  ·have e:k=m:=by omega
   subst e;go_wp2_with fail;go_ret;exact⟨by rw[HR.out];rfl,HB.out⟩
end H
namespace H
open Go.Maps P
def slotOkB (n h:Int) (s:S53):Bool:=decide (0≤s.f0) && decide (0≤s.f1) && decide (s.f0<n) && decide (s.f1≤h)
def hasL (l:List S53) (v a:Int):Bool:=l.any fun s=>decide (s.f0=v) && decide (s.f1=a)
def OfPost (w w':World) (l:List S53) (n h:Int) (e:Ending):Prop:=
 if l.all (slotOkB n h)=true then ∃ b m,w.heap.size≤b∧e= .returned (.tuple #[.map (some b), .bool true])∧SetAt w' b m (hasL l) else e= .returned (.tuple #[.map none, .bool false])
theorem of_bad {l:List S53} {s:S53} {n h:Int} (hm:s∈l) (hb:slotOkB n h s=false):l.all (slotOkB n h)=false:=by
 cases e:l.all (slotOkB n h) with
 |false=>rfl
 |true=>rw[List.all_eq_true.1 e s hm] at hb;cases hb
theorem has_put_at {l:List S53} {s:S53} {D:DataW Unit}
  (hD:IsMap D) (hS: ∀ v a,(Lit.int .i64 v).wf=true→(Lit.int .i64 a).wf=true→Maps.has D (slotK v a)=hasL l v a) (h0:(Lit.int .i64 s.f0).wf=true) (h1:(Lit.int .i64 s.f1).wf=true):
  ∀ v a,(Lit.int .i64 v).wf=true→(Lit.int .i64 a).wf=true→Maps.has (D.put (slotK s.f0 s.f1) (.agg [])) (slotK v a)=hasL (l ++ [s]) v a:=by
 intro v a hv ha;by_cases e:slotK v a=slotK s.f0 s.f1
 ·obtain⟨rfl,rfl⟩:=slotK_inj hv ha h0 h1 e
  rw[Maps.has_put_same hD (slotLaw.key (slot_key _ _ hv ha))];simp[hasL]
 ·rw[Maps.has_put_other e,hS v a hv ha]
  have hne: ¬ (s.f0=v∧s.f1=a):=fun⟨h2,h3⟩=>e (by rw[h2,h3])
  simp only[hasL,List.any_append,List.any_cons,List.any_nil,Bool.or_false];have:(decide (s.f0=v) && decide (s.f1=a))=false:=by
   by_cases h2:s.f0=v
   ·have h3: ¬ s.f1=a:=fun h3=>hne ⟨h2,h3⟩
    simp[h3]
   ·simp[h2]
  rw[this,Bool.or_false]
attribute [local go_sem] max2_int min2_int max_two min_two
set_option maxHeartbeats 1000000 in
set_option maxRecDepth 100000 in
theorem of_calls (A:Option Addr) (c:Nat) (l:List S53) (n h:Int) (w:World) (hr:Kd.C k53 w A l.length l) (hn:n≤1000) (hh:h≤2000):
  Calls Try.prog 22 #[.slice A l.length c, .int .i64 n, .int .i64 h] w fun e w'=>OfPost w w' l n h e∧Below w.heap.size w w':=by
 have HR:=Ya hr;have hmax:l.length≤9223372036854775807:=hr.2.1;clear hr;have hmm:= @run_makeMap Try.prog;go_enter Try.func22,Try.ntmps22;go_wp2;go_loopw [14,10] (fun i _ wr=> ∃ k:Nat,k≤l.length∧i= .int .i64 k∧Aside0 ((l.take k).all (slotOkB n h)=true)∧Aside0 (∃ D:DataW Unit,wr.ownsMap Try.prog 53 unitElem w.heap.size k D∧ ∀ v a,(Lit.int .i64 v).wf=true→(Lit.int .i64 a).wf=true→Maps.has D (slotK v a)=hasL (l.take k) v a)∧Aside0 (Below w.heap.size w wr)) (fun i _ _=>l.length - (intOf i).toNat)
 case atStart=>exact⟨0,Nat.zero_le _,rfl,⟨rfl⟩,⟨_,World.ownsMap_made _ _ _ _,fun _ _ _ _=>rfl⟩,⟨(Yo _ _).alloc (Nat.le_refl _) _⟩⟩
 case round=>
  obtain⟨k,hk,rfl,HOK,HM,HB⟩:=hrel;by_cases hlt:k<l.length
  ·obtain⟨ad,had,hc0,hc1⟩:=at_T53 HR.out (k:Int) (by omega) (by omega)
   subst had;simp only[Int.toNat_natCast] at hc0 hc1;replace hc0:=(HB.out.cell (Yb w _ hc0)).trans hc0;replace hc1:=(HB.out.cell (Yb w _ hc1)).trans hc1;have hel:l.getD k z53=rd_T53 l (k:Int):=by unfold rd_T53;rw[Int.toNat_natCast]
   have htk:l.take (k+1)=l.take k ++ [rd_T53 l (k:Int)]:=by
    rw[← hel,List.take_succ_eq_append_getElem hlt,List.getD_eq_getElem?_getD,List.getElem?_eq_getElem hlt];rfl
   have hmem:rd_T53 l (k:Int)∈l:=by
    rw[← hel,List.getD_eq_getElem?_getD,List.getElem?_eq_getElem hlt];exact List.getElem_mem hlt
   have HTK:=Ya htk;have HMEM:=Ya hmem;clear htk hel hmem;obtain⟨ji,hji⟩: ∃ j_:Int,mn (rd_T53 l (k:Int)).f0 (rd_T53 l (k:Int)).f1=j_:=⟨_,rfl⟩;have HJ:=Ya hji;have hji_:(if (rd_T53 l (k:Int)).f1<(rd_T53 l (k:Int)).f0 then(rd_T53 l (k:Int)).f1 else(rd_T53 l (k:Int)).f0)=ji:=hji;clear hji;have hmn:ji≤(rd_T53 l (k:Int)).f0∧ji≤(rd_T53 l (k:Int)).f1∧(ji=(rd_T53 l (k:Int)).f0∨ji=(rd_T53 l (k:Int)).f1):=by rw[← HJ.out];unfold mn;split<;>omega
   have HMN:=Ya hmn;clear hmn;by_cases h1:ji<0
   ·have HF:Aside0 (l.all (slotOkB n h)=false):=⟨of_bad HMEM.out (by have:=HMN.out;unfold slotOkB;simp;omega)⟩
    have b1:=Yv h1;clear h1;go_wp2_with fail;go_ret2;exact⟨by unfold OfPost;rw[HF.out];rfl,(HB.out.alloc HB.out.size _)⟩
   have b1:=Yw h1;by_cases h2:n≤(rd_T53 l (k:Int)).f0
   ·have HF:Aside0 (l.all (slotOkB n h)=false):=⟨of_bad HMEM.out (by have:=HMN.out;unfold slotOkB;simp;omega)⟩
    have b2:=Yv h2;clear h1 h2;go_wp2_with fail;go_ret2;exact⟨by unfold OfPost;rw[HF.out];rfl,(HB.out.alloc HB.out.size _)⟩
   have b2:=Yw h2;by_cases h3:h<(rd_T53 l (k:Int)).f1
   ·have HF:Aside0 (l.all (slotOkB n h)=false):=⟨of_bad HMEM.out (by have:=HMN.out;unfold slotOkB;simp;omega)⟩
    have b3:=Yv h3;clear h1 h2 h3;go_wp2_with fail;go_ret2;exact⟨by unfold OfPost;rw[HF.out];rfl,(HB.out.alloc HB.out.size _)⟩
   have b3:=Yw h3;have hg:slotOkB n h (rd_T53 l (k:Int))=true:=by have:=HMN.out;unfold slotOkB;simp;omega
   have hw0:(Lit.int .i64 (rd_T53 l (k:Int)).f0).wf=true:=wf_i64 (by have:=HMN.out;omega) (by omega);have hw1:(Lit.int .i64 (rd_T53 l (k:Int)).f1).wf=true:=wf_i64 (by have:=HMN.out;omega) (by omega);have HG:=Ya hg;have HW0:=Ya hw0;have HW1:=Ya hw1;clear h1 h2 h3 hg hw0 hw1;obtain⟨D,hown,hS⟩:=HM.out;have HD:=Ya hown.isMap;have HSS:=Ya hS;have hkey:=slot_key _ _ HW0.out HW1.out;have HKEY:=Ya hkey;have HOWN:=Ya hown;clear hS HM hkey hown;go_wp2_with (first|(at_mapUpdate;refine wpList_mapUpdate_own _ rfl _ _ _ 67 rfl 53 91 slotLaw Try.underlying67 (unitElem (H:=Unit)) w.heap.size k D rfl (HOWN.out.alloc _) (by unfold maxLen;omega) _ _ _ rfl rfl HKEY.out _ [] unitElem_mk ?_;intro w1 hown1 hgrow1)|go_in);have HO1:=Ya hown1;have HGR:=Ya hgrow1;clear hown1 hgrow1;go_roundw
   case rel=>exact⟨k+1,by omega,by go_num,⟨by rw[HTK.out,List.all_append,HOK.out];simp[HG.out]⟩,⟨_,HO1.out,by rw[HTK.out];exact has_put_at HD.out HSS.out HW0.out HW1.out⟩,⟨(HB.out.alloc HB.out.size _).grown HGR.out (by have:=HB.out.size;simp;omega) (fun j hj=>by cases hj;exact Nat.le_refl _)⟩⟩
   case measure=>simp[intOf];omega
  ·have e:k=l.length:=by omega
   subst e;have HT:Aside0 (l.take l.length=l):=⟨List.take_length⟩;go_wp2_with fail;go_ret2;refine⟨?_,HB.out⟩;have hok:=HOK.out;obtain⟨D,h1,h2⟩:=HM.out;rw[HT.out] at hok h2;unfold OfPost;rw[Yx hok];exact⟨w.heap.size,l.length,Nat.le_refl _,rfl,D,h1,h2⟩
end H
namespace H
open Go.Maps P Q
def times (h:Int) (a:S73):Nat:=(h+1 - a.f3).toNat
def takeAt (S:Int→Int→Bool) (a:S73) (t:Nat):Int:=if (S a.f0 t && !S a.f1 ((t:Int)+a.f3))=true then a.f2 else 0
def takesA (S:Int→Int→Bool) (h:Int) (a:S73):Int:=sumTo (times h a) (takeAt S a)
def takesL (S:Int→Int→Bool) (h:Int):List S73→Int
 |[]=>0
 |a::l=>takesA S h a+takesL S h l
structure ArcSm (a:S73):Prop where
 f0:0≤a.f0
 f1:0≤a.f1
 f2:0≤a.f2
 f3:0≤a.f3
 h0:a.f0≤1000
 h1:a.f1≤1000
 h2:a.f2≤1048576
 h3:a.f3≤1048576
theorem takesL_snoc (S:Int→Int→Bool) (h:Int) (a:S73): ∀ l:List S73,takesL S h (l ++ [a])=takesL S h l+takesA S h a
 |[]=>by simp[takesL]
 |b::l=>by rw[List.cons_append,takesL,takesL,takesL_snoc S h a l];omega
theorem takeAt_small (S:Int→Int→Bool) {a:S73} (ha:ArcSm a) (t:Nat):0≤takeAt S a t∧takeAt S a t≤1048576:=by
 have:=ha.f2;have:=ha.h2;unfold takeAt;split<;>omega
theorem sum_small (S:Int→Int→Bool) {a:S73} (ha:ArcSm a) (t:Nat) (ht:t≤2001):0≤sumTo t (takeAt S a)∧sumTo t (takeAt S a)≤2098200576:=by
 have h1:=sumTo_nonneg t (takeAt S a) (fun v _=>(takeAt_small S ha v).1);have h2:=(sumTo_small t (takeAt S a) 1048576 (fun v _=>by have:=takeAt_small S ha v;omega)).2;omega
theorem times_le {h:Int} {a:S73} (ha:ArcSm a) (hh:h≤2000):times h a≤2001:=by
 have:=ha.f3;unfold times;omega
theorem takesL_small (S:Int→Int→Bool) {h:Int} (hh:h≤2000): ∀ l:List S73,(∀ a∈l,ArcSm a)→0≤takesL S h l∧takesL S h l≤(l.length:Int) * 2098200576
 |[],_=>by simp[takesL]
 |a::l,hl=>by
  have h1:=takesL_small S hh l (fun b hb=>hl b (List.mem_cons_of_mem _ hb));have h2:=sum_small S (hl a (List.mem_cons_self ..)) (times h a) (times_le (hl a (List.mem_cons_self ..)) hh);have e:(((a::l).length:Nat):Int) * 2098200576=(l.length:Int) * 2098200576+2098200576:=by rw[List.length_cons];omega
  unfold takesL takesA;omega
set_option maxRecDepth 100000 in
theorem use_calls (x0 x1 x2 x3:Int) (w:World):Calls Try.prog 26 #[.agg #[.int .i64 x0, .int .i64 x1, .int .i64 x2, .int .i64 x3]] w fun e w'=>e= .returned (.bool true)∧Below w.heap.size w w':=by
 go_enter Try.func26,Try.ntmps26;go_wp2;go_ret;exact⟨rfl,by first|exact Yo _ _|exact(Yo _ _).alloc (Nat.le_refl _) _⟩
def ArcBlk (w:World) (g:Nat) (a:S73):Prop:=w.heap[g]? =some (.cells #[.int .i64 a.f0, .int .i64 a.f1, .int .i64 a.f2, .int .i64 a.f3] 73 (0,0))
theorem ArcBlk.below {w w':World} {g:Nat} {a:S73} (h:ArcBlk w g a) (hb:Below w.heap.size w w'):ArcBlk w' g a:=(hb.block g (Array.getElem?_eq_some_iff.1 h).1).trans h
set_option maxHeartbeats 2000000 in
set_option maxRecDepth 100000 in
theorem takes_calls {b m:Nat} {S:Int→Int→Bool} (n:Int) (p:Bool) (A:Option Addr) (c:Nat) (l:List S73) (h:Int) (w:World) (hr:Kd.C k73 w A l.length l) (hl:l.length≤200) (hA: ∀ a∈l,ArcSm a)
  (hh0:0≤h) (hh:h≤2000) (hS:SetAt w b m S):
  Calls Try.prog 25 #[.map (some b), .agg #[.int .i64 n, .bool p, .slice A l.length c], .int .i64 h, .func (.func 26) #[] #[]] w fun e w'=>e= .returned (.int .i64 (takesL S h l))∧Below w.heap.size w w':=by
 have HR:=Ya hr;have HA:=Ya hA;have HS:=Ya hS;clear hr hA hS;go_enter Try.func25,Try.ntmps25;go_wp2;go_loopw [16,9,11,12] (fun i acc _ _ wr=> ∃ k:Nat,k≤l.length∧i= .int .i64 k∧acc= .int .i64 (takesL S h (l.take k))∧Aside0 (SetAt wr b m S)∧Aside0 (Below w.heap.size w wr)) (fun i _ _ _ _=>l.length - (intOf i).toNat)
 case atStart=>exact⟨0,Nat.zero_le _,rfl,rfl,⟨HS.out.below ((Yo _ _).alloc (Nat.le_refl _) _)⟩,⟨(Yo _ _).alloc (Nat.le_refl _) _⟩⟩
 case round=>
  obtain⟨k,hk,rfl,rfl,HS1,HB⟩:=hrel;by_cases hlt:k<l.length
  ·obtain⟨ad,had,hc0,hc1,hc2,hc3⟩:=at_T73 HR.out (k:Int) (by omega) (by omega)
   subst had;simp only[Int.toNat_natCast] at hc0 hc1 hc2 hc3;replace hc0:=(HB.out.cell (Yb w _ hc0)).trans hc0;replace hc1:=(HB.out.cell (Yb w _ hc1)).trans hc1;replace hc2:=(HB.out.cell (Yb w _ hc2)).trans hc2;replace hc3:=(HB.out.cell (Yb w _ hc3)).trans hc3;have hel:l.getD k z73=rd_T73 l (k:Int):=by unfold rd_T73;rw[Int.toNat_natCast]
   have htk:l.take (k+1)=l.take k ++ [rd_T73 l (k:Int)]:=by
    rw[← hel,List.take_succ_eq_append_getElem hlt,List.getD_eq_getElem?_getD,List.getElem?_eq_getElem hlt];rfl
   have hmem:rd_T73 l (k:Int)∈l:=by
    rw[← hel,List.getD_eq_getElem?_getD,List.getElem?_eq_getElem hlt];exact List.getElem_mem hlt
   have HTK:=Ya htk;have HSM:=Ya (HA.out _ hmem);have hbase:=takesL_small S hh (l.take k) (fun a ha=>HA.out a (List.mem_of_mem_take ha));have hbl:((l.take k).length:Int)≤200:=by simp;omega
   have HBASE:Aside0 (0≤takesL S h (l.take k)∧takesL S h (l.take k)≤419640115200):=⟨by omega⟩;clear htk hel hmem hbase hbl;obtain⟨a,ha⟩: ∃ a,rd_T73 l (k:Int)=a:=⟨_,rfl⟩;rw[ha] at hc0 hc1 hc2 hc3 HTK HSM;clear ha;obtain⟨base,hb_⟩: ∃ x,takesL S h (l.take k)=x:=⟨_,rfl⟩;rw[hb_] at HBASE ⊢;have HBS:=Ya hb_;clear hb_;obtain⟨wo,rfl⟩: ∃ wo:World,wo=wr:=⟨_,rfl⟩;have p0:=HSM.out.f0;have p1:=HSM.out.f1;have p2:=HSM.out.f2;have p3:=HSM.out.f3;have q0:=HSM.out.h0;have q1:=HSM.out.h1;have q2:=HSM.out.h2;have q3:=HSM.out.h3;have r0:=HBASE.out.1;have r1:=HBASE.out.2;go_wp2_with fail;go_loopw [12,9] (fun i acc wr=> ∃ t:Nat,t≤times h a∧i= .int .i64 t∧acc= .int .i64 (base+sumTo t (takeAt S a))∧Aside0 (ArcBlk wr wo.heap.size a)∧Aside0 (SetAt wr b m S)∧Aside0 (Below w.heap.size w wr)) (fun i _ _=>times h a - (intOf i).toNat)
   case atStart=>exact⟨0,Nat.zero_le _,rfl,by simp[sumTo],⟨(MapKept.heap_alloc _ _).1⟩,⟨HS1.out.below ((Yo _ _).alloc (Nat.le_refl _) _)⟩,⟨HB.out.alloc HB.out.size _⟩⟩
   case round=>
    obtain⟨t,ht,rfl,rfl,HK,HS2,HB2⟩:=hrel;by_cases htl:t<times h a
    ·have b1:decide ((t:Int)+a.f3≤h)=true:=Yv (by unfold times at htl;omega)
     have hts:t≤2001:=by have:=times_le HSM.out hh;omega
     have hsm:=sum_small S HSM.out t hts;have s0:=hsm.1;have s1:=hsm.2;have htf:(t:Int)+a.f3≤2000:=by unfold times at htl;omega
     have HTF:=Ya htf;clear hsm htf;have c0:wr.cell? ⟨wo.heap.size,0,none⟩=some (.int .i64 a.f0):=(Yc HK.out 0).trans rfl;have c1:wr.cell? ⟨wo.heap.size,1,none⟩=some (.int .i64 a.f1):=(Yc HK.out 1).trans rfl;have c2:wr.cell? ⟨wo.heap.size,2,none⟩=some (.int .i64 a.f2):=(Yc HK.out 2).trans rfl;have c3:wr.cell? ⟨wo.heap.size,3,none⟩=some (.int .i64 a.f3):=(Yc HK.out 3).trans rfl;go_wp2_with fail;refine(use_calls _ _ _ _ _).mono ?_;rintro e w1 ⟨rfl,hb1⟩;have HK1:=Ya (HK.out.below hb1);have HS3:=Ya (HS2.out.below hb1);have HB3:=Ya (below_then HB2.out HB2.out.size hb1);clear hb1 c0 c1 c2 c3 HK HS2 HB2;have c0:w1.cell? ⟨wo.heap.size,0,none⟩=some (.int .i64 a.f0):=(Yc HK1.out 0).trans rfl;have c1:w1.cell? ⟨wo.heap.size,1,none⟩=some (.int .i64 a.f1):=(Yc HK1.out 1).trans rfl;have c2:w1.cell? ⟨wo.heap.size,2,none⟩=some (.int .i64 a.f2):=(Yc HK1.out 2).trans rfl;have c3:w1.cell? ⟨wo.heap.size,3,none⟩=some (.int .i64 a.f3):=(Yc HK1.out 3).trans rfl;go_wp2_with fail;refine(has_calls a.f0 (t:Int) (wf_i64 (by omega) (by omega)) (wf_i64 (by omega) (by omega)) _ HS3.out).mono ?_;rintro e w2 ⟨rfl,hb2⟩;have HK2:=Ya (HK1.out.below hb2);have HS4:=Ya (HS3.out.below hb2);have HB4:=Ya (below_then HB3.out HB3.out.size hb2);clear hb2 c0 c1 c2 c3 HK1 HS3 HB3;have c0:w2.cell? ⟨wo.heap.size,0,none⟩=some (.int .i64 a.f0):=(Yc HK2.out 0).trans rfl;have c1:w2.cell? ⟨wo.heap.size,1,none⟩=some (.int .i64 a.f1):=(Yc HK2.out 1).trans rfl;have c2:w2.cell? ⟨wo.heap.size,2,none⟩=some (.int .i64 a.f2):=(Yc HK2.out 2).trans rfl;have c3:w2.cell? ⟨wo.heap.size,3,none⟩=some (.int .i64 a.f3):=(Yc HK2.out 3).trans rfl;cases hx:S a.f0 t with
     |false=>
      have HX:=Ya hx;clear hx;go_wp2_with fail;go_roundw
      case rel=>exact⟨t+1,by omega,by go_num,by show _=Value.int .i64 (base+(sumTo t (takeAt S a)+takeAt S a t));unfold takeAt;rw[HX.out,Bool.false_and,Yy (by decide),Int.add_zero],HK2,HS4,HB4⟩
      case measure=>simp[intOf];omega
     |true=>
      have HX:=Ya hx;clear hx;go_wp2_with fail;refine(has_calls a.f1 ((t:Int)+a.f3) (wf_i64 (by omega) (by omega)) (wf_i64 (by omega) (by have:=HTF.out;omega)) _ HS4.out).mono ?_;rintro e w3 ⟨rfl,hb3⟩;have HK3:=Ya (HK2.out.below hb3);have HS5:=Ya (HS4.out.below hb3);have HB5:=Ya (below_then HB4.out HB4.out.size hb3);clear hb3 c0 c1 c2 c3 HK2 HS4 HB4;have c0:w3.cell? ⟨wo.heap.size,0,none⟩=some (.int .i64 a.f0):=(Yc HK3.out 0).trans rfl;have c1:w3.cell? ⟨wo.heap.size,1,none⟩=some (.int .i64 a.f1):=(Yc HK3.out 1).trans rfl;have c2:w3.cell? ⟨wo.heap.size,2,none⟩=some (.int .i64 a.f2):=(Yc HK3.out 2).trans rfl;have c3:w3.cell? ⟨wo.heap.size,3,none⟩=some (.int .i64 a.f3):=(Yc HK3.out 3).trans rfl;cases hy:S a.f1 ((t:Int)+a.f3) with
      |true=>
       have HY:=Ya hy;clear hy;go_wp2_with fail;go_roundw
       case rel=>exact⟨t+1,by omega,by go_num,by show _=Value.int .i64 (base+(sumTo t (takeAt S a)+takeAt S a t));unfold takeAt;rw[HX.out,HY.out,Bool.not_true,Bool.and_false,Yy (by decide),Int.add_zero],HK3,HS5,HB5⟩
       case measure=>simp[intOf];omega
      |false=>
       have HY:=Ya hy;clear hy;go_wp2_with fail;go_roundw
       case rel=>exact⟨t+1,by omega,by go_num,by show _=Value.int .i64 (base+(sumTo t (takeAt S a)+takeAt S a t));have e1:takeAt S a t=a.f2:=(by unfold takeAt;rw[HX.out,HY.out,Bool.not_false,Bool.and_true,Yx rfl]);rw[e1, ← Int.add_assoc],HK3,HS5,HB5⟩
       case measure=>simp[intOf];omega
    ·have b1:decide ((t:Int)+a.f3≤h)=false:=Yw (by unfold times at htl;omega)
     have HE:Aside0 (t=times h a):=⟨by omega⟩;have hts:t≤2001:=by have:=times_le HSM.out hh;omega
     have c0:wr.cell? ⟨wo.heap.size,0,none⟩=some (.int .i64 a.f0):=(Yc HK.out 0).trans rfl;have c1:wr.cell? ⟨wo.heap.size,1,none⟩=some (.int .i64 a.f1):=(Yc HK.out 1).trans rfl;have c2:wr.cell? ⟨wo.heap.size,2,none⟩=some (.int .i64 a.f2):=(Yc HK.out 2).trans rfl;have c3:wr.cell? ⟨wo.heap.size,3,none⟩=some (.int .i64 a.f3):=(Yc HK.out 3).trans rfl;go_wp2_with fail;go_roundw
     case rel=>exact⟨k+1,by omega,by go_num,by rw[HTK.out,takesL_snoc,HBS.out,HE.out];rfl,HS2,HB2⟩
     case measure=>simp[intOf];omega
  ·have e:k=l.length:=by omega
   subst e;have HT:Aside0 (l.take l.length=l):=⟨List.take_length⟩;go_wp2_with fail;go_ret;exact⟨by rw[HT.out];rfl,HB.out⟩
end H
namespace P
attribute [local go_sem] max2_int min2_int max_two min_two max_three min_three max_four min_four
def ebbtideref07_Ends.f (k:Nat) (Zb:Int) (Zc:Bool) (Za:List (S73)) (a1:Int) (a2:Int):Option (Int):=(ebbtideref05_Check.f k Zb Zc Za).bind fun t205=>(if t205=0 then((ebbtideref06_Node.f Zb Zc Za a1).bind fun t206=>(if t206=true then((ebbtideref06_Node.f Zb Zc Za a2).bind fun t207=>(if t207=true then(if a1=a2 then(some 70) else(some 0)) else(some 70))) else(some 70))) else(some t205))
set_option maxHeartbeats 8000000 in
set_option maxRecDepth 100000 in
theorem ebbtideref07_Ends.calls (k:Nat) (Zb:Int) (Zc:Bool) (Zg:Option Addr) (Zd:Nat) (Za:List (S73)) (a1:Int) (a2:Int) (r:Int) (w:World) (Wg:Kd.C k73 w Zg Za.length Za) (Wh:Za.length≤Zd) (h:ebbtideref07_Ends.f k Zb Zc Za a1 a2=some r):
  Calls Try.prog 54 #[.agg #[.int .i64 Zb, .bool Zc, .slice Zg Za.length Zd], .int .i64 a1, .int .i64 a2] w fun e w'=>e= .returned (.int .i64 r)∧Below w.heap.size w w':=by
 have hu32:=Try.underlying32;have Xl:=Ya Wg;have Wd:=Ya Wh;clear Wg Wh;have HB:=Ya (Yo w.heap.size w);have H:((ebbtideref05_Check.f k Zb Zc Za).bind fun t205=>(if t205=0 then((ebbtideref06_Node.f Zb Zc Za a1).bind fun t206=>(if t206=true then((ebbtideref06_Node.f Zb Zc Za a2).bind fun t207=>(if t207=true then(if a1=a2 then(some 70) else(some 0)) else(some 70))) else(some 70))) else(some t205)))=some r:=h;clear h;replace H:=Option.bind_eq_some_iff.mp H;obtain⟨t205,A40,H⟩:=H;replace H:(if t205=0 then((ebbtideref06_Node.f Zb Zc Za a1).bind fun t206=>(if t206=true then((ebbtideref06_Node.f Zb Zc Za a2).bind fun t207=>(if t207=true then(if a1=a2 then(some 70) else(some 0)) else(some 70))) else(some 70))) else(some t205))=some r:=H;have A4:=Ya A40;clear A40;by_cases c5:t205=0
 rotate_left
 ·rw[Yy c5] at H
  have c5b0:(t205 == 0)=false:=beq_eq_false_iff_ne.mpr c5;have c5b1:(t205 != 0)=true:=bne_iff_ne.mpr c5;obtain rfl:=Option.some.inj H;go_enter Try.func54,Try.ntmps54;go_wp2_with (first|((with_reducible refine gate_dst (N:=3) rfl ?_);refine Yz ?hg (N:=3) ?hd (cs:= #[.int .i64 Zb, .bool Zc, .slice Zg Za.length Zd]) (t:=32) ?hr ?_;(case hd=>rfl);(case hg=>rfl);(case hr=>first|(go_simp;done)|(go_simp;rfl));intro Xp hg w37 Zi hb;have n0_:=Ya (Yk (by repeat(first|(with_reducible first|exact HB.out|apply Ye|apply Yd|apply Yg)|exact HB.out)) hb);have n1_:=Ya (Zi);have n2_:=Ya ((by rw[hg];exact(Yi (by repeat(first|(with_reducible first|exact HB.out|apply Ye|apply Yd|apply Yg)|exact HB.out))):w.heap.size≤Xp));have n3_:=Ya ((by rw[hg];exact(Yi (by repeat(first|(with_reducible first|exact HB.out|apply Ye|apply Yd|apply Yg)|exact HB.out))):w.heap.size≤Xp));clear HB;have HB:=n0_;have Zr:=n1_;have GW204:=n2_;have Ju:=n3_;clear n0_ n1_ n2_ n3_;clear hb Zi hg;have hcz38_0:w37.cell? ⟨Xp,0,none⟩=some (.int .i64 Zb):=(Yc Zr.out 0).trans rfl;have hcz38_1:w37.cell? ⟨Xp,1,none⟩=some (.bool Zc):=(Yc Zr.out 1).trans rfl;have hcz38_2:w37.cell? ⟨Xp,2,none⟩=some (.slice Zg Za.length Zd):=(Yc Zr.out 2).trans rfl;have hfz38_0:=Yf Zr.out 0;have hfz38_1:=Yf Zr.out 1;have hfz38_2:=Yf Zr.out 2)|((with_reducible refine gate_callee (f:=57) rfl ?_);refine goesL_ (some 9) rfl rfl Try.func57 (by kernel_rfl) rfl #[.agg #[.int .i64 Zb, .bool Zc, .slice Zg Za.length Zd]] rfl (by(try simp only[List.map_toArray,List.map_cons,List.map_nil]);first|done|rfl|(simp only[List.length_drop,List.length_take];rfl)) ?_;(with_reducible refine(ebbtideref05_Check.calls k Zb Zc _ _ Za t205 _ ?side1 ?side2 A4.out).mono ?_);(case side1=>repeat(first|exact(Yt Xl.out HB.out)|(with_reducible refine Kd.C_alloc ?_ _)|(with_reducible refine Kd.C_drewN ?_ _)|(with_reducible refine Kd.C_drew ?_)));(case side2=>exact Wd.out);rintro e w39 ⟨rfl,hb⟩;refine⟨_,rfl,?_⟩;have n0_:=Ya (Yn (g:=Xp) (o:= .cells #[.int .i64 Zb, .bool Zc, .slice Zg Za.length Zd] 32 (0,0)) (by(with_reducible repeat(first|refine Yl ?_ _|refine Ym ?_|refine Yj ?_ _));exact Zr.out) hb);have n1_:=Ya (Yk (by repeat(first|(with_reducible first|exact HB.out|apply Ye|apply Yd|apply Yg|refine Yh ?_ Ju.out)|exact HB.out)) hb);clear Zr;clear HB;have Zr:=n0_;have HB:=n1_;clear n0_ n1_;(try clear hb);(try clear hb2);(try clear hk);(try clear hi)));go_ret;exact⟨by first|rfl|(simp[errW_none,errW_some]<;>rfl)|(simp[*,errW_none,errW_some]<;>rfl),by repeat(first|(with_reducible first|exact HB.out|apply Ye|apply Yd|apply Yg|refine Yh ?_ Ju.out)|exact HB.out)⟩
 rw[Yx c5] at H;have c5b0:(t205 == 0)=true:=beq_iff_eq.mpr c5;have c5b1:(t205 != 0)=false:=bne_eq_false_iff_eq.mpr c5;clear c5;replace H:=Option.bind_eq_some_iff.mp H;obtain⟨t206,A60,H⟩:=H;replace H:(if t206=true then((ebbtideref06_Node.f Zb Zc Za a2).bind fun t207=>(if t207=true then(if a1=a2 then(some 70) else(some 0)) else(some 70))) else(some 70))=some r:=H;have A6:=Ya A60;clear A60;by_cases c7:t206=true
 rotate_left
 ·replace c7:=Bool.eq_false_iff.mpr c7
  subst c7;have H1:(some 70)=some r:=by rw[Yy (show ¬ (false=true) by decide)] at H;exact H
  clear H;have H:=H1;clear H1;obtain rfl:=Option.some.inj H;go_enter Try.func54,Try.ntmps54;go_wp2_with (first|((with_reducible refine gate_dst (N:=3) rfl ?_);refine Yz ?hg (N:=3) ?hd (cs:= #[.int .i64 Zb, .bool Zc, .slice Zg Za.length Zd]) (t:=32) ?hr ?_;(case hd=>rfl);(case hg=>rfl);(case hr=>first|(go_simp;done)|(go_simp;rfl));intro Xp hg w32 Zi hb;have n0_:=Ya (Yk (by repeat(first|(with_reducible first|exact HB.out|apply Ye|apply Yd|apply Yg)|exact HB.out)) hb);have n1_:=Ya (Zi);have n2_:=Ya ((by rw[hg];exact(Yi (by repeat(first|(with_reducible first|exact HB.out|apply Ye|apply Yd|apply Yg)|exact HB.out))):w.heap.size≤Xp));have n3_:=Ya ((by rw[hg];exact(Yi (by repeat(first|(with_reducible first|exact HB.out|apply Ye|apply Yd|apply Yg)|exact HB.out))):w.heap.size≤Xp));clear HB;have HB:=n0_;have Zr:=n1_;have GW204:=n2_;have Ju:=n3_;clear n0_ n1_ n2_ n3_;clear hb Zi hg;have hcz33_0:w32.cell? ⟨Xp,0,none⟩=some (.int .i64 Zb):=(Yc Zr.out 0).trans rfl;have hcz33_1:w32.cell? ⟨Xp,1,none⟩=some (.bool Zc):=(Yc Zr.out 1).trans rfl;have hcz33_2:w32.cell? ⟨Xp,2,none⟩=some (.slice Zg Za.length Zd):=(Yc Zr.out 2).trans rfl;have hfz33_0:=Yf Zr.out 0;have hfz33_1:=Yf Zr.out 1;have hfz33_2:=Yf Zr.out 2)|((with_reducible refine gate_callee (f:=57) rfl ?_);refine goesL_ (some 9) rfl rfl Try.func57 (by kernel_rfl) rfl #[.agg #[.int .i64 Zb, .bool Zc, .slice Zg Za.length Zd]] rfl (by(try simp only[List.map_toArray,List.map_cons,List.map_nil]);first|done|rfl|(simp only[List.length_drop,List.length_take];rfl)) ?_;(with_reducible refine(ebbtideref05_Check.calls k Zb Zc _ _ Za t205 _ ?side1 ?side2 A4.out).mono ?_);(case side1=>repeat(first|exact(Yt Xl.out HB.out)|(with_reducible refine Kd.C_alloc ?_ _)|(with_reducible refine Kd.C_drewN ?_ _)|(with_reducible refine Kd.C_drew ?_)));(case side2=>exact Wd.out);rintro e w34 ⟨rfl,hb⟩;refine⟨_,rfl,?_⟩;have n0_:=Ya (Yn (g:=Xp) (o:= .cells #[.int .i64 Zb, .bool Zc, .slice Zg Za.length Zd] 32 (0,0)) (by(with_reducible repeat(first|refine Yl ?_ _|refine Ym ?_|refine Yj ?_ _));exact Zr.out) hb);have n1_:=Ya (Yk (by repeat(first|(with_reducible first|exact HB.out|apply Ye|apply Yd|apply Yg|refine Yh ?_ Ju.out)|exact HB.out)) hb);clear Zr;clear HB;have Zr:=n0_;have HB:=n1_;clear n0_ n1_;(try clear hb);(try clear hb2);(try clear hk);(try clear hi);have hcz35_0:w34.cell? ⟨Xp,0,none⟩=some (.int .i64 Zb):=(Yc Zr.out 0).trans rfl;have hcz35_1:w34.cell? ⟨Xp,1,none⟩=some (.bool Zc):=(Yc Zr.out 1).trans rfl;have hcz35_2:w34.cell? ⟨Xp,2,none⟩=some (.slice Zg Za.length Zd):=(Yc Zr.out 2).trans rfl;have hfz35_0:=Yf Zr.out 0;have hfz35_1:=Yf Zr.out 1;have hfz35_2:=Yf Zr.out 2)|((with_reducible refine gate_callee (f:=59) rfl ?_);refine goesL_ (some 15) rfl rfl Try.func59 (by kernel_rfl) rfl #[.agg #[.int .i64 Zb, .bool Zc, .slice Zg Za.length Zd], .int .i64 a1] rfl (by(try simp only[List.map_toArray,List.map_cons,List.map_nil]);first|done|rfl|(simp only[List.length_drop,List.length_take];rfl)) ?_;(with_reducible refine(ebbtideref06_Node.calls Zb Zc _ _ Za a1 false _ ?side1 ?side2 A6.out).mono ?_);(case side1=>repeat(first|exact(Yt Xl.out HB.out)|(with_reducible refine Kd.C_alloc ?_ _)|(with_reducible refine Kd.C_drewN ?_ _)|(with_reducible refine Kd.C_drew ?_)));(case side2=>exact Wd.out);rintro e w36 ⟨rfl,hb⟩;refine⟨_,rfl,?_⟩;have n0_:=Ya (Yn (g:=Xp) (o:= .cells #[.int .i64 Zb, .bool Zc, .slice Zg Za.length Zd] 32 (0,0)) (by(with_reducible repeat(first|refine Yl ?_ _|refine Ym ?_|refine Yj ?_ _));exact Zr.out) hb);have n1_:=Ya (Yk (by repeat(first|(with_reducible first|exact HB.out|apply Ye|apply Yd|apply Yg|refine Yh ?_ Ju.out)|exact HB.out)) hb);clear Zr;clear HB;have Zr:=n0_;have HB:=n1_;clear n0_ n1_;(try clear hb);(try clear hb2);(try clear hk);(try clear hi)));go_ret;exact⟨by first|rfl|(simp[errW_none,errW_some]<;>rfl)|(simp[*,errW_none,errW_some]<;>rfl),by repeat(first|(with_reducible first|exact HB.out|apply Ye|apply Yd|apply Yg|refine Yh ?_ Ju.out)|exact HB.out)⟩
 subst c7;have H1:((ebbtideref06_Node.f Zb Zc Za a2).bind fun t207=>(if t207=true then(if a1=a2 then(some 70) else(some 0)) else(some 70)))=some r:=by first|(rw[Yx rfl] at H;exact H)|(rw[Yx trivial] at H;exact H)
 clear H;have H:=H1;clear H1;replace H:=Option.bind_eq_some_iff.mp H;obtain⟨t207,A80,H⟩:=H;replace H:(if t207=true then(if a1=a2 then(some 70) else(some 0)) else(some 70))=some r:=H;have A8:=Ya A80;clear A80;by_cases c9:t207=true
 rotate_left
 ·replace c9:=Bool.eq_false_iff.mpr c9
  subst c9;have H1:(some 70)=some r:=by rw[Yy (show ¬ (false=true) by decide)] at H;exact H
  clear H;have H:=H1;clear H1;obtain rfl:=Option.some.inj H;go_enter Try.func54,Try.ntmps54;go_wp2_with (first|((with_reducible refine gate_dst (N:=3) rfl ?_);refine Yz ?hg (N:=3) ?hd (cs:= #[.int .i64 Zb, .bool Zc, .slice Zg Za.length Zd]) (t:=32) ?hr ?_;(case hd=>rfl);(case hg=>rfl);(case hr=>first|(go_simp;done)|(go_simp;rfl));intro Xp hg w25 Zi hb;have n0_:=Ya (Yk (by repeat(first|(with_reducible first|exact HB.out|apply Ye|apply Yd|apply Yg)|exact HB.out)) hb);have n1_:=Ya (Zi);have n2_:=Ya ((by rw[hg];exact(Yi (by repeat(first|(with_reducible first|exact HB.out|apply Ye|apply Yd|apply Yg)|exact HB.out))):w.heap.size≤Xp));have n3_:=Ya ((by rw[hg];exact(Yi (by repeat(first|(with_reducible first|exact HB.out|apply Ye|apply Yd|apply Yg)|exact HB.out))):w.heap.size≤Xp));clear HB;have HB:=n0_;have Zr:=n1_;have GW204:=n2_;have Ju:=n3_;clear n0_ n1_ n2_ n3_;clear hb Zi hg;have hcz26_0:w25.cell? ⟨Xp,0,none⟩=some (.int .i64 Zb):=(Yc Zr.out 0).trans rfl;have hcz26_1:w25.cell? ⟨Xp,1,none⟩=some (.bool Zc):=(Yc Zr.out 1).trans rfl;have hcz26_2:w25.cell? ⟨Xp,2,none⟩=some (.slice Zg Za.length Zd):=(Yc Zr.out 2).trans rfl;have hfz26_0:=Yf Zr.out 0;have hfz26_1:=Yf Zr.out 1;have hfz26_2:=Yf Zr.out 2)|((with_reducible refine gate_callee (f:=57) rfl ?_);refine goesL_ (some 9) rfl rfl Try.func57 (by kernel_rfl) rfl #[.agg #[.int .i64 Zb, .bool Zc, .slice Zg Za.length Zd]] rfl (by(try simp only[List.map_toArray,List.map_cons,List.map_nil]);first|done|rfl|(simp only[List.length_drop,List.length_take];rfl)) ?_;(with_reducible refine(ebbtideref05_Check.calls k Zb Zc _ _ Za t205 _ ?side1 ?side2 A4.out).mono ?_);(case side1=>repeat(first|exact(Yt Xl.out HB.out)|(with_reducible refine Kd.C_alloc ?_ _)|(with_reducible refine Kd.C_drewN ?_ _)|(with_reducible refine Kd.C_drew ?_)));(case side2=>exact Wd.out);rintro e w27 ⟨rfl,hb⟩;refine⟨_,rfl,?_⟩;have n0_:=Ya (Yn (g:=Xp) (o:= .cells #[.int .i64 Zb, .bool Zc, .slice Zg Za.length Zd] 32 (0,0)) (by(with_reducible repeat(first|refine Yl ?_ _|refine Ym ?_|refine Yj ?_ _));exact Zr.out) hb);have n1_:=Ya (Yk (by repeat(first|(with_reducible first|exact HB.out|apply Ye|apply Yd|apply Yg|refine Yh ?_ Ju.out)|exact HB.out)) hb);clear Zr;clear HB;have Zr:=n0_;have HB:=n1_;clear n0_ n1_;(try clear hb);(try clear hb2);(try clear hk);(try clear hi);have hcz28_0:w27.cell? ⟨Xp,0,none⟩=some (.int .i64 Zb):=(Yc Zr.out 0).trans rfl;have hcz28_1:w27.cell? ⟨Xp,1,none⟩=some (.bool Zc):=(Yc Zr.out 1).trans rfl;have hcz28_2:w27.cell? ⟨Xp,2,none⟩=some (.slice Zg Za.length Zd):=(Yc Zr.out 2).trans rfl;have hfz28_0:=Yf Zr.out 0;have hfz28_1:=Yf Zr.out 1;have hfz28_2:=Yf Zr.out 2)|((with_reducible refine gate_callee (f:=59) rfl ?_);refine goesL_ (some 15) rfl rfl Try.func59 (by kernel_rfl) rfl #[.agg #[.int .i64 Zb, .bool Zc, .slice Zg Za.length Zd], .int .i64 a1] rfl (by(try simp only[List.map_toArray,List.map_cons,List.map_nil]);first|done|rfl|(simp only[List.length_drop,List.length_take];rfl)) ?_;(with_reducible refine(ebbtideref06_Node.calls Zb Zc _ _ Za a1 true _ ?side1 ?side2 A6.out).mono ?_);(case side1=>repeat(first|exact(Yt Xl.out HB.out)|(with_reducible refine Kd.C_alloc ?_ _)|(with_reducible refine Kd.C_drewN ?_ _)|(with_reducible refine Kd.C_drew ?_)));(case side2=>exact Wd.out);rintro e w29 ⟨rfl,hb⟩;refine⟨_,rfl,?_⟩;have n0_:=Ya (Yn (g:=Xp) (o:= .cells #[.int .i64 Zb, .bool Zc, .slice Zg Za.length Zd] 32 (0,0)) (by(with_reducible repeat(first|refine Yl ?_ _|refine Ym ?_|refine Yj ?_ _));exact Zr.out) hb);have n1_:=Ya (Yk (by repeat(first|(with_reducible first|exact HB.out|apply Ye|apply Yd|apply Yg|refine Yh ?_ Ju.out)|exact HB.out)) hb);clear Zr;clear HB;have Zr:=n0_;have HB:=n1_;clear n0_ n1_;(try clear hb);(try clear hb2);(try clear hk);(try clear hi);have hcz30_0:w29.cell? ⟨Xp,0,none⟩=some (.int .i64 Zb):=(Yc Zr.out 0).trans rfl;have hcz30_1:w29.cell? ⟨Xp,1,none⟩=some (.bool Zc):=(Yc Zr.out 1).trans rfl;have hcz30_2:w29.cell? ⟨Xp,2,none⟩=some (.slice Zg Za.length Zd):=(Yc Zr.out 2).trans rfl;have hfz30_0:=Yf Zr.out 0;have hfz30_1:=Yf Zr.out 1;have hfz30_2:=Yf Zr.out 2)|(go_at_call 59;(with_reducible refine(ebbtideref06_Node.calls Zb Zc _ _ Za a2 false _ ?side1 ?side2 A8.out).mono ?_);(case side1=>repeat(first|exact(Yt Xl.out HB.out)|(with_reducible refine Kd.C_alloc ?_ _)|(with_reducible refine Kd.C_drewN ?_ _)|(with_reducible refine Kd.C_drew ?_)));(case side2=>exact Wd.out);rintro e w31 ⟨rfl,hb⟩;have n0_:=Ya (Yn (g:=Xp) (o:= .cells #[.int .i64 Zb, .bool Zc, .slice Zg Za.length Zd] 32 (0,0)) (by(with_reducible repeat(first|refine Yl ?_ _|refine Ym ?_|refine Yj ?_ _));exact Zr.out) hb);have n1_:=Ya (Yk (by repeat(first|(with_reducible first|exact HB.out|apply Ye|apply Yd|apply Yg|refine Yh ?_ Ju.out)|exact HB.out)) hb);clear Zr;clear HB;have Zr:=n0_;have HB:=n1_;clear n0_ n1_;(try clear hb);(try clear hb2);(try clear hk);(try clear hi)));go_ret;exact⟨by first|rfl|(simp[errW_none,errW_some]<;>rfl)|(simp[*,errW_none,errW_some]<;>rfl),by repeat(first|(with_reducible first|exact HB.out|apply Ye|apply Yd|apply Yg|refine Yh ?_ Ju.out)|exact HB.out)⟩
 subst c9;have H1:(if a1=a2 then(some 70) else(some 0))=some r:=by first|(rw[Yx rfl] at H;exact H)|(rw[Yx trivial] at H;exact H)
 clear H;have H:=H1;clear H1;by_cases c10:a1=a2
 rotate_left
 ·rw[Yy c10] at H
  have c10b0:(a1 == a2)=false:=beq_eq_false_iff_ne.mpr c10;have c10b1:(a1 != a2)=true:=bne_iff_ne.mpr c10;obtain rfl:=Option.some.inj H;go_enter Try.func54,Try.ntmps54;go_wp2_with (first|((with_reducible refine gate_dst (N:=3) rfl ?_);refine Yz ?hg (N:=3) ?hd (cs:= #[.int .i64 Zb, .bool Zc, .slice Zg Za.length Zd]) (t:=32) ?hr ?_;(case hd=>rfl);(case hg=>rfl);(case hr=>first|(go_simp;done)|(go_simp;rfl));intro Xp hg w18 Zi hb;have n0_:=Ya (Yk (by repeat(first|(with_reducible first|exact HB.out|apply Ye|apply Yd|apply Yg)|exact HB.out)) hb);have n1_:=Ya (Zi);have n2_:=Ya ((by rw[hg];exact(Yi (by repeat(first|(with_reducible first|exact HB.out|apply Ye|apply Yd|apply Yg)|exact HB.out))):w.heap.size≤Xp));have n3_:=Ya ((by rw[hg];exact(Yi (by repeat(first|(with_reducible first|exact HB.out|apply Ye|apply Yd|apply Yg)|exact HB.out))):w.heap.size≤Xp));clear HB;have HB:=n0_;have Zr:=n1_;have GW204:=n2_;have Ju:=n3_;clear n0_ n1_ n2_ n3_;clear hb Zi hg;have hcz19_0:w18.cell? ⟨Xp,0,none⟩=some (.int .i64 Zb):=(Yc Zr.out 0).trans rfl;have hcz19_1:w18.cell? ⟨Xp,1,none⟩=some (.bool Zc):=(Yc Zr.out 1).trans rfl;have hcz19_2:w18.cell? ⟨Xp,2,none⟩=some (.slice Zg Za.length Zd):=(Yc Zr.out 2).trans rfl;have hfz19_0:=Yf Zr.out 0;have hfz19_1:=Yf Zr.out 1;have hfz19_2:=Yf Zr.out 2)|((with_reducible refine gate_callee (f:=57) rfl ?_);refine goesL_ (some 9) rfl rfl Try.func57 (by kernel_rfl) rfl #[.agg #[.int .i64 Zb, .bool Zc, .slice Zg Za.length Zd]] rfl (by(try simp only[List.map_toArray,List.map_cons,List.map_nil]);first|done|rfl|(simp only[List.length_drop,List.length_take];rfl)) ?_;(with_reducible refine(ebbtideref05_Check.calls k Zb Zc _ _ Za t205 _ ?side1 ?side2 A4.out).mono ?_);(case side1=>repeat(first|exact(Yt Xl.out HB.out)|(with_reducible refine Kd.C_alloc ?_ _)|(with_reducible refine Kd.C_drewN ?_ _)|(with_reducible refine Kd.C_drew ?_)));(case side2=>exact Wd.out);rintro e w20 ⟨rfl,hb⟩;refine⟨_,rfl,?_⟩;have n0_:=Ya (Yn (g:=Xp) (o:= .cells #[.int .i64 Zb, .bool Zc, .slice Zg Za.length Zd] 32 (0,0)) (by(with_reducible repeat(first|refine Yl ?_ _|refine Ym ?_|refine Yj ?_ _));exact Zr.out) hb);have n1_:=Ya (Yk (by repeat(first|(with_reducible first|exact HB.out|apply Ye|apply Yd|apply Yg|refine Yh ?_ Ju.out)|exact HB.out)) hb);clear Zr;clear HB;have Zr:=n0_;have HB:=n1_;clear n0_ n1_;(try clear hb);(try clear hb2);(try clear hk);(try clear hi);have hcz21_0:w20.cell? ⟨Xp,0,none⟩=some (.int .i64 Zb):=(Yc Zr.out 0).trans rfl;have hcz21_1:w20.cell? ⟨Xp,1,none⟩=some (.bool Zc):=(Yc Zr.out 1).trans rfl;have hcz21_2:w20.cell? ⟨Xp,2,none⟩=some (.slice Zg Za.length Zd):=(Yc Zr.out 2).trans rfl;have hfz21_0:=Yf Zr.out 0;have hfz21_1:=Yf Zr.out 1;have hfz21_2:=Yf Zr.out 2)|((with_reducible refine gate_callee (f:=59) rfl ?_);refine goesL_ (some 15) rfl rfl Try.func59 (by kernel_rfl) rfl #[.agg #[.int .i64 Zb, .bool Zc, .slice Zg Za.length Zd], .int .i64 a1] rfl (by(try simp only[List.map_toArray,List.map_cons,List.map_nil]);first|done|rfl|(simp only[List.length_drop,List.length_take];rfl)) ?_;(with_reducible refine(ebbtideref06_Node.calls Zb Zc _ _ Za a1 true _ ?side1 ?side2 A6.out).mono ?_);(case side1=>repeat(first|exact(Yt Xl.out HB.out)|(with_reducible refine Kd.C_alloc ?_ _)|(with_reducible refine Kd.C_drewN ?_ _)|(with_reducible refine Kd.C_drew ?_)));(case side2=>exact Wd.out);rintro e w22 ⟨rfl,hb⟩;refine⟨_,rfl,?_⟩;have n0_:=Ya (Yn (g:=Xp) (o:= .cells #[.int .i64 Zb, .bool Zc, .slice Zg Za.length Zd] 32 (0,0)) (by(with_reducible repeat(first|refine Yl ?_ _|refine Ym ?_|refine Yj ?_ _));exact Zr.out) hb);have n1_:=Ya (Yk (by repeat(first|(with_reducible first|exact HB.out|apply Ye|apply Yd|apply Yg|refine Yh ?_ Ju.out)|exact HB.out)) hb);clear Zr;clear HB;have Zr:=n0_;have HB:=n1_;clear n0_ n1_;(try clear hb);(try clear hb2);(try clear hk);(try clear hi);have hcz23_0:w22.cell? ⟨Xp,0,none⟩=some (.int .i64 Zb):=(Yc Zr.out 0).trans rfl;have hcz23_1:w22.cell? ⟨Xp,1,none⟩=some (.bool Zc):=(Yc Zr.out 1).trans rfl;have hcz23_2:w22.cell? ⟨Xp,2,none⟩=some (.slice Zg Za.length Zd):=(Yc Zr.out 2).trans rfl;have hfz23_0:=Yf Zr.out 0;have hfz23_1:=Yf Zr.out 1;have hfz23_2:=Yf Zr.out 2)|(go_at_call 59;(with_reducible refine(ebbtideref06_Node.calls Zb Zc _ _ Za a2 true _ ?side1 ?side2 A8.out).mono ?_);(case side1=>repeat(first|exact(Yt Xl.out HB.out)|(with_reducible refine Kd.C_alloc ?_ _)|(with_reducible refine Kd.C_drewN ?_ _)|(with_reducible refine Kd.C_drew ?_)));(case side2=>exact Wd.out);rintro e w24 ⟨rfl,hb⟩;have n0_:=Ya (Yn (g:=Xp) (o:= .cells #[.int .i64 Zb, .bool Zc, .slice Zg Za.length Zd] 32 (0,0)) (by(with_reducible repeat(first|refine Yl ?_ _|refine Ym ?_|refine Yj ?_ _));exact Zr.out) hb);have n1_:=Ya (Yk (by repeat(first|(with_reducible first|exact HB.out|apply Ye|apply Yd|apply Yg|refine Yh ?_ Ju.out)|exact HB.out)) hb);clear Zr;clear HB;have Zr:=n0_;have HB:=n1_;clear n0_ n1_;(try clear hb);(try clear hb2);(try clear hk);(try clear hi)));go_ret;exact⟨by first|rfl|(simp[errW_none,errW_some]<;>rfl)|(simp[*,errW_none,errW_some]<;>rfl),by repeat(first|(with_reducible first|exact HB.out|apply Ye|apply Yd|apply Yg|refine Yh ?_ Ju.out)|exact HB.out)⟩
 rw[Yx c10] at H;have c10b0:(a1 == a2)=true:=beq_iff_eq.mpr c10;have c10b1:(a1 != a2)=false:=bne_eq_false_iff_eq.mpr c10;clear c10;obtain rfl:=Option.some.inj H;go_enter Try.func54,Try.ntmps54;go_wp2_with (first|((with_reducible refine gate_dst (N:=3) rfl ?_);refine Yz ?hg (N:=3) ?hd (cs:= #[.int .i64 Zb, .bool Zc, .slice Zg Za.length Zd]) (t:=32) ?hr ?_;(case hd=>rfl);(case hg=>rfl);(case hr=>first|(go_simp;done)|(go_simp;rfl));intro Xp hg w11 Zi hb;have n0_:=Ya (Yk (by repeat(first|(with_reducible first|exact HB.out|apply Ye|apply Yd|apply Yg)|exact HB.out)) hb);have n1_:=Ya (Zi);have n2_:=Ya ((by rw[hg];exact(Yi (by repeat(first|(with_reducible first|exact HB.out|apply Ye|apply Yd|apply Yg)|exact HB.out))):w.heap.size≤Xp));have n3_:=Ya ((by rw[hg];exact(Yi (by repeat(first|(with_reducible first|exact HB.out|apply Ye|apply Yd|apply Yg)|exact HB.out))):w.heap.size≤Xp));clear HB;have HB:=n0_;have Zr:=n1_;have GW204:=n2_;have Ju:=n3_;clear n0_ n1_ n2_ n3_;clear hb Zi hg;have hcz12_0:w11.cell? ⟨Xp,0,none⟩=some (.int .i64 Zb):=(Yc Zr.out 0).trans rfl;have hcz12_1:w11.cell? ⟨Xp,1,none⟩=some (.bool Zc):=(Yc Zr.out 1).trans rfl;have hcz12_2:w11.cell? ⟨Xp,2,none⟩=some (.slice Zg Za.length Zd):=(Yc Zr.out 2).trans rfl;have hfz12_0:=Yf Zr.out 0;have hfz12_1:=Yf Zr.out 1;have hfz12_2:=Yf Zr.out 2)|((with_reducible refine gate_callee (f:=57) rfl ?_);refine goesL_ (some 9) rfl rfl Try.func57 (by kernel_rfl) rfl #[.agg #[.int .i64 Zb, .bool Zc, .slice Zg Za.length Zd]] rfl (by(try simp only[List.map_toArray,List.map_cons,List.map_nil]);first|done|rfl|(simp only[List.length_drop,List.length_take];rfl)) ?_;(with_reducible refine(ebbtideref05_Check.calls k Zb Zc _ _ Za t205 _ ?side1 ?side2 A4.out).mono ?_);(case side1=>repeat(first|exact(Yt Xl.out HB.out)|(with_reducible refine Kd.C_alloc ?_ _)|(with_reducible refine Kd.C_drewN ?_ _)|(with_reducible refine Kd.C_drew ?_)));(case side2=>exact Wd.out);rintro e w13 ⟨rfl,hb⟩;refine⟨_,rfl,?_⟩;have n0_:=Ya (Yn (g:=Xp) (o:= .cells #[.int .i64 Zb, .bool Zc, .slice Zg Za.length Zd] 32 (0,0)) (by(with_reducible repeat(first|refine Yl ?_ _|refine Ym ?_|refine Yj ?_ _));exact Zr.out) hb);have n1_:=Ya (Yk (by repeat(first|(with_reducible first|exact HB.out|apply Ye|apply Yd|apply Yg|refine Yh ?_ Ju.out)|exact HB.out)) hb);clear Zr;clear HB;have Zr:=n0_;have HB:=n1_;clear n0_ n1_;(try clear hb);(try clear hb2);(try clear hk);(try clear hi);have hcz14_0:w13.cell? ⟨Xp,0,none⟩=some (.int .i64 Zb):=(Yc Zr.out 0).trans rfl;have hcz14_1:w13.cell? ⟨Xp,1,none⟩=some (.bool Zc):=(Yc Zr.out 1).trans rfl;have hcz14_2:w13.cell? ⟨Xp,2,none⟩=some (.slice Zg Za.length Zd):=(Yc Zr.out 2).trans rfl;have hfz14_0:=Yf Zr.out 0;have hfz14_1:=Yf Zr.out 1;have hfz14_2:=Yf Zr.out 2)|((with_reducible refine gate_callee (f:=59) rfl ?_);refine goesL_ (some 15) rfl rfl Try.func59 (by kernel_rfl) rfl #[.agg #[.int .i64 Zb, .bool Zc, .slice Zg Za.length Zd], .int .i64 a1] rfl (by(try simp only[List.map_toArray,List.map_cons,List.map_nil]);first|done|rfl|(simp only[List.length_drop,List.length_take];rfl)) ?_;(with_reducible refine(ebbtideref06_Node.calls Zb Zc _ _ Za a1 true _ ?side1 ?side2 A6.out).mono ?_);(case side1=>repeat(first|exact(Yt Xl.out HB.out)|(with_reducible refine Kd.C_alloc ?_ _)|(with_reducible refine Kd.C_drewN ?_ _)|(with_reducible refine Kd.C_drew ?_)));(case side2=>exact Wd.out);rintro e w15 ⟨rfl,hb⟩;refine⟨_,rfl,?_⟩;have n0_:=Ya (Yn (g:=Xp) (o:= .cells #[.int .i64 Zb, .bool Zc, .slice Zg Za.length Zd] 32 (0,0)) (by(with_reducible repeat(first|refine Yl ?_ _|refine Ym ?_|refine Yj ?_ _));exact Zr.out) hb);have n1_:=Ya (Yk (by repeat(first|(with_reducible first|exact HB.out|apply Ye|apply Yd|apply Yg|refine Yh ?_ Ju.out)|exact HB.out)) hb);clear Zr;clear HB;have Zr:=n0_;have HB:=n1_;clear n0_ n1_;(try clear hb);(try clear hb2);(try clear hk);(try clear hi);have hcz16_0:w15.cell? ⟨Xp,0,none⟩=some (.int .i64 Zb):=(Yc Zr.out 0).trans rfl;have hcz16_1:w15.cell? ⟨Xp,1,none⟩=some (.bool Zc):=(Yc Zr.out 1).trans rfl;have hcz16_2:w15.cell? ⟨Xp,2,none⟩=some (.slice Zg Za.length Zd):=(Yc Zr.out 2).trans rfl;have hfz16_0:=Yf Zr.out 0;have hfz16_1:=Yf Zr.out 1;have hfz16_2:=Yf Zr.out 2)|(go_at_call 59;(with_reducible refine(ebbtideref06_Node.calls Zb Zc _ _ Za a2 true _ ?side1 ?side2 A8.out).mono ?_);(case side1=>repeat(first|exact(Yt Xl.out HB.out)|(with_reducible refine Kd.C_alloc ?_ _)|(with_reducible refine Kd.C_drewN ?_ _)|(with_reducible refine Kd.C_drew ?_)));(case side2=>exact Wd.out);rintro e w17 ⟨rfl,hb⟩;have n0_:=Ya (Yn (g:=Xp) (o:= .cells #[.int .i64 Zb, .bool Zc, .slice Zg Za.length Zd] 32 (0,0)) (by(with_reducible repeat(first|refine Yl ?_ _|refine Ym ?_|refine Yj ?_ _));exact Zr.out) hb);have n1_:=Ya (Yk (by repeat(first|(with_reducible first|exact HB.out|apply Ye|apply Yd|apply Yg|refine Yh ?_ Ju.out)|exact HB.out)) hb);clear Zr;clear HB;have Zr:=n0_;have HB:=n1_;clear n0_ n1_;(try clear hb);(try clear hb2);(try clear hk);(try clear hi)));go_ret;exact⟨by first|rfl|(simp[errW_none,errW_some]<;>rfl)|(simp[*,errW_none,errW_some]<;>rfl),by repeat(first|(with_reducible first|exact HB.out|apply Ye|apply Yd|apply Yg|refine Yh ?_ Ju.out)|exact HB.out)⟩
end P
namespace P
attribute [local go_sem] max2_int min2_int max_two min_two max_three min_three max_four min_four
def ebbtideref12_Span.f (a0:Int):Option (Int):=if a0<0 then(some 1) else(if a0>1024 then(some 2) else(some 0))
set_option maxHeartbeats 8000000 in
set_option maxRecDepth 100000 in
theorem ebbtideref12_Span.calls (a0:Int) (r:Int) (w:World) (h:ebbtideref12_Span.f a0=some r):
  Calls Try.prog 55 #[.int .i64 a0] w fun e w'=>e= .returned (.int .i64 r)∧Drawn0 w w':=by
 have H:(if a0<0 then(some 1) else(if a0>1024 then(some 2) else(some 0)))=some r:=h;clear h;by_cases c2:a0<0
 ·rw[Yx c2] at H
  have c2b0:decide (a0<0)=true:=Yv c2;clear c2;obtain rfl:=Option.some.inj H;go_enter Try.func55,Try.ntmps55;go_wp2;go_ret;exact⟨by first|rfl|(simp;done)|(simp[*];done),by repeat(first|exact Drawn0.refl _|apply Drawn0.step)⟩
 rw[Yy c2] at H;have c2b0:decide (a0<0)=false:=Yw c2;clear c2;by_cases c3:a0>1024
 rotate_left
 ·rw[Yy c3] at H
  have c3b0:decide (1024<a0)=false:=Yw c3;clear c3;obtain rfl:=Option.some.inj H;go_enter Try.func55,Try.ntmps55;go_wp2;go_ret;exact⟨by first|rfl|(simp;done)|(simp[*];done),by repeat(first|exact Drawn0.refl _|apply Drawn0.step)⟩
 rw[Yx c3] at H;have c3b0:decide (1024<a0)=true:=Yv c3;clear c3;obtain rfl:=Option.some.inj H;go_enter Try.func55,Try.ntmps55;go_wp2;go_ret;exact⟨by first|rfl|(simp;done)|(simp[*];done),by repeat(first|exact Drawn0.refl _|apply Drawn0.step)⟩
end P
namespace P
attribute [local go_sem] max2_int min2_int max_two min_two max_three min_three max_four min_four
def ebbtideref12_Asked.f (k:Nat) (Zb:Int) (Zc:Bool) (Za:List (S73)) (a1:Int) (a2:Int) (a3:Int):Option (Int):=(ebbtideref07_Ends.f k Zb Zc Za a1 a2).bind fun t209=>(if t209=0 then((ebbtideref12_Span.f a3).bind fun t210=>(some t210)) else(some t209))
set_option maxHeartbeats 8000000 in
set_option maxRecDepth 100000 in
theorem ebbtideref12_Asked.calls (k:Nat) (Zb:Int) (Zc:Bool) (Zg:Option Addr) (Zd:Nat) (Za:List (S73)) (a1:Int) (a2:Int) (a3:Int) (r:Int) (w:World) (Wg:Kd.C k73 w Zg Za.length Za) (Wh:Za.length≤Zd) (h:ebbtideref12_Asked.f k Zb Zc Za a1 a2 a3=some r):
  Calls Try.prog 46 #[.agg #[.int .i64 Zb, .bool Zc, .slice Zg Za.length Zd], .int .i64 a1, .int .i64 a2, .int .i64 a3] w fun e w'=>e= .returned (.int .i64 r)∧Below w.heap.size w w':=by
 have hu32:=Try.underlying32;have Xl:=Ya Wg;have Wd:=Ya Wh;clear Wg Wh;have HB:=Ya (Yo w.heap.size w);have H:((ebbtideref07_Ends.f k Zb Zc Za a1 a2).bind fun t209=>(if t209=0 then((ebbtideref12_Span.f a3).bind fun t210=>(some t210)) else(some t209)))=some r:=h;clear h;replace H:=Option.bind_eq_some_iff.mp H;obtain⟨t209,A50,H⟩:=H;replace H:(if t209=0 then((ebbtideref12_Span.f a3).bind fun t210=>(some t210)) else(some t209))=some r:=H;have A5:=Ya A50;clear A50;by_cases c6:t209=0
 rotate_left
 ·rw[Yy c6] at H
  have c6b0:(t209 == 0)=false:=beq_eq_false_iff_ne.mpr c6;have c6b1:(t209 != 0)=true:=bne_iff_ne.mpr c6;obtain rfl:=Option.some.inj H;go_enter Try.func46,Try.ntmps46;go_wp2_with (first|((with_reducible refine gate_dst (N:=4) rfl ?_);refine Yz ?hg (N:=4) ?hd (cs:= #[.int .i64 Zb, .bool Zc, .slice Zg Za.length Zd]) (t:=32) ?hr ?_;(case hd=>rfl);(case hg=>rfl);(case hr=>first|(go_simp;done)|(go_simp;rfl));intro gb208 hg w11 Zi hb;have n0_:=Ya (Yk (by repeat(first|(with_reducible first|exact HB.out|apply Ye|apply Yd|apply Yg)|exact HB.out)) hb);have n1_:=Ya (Zi);have n2_:=Ya ((by rw[hg];exact(Yi (by repeat(first|(with_reducible first|exact HB.out|apply Ye|apply Yd|apply Yg)|exact HB.out))):w.heap.size≤gb208));have n3_:=Ya ((by rw[hg];exact(Yi (by repeat(first|(with_reducible first|exact HB.out|apply Ye|apply Yd|apply Yg)|exact HB.out))):w.heap.size≤gb208));clear HB;have HB:=n0_;have BK208:=n1_;have GW208:=n2_;have GE208:=n3_;clear n0_ n1_ n2_ n3_;clear hb Zi hg;have hcz12_0:w11.cell? ⟨gb208,0,none⟩=some (.int .i64 Zb):=(Yc BK208.out 0).trans rfl;have hcz12_1:w11.cell? ⟨gb208,1,none⟩=some (.bool Zc):=(Yc BK208.out 1).trans rfl;have hcz12_2:w11.cell? ⟨gb208,2,none⟩=some (.slice Zg Za.length Zd):=(Yc BK208.out 2).trans rfl;have hfz12_0:=Yf BK208.out 0;have hfz12_1:=Yf BK208.out 1;have hfz12_2:=Yf BK208.out 2)|((with_reducible refine gate_callee (f:=54) rfl ?_);refine goesL_ (some 13) rfl rfl Try.func54 (by kernel_rfl) rfl #[.agg #[.int .i64 Zb, .bool Zc, .slice Zg Za.length Zd], .int .i64 a1, .int .i64 a2] rfl (by(try simp only[List.map_toArray,List.map_cons,List.map_nil]);first|done|rfl|(simp only[List.length_drop,List.length_take];rfl)) ?_;(with_reducible refine(ebbtideref07_Ends.calls k Zb Zc _ _ Za a1 a2 t209 _ ?side1 ?side2 A5.out).mono ?_);(case side1=>repeat(first|exact(Yt Xl.out HB.out)|(with_reducible refine Kd.C_alloc ?_ _)|(with_reducible refine Kd.C_drewN ?_ _)|(with_reducible refine Kd.C_drew ?_)));(case side2=>exact Wd.out);rintro e w13 ⟨rfl,hb⟩;refine⟨_,rfl,?_⟩;have n0_:=Ya (Yn (g:=gb208) (o:= .cells #[.int .i64 Zb, .bool Zc, .slice Zg Za.length Zd] 32 (0,0)) (by(with_reducible repeat(first|refine Yl ?_ _|refine Ym ?_|refine Yj ?_ _));exact BK208.out) hb);have n1_:=Ya (Yk (by repeat(first|(with_reducible first|exact HB.out|apply Ye|apply Yd|apply Yg|refine Yh ?_ GE208.out)|exact HB.out)) hb);clear BK208;clear HB;have BK208:=n0_;have HB:=n1_;clear n0_ n1_;(try clear hb);(try clear hb2);(try clear hk);(try clear hi)));go_ret;exact⟨by first|rfl|(simp[errW_none,errW_some]<;>rfl)|(simp[*,errW_none,errW_some]<;>rfl),by repeat(first|(with_reducible first|exact HB.out|apply Ye|apply Yd|apply Yg|refine Yh ?_ GE208.out)|exact HB.out)⟩
 rw[Yx c6] at H;have c6b0:(t209 == 0)=true:=beq_iff_eq.mpr c6;have c6b1:(t209 != 0)=false:=bne_eq_false_iff_eq.mpr c6;clear c6;replace H:=Option.bind_eq_some_iff.mp H;obtain⟨t210,A70,H⟩:=H;replace H:(some t210)=some r:=H;have A7:=Ya A70;clear A70;obtain rfl:=Option.some.inj H;go_enter Try.func46,Try.ntmps46;go_wp2_with (first|((with_reducible refine gate_dst (N:=4) rfl ?_);refine Yz ?hg (N:=4) ?hd (cs:= #[.int .i64 Zb, .bool Zc, .slice Zg Za.length Zd]) (t:=32) ?hr ?_;(case hd=>rfl);(case hg=>rfl);(case hr=>first|(go_simp;done)|(go_simp;rfl));intro gb208 hg w8 Zi hb;have n0_:=Ya (Yk (by repeat(first|(with_reducible first|exact HB.out|apply Ye|apply Yd|apply Yg)|exact HB.out)) hb);have n1_:=Ya (Zi);have n2_:=Ya ((by rw[hg];exact(Yi (by repeat(first|(with_reducible first|exact HB.out|apply Ye|apply Yd|apply Yg)|exact HB.out))):w.heap.size≤gb208));have n3_:=Ya ((by rw[hg];exact(Yi (by repeat(first|(with_reducible first|exact HB.out|apply Ye|apply Yd|apply Yg)|exact HB.out))):w.heap.size≤gb208));clear HB;have HB:=n0_;have BK208:=n1_;have GW208:=n2_;have GE208:=n3_;clear n0_ n1_ n2_ n3_;clear hb Zi hg;have hcz9_0:w8.cell? ⟨gb208,0,none⟩=some (.int .i64 Zb):=(Yc BK208.out 0).trans rfl;have hcz9_1:w8.cell? ⟨gb208,1,none⟩=some (.bool Zc):=(Yc BK208.out 1).trans rfl;have hcz9_2:w8.cell? ⟨gb208,2,none⟩=some (.slice Zg Za.length Zd):=(Yc BK208.out 2).trans rfl;have hfz9_0:=Yf BK208.out 0;have hfz9_1:=Yf BK208.out 1;have hfz9_2:=Yf BK208.out 2)|((with_reducible refine gate_callee (f:=54) rfl ?_);refine goesL_ (some 13) rfl rfl Try.func54 (by kernel_rfl) rfl #[.agg #[.int .i64 Zb, .bool Zc, .slice Zg Za.length Zd], .int .i64 a1, .int .i64 a2] rfl (by(try simp only[List.map_toArray,List.map_cons,List.map_nil]);first|done|rfl|(simp only[List.length_drop,List.length_take];rfl)) ?_;(with_reducible refine(ebbtideref07_Ends.calls k Zb Zc _ _ Za a1 a2 t209 _ ?side1 ?side2 A5.out).mono ?_);(case side1=>repeat(first|exact(Yt Xl.out HB.out)|(with_reducible refine Kd.C_alloc ?_ _)|(with_reducible refine Kd.C_drewN ?_ _)|(with_reducible refine Kd.C_drew ?_)));(case side2=>exact Wd.out);rintro e w10 ⟨rfl,hb⟩;refine⟨_,rfl,?_⟩;have n0_:=Ya (Yn (g:=gb208) (o:= .cells #[.int .i64 Zb, .bool Zc, .slice Zg Za.length Zd] 32 (0,0)) (by(with_reducible repeat(first|refine Yl ?_ _|refine Ym ?_|refine Yj ?_ _));exact BK208.out) hb);have n1_:=Ya (Yk (by repeat(first|(with_reducible first|exact HB.out|apply Ye|apply Yd|apply Yg|refine Yh ?_ GE208.out)|exact HB.out)) hb);clear BK208;clear HB;have BK208:=n0_;have HB:=n1_;clear n0_ n1_;(try clear hb);(try clear hb2);(try clear hk);(try clear hi))|((with_reducible refine gate_callee (f:=55) rfl ?_);refine goesL_ (some 18) rfl rfl Try.func55 (by kernel_rfl) rfl #[.int .i64 a3] rfl (by(try simp only[List.map_toArray,List.map_cons,List.map_nil]);first|done|rfl|(simp only[List.length_drop,List.length_take];rfl)) ?_;(with_reducible refine(ebbtideref12_Span.calls a3 t210 _ A7.out).mono ?_);rintro e w' ⟨rfl,⟨nd,rfl⟩⟩;refine⟨_,rfl,?_⟩));go_ret;exact⟨by first|rfl|(simp[errW_none,errW_some]<;>rfl)|(simp[*,errW_none,errW_some]<;>rfl),by repeat(first|(with_reducible first|exact HB.out|apply Ye|apply Yd|apply Yg|refine Yh ?_ GE208.out)|exact HB.out)⟩
end P
end Go.Proofs.Ytjaoknhhoicigaa
