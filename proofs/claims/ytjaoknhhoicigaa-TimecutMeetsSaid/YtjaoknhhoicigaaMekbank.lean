/- What the law's row needs of these texts, taken out of them by wip/tool/mini.py: P0 QPress P2 P3 P4 P5 P6 P7 QBase QNet QFlow QSums QTcSet QTcRises QTcOf QTcTakes P36 QTcPure QTcCheck QTcCheckC P60 P13 P14 P1 P15 P61 P17 P33. -/
import Derived.Test.YtjaoknhhoicigaaProg
import Derived.Below
import Derived.Deep.Draws
import Derived.Deep.AppendLies
import Derived.Maps.AppendAt
import Derived.OwnWalk
import Derived.Laws.BytesArg
import Derived.Laws.MakeOwn
import Derived.Laws.OwnMore
import Derived.Deep.OwnRows
import Derived.Tactics
import Derived.Lib.ConvBytes
import Derived.Laws.Slices
import Derived.WalkKit
import Derived.KernelRfl
import Derived.RowKit3
import Derived.Deep.LoopGhost
import Derived.Deep.QuietTactic
import Derived.BigQuiet
import Derived.WideLaws
import Derived.Deep.DeepCutAuto
import Derived.Deep.CutBlock
import Derived.Deep.RegionHeld3
import Derived.Laws.Rows
import Derived.Lib.AppendStr
import Derived.ArgAppend
import Derived.Laws.IdiomCopy
import Derived.OrdersHeld
import Derived.Laws.BitsLemmas
import Derived.RowKit
import Derived.Test.YtjaoknhhoicigaaVkmdfjg
import Derived.Deep.MidRow
import Derived.Maps.OwnSet
import Derived.DeepKeys4
import Derived.LoopTactic
import Derived.Carry
set_option linter.unusedVariables false
set_option linter.unusedSimpArgs false
open Go.RowKit Go.Proofs.YtjaoknhhoicigaaW.PrintWords Go.Proofs.YtjaoknhhoicigaaW.PrintLast Go.Proofs.YtjaoknhhoicigaaW.PrintMore
namespace Go.Proofs.Ytjaoknhhoicigaa
namespace P
attribute [local go_sem] max2_int min2_int max_two min_two max_three min_three max_four min_four
def errW:Option Int→Value
 |none=> .nilIface
 |some c=> .iface 0 (.int .i64 c)
theorem errW_none:errW none= .nilIface:=rfl
theorem errW_some (c:Int):errW (some c)= .iface 0 (.int .i64 c):=rfl
theorem info53:(Try.prog.info? 53).map (fun i=>(i.zero,i.size,i.bytes))=some (some (.agg #[(.int .i64 0),(.int .i64 0)]),2,16):=by kernel_rfl
theorem info73:(Try.prog.info? 73).map (fun i=>(i.zero,i.size,i.bytes))=some (some (.agg #[(.int .i64 0),(.int .i64 0),(.int .i64 0),(.int .i64 0)]),4,32):=by kernel_rfl
structure S73 where
 f0:Int
 f1:Int
 f2:Int
 f3:Int
def z73:S73:=⟨(0:Int),(0:Int),(0:Int),(0:Int)⟩
def k73:Kd S73:=Kd.iso (Kd.pair (Kd.int .i64) (Kd.pair (Kd.int .i64) (Kd.pair (Kd.int .i64) (Kd.int .i64)))) (fun x:S73=>(x.f0,x.f1,x.f2,x.f3))
theorem k73_open {w:World} {x:S73} {cs:List Value} (h:k73.K w x cs):cs=[.int .i64 x.f0, .int .i64 x.f1, .int .i64 x.f2, .int .i64 x.f3]:=by
 obtain⟨_,_,rfl,rfl,⟨_,_,rfl,rfl,⟨_,_,rfl,rfl,rfl⟩⟩⟩:=h;exact rfl
theorem k73_mkM (w:World) (base:Nat) (ok:Nat→Prop) (x:S73)  :k73.M w base ok x [.int .i64 x.f0, .int .i64 x.f1, .int .i64 x.f2, .int .i64 x.f3]:=⟨[.int .i64 x.f0],[.int .i64 x.f1, .int .i64 x.f2, .int .i64 x.f3],rfl,rfl,⟨[.int .i64 x.f1],[.int .i64 x.f2, .int .i64 x.f3],rfl,rfl,⟨[.int .i64 x.f2],[.int .i64 x.f3],rfl,rfl,rfl⟩⟩⟩
def rd_T73 (xs:List S73) (i:Int):S73:=xs.getD i.toNat z73
theorem at_T73 {w:World} {A:Option Addr} {n:Nat} {xs:List S73} (h:Kd.C k73 w A n xs) (i:Int) (h0:0≤i) (h1:i<n): ∃ ad ,A=some ad∧w.cell? (ad.add (i.toNat * 4))=some (.int .i64 (rd_T73 xs i).f0)∧w.cell? ⟨(ad.add (i.toNat * 4)).block,(ad.add (i.toNat * 4)).off+1,none⟩=some (.int .i64 (rd_T73 xs i).f1)∧w.cell? ⟨(ad.add (i.toNat * 4)).block,(ad.add (i.toNat * 4)).off+2,none⟩=some (.int .i64 (rd_T73 xs i).f2)∧w.cell? ⟨(ad.add (i.toNat * 4)).block,(ad.add (i.toNat * 4)).off+3,none⟩=some (.int .i64 (rd_T73 xs i).f3):=by
 obtain⟨ad,c,e,_,hK,hc0⟩:=Kd.C_get h z73 i h0 h1;have hc: ∀ j u,c[j]? =some u→w.cell? (ad.add (i.toNat * 4+j))=some u:=hc0;obtain rfl:=k73_open hK;exact⟨ad,e,hc 0 _ rfl,by rw[← add_field _ _ 1 (by omega)];exact hc 1 _ rfl,by rw[← add_field _ _ 2 (by omega)];exact hc 2 _ rfl,by rw[← add_field _ _ 3 (by omega)];exact hc 3 _ rfl⟩
structure S53 where
 f0:Int
 f1:Int
def z53:S53:=⟨(0:Int),(0:Int)⟩
def k53:Kd S53:=Kd.iso (Kd.pair (Kd.int .i64) (Kd.int .i64)) (fun x:S53=>(x.f0,x.f1))
theorem k53_open {w:World} {x:S53} {cs:List Value} (h:k53.K w x cs):cs=[.int .i64 x.f0, .int .i64 x.f1]:=by
 obtain⟨_,_,rfl,rfl,rfl⟩:=h;exact rfl
theorem k53_openM {w:World} {base:Nat} {ok:Nat→Prop} {x:S53} {cs:List Value} (h:k53.M w base ok x cs):cs=[.int .i64 x.f0, .int .i64 x.f1]:=by
 obtain⟨_,_,rfl,rfl,rfl⟩:=h;exact rfl
theorem k53_mkM (w:World) (base:Nat) (ok:Nat→Prop) (x:S53)  :k53.M w base ok x [.int .i64 x.f0, .int .i64 x.f1]:=⟨[.int .i64 x.f0],[.int .i64 x.f1],rfl,rfl,rfl⟩
def rd_T53 (xs:List S53) (i:Int):S53:=xs.getD i.toNat z53
theorem at_T53 {w:World} {A:Option Addr} {n:Nat} {xs:List S53} (h:Kd.C k53 w A n xs) (i:Int) (h0:0≤i) (h1:i<n): ∃ ad ,A=some ad∧w.cell? (ad.add (i.toNat * 2))=some (.int .i64 (rd_T53 xs i).f0)∧w.cell? ⟨(ad.add (i.toNat * 2)).block,(ad.add (i.toNat * 2)).off+1,none⟩=some (.int .i64 (rd_T53 xs i).f1):=by
 obtain⟨ad,c,e,_,hK,hc0⟩:=Kd.C_get h z53 i h0 h1;have hc: ∀ j u,c[j]? =some u→w.cell? (ad.add (i.toNat * 2+j))=some u:=hc0;obtain rfl:=k53_open hK;exact⟨ad,e,hc 0 _ rfl,by rw[← add_field _ _ 1 (by omega)];exact hc 1 _ rfl⟩
structure S77 where
 f0:Int
 f1:Int
 f2:Int
 f3:Int
def z77:S77:=⟨(0:Int),(0:Int),(0:Int),(0:Int)⟩
def k77:Kd S77:=Kd.iso (Kd.pair (Kd.int .u8) (Kd.pair (Kd.int .u8) (Kd.pair (Kd.int .u8) (Kd.int .u8)))) (fun x:S77=>(x.f0,x.f1,x.f2,x.f3))
theorem k77_open {w:World} {x:S77} {cs:List Value} (h:k77.K w x cs):cs=[.int .u8 x.f0, .int .u8 x.f1, .int .u8 x.f2, .int .u8 x.f3]:=by
 obtain⟨_,_,rfl,rfl,⟨_,_,rfl,rfl,⟨_,_,rfl,rfl,rfl⟩⟩⟩:=h;exact rfl
def rd_T77 (xs:List S77) (i:Int):S77:=xs.getD i.toNat z77
theorem at_T77 {w:World} {A:Option Addr} {n:Nat} {xs:List S77} (h:Kd.C k77 w A n xs) (i:Int) (h0:0≤i) (h1:i<n): ∃ ad ,A=some ad∧w.cell? (ad.add (i.toNat * 4))=some (.int .u8 (rd_T77 xs i).f0)∧w.cell? ⟨(ad.add (i.toNat * 4)).block,(ad.add (i.toNat * 4)).off+1,none⟩=some (.int .u8 (rd_T77 xs i).f1)∧w.cell? ⟨(ad.add (i.toNat * 4)).block,(ad.add (i.toNat * 4)).off+2,none⟩=some (.int .u8 (rd_T77 xs i).f2)∧w.cell? ⟨(ad.add (i.toNat * 4)).block,(ad.add (i.toNat * 4)).off+3,none⟩=some (.int .u8 (rd_T77 xs i).f3):=by
 obtain⟨ad,c,e,_,hK,hc0⟩:=Kd.C_get h z77 i h0 h1;have hc: ∀ j u,c[j]? =some u→w.cell? (ad.add (i.toNat * 4+j))=some u:=hc0;obtain rfl:=k77_open hK;exact⟨ad,e,hc 0 _ rfl,by rw[← add_field _ _ 1 (by omega)];exact hc 1 _ rfl,by rw[← add_field _ _ 2 (by omega)];exact hc 2 _ rfl,by rw[← add_field _ _ 3 (by omega)];exact hc 3 _ rfl⟩
end P
namespace P
open Go 
theorem bl {n:Nat} {w w':World} (h:Below n w w':=by repeat(first|(with_reducible first|exact HB.out|apply below_alloc|apply pw_below_drewN|apply Yd|refine below_set ?_ (Aside0.out (by assumption)))|exact HB.out)):Below n w w':=h
theorem sz {w w':World} {g:Nat} (hg:g=w'.heap.size) (h:Below w.heap.size w w':=by repeat(first|(with_reducible first|exact HB.out|apply below_alloc|apply pw_below_drewN|apply Yd|refine below_set ?_ (Aside0.out (by assumption)))|exact HB.out)):w.heap.size≤g:=by rw[hg];exact Ye h
theorem od {p:Prop} [Decidable p] (h:decide p=true:=by first|(with_reducible assumption)|assumption):p:=of_decide_eq_true h
theorem bk {w w':World} {g:Nat} {o:Obj} (B:Aside0 (w.heap[g]? =some o)) (h:w.heap[g]? =some o→w'.heap[g]? =some o:=by intro h_;(with_reducible repeat(first|refine Yh ?_ _|refine Yi ?_|refine Yf ?_ _));exact h_):w'.heap[g]? =some o:=h B.out
theorem kR {α:Type} {d:Kd α} {e b:Nat} {ok:Nat→Prop} {v:Value} {xs:List α} {w w':World} (B:Aside0 (Kd.R d e w b ok v xs)) (h:Kd.R d e w b ok v xs→Kd.R d e w' b ok v xs:=by intro h_;(with_reducible repeat(first|apply Kd.R_alloc|apply Kd.R_drewN|apply Yl));exact h_):Kd.R d e w' b ok v xs:=h B.out
theorem bc {w:World} {g:Nat} {t:TypeId} {cs:Array Value} {v:Value} (B:Aside0 (w.heap[g]? =some (.cells cs t (0,0)))) (i:Nat) (h:cs[i]? =some v:=by rfl):w.cell? ⟨g,i,none⟩=some v:=(Yb B.out i).trans h
theorem hc {w w':World} {p:Addr} {v:Value} (B:Aside0 (Below w.heap.size w w')) (h:w.cell? p=some v):w'.cell? p=some v:=(B.out.cell (World.block_lt_of_cell? w _ h)).trans h
theorem kC {α:Type} {d:Kd α} {A:Option Addr} {n:Nat} {xs:List α} {w w':World} (B:Kd.C d w A n xs) (h:Kd.C d w A n xs→Kd.C d w' A n xs:=by intro h_;(with_reducible repeat(first|exact h_|refine Kd.C_alloc ?_ _|refine Kd.C_drewN ?_ _|refine Kd.C_drew ?_))):Kd.C d w' A n xs:=h B
section
variable {P:Program} {ops:Array Oper} {o:Oper} {rest:List Oper} {a:Act} {Q:Exit→Act→World→Prop} {K:Act→World→Prop}
theorem bx {W:World} (N:Tmp) (t:TypeId) (cs:Array Value) (h: ∀ g,g=W.heap.size→ ∀ w1,w1.heap[g]? =some (.cells cs t (0,0))→Below W.heap.size W w1→wpList P ops Q rest (a.put o.dst (.pointer (some ⟨g,0,none⟩))) w1) (hd:o.dst=some N:=by with_reducible rfl) (hg:o.guard=none:=by rfl)
  (hr:(execOp a.eval o).run P W= .ok (.value (.pointer (some ⟨W.heap.size,0,none⟩))) (W.alloc (.cells cs t (0,0))):=by first|(go_simp;done)|(go_simp;rfl)):wpList P ops Q (o::rest) a W:=box_event hg hd hr h
theorem gl {w : World} (N : Option Tmp) {f : FuncId} {fn : Func} {ars : Array Operand} {ts : Array TypeId} (hf : P.funcs[f]? = some fn) (args : Array Value) (h : Calls P f args w fun e w' => ∃ v, e = .returned v ∧ wpList P ops Q rest (a.put N v) w') (hd : o.dst = N := by rfl) (hg : o.guard = none := by rfl) (hname : (fn.name == "runtime.NumGoroutine") = false := by kernel_rfl) (hb : fn.body.isSome = true := by rfl)
  (hop:o.op= .call { callee:= .value (.func f),args:=ars,argTypes:=ts } :=by rfl) (hargs:ars.map a.eval=args:=by(try simp only[List.map_toArray,List.map_cons,List.map_nil]);first|done|rfl|(simp only[List.length_drop,List.length_take];rfl)):wpList P ops Q (o::rest) a w:=goesL_ N hd hg hf hname hb args hop hargs h
theorem gs {w : World} {N : Option Tmp} {f : FuncId} {fn : Func} {ars : Array Operand} {ts : Array TypeId} (hf : P.funcs[f]? = some fn) (args : Array Value) (h : Calls P f args w fun e w' => ∃ v, e = .returned v ∧ K (a.put N v) w') (hname : (fn.name == "runtime.NumGoroutine") = false := by kernel_rfl) (hb : fn.body.isSome = true := by rfl) (hw : Region.wanted o (yielded ops a.tmps) = true := by rfl) (hN : o.dst = N := by rfl)
  (hop:o.op= .call { callee:= .value (.func f),args:=ars,argTypes:=ts } :=by rfl) (hargs:ars.map a.eval=args:=by(try simp only[List.map_toArray,List.map_cons,List.map_nil]);first|done|rfl|(simp only[List.length_drop,List.length_take];rfl)):if Region.wanted o (yielded ops a.tmps)=true then Oper.wp P o a w K Q else K (a.put N undef) w:=goes_ hf hname hb args hw hN hop hargs h
end
def bm (n k:Nat):Array Bool:=((List.range n).map fun i=>k.testBit i).toArray
section
variable {P:Program} {md:Region.Mode} {ops:Array Oper} {Q:Exit→Act→World→Prop} {S:World→Prop} {ds:List Nat} {oi:Oper} {v:Value} {fuel:Nat} {l:Array Bool} {a a':Act} {w:World}
theorem pu (i N:Nat) (l':Array Bool) (h:wpAnyLast P md ops Q S ds fuel l' a' w) (hi:ops[i]? =some oi:=by rfl) (hN:oi.dst=some N:=by rfl) (hc:anyB md ops l l' i=true:=by exact any_of HT_.out (by kernel_rfl)) (hQ: ∀ c a w,Q (.panic c) (a.put oi.dst v) w→Q (.panic c) a w:=by exact fun _ _ _ h=>h) (hy:Yields P ops oi v a:=by refine Or.inl ⟨by rfl,?_⟩;intro w';go_simp;with_reducible rfl) (ha:a.put (some N) v=a':=by simp only[Act.put,List.setIfInBounds_toArray,List.set_cons_zero,List.set_cons_succ,i64_w,i32_w];rfl):wpAnyLast P md ops Q S ds (fuel+1) l a w:=pure_ l' hi hN hc hQ hy ha h
theorem ta (i N:Nat) (l':Array Bool) (hS:S w) (h:wpAnyLast P md ops Q S ds fuel l' a' w) (hi:ops[i]? =some oi:=by rfl) (hN:oi.dst=some N:=by rfl) (hc:takeB md ops ds l l' i=true:=by exact take_ofW HT_.out HW_.out (by kernel_rfl)) (hQ: ∀ c a w,Q (.panic c) (a.put oi.dst v) w→Q (.panic c) a w:=by exact fun _ _ _ h=>h) (hy:YieldsIf P ops S oi v a:=by refine Or.inl ⟨by rfl,?_⟩;intro w' hs_;(try dsimp only at hs_);go_split_ands;go_simp;with_reducible rfl) (ha:a.put (some N) v=a':=by simp only[Act.put,List.setIfInBounds_toArray,List.set_cons_zero,List.set_cons_succ,i64_w,i32_w];rfl):wpAnyLast P md ops Q S ds (fuel+1) l a w:=take_ l' hi hN hc hQ hy hS ha h
theorem on (i:Nat) (N:Option Tmp) (l':Array Bool) (h: ∀ K:Act→World→Prop,Shut (∀ a' w',S w'→(S w'→wpAnyLast P md ops Q S ds fuel l' a' w')→K a' w')→if Region.wanted oi (yielded ops a.tmps)=true then Oper.wp P oi a w K Q else K (a.put N undef) w)
  (hi:ops[i]? =some oi:=by rfl) (hN:oi.dst=N:=by rfl) (hc:readyB md ops l l' i=true:=by exact one_of HT_.out (by kernel_rfl)) (hd:i ∉ ds:=by decide):wpAnyLast P md ops Q S ds (fuel+1) l a w:=one_ l' hi hN hc hd h
theorem nm (h:wpAnyLast P md ops Q S ds fuel l a' w) (ha:a=a':=by show Act.put _ _ _=_;simp only[Act.put,List.setIfInBounds_toArray,List.set_cons_zero,List.set_cons_succ,i64_w,i32_w];rfl):wpAnyLast P md ops Q S ds fuel l a w:=norm_ ha h
end
end P
namespace P
attribute [local go_sem] max2_int min2_int max_two min_two max_three min_three max_four min_four
def span_Horizon.f (a0:Int):Option (Int):=if a0<0 then(some 1) else(if a0>1024 then(some 2) else(some 0))
set_option maxHeartbeats 8000000 in
set_option maxRecDepth 100000 in
theorem span_Horizon.calls (a0:Int) (r:Int) (w:World) (h:span_Horizon.f a0=some r):
  Calls Try.prog 34 #[.int .i64 a0] w fun e w'=>e= .returned (.int .i64 r)∧Drawn0 w w':=by
 have H:(if a0<0 then(some 1) else(if a0>1024 then(some 2) else(some 0)))=some r:=h;clear h;by_cases c2:a0<0
 ·rw[Yq c2] at H
  have c2b0:decide (a0<0)=true:=Yo c2;clear c2;obtain rfl:=Option.some.inj H;go_enter Try.func34,Try.ntmps34;go_wp2;go_ret;exact⟨by first|rfl|(simp;done)|(simp[*];done),by repeat(first|exact Drawn0.refl _|apply Drawn0.step)⟩
 rw[Yr c2] at H;have c2b0:decide (a0<0)=false:=Yp c2;clear c2;by_cases c3:a0>1024
 rotate_left
 ·rw[Yr c3] at H
  have c3b0:decide (1024<a0)=false:=Yp c3;clear c3;obtain rfl:=Option.some.inj H;go_enter Try.func34,Try.ntmps34;go_wp2;go_ret;exact⟨by first|rfl|(simp;done)|(simp[*];done),by repeat(first|exact Drawn0.refl _|apply Drawn0.step)⟩
 rw[Yq c3] at H;have c3b0:decide (1024<a0)=true:=Yo c3;clear c3;obtain rfl:=Option.some.inj H;go_enter Try.func34,Try.ntmps34;go_wp2;go_ret;exact⟨by first|rfl|(simp;done)|(simp[*];done),by repeat(first|exact Drawn0.refl _|apply Drawn0.step)⟩
end P
namespace P
attribute [local go_sem] max2_int min2_int max_two min_two max_three min_three max_four min_four
def netfmt_nodes.f (a0:Int):Option (Int):=if a0<1 then(some 51) else(if a0>50 then(some 2) else(some 0))
set_option maxHeartbeats 8000000 in
set_option maxRecDepth 100000 in
theorem netfmt_nodes.calls (a0:Int) (r:Int) (w:World) (h:netfmt_nodes.f a0=some r):
  Calls Try.prog 44 #[.int .i64 a0] w fun e w'=>e= .returned (.int .i64 r)∧Drawn0 w w':=by
 have H:(if a0<1 then(some 51) else(if a0>50 then(some 2) else(some 0)))=some r:=h;clear h;by_cases c2:a0<1
 ·rw[Yq c2] at H
  have c2b0:decide (a0<1)=true:=Yo c2;clear c2;obtain rfl:=Option.some.inj H;go_enter Try.func44,Try.ntmps44;go_wp2;go_ret;exact⟨by first|rfl|(simp;done)|(simp[*];done),by repeat(first|exact Drawn0.refl _|apply Drawn0.step)⟩
 rw[Yr c2] at H;have c2b0:decide (a0<1)=false:=Yp c2;clear c2;by_cases c3:a0>50
 rotate_left
 ·rw[Yr c3] at H
  have c3b0:decide (50<a0)=false:=Yp c3;clear c3;obtain rfl:=Option.some.inj H;go_enter Try.func44,Try.ntmps44;go_wp2;go_ret;exact⟨by first|rfl|(simp;done)|(simp[*];done),by repeat(first|exact Drawn0.refl _|apply Drawn0.step)⟩
 rw[Yq c3] at H;have c3b0:decide (50<a0)=true:=Yo c3;clear c3;obtain rfl:=Option.some.inj H;go_enter Try.func44,Try.ntmps44;go_wp2;go_ret;exact⟨by first|rfl|(simp;done)|(simp[*];done),by repeat(first|exact Drawn0.refl _|apply Drawn0.step)⟩
end P
namespace P
attribute [local go_sem] max2_int min2_int max_two min_two max_three min_three max_four min_four
def netfmt_arc.j0:Nat→Bool→Int→Int→Int→Int→Option (Int)
 |0,_,_,_,_,_=>none
 |k+1,x5,x102000,x102001,x102002,x102003=>if x5=true then(some 51) else(if x102002>1048576 then(some 2) else(if x102003>1048576 then(some 2) else(some 0)))
def netfmt_arc.f (k:Nat) (a0:Int) (Wn:Int) (Wo:Int) (Wr:Int) (Wp:Int):Option (Int):=if (mn (mn (mn Wn Wo) Wr) Wp)<0 then(netfmt_arc.j0 k true Wn Wo Wr Wp) else(netfmt_arc.j0 k (decide ((mx Wn Wo)≥a0)) Wn Wo Wr Wp)
theorem netfmt_arc.mono_l: ∀ k,(∀ y0 y1 y2 y3 y4,LeO (netfmt_arc.j0 k y0 y1 y2 y3 y4) (netfmt_arc.j0 (k+1) y0 y1 y2 y3 y4))
 |0=>fun _ _ _ _ _ r h=>by simp[netfmt_arc.j0] at h
 |k+1=>by
  have ih0:=netfmt_arc.mono_l k
  ·intro y0 y1 y2 y3 y4
   unfold netfmt_arc.j0;repeat' first
   |(with_reducible exact ih0 _ _ _ _ _)
   |(with_reducible exact LeO.refl _)
   |(with_reducible exact LeO.none _)
   |(with_reducible refine LeO.ite ?_ ?_)
   |(with_reducible refine LeO.bind ?_ (fun _=> ?_))
   |refine LeO.ite ?_ ?_
   |refine LeO.bind ?_ (fun _=> ?_)
theorem netfmt_arc.mono: ∀ a0 a1 a2 a3 a4 k,LeO (netfmt_arc.f k a0 a1 a2 a3 a4) (netfmt_arc.f (k+1) a0 a1 a2 a3 a4):=by
 intro a0 a1 a2 a3 a4 k;have ih0:=netfmt_arc.mono_l k;unfold netfmt_arc.f;repeat' first
   |(with_reducible exact ih0 _ _ _ _ _)
   |(with_reducible exact LeO.refl _)
   |(with_reducible exact LeO.none _)
   |(with_reducible refine LeO.ite ?_ ?_)
   |(with_reducible refine LeO.bind ?_ (fun _=> ?_))
   |refine LeO.ite ?_ ?_
   |refine LeO.bind ?_ (fun _=> ?_)
set_option maxHeartbeats 8000000 in
set_option maxRecDepth 100000 in
theorem netfmt_arc.calls (k:Nat) (a0:Int) (Wn:Int) (Wo:Int) (Wr:Int) (Wp:Int) (r:Int) (w:World) (h:netfmt_arc.f k a0 Wn Wo Wr Wp=some r):
  Calls Try.prog 45 #[.int .i64 a0, .agg #[.int .i64 Wn, .int .i64 Wo, .int .i64 Wr, .int .i64 Wp]] w fun e w'=>e= .returned (.int .i64 r)∧Below w.heap.size w w':=by
 have hu73:=Try.underlying73;have HB:=Ya (Yk w.heap.size w);have H:=h;unfold netfmt_arc.f at H;clear h;have HC3:=Ya H;clear H;go_enter Try.func45,Try.ntmps45;go_upto_region 1 with (first|((with_reducible refine gate_dst (N:=3) rfl ?_);(try (refine gate_guard (by rfl) ?_;dsimp only));refine box_event ?hg (N:=3) ?hd (cs:= #[.int .i64 Wn, .int .i64 Wo, .int .i64 Wr, .int .i64 Wp]) (t:=73) ?hr ?_;(case hd=>rfl);(case hg=>rfl);(case hr=>first|(go_simp;done)|(go_simp;rfl));intro We hg w4 Zv hb;have n0_:=Ya (Yg (by repeat(first|(with_reducible first|exact HB.out|apply below_alloc|apply pw_below_drewN|apply Yd)|exact HB.out)) hb);have n1_:=Ya (Zv);have n2_:=Ya ((by rw[hg];exact(Ye (by repeat(first|(with_reducible first|exact HB.out|apply below_alloc|apply pw_below_drewN|apply Yd)|exact HB.out))):w.heap.size≤We));have n3_:=Ya ((by rw[hg];exact(Ye (by repeat(first|(with_reducible first|exact HB.out|apply below_alloc|apply pw_below_drewN|apply Yd)|exact HB.out))):w.heap.size≤We));clear HB;have HB:=n0_;have Xb:=n1_;have GW101:=n2_;have GE101:=n3_;clear n0_ n1_ n2_ n3_;clear hb Zv hg))
 (try simp only[Act.put,List.setIfInBounds_toArray,List.set_cons_zero,List.set_cons_succ])
 go_cut [5] (fun v5 wc=> ∃ (kq:Nat) (Je:Bool),v5= .bool Je∧Aside0 (netfmt_arc.j0 kq Je Wn Wo Wr Wp=some r)∧Aside0 (kq≤k)∧Aside0 (wc.heap[We]? =some (.cells #[.int .i64 Wn, .int .i64 Wo, .int .i64 Wr, .int .i64 Wp] 73 (0,0)))∧Aside0 (Below w.heap.size w wc))
 case first=>
  have H:=HC3.out;clear HC3;obtain⟨ji5,hji5⟩: ∃ j_:Int,(mn Wn Wo)=j_:=⟨_,rfl⟩;replace H:(if (mn (mn (ji5) Wr) Wp)<0 then(netfmt_arc.j0 k true Wn Wo Wr Wp) else(netfmt_arc.j0 k (decide ((mx Wn Wo)≥a0)) Wn Wo Wr Wp))=some r:=by first|(rw[hji5] at H;exact H)|(simp only[hji5] at H ⊢;exact H)
  have hji5_:(if Wo<Wn then Wo else Wn)=ji5:=hji5;obtain⟨ji6,hji6⟩: ∃ j_:Int,(mn (ji5) Wr)=j_:=⟨_,rfl⟩;replace H:(if (mn (ji6) Wp)<0 then(netfmt_arc.j0 k true Wn Wo Wr Wp) else(netfmt_arc.j0 k (decide ((mx Wn Wo)≥a0)) Wn Wo Wr Wp))=some r:=by first|(rw[hji6] at H;exact H)|(simp only[hji6] at H ⊢;exact H)
  have hji6_:(if Wr<(ji5) then Wr else(ji5))=ji6:=hji6;obtain⟨ji7,hji7⟩: ∃ j_:Int,(mn (ji6) Wp)=j_:=⟨_,rfl⟩;replace H:(if (ji7)<0 then(netfmt_arc.j0 k true Wn Wo Wr Wp) else(netfmt_arc.j0 k (decide ((mx Wn Wo)≥a0)) Wn Wo Wr Wp))=some r:=by first|(rw[hji7] at H;exact H)|(simp only[hji7] at H ⊢;exact H)
  have hji7_:(if Wp<(ji6) then Wp else(ji6))=ji7:=hji7;by_cases c8:(ji7)<0
  ·rw[Yq c8] at H
   have c8b0:decide ((ji7)<0)=true:=Yo c8;clear c8
   (first|rw[c8b0]|(simp only[i64_w,i32_w];rw[c8b0])|skip)
   have H':=Ya H;clear H;have hcz9_0:w4.cell? ⟨We,0,none⟩=some (.int .i64 Wn):=bc Xb 0;have hcz9_1:w4.cell? ⟨We,1,none⟩=some (.int .i64 Wo):=bc Xb 1;have hcz9_2:w4.cell? ⟨We,2,none⟩=some (.int .i64 Wr):=bc Xb 2;have hcz9_3:w4.cell? ⟨We,3,none⟩=some (.int .i64 Wp):=bc Xb 3;have hfz9_0:=Yc Xb.out 0;have hfz9_1:=Yc Xb.out 1;have hfz9_2:=Yc Xb.out 2;have hfz9_3:=Yc Xb.out 3;go_wp2;go_meet
   case rel=>exact⟨_,(true),(by first|rfl|(simp;done)|(simp[*];done)),H',⟨by first|omega|exact Nat.le_refl _⟩,⟨Xb.out⟩,⟨HB.out⟩⟩
  rw[Yr c8] at H;have c8b0:decide ((ji7)<0)=false:=Yp c8;clear c8
  (first|rw[c8b0]|(simp only[i64_w,i32_w];rw[c8b0])|skip)
  obtain⟨ji10,hji10⟩: ∃ j_:Int,(mx Wn Wo)=j_:=⟨_,rfl⟩;replace H:(netfmt_arc.j0 k (decide ((ji10)≥a0)) Wn Wo Wr Wp)=some r:=by first|(rw[hji10] at H;exact H)|(simp only[hji10] at H ⊢;exact H)
  have hji10_:(if Wn<Wo then Wo else Wn)=ji10:=hji10;have H':=Ya H;clear H;have hcz11_0:w4.cell? ⟨We,0,none⟩=some (.int .i64 Wn):=bc Xb 0;have hcz11_1:w4.cell? ⟨We,1,none⟩=some (.int .i64 Wo):=bc Xb 1;have hcz11_2:w4.cell? ⟨We,2,none⟩=some (.int .i64 Wr):=bc Xb 2;have hcz11_3:w4.cell? ⟨We,3,none⟩=some (.int .i64 Wp):=bc Xb 3;have hfz11_0:=Yc Xb.out 0;have hfz11_1:=Yc Xb.out 1;have hfz11_2:=Yc Xb.out 2;have hfz11_3:=Yc Xb.out 3;go_wp2;go_meet
  case rel=>exact⟨_,(decide ((ji10)≥a0)),(by first|rfl|(simp;done)|(simp only[← hji10]<;>(first|rfl|simp))|(simp[*];done)),H',⟨by first|omega|exact Nat.le_refl _⟩,⟨Xb.out⟩,⟨HB.out⟩⟩
 case rest=>
  clear HC3;try clear c8
  try clear c8b0
  try clear hcz11_0
  try clear hcz11_1
  try clear hcz11_2
  try clear hcz11_3
  try clear hcz9_0
  try clear hcz9_1
  try clear hcz9_2
  try clear hcz9_3
  try clear hfz11_0
  try clear hfz11_1
  try clear hfz11_2
  try clear hfz11_3
  try clear hfz9_0
  try clear hfz9_1
  try clear hfz9_2
  try clear hfz9_3
  obtain⟨kq,Je,rfl,HA,HJ2,Xb,HB⟩:=hcut;cases kq with
  |zero=>exact absurd HA.out (by simp[netfmt_arc.j0])
  |succ kj2=>
   have H:=HA.out;clear HA;simp only[netfmt_arc.j0] at H;by_cases c12:Je=true
   ·subst c12
    first|rw[Yq rfl] at H|rw[Yq trivial] at H
    obtain rfl:=Option.some.inj H;go_wp2;go_ret;exact⟨by first|rfl|(simp[errW_none,errW_some]<;>rfl)|(simp[*,errW_none,errW_some]<;>rfl),HB.out⟩
   replace c12:=Bool.eq_false_iff.mpr c12;subst c12;rw[Yr (show ¬ (false=true) by decide)] at H;by_cases c13:Wr>1048576
   ·rw[Yq c13] at H
    have c13b0:decide (1048576<Wr)=true:=Yo c13;clear c13;obtain rfl:=Option.some.inj H;have hcz14_0:wc.cell? ⟨We,0,none⟩=some (.int .i64 Wn):=bc Xb 0;have hcz14_1:wc.cell? ⟨We,1,none⟩=some (.int .i64 Wo):=bc Xb 1;have hcz14_2:wc.cell? ⟨We,2,none⟩=some (.int .i64 Wr):=bc Xb 2;have hcz14_3:wc.cell? ⟨We,3,none⟩=some (.int .i64 Wp):=bc Xb 3;have hfz14_0:=Yc Xb.out 0;have hfz14_1:=Yc Xb.out 1;have hfz14_2:=Yc Xb.out 2;have hfz14_3:=Yc Xb.out 3;go_wp2;go_ret;exact⟨by first|rfl|(simp[errW_none,errW_some]<;>rfl)|(simp[*,errW_none,errW_some]<;>rfl),HB.out⟩
   rw[Yr c13] at H;have c13b0:decide (1048576<Wr)=false:=Yp c13;clear c13;by_cases c15:Wp>1048576
   rotate_left
   ·rw[Yr c15] at H
    have c15b0:decide (1048576<Wp)=false:=Yp c15;clear c15;obtain rfl:=Option.some.inj H;have hcz17_0:wc.cell? ⟨We,0,none⟩=some (.int .i64 Wn):=bc Xb 0;have hcz17_1:wc.cell? ⟨We,1,none⟩=some (.int .i64 Wo):=bc Xb 1;have hcz17_2:wc.cell? ⟨We,2,none⟩=some (.int .i64 Wr):=bc Xb 2;have hcz17_3:wc.cell? ⟨We,3,none⟩=some (.int .i64 Wp):=bc Xb 3;have hfz17_0:=Yc Xb.out 0;have hfz17_1:=Yc Xb.out 1;have hfz17_2:=Yc Xb.out 2;have hfz17_3:=Yc Xb.out 3;go_wp2;go_ret;exact⟨by first|rfl|(simp[errW_none,errW_some]<;>rfl)|(simp[*,errW_none,errW_some]<;>rfl),HB.out⟩
   rw[Yq c15] at H;have c15b0:decide (1048576<Wp)=true:=Yo c15;clear c15;obtain rfl:=Option.some.inj H;have hcz16_0:wc.cell? ⟨We,0,none⟩=some (.int .i64 Wn):=bc Xb 0;have hcz16_1:wc.cell? ⟨We,1,none⟩=some (.int .i64 Wo):=bc Xb 1;have hcz16_2:wc.cell? ⟨We,2,none⟩=some (.int .i64 Wr):=bc Xb 2;have hcz16_3:wc.cell? ⟨We,3,none⟩=some (.int .i64 Wp):=bc Xb 3;have hfz16_0:=Yc Xb.out 0;have hfz16_1:=Yc Xb.out 1;have hfz16_2:=Yc Xb.out 2;have hfz16_3:=Yc Xb.out 3;go_wp2;go_ret;exact⟨by first|rfl|(simp[errW_none,errW_some]<;>rfl)|(simp[*,errW_none,errW_some]<;>rfl),HB.out⟩
end P
namespace P
attribute [local go_sem] max2_int min2_int max_two min_two max_three min_three max_four min_four
def netfmt_Check.l0:Nat→List (S73)→Int→Int→Int→Bool→List (S73)→Option (Int)
 |0,_,_,_,_,_,_=>none
 |k+1,x18,x19,x20,x103000,x103001,x103002=>if x20<x19 then(if 0≤x20 then(if x20<(x18.length:Int) then((netfmt_arc.f k x103000 ((rd_T73 x18 x20).f0) ((rd_T73 x18 x20).f1) ((rd_T73 x18 x20).f2) ((rd_T73 x18 x20).f3)).bind fun t106=>(if t106=0 then(netfmt_Check.l0 k x18 x19 (wrap64 (x20+1)) x103000 x103001 x103002) else(some t106))) else(none)) else(none)) else(some 0)
def netfmt_Check.f (k:Nat) (Zb:Int) (Zg:Bool) (Za:List (S73)):Option (Int):=(netfmt_nodes.f Zb).bind fun t103=>(if t103=0 then(if (Za.length:Int)>200 then(some 2) else(netfmt_Check.l0 k Za (Za.length:Int) 0 Zb Zg Za)) else(some t103))
theorem netfmt_Check.mono_l: ∀ k,(∀ y0 y1 y2 y3 y4 y5,LeO (netfmt_Check.l0 k y0 y1 y2 y3 y4 y5) (netfmt_Check.l0 (k+1) y0 y1 y2 y3 y4 y5))
 |0=>fun _ _ _ _ _ _ r h=>by simp[netfmt_Check.l0] at h
 |k+1=>by
  have ih0:=netfmt_Check.mono_l k
  ·intro y0 y1 y2 y3 y4 y5
   unfold netfmt_Check.l0;repeat' first
   |(with_reducible exact ih0 _ _ _ _ _ _)
   |(with_reducible exact netfmt_arc.mono _ _ _ _ _ _)
   |(with_reducible exact LeO.refl _)
   |(with_reducible exact LeO.none _)
   |(with_reducible refine LeO.ite ?_ ?_)
   |(with_reducible refine LeO.bind ?_ (fun _=> ?_))
   |refine LeO.ite ?_ ?_
   |refine LeO.bind ?_ (fun _=> ?_)
theorem netfmt_Check.mono: ∀ a0 a1 a2 k,LeO (netfmt_Check.f k a0 a1 a2) (netfmt_Check.f (k+1) a0 a1 a2):=by
 intro a0 a1 a2 k;have ih0:=netfmt_Check.mono_l k;unfold netfmt_Check.f;repeat' first
   |(with_reducible exact ih0 _ _ _ _ _ _)
   |(with_reducible exact netfmt_arc.mono _ _ _ _ _ _)
   |(with_reducible exact LeO.refl _)
   |(with_reducible exact LeO.none _)
   |(with_reducible refine LeO.ite ?_ ?_)
   |(with_reducible refine LeO.bind ?_ (fun _=> ?_))
   |refine LeO.ite ?_ ?_
   |refine LeO.bind ?_ (fun _=> ?_)
set_option maxHeartbeats 8000000 in
set_option maxRecDepth 100000 in
theorem netfmt_Check.calls (k:Nat) (Zb:Int) (Zg:Bool) (Zp:Option Addr) (Zn:Nat) (Za:List (S73)) (r:Int) (w:World) (Wi:Kd.C k73 w Zp Za.length Za) (Wj:Za.length≤Zn) (h:netfmt_Check.f k Zb Zg Za=some r):
  Calls Try.prog 33 #[.agg #[.int .i64 Zb, .bool Zg, .slice Zp Za.length Zn]] w fun e w'=>e= .returned (.int .i64 r)∧Below w.heap.size w w':=by
 have hu32:=Try.underlying32;have hu73:=Try.underlying73;have Wl:=Ya Wi;have Ws:=Ya Wj;clear Wi Wj;have HB:=Ya (Yk w.heap.size w);have H:=h;unfold netfmt_Check.f at H;clear h;replace H:=Option.bind_eq_some_iff.mp H;obtain⟨t103,A20,H⟩:=H;try dsimp only at H
 have A2:=Ya A20;clear A20;by_cases c3:t103=0
 rotate_left
 ·rw[Yr c3] at H
  have c3b0:(t103 == 0)=false:=beq_eq_false_iff_ne.mpr c3;have c3b1:(t103 != 0)=true:=bne_iff_ne.mpr c3;obtain rfl:=Option.some.inj H;go_enter Try.func33,Try.ntmps33;go_wp2_with (first|(refine bx 1 32 #[.int .i64 Zb, .bool Zg, .slice Zp Za.length Zn] ?_;intro Wc hg w24 Zv hb;have Zy:=Ya (Zv);have GW102:=Ya ((sz hg));have GE102:=Ya ((sz hg));replace HB:=Ya (Yg bl hb);clear hb Zv hg;have Uu:w24.cell? ⟨Wc,0,none⟩=some (.int .i64 Zb):=bc Zy 0;have Uv:w24.cell? ⟨Wc,1,none⟩=some (.bool Zg):=bc Zy 1;have Uw:w24.cell? ⟨Wc,2,none⟩=some (.slice Zp Za.length Zn):=bc Zy 2;have Ux:=Yc Zy.out 0;have Uy:=Yc Zy.out 1;have Uz:=Yc Zy.out 2)|((with_reducible refine gate_callee (f:=44) rfl ?_);refine gl (some 9) Try.func44 #[.int .i64 Zb] ?_;(with_reducible refine(netfmt_nodes.calls Zb t103 _ A2.out).mono ?_);rintro e w' ⟨rfl,⟨nd,rfl⟩⟩;refine⟨_,rfl,?_⟩));go_ret;exact⟨by first|rfl|(simp[errW_none,errW_some]<;>rfl)|(simp[*,errW_none,errW_some]<;>rfl),bl⟩
 rw[Yq c3] at H;have c3b0:(t103 == 0)=true:=beq_iff_eq.mpr c3;have c3b1:(t103 != 0)=false:=bne_eq_false_iff_eq.mpr c3;clear c3;by_cases c4:(Za.length:Int)>200
 ·rw[Yq c4] at H
  have c4b0:decide (200<(Za.length:Int))=true:=Yo c4;have c4b1:decide (200<Za.length)=true:=Yo (by omega);clear c4;obtain rfl:=Option.some.inj H;go_enter Try.func33,Try.ntmps33;go_wp2_with (first|(refine bx 1 32 #[.int .i64 Zb, .bool Zg, .slice Zp Za.length Zn] ?_;intro Wc hg w5 Zv hb;have Zy:=Ya (Zv);have GW102:=Ya ((sz hg));have GE102:=Ya ((sz hg));replace HB:=Ya (Yg bl hb);clear hb Zv hg;have Ji:w5.cell? ⟨Wc,0,none⟩=some (.int .i64 Zb):=bc Zy 0;have Jj:w5.cell? ⟨Wc,1,none⟩=some (.bool Zg):=bc Zy 1;have Jk:w5.cell? ⟨Wc,2,none⟩=some (.slice Zp Za.length Zn):=bc Zy 2;have Jl:=Yc Zy.out 0;have Jm:=Yc Zy.out 1;have Jn:=Yc Zy.out 2)|((with_reducible refine gate_callee (f:=44) rfl ?_);refine gl (some 9) Try.func44 #[.int .i64 Zb] ?_;(with_reducible refine(netfmt_nodes.calls Zb t103 _ A2.out).mono ?_);rintro e w' ⟨rfl,⟨nd,rfl⟩⟩;refine⟨_,rfl,?_⟩));go_ret;exact⟨by first|rfl|(simp[errW_none,errW_some]<;>rfl)|(simp[*,errW_none,errW_some]<;>rfl),bl⟩
 rw[Yr c4] at H;have c4b0:decide (200<(Za.length:Int))=false:=Yp c4;have c4b1:decide (200<Za.length)=false:=Yp (by omega);clear c4;have H':=Ya H;clear H;go_enter Try.func33,Try.ntmps33;go_wp2_with (first|(refine bx 1 32 #[.int .i64 Zb, .bool Zg, .slice Zp Za.length Zn] ?_;intro Wc hg w7 Zv hb;have Zy:=Ya (Zv);have GW102:=Ya ((sz hg));have GE102:=Ya ((sz hg));replace HB:=Ya (Yg bl hb);clear hb Zv hg;have hcz8_0:w7.cell? ⟨Wc,0,none⟩=some (.int .i64 Zb):=bc Zy 0;have hcz8_1:w7.cell? ⟨Wc,1,none⟩=some (.bool Zg):=bc Zy 1;have hcz8_2:w7.cell? ⟨Wc,2,none⟩=some (.slice Zp Za.length Zn):=bc Zy 2;have hfz8_0:=Yc Zy.out 0;have hfz8_1:=Yc Zy.out 1;have hfz8_2:=Yc Zy.out 2)|((with_reducible refine gate_callee (f:=44) rfl ?_);refine gl (some 9) Try.func44 #[.int .i64 Zb] ?_;(with_reducible refine(netfmt_nodes.calls Zb t103 _ A2.out).mono ?_);rintro e w' ⟨rfl,⟨nd,rfl⟩⟩;refine⟨_,rfl,?_⟩));go_loopg [20] k (fun kq v20 w'=> ∃ (Zt:Int),v20= .int .i64 Zt∧Aside0 (netfmt_Check.l0 kq Za (Za.length:Int) Zt Zb Zg Za=some r)∧Aside0 (kq≤k)∧Aside0 (w'.heap[Wc]? =some (.cells #[.int .i64 Zb, .bool Zg,(.slice Zp Za.length Zn)] 32 (0,0)))∧Aside0 (Below w.heap.size w w'))
 case atStart=>exact⟨(0),(by first|rfl|(simp;done)|(simp[*];done)),H',⟨Nat.le_refl _⟩,⟨bk Zy⟩,⟨bl⟩⟩
 case round=>
  clear H';try clear c3
  try clear c3b0
  try clear c3b1
  try clear c4
  try clear c4b0
  try clear c4b1
  try clear Ji
  try clear Jj
  try clear Jk
  try clear hcz8_0
  try clear hcz8_1
  try clear hcz8_2
  try clear Jl
  try clear Jm
  try clear Jn
  try clear hfz8_0
  try clear hfz8_1
  try clear hfz8_2
  obtain⟨Zt,rfl,HA,HK1,Zy,HB⟩:=hrel;cases gk with
  |zero=>exact absurd HA.out (by simp[netfmt_Check.l0])
  |succ k1=>
   have H:=HA.out;clear HA;simp only[netfmt_Check.l0] at H;by_cases c9:Zt<(Za.length:Int)
   rotate_left
   ·rw[Yr c9] at H
    have c9b0:decide (Zt<(Za.length:Int))=false:=Yp c9;clear c9;obtain rfl:=Option.some.inj H;go_wp2;go_ret;exact⟨by first|rfl|(simp[errW_none,errW_some]<;>rfl)|(simp[*,errW_none,errW_some]<;>rfl),HB.out⟩
   rw[Yq c9] at H;have c9b0:decide (Zt<(Za.length:Int))=true:=Yo c9;clear c9;by_cases c10:0≤Zt
   rotate_left
   ·rw[Yr c10] at H
    exact absurd H (by simp)
   rw[Yq c10] at H;have c10b0:decide (0≤Zt)=true:=Yo c10;clear c10;by_cases c11:Zt<(Za.length:Int)
   rotate_left
   ·rw[Yr c11] at H
    exact absurd H (by simp)
   rw[Yq c11] at H;have c11b0:decide (Zt<(Za.length:Int))=true:=Yo c11;clear c11;replace H:=Option.bind_eq_some_iff.mp H;obtain⟨t106,A120,H⟩:=H;try dsimp only at H
   have A12:=Ya A120;clear A120;by_cases c13:t106=0
   rotate_left
   ·rw[Yr c13] at H
    have c13b0:(t106 == 0)=false:=beq_eq_false_iff_ne.mpr c13;have c13b1:(t106 != 0)=true:=bne_iff_ne.mpr c13;obtain rfl:=Option.some.inj H;have p104:0≤(Zt:Int):=od;have q104:Zt<(Za.length:Int):=od;obtain⟨ad104,e104,Uf,Ug,Uh,Ui⟩:=at_T73 Wl.out Zt p104 q104;cases e104;replace Uf:=hc HB Uf;replace Ug:=hc HB Ug;replace Uh:=hc HB Uh;replace Ui:=hc HB Ui;replace p104:=eq_true p104;replace q104:=eq_true q104;go_wp2_with (first|(refine bx 5 73 #[.int .i64 0, .int .i64 0, .int .i64 0, .int .i64 0] ?_;intro Ve hg w19 Zv hb;have Wm:=Ya (Zv);have GW105:=Ya ((sz hg));have GE105:=Ya ((sz hg));replace HB:=Ya (Yg bl hb);have Xr:=Ya (by rw[hg];exact Nat.ne_of_lt (blk_lt (bk Zy)):Wc≠Ve);have Us:=Ya (by rw[hg];exact Nat.ne_of_gt (blk_lt (bk Zy)):Ve≠Wc);replace Zy:=Ya (Yj (bk Zy) hb);clear hb Zv hg;have hnb20:=Us.out;have hnc20:=Xr.out;have hcz21_0:w19.cell? ⟨Ve,0,none⟩=some (.int .i64 0):=bc Wm 0;have hcz21_1:w19.cell? ⟨Ve,1,none⟩=some (.int .i64 0):=bc Wm 1;have hcz21_2:w19.cell? ⟨Ve,2,none⟩=some (.int .i64 0):=bc Wm 2;have hcz21_3:w19.cell? ⟨Ve,3,none⟩=some (.int .i64 0):=bc Wm 3;have hfz21_0:=Yc Wm.out 0;have hfz21_1:=Yc Wm.out 1;have hfz21_2:=Yc Wm.out 2;have hfz21_3:=Yc Wm.out 3;have hcz22_0:w19.cell? ⟨Wc,0,none⟩=some (.int .i64 Zb):=bc Zy 0;have hcz22_1:w19.cell? ⟨Wc,1,none⟩=some (.bool Zg):=bc Zy 1;have hcz22_2:w19.cell? ⟨Wc,2,none⟩=some (.slice (some ad104) Za.length Zn):=bc Zy 2;have hfz22_0:=Yc Zy.out 0;have hfz22_1:=Yc Zy.out 1;have hfz22_2:=Yc Zy.out 2)|((with_reducible refine gate_callee (f:=45) rfl ?_);refine gl (some 27) Try.func45 #[.int .i64 Zb, .agg #[.int .i64 ((rd_T73 Za Zt).f0), .int .i64 ((rd_T73 Za Zt).f1), .int .i64 ((rd_T73 Za Zt).f2), .int .i64 ((rd_T73 Za Zt).f3)]] ?_;(with_reducible refine(netfmt_arc.calls k1 Zb ((rd_T73 Za Zt).f0) ((rd_T73 Za Zt).f1) ((rd_T73 Za Zt).f2) ((rd_T73 Za Zt).f3) t106 _ A12.out).mono ?_);rintro e w23 ⟨rfl,hb⟩;refine⟨_,rfl,?_⟩;replace Zy:=Ya (Yj (g:=Wc) (o:= .cells #[.int .i64 Zb, .bool Zg, .slice (some ad104) Za.length Zn] 32 (0,0)) (by(with_reducible repeat(first|refine Yh ?_ _|refine Yi ?_|refine Yf ?_ _));refine blk_far ?_ Xr.out _;(with_reducible repeat(first|refine Yh ?_ _|refine Yi ?_|refine Yf ?_ _));refine blk_far ?_ Xr.out _;(with_reducible repeat(first|refine Yh ?_ _|refine Yi ?_|refine Yf ?_ _));refine blk_far ?_ Xr.out _;(with_reducible repeat(first|refine Yh ?_ _|refine Yi ?_|refine Yf ?_ _));refine blk_far ?_ Xr.out _;(with_reducible repeat(first|refine Yh ?_ _|refine Yi ?_|refine Yf ?_ _));exact Zy.out) hb);replace Wm:=Ya (Yj (g:=Ve) (o:= .cells #[.int .i64 ((rd_T73 Za Zt).f0), .int .i64 ((rd_T73 Za Zt).f1), .int .i64 ((rd_T73 Za Zt).f2), .int .i64 ((rd_T73 Za Zt).f3)] 73 (0,0)) (by(with_reducible repeat(first|refine Yh ?_ _|refine Yi ?_|refine Yf ?_ _));refine Ys (cs:= #[.int .i64 ((rd_T73 Za Zt).f0), .int .i64 ((rd_T73 Za Zt).f1), .int .i64 ((rd_T73 Za Zt).f2), .int .i64 0]) ?_ 3 _ rfl;(with_reducible repeat(first|refine Yh ?_ _|refine Yi ?_|refine Yf ?_ _));refine Ys (cs:= #[.int .i64 ((rd_T73 Za Zt).f0), .int .i64 ((rd_T73 Za Zt).f1), .int .i64 0, .int .i64 0]) ?_ 2 _ rfl;(with_reducible repeat(first|refine Yh ?_ _|refine Yi ?_|refine Yf ?_ _));refine Ys (cs:= #[.int .i64 ((rd_T73 Za Zt).f0), .int .i64 0, .int .i64 0, .int .i64 0]) ?_ 1 _ rfl;(with_reducible repeat(first|refine Yh ?_ _|refine Yi ?_|refine Yf ?_ _));refine Ys (cs:= #[.int .i64 0, .int .i64 0, .int .i64 0, .int .i64 0]) ?_ 0 _ rfl;(with_reducible repeat(first|refine Yh ?_ _|refine Yi ?_|refine Yf ?_ _));exact Wm.out) hb);replace HB:=Ya (Yg bl hb);(try clear hb)));go_ret;exact⟨by first|rfl|(simp[errW_none,errW_some]<;>rfl)|(simp[*,errW_none,errW_some]<;>rfl),HB.out⟩
   rw[Yq c13] at H;have c13b0:(t106 == 0)=true:=beq_iff_eq.mpr c13;have c13b1:(t106 != 0)=false:=bne_eq_false_iff_eq.mpr c13;clear c13;have H':=Ya H;clear H;have p104:0≤(Zt:Int):=od;have q104:Zt<(Za.length:Int):=od;obtain⟨ad104,e104,Uf,Ug,Uh,Ui⟩:=at_T73 Wl.out Zt p104 q104;cases e104;replace Uf:=hc HB Uf;replace Ug:=hc HB Ug;replace Uh:=hc HB Uh;replace Ui:=hc HB Ui;replace p104:=eq_true p104;replace q104:=eq_true q104;go_wp2_with (first|(refine bx 5 73 #[.int .i64 0, .int .i64 0, .int .i64 0, .int .i64 0] ?_;intro Ve hg w14 Zv hb;have Wm:=Ya (Zv);have GW105:=Ya ((sz hg));have GE105:=Ya ((sz hg));replace HB:=Ya (Yg bl hb);have Xr:=Ya (by rw[hg];exact Nat.ne_of_lt (blk_lt (bk Zy)):Wc≠Ve);have Us:=Ya (by rw[hg];exact Nat.ne_of_gt (blk_lt (bk Zy)):Ve≠Wc);replace Zy:=Ya (Yj (bk Zy) hb);clear hb Zv hg;have hnb15:=Us.out;have hnc15:=Xr.out;have hcz16_0:w14.cell? ⟨Ve,0,none⟩=some (.int .i64 0):=bc Wm 0;have hcz16_1:w14.cell? ⟨Ve,1,none⟩=some (.int .i64 0):=bc Wm 1;have hcz16_2:w14.cell? ⟨Ve,2,none⟩=some (.int .i64 0):=bc Wm 2;have hcz16_3:w14.cell? ⟨Ve,3,none⟩=some (.int .i64 0):=bc Wm 3;have hfz16_0:=Yc Wm.out 0;have hfz16_1:=Yc Wm.out 1;have hfz16_2:=Yc Wm.out 2;have hfz16_3:=Yc Wm.out 3;have hcz17_0:w14.cell? ⟨Wc,0,none⟩=some (.int .i64 Zb):=bc Zy 0;have hcz17_1:w14.cell? ⟨Wc,1,none⟩=some (.bool Zg):=bc Zy 1;have hcz17_2:w14.cell? ⟨Wc,2,none⟩=some (.slice (some ad104) Za.length Zn):=bc Zy 2;have hfz17_0:=Yc Zy.out 0;have hfz17_1:=Yc Zy.out 1;have hfz17_2:=Yc Zy.out 2)|((with_reducible refine gate_callee (f:=45) rfl ?_);refine gl (some 27) Try.func45 #[.int .i64 Zb, .agg #[.int .i64 ((rd_T73 Za Zt).f0), .int .i64 ((rd_T73 Za Zt).f1), .int .i64 ((rd_T73 Za Zt).f2), .int .i64 ((rd_T73 Za Zt).f3)]] ?_;(with_reducible refine(netfmt_arc.calls k1 Zb ((rd_T73 Za Zt).f0) ((rd_T73 Za Zt).f1) ((rd_T73 Za Zt).f2) ((rd_T73 Za Zt).f3) t106 _ A12.out).mono ?_);rintro e w18 ⟨rfl,hb⟩;refine⟨_,rfl,?_⟩;replace Zy:=Ya (Yj (g:=Wc) (o:= .cells #[.int .i64 Zb, .bool Zg, .slice (some ad104) Za.length Zn] 32 (0,0)) (by(with_reducible repeat(first|refine Yh ?_ _|refine Yi ?_|refine Yf ?_ _));refine blk_far ?_ Xr.out _;(with_reducible repeat(first|refine Yh ?_ _|refine Yi ?_|refine Yf ?_ _));refine blk_far ?_ Xr.out _;(with_reducible repeat(first|refine Yh ?_ _|refine Yi ?_|refine Yf ?_ _));refine blk_far ?_ Xr.out _;(with_reducible repeat(first|refine Yh ?_ _|refine Yi ?_|refine Yf ?_ _));refine blk_far ?_ Xr.out _;(with_reducible repeat(first|refine Yh ?_ _|refine Yi ?_|refine Yf ?_ _));exact Zy.out) hb);replace Wm:=Ya (Yj (g:=Ve) (o:= .cells #[.int .i64 ((rd_T73 Za Zt).f0), .int .i64 ((rd_T73 Za Zt).f1), .int .i64 ((rd_T73 Za Zt).f2), .int .i64 ((rd_T73 Za Zt).f3)] 73 (0,0)) (by(with_reducible repeat(first|refine Yh ?_ _|refine Yi ?_|refine Yf ?_ _));refine Ys (cs:= #[.int .i64 ((rd_T73 Za Zt).f0), .int .i64 ((rd_T73 Za Zt).f1), .int .i64 ((rd_T73 Za Zt).f2), .int .i64 0]) ?_ 3 _ rfl;(with_reducible repeat(first|refine Yh ?_ _|refine Yi ?_|refine Yf ?_ _));refine Ys (cs:= #[.int .i64 ((rd_T73 Za Zt).f0), .int .i64 ((rd_T73 Za Zt).f1), .int .i64 0, .int .i64 0]) ?_ 2 _ rfl;(with_reducible repeat(first|refine Yh ?_ _|refine Yi ?_|refine Yf ?_ _));refine Ys (cs:= #[.int .i64 ((rd_T73 Za Zt).f0), .int .i64 0, .int .i64 0, .int .i64 0]) ?_ 1 _ rfl;(with_reducible repeat(first|refine Yh ?_ _|refine Yi ?_|refine Yf ?_ _));refine Ys (cs:= #[.int .i64 0, .int .i64 0, .int .i64 0, .int .i64 0]) ?_ 0 _ rfl;(with_reducible repeat(first|refine Yh ?_ _|refine Yi ?_|refine Yf ?_ _));exact Wm.out) hb);replace HB:=Ya (Yg bl hb);(try clear hb)));go_roundg k1
   case measure=>have:=HK1.out;omega
   case rel=>exact⟨(wrap64 (Zt+1)),(by first|rfl|(simp;done)|(simp[*];done)),H',⟨by have:=HK1.out;omega⟩,⟨Zy.out⟩,⟨HB.out⟩⟩
end P
namespace P
attribute [local go_sem] max2_int min2_int max_two min_two max_three min_three max_four min_four
def static_Ends.f (k:Nat) (Zb:Int) (Zg:Bool) (Za:List (S73)) (a1:Int) (a2:Int):Option (Int):=(netfmt_Check.f k Zb Zg Za).bind fun t108=>(if t108=0 then(if (mn a1 a2)<0 then(some 70) else(if (mx a1 a2)≥Zb then(some 70) else(if a1=a2 then(some 70) else(some 0)))) else(some t108))
set_option maxHeartbeats 8000000 in
set_option maxRecDepth 100000 in
theorem static_Ends.calls (k:Nat) (Zb:Int) (Zg:Bool) (Zp:Option Addr) (Zn:Nat) (Za:List (S73)) (a1:Int) (a2:Int) (r:Int) (w:World) (Wi:Kd.C k73 w Zp Za.length Za) (Wj:Za.length≤Zn) (h:static_Ends.f k Zb Zg Za a1 a2=some r):
  Calls Try.prog 37 #[.agg #[.int .i64 Zb, .bool Zg, .slice Zp Za.length Zn], .int .i64 a1, .int .i64 a2] w fun e w'=>e= .returned (.int .i64 r)∧Below w.heap.size w w':=by
 have hu32:=Try.underlying32;have Wl:=Ya Wi;have Ws:=Ya Wj;clear Wi Wj;have HB:=Ya (Yk w.heap.size w);have H:=h;unfold static_Ends.f at H;clear h;replace H:=Option.bind_eq_some_iff.mp H;obtain⟨t108,A40,H⟩:=H;try dsimp only at H
 have A4:=Ya A40;clear A40;by_cases c5:t108=0
 rotate_left
 ·rw[Yr c5] at H
  have c5b0:(t108 == 0)=false:=beq_eq_false_iff_ne.mpr c5;have c5b1:(t108 != 0)=true:=bne_iff_ne.mpr c5;obtain rfl:=Option.some.inj H;go_enter Try.func37,Try.ntmps37;go_wp2_with (first|((with_reducible refine gate_dst (N:=3) rfl ?_);(try (refine gate_guard (by rfl) ?_;dsimp only));refine box_event ?hg (N:=3) ?hd (cs:= #[.int .i64 Zb, .bool Zg, .slice Zp Za.length Zn]) (t:=32) ?hr ?_;(case hd=>rfl);(case hg=>rfl);(case hr=>first|(go_simp;done)|(go_simp;rfl));intro Xq hg w26 Zv hb;have Zq:=Ya (Zv);have GW107:=Ya ((sz hg));have GE107:=Ya ((sz hg));replace HB:=Ya (Yg bl hb);clear hb Zv hg;have hcz27_0:w26.cell? ⟨Xq,0,none⟩=some (.int .i64 Zb):=bc Zq 0;have hcz27_1:w26.cell? ⟨Xq,1,none⟩=some (.bool Zg):=bc Zq 1;have hcz27_2:w26.cell? ⟨Xq,2,none⟩=some (.slice Zp Za.length Zn):=bc Zq 2;have hfz27_0:=Yc Zq.out 0;have hfz27_1:=Yc Zq.out 1;have hfz27_2:=Yc Zq.out 2)|((with_reducible refine gate_callee (f:=33) rfl ?_);refine gl (some 9) Try.func33 #[.agg #[.int .i64 Zb, .bool Zg, .slice Zp Za.length Zn]] ?_;(with_reducible refine(netfmt_Check.calls k Zb Zg _ _ Za t108 _ ?side1 ?side2 A4.out).mono ?_);(case side1=>exact kC (Yn Wl.out HB.out));(case side2=>exact Ws.out);rintro e w28 ⟨rfl,hb⟩;refine⟨_,rfl,?_⟩;replace Zq:=Ya (Yj (bk Zq) hb);replace HB:=Ya (Yg bl hb);(try clear hb)));go_ret;exact⟨by first|rfl|(simp[errW_none,errW_some]<;>rfl)|(simp[*,errW_none,errW_some]<;>rfl),HB.out⟩
 rw[Yq c5] at H;have c5b0:(t108 == 0)=true:=beq_iff_eq.mpr c5;have c5b1:(t108 != 0)=false:=bne_eq_false_iff_eq.mpr c5;clear c5;obtain⟨ji6,hji6⟩: ∃ j_:Int,(mn a1 a2)=j_:=⟨_,rfl⟩;replace H:(if (ji6)<0 then(some 70) else(if (mx a1 a2)≥Zb then(some 70) else(if a1=a2 then(some 70) else(some 0))))=some r:=by first|(rw[hji6] at H;exact H)|(simp only[hji6] at H ⊢;exact H)
 (try rw[hji6] at A4)
 have hji6_:(if a2<a1 then a2 else a1)=ji6:=hji6;by_cases c7:(ji6)<0
 ·rw[Yq c7] at H
  have c7b0:decide ((ji6)<0)=true:=Yo c7;clear c7;obtain rfl:=Option.some.inj H;go_enter Try.func37,Try.ntmps37;go_wp2_with (first|((with_reducible refine gate_dst (N:=3) rfl ?_);(try (refine gate_guard (by rfl) ?_;dsimp only));refine box_event ?hg (N:=3) ?hd (cs:= #[.int .i64 Zb, .bool Zg, .slice Zp Za.length Zn]) (t:=32) ?hr ?_;(case hd=>rfl);(case hg=>rfl);(case hr=>first|(go_simp;done)|(go_simp;rfl));intro Xq hg w8 Zv hb;have Zq:=Ya (Zv);have GW107:=Ya ((sz hg));have GE107:=Ya ((sz hg));replace HB:=Ya (Yg bl hb);clear hb Zv hg;have hcz9_0:w8.cell? ⟨Xq,0,none⟩=some (.int .i64 Zb):=bc Zq 0;have hcz9_1:w8.cell? ⟨Xq,1,none⟩=some (.bool Zg):=bc Zq 1;have hcz9_2:w8.cell? ⟨Xq,2,none⟩=some (.slice Zp Za.length Zn):=bc Zq 2;have hfz9_0:=Yc Zq.out 0;have hfz9_1:=Yc Zq.out 1;have hfz9_2:=Yc Zq.out 2)|((with_reducible refine gate_callee (f:=33) rfl ?_);refine gl (some 9) Try.func33 #[.agg #[.int .i64 Zb, .bool Zg, .slice Zp Za.length Zn]] ?_;(with_reducible refine(netfmt_Check.calls k Zb Zg _ _ Za t108 _ ?side1 ?side2 A4.out).mono ?_);(case side1=>exact kC (Yn Wl.out HB.out));(case side2=>exact Ws.out);rintro e w10 ⟨rfl,hb⟩;refine⟨_,rfl,?_⟩;replace Zq:=Ya (Yj (bk Zq) hb);replace HB:=Ya (Yg bl hb);(try clear hb)));go_ret;exact⟨by first|rfl|(simp[errW_none,errW_some]<;>rfl)|(simp only[← hji6];first|rfl|(simp[errW_none,errW_some]<;>rfl))|(simp[*,errW_none,errW_some]<;>rfl),HB.out⟩
 rw[Yr c7] at H;have c7b0:decide ((ji6)<0)=false:=Yp c7;clear c7;obtain⟨ji11,hji11⟩: ∃ j_:Int,(mx a1 a2)=j_:=⟨_,rfl⟩;replace H:(if (ji11)≥Zb then(some 70) else(if a1=a2 then(some 70) else(some 0)))=some r:=by first|(rw[hji11] at H;exact H)|(simp only[hji11] at H ⊢;exact H)
 (try rw[hji11] at A4)
 have hji11_:(if a1<a2 then a2 else a1)=ji11:=hji11;by_cases c12:(ji11)≥Zb
 ·rw[Yq c12] at H
  have c12b0:decide (Zb≤(ji11))=true:=Yo c12;clear c12;obtain rfl:=Option.some.inj H;go_enter Try.func37,Try.ntmps37;go_wp2_with (first|((with_reducible refine gate_dst (N:=3) rfl ?_);(try (refine gate_guard (by rfl) ?_;dsimp only));refine box_event ?hg (N:=3) ?hd (cs:= #[.int .i64 Zb, .bool Zg, .slice Zp Za.length Zn]) (t:=32) ?hr ?_;(case hd=>rfl);(case hg=>rfl);(case hr=>first|(go_simp;done)|(go_simp;rfl));intro Xq hg w13 Zv hb;have Zq:=Ya (Zv);have GW107:=Ya ((sz hg));have GE107:=Ya ((sz hg));replace HB:=Ya (Yg bl hb);clear hb Zv hg;have hcz14_0:w13.cell? ⟨Xq,0,none⟩=some (.int .i64 Zb):=bc Zq 0;have hcz14_1:w13.cell? ⟨Xq,1,none⟩=some (.bool Zg):=bc Zq 1;have hcz14_2:w13.cell? ⟨Xq,2,none⟩=some (.slice Zp Za.length Zn):=bc Zq 2;have hfz14_0:=Yc Zq.out 0;have hfz14_1:=Yc Zq.out 1;have hfz14_2:=Yc Zq.out 2)|((with_reducible refine gate_callee (f:=33) rfl ?_);refine gl (some 9) Try.func33 #[.agg #[.int .i64 Zb, .bool Zg, .slice Zp Za.length Zn]] ?_;(with_reducible refine(netfmt_Check.calls k Zb Zg _ _ Za t108 _ ?side1 ?side2 A4.out).mono ?_);(case side1=>exact kC (Yn Wl.out HB.out));(case side2=>exact Ws.out);rintro e w15 ⟨rfl,hb⟩;refine⟨_,rfl,?_⟩;replace Zq:=Ya (Yj (bk Zq) hb);replace HB:=Ya (Yg bl hb);(try clear hb);have hcz16_0:w15.cell? ⟨Xq,0,none⟩=some (.int .i64 Zb):=bc Zq 0;have hcz16_1:w15.cell? ⟨Xq,1,none⟩=some (.bool Zg):=bc Zq 1;have hcz16_2:w15.cell? ⟨Xq,2,none⟩=some (.slice Zp Za.length Zn):=bc Zq 2;have hfz16_0:=Yc Zq.out 0;have hfz16_1:=Yc Zq.out 1;have hfz16_2:=Yc Zq.out 2));go_ret;exact⟨by first|rfl|(simp[errW_none,errW_some]<;>rfl)|(simp only[← hji6, ← hji11];first|rfl|(simp[errW_none,errW_some]<;>rfl))|(simp[*,errW_none,errW_some]<;>rfl),HB.out⟩
 rw[Yr c12] at H;have c12b0:decide (Zb≤(ji11))=false:=Yp c12;clear c12;by_cases c17:a1=a2
 rotate_left
 ·rw[Yr c17] at H
  have c17b0:(a1 == a2)=false:=beq_eq_false_iff_ne.mpr c17;have c17b1:(a1 != a2)=true:=bne_iff_ne.mpr c17;obtain rfl:=Option.some.inj H;go_enter Try.func37,Try.ntmps37;go_wp2_with (first|((with_reducible refine gate_dst (N:=3) rfl ?_);(try (refine gate_guard (by rfl) ?_;dsimp only));refine box_event ?hg (N:=3) ?hd (cs:= #[.int .i64 Zb, .bool Zg, .slice Zp Za.length Zn]) (t:=32) ?hr ?_;(case hd=>rfl);(case hg=>rfl);(case hr=>first|(go_simp;done)|(go_simp;rfl));intro Xq hg w22 Zv hb;have Zq:=Ya (Zv);have GW107:=Ya ((sz hg));have GE107:=Ya ((sz hg));replace HB:=Ya (Yg bl hb);clear hb Zv hg;have hcz23_0:w22.cell? ⟨Xq,0,none⟩=some (.int .i64 Zb):=bc Zq 0;have hcz23_1:w22.cell? ⟨Xq,1,none⟩=some (.bool Zg):=bc Zq 1;have hcz23_2:w22.cell? ⟨Xq,2,none⟩=some (.slice Zp Za.length Zn):=bc Zq 2;have hfz23_0:=Yc Zq.out 0;have hfz23_1:=Yc Zq.out 1;have hfz23_2:=Yc Zq.out 2)|((with_reducible refine gate_callee (f:=33) rfl ?_);refine gl (some 9) Try.func33 #[.agg #[.int .i64 Zb, .bool Zg, .slice Zp Za.length Zn]] ?_;(with_reducible refine(netfmt_Check.calls k Zb Zg _ _ Za t108 _ ?side1 ?side2 A4.out).mono ?_);(case side1=>exact kC (Yn Wl.out HB.out));(case side2=>exact Ws.out);rintro e w24 ⟨rfl,hb⟩;refine⟨_,rfl,?_⟩;replace Zq:=Ya (Yj (bk Zq) hb);replace HB:=Ya (Yg bl hb);(try clear hb);have Uu:w24.cell? ⟨Xq,0,none⟩=some (.int .i64 Zb):=bc Zq 0;have Uv:w24.cell? ⟨Xq,1,none⟩=some (.bool Zg):=bc Zq 1;have Uw:w24.cell? ⟨Xq,2,none⟩=some (.slice Zp Za.length Zn):=bc Zq 2;have Ux:=Yc Zq.out 0;have Uy:=Yc Zq.out 1;have Uz:=Yc Zq.out 2));go_ret;exact⟨by first|rfl|(simp[errW_none,errW_some]<;>rfl)|(simp only[← hji6, ← hji11];first|rfl|(simp[errW_none,errW_some]<;>rfl))|(simp[*,errW_none,errW_some]<;>rfl),HB.out⟩
 rw[Yq c17] at H;have c17b0:(a1 == a2)=true:=beq_iff_eq.mpr c17;have c17b1:(a1 != a2)=false:=bne_eq_false_iff_eq.mpr c17;clear c17;obtain rfl:=Option.some.inj H;go_enter Try.func37,Try.ntmps37;go_wp2_with (first|((with_reducible refine gate_dst (N:=3) rfl ?_);(try (refine gate_guard (by rfl) ?_;dsimp only));refine box_event ?hg (N:=3) ?hd (cs:= #[.int .i64 Zb, .bool Zg, .slice Zp Za.length Zn]) (t:=32) ?hr ?_;(case hd=>rfl);(case hg=>rfl);(case hr=>first|(go_simp;done)|(go_simp;rfl));intro Xq hg w18 Zv hb;have Zq:=Ya (Zv);have GW107:=Ya ((sz hg));have GE107:=Ya ((sz hg));replace HB:=Ya (Yg bl hb);clear hb Zv hg;have hcz19_0:w18.cell? ⟨Xq,0,none⟩=some (.int .i64 Zb):=bc Zq 0;have hcz19_1:w18.cell? ⟨Xq,1,none⟩=some (.bool Zg):=bc Zq 1;have hcz19_2:w18.cell? ⟨Xq,2,none⟩=some (.slice Zp Za.length Zn):=bc Zq 2;have hfz19_0:=Yc Zq.out 0;have hfz19_1:=Yc Zq.out 1;have hfz19_2:=Yc Zq.out 2)|((with_reducible refine gate_callee (f:=33) rfl ?_);refine gl (some 9) Try.func33 #[.agg #[.int .i64 Zb, .bool Zg, .slice Zp Za.length Zn]] ?_;(with_reducible refine(netfmt_Check.calls k Zb Zg _ _ Za t108 _ ?side1 ?side2 A4.out).mono ?_);(case side1=>exact kC (Yn Wl.out HB.out));(case side2=>exact Ws.out);rintro e w20 ⟨rfl,hb⟩;refine⟨_,rfl,?_⟩;replace Zq:=Ya (Yj (bk Zq) hb);replace HB:=Ya (Yg bl hb);(try clear hb);have hcz21_0:w20.cell? ⟨Xq,0,none⟩=some (.int .i64 Zb):=bc Zq 0;have hcz21_1:w20.cell? ⟨Xq,1,none⟩=some (.bool Zg):=bc Zq 1;have hcz21_2:w20.cell? ⟨Xq,2,none⟩=some (.slice Zp Za.length Zn):=bc Zq 2;have hfz21_0:=Yc Zq.out 0;have hfz21_1:=Yc Zq.out 1;have hfz21_2:=Yc Zq.out 2));go_ret;exact⟨by first|rfl|(simp[errW_none,errW_some]<;>rfl)|(simp only[← hji6, ← hji11];first|rfl|(simp[errW_none,errW_some]<;>rfl))|(simp[*,errW_none,errW_some]<;>rfl),HB.out⟩
end P
namespace P
attribute [local go_sem] max2_int min2_int max_two min_two max_three min_three max_four min_four
def span_Asked.f (k:Nat) (Zb:Int) (Zg:Bool) (Za:List (S73)) (a1:Int) (a2:Int) (a3:Int):Option (Int):=(static_Ends.f k Zb Zg Za a1 a2).bind fun t110=>(if t110=0 then((span_Horizon.f a3).bind fun t111=>(some t111)) else(some t110))
set_option maxHeartbeats 8000000 in
set_option maxRecDepth 100000 in
theorem span_Asked.calls (k:Nat) (Zb:Int) (Zg:Bool) (Zp:Option Addr) (Zn:Nat) (Za:List (S73)) (a1:Int) (a2:Int) (a3:Int) (r:Int) (w:World) (Wi:Kd.C k73 w Zp Za.length Za) (Wj:Za.length≤Zn) (h:span_Asked.f k Zb Zg Za a1 a2 a3=some r):
  Calls Try.prog 21 #[.agg #[.int .i64 Zb, .bool Zg, .slice Zp Za.length Zn], .int .i64 a1, .int .i64 a2, .int .i64 a3] w fun e w'=>e= .returned (.int .i64 r)∧Below w.heap.size w w':=by
 have hu32:=Try.underlying32;have Wl:=Ya Wi;have Ws:=Ya Wj;clear Wi Wj;have HB:=Ya (Yk w.heap.size w);have H:=h;unfold span_Asked.f at H;clear h;replace H:=Option.bind_eq_some_iff.mp H;obtain⟨t110,A50,H⟩:=H;try dsimp only at H
 have A5:=Ya A50;clear A50;by_cases c6:t110=0
 rotate_left
 ·rw[Yr c6] at H
  have c6b0:(t110 == 0)=false:=beq_eq_false_iff_ne.mpr c6;have c6b1:(t110 != 0)=true:=bne_iff_ne.mpr c6;obtain rfl:=Option.some.inj H;go_enter Try.func21,Try.ntmps21;go_wp2_with (first|(refine bx 4 32 #[.int .i64 Zb, .bool Zg, .slice Zp Za.length Zn] ?_;intro Jb hg w11 Zv hb;have Wy:=Ya (Zv);have GW109:=Ya ((sz hg));have GE109:=Ya ((sz hg));replace HB:=Ya (Yg bl hb);clear hb Zv hg;have Jo:w11.cell? ⟨Jb,0,none⟩=some (.int .i64 Zb):=bc Wy 0;have Jp:w11.cell? ⟨Jb,1,none⟩=some (.bool Zg):=bc Wy 1;have Jq:w11.cell? ⟨Jb,2,none⟩=some (.slice Zp Za.length Zn):=bc Wy 2;have Jr:=Yc Wy.out 0;have Js:=Yc Wy.out 1;have Jt:=Yc Wy.out 2)|((with_reducible refine gate_callee (f:=37) rfl ?_);refine gl (some 13) Try.func37 #[.agg #[.int .i64 Zb, .bool Zg, .slice Zp Za.length Zn], .int .i64 a1, .int .i64 a2] ?_;(with_reducible refine(static_Ends.calls k Zb Zg _ _ Za a1 a2 t110 _ ?side1 ?side2 A5.out).mono ?_);(case side1=>exact kC (Yn Wl.out HB.out));(case side2=>exact Ws.out);rintro e w13 ⟨rfl,hb⟩;refine⟨_,rfl,?_⟩;replace Wy:=Ya (Yj (bk Wy) hb);replace HB:=Ya (Yg bl hb);(try clear hb)));go_ret;exact⟨by first|rfl|(simp[errW_none,errW_some]<;>rfl)|(simp[*,errW_none,errW_some]<;>rfl),HB.out⟩
 rw[Yq c6] at H;have c6b0:(t110 == 0)=true:=beq_iff_eq.mpr c6;have c6b1:(t110 != 0)=false:=bne_eq_false_iff_eq.mpr c6;clear c6;replace H:=Option.bind_eq_some_iff.mp H;obtain⟨t111,A70,H⟩:=H;try dsimp only at H
 have A7:=Ya A70;clear A70;obtain rfl:=Option.some.inj H;go_enter Try.func21,Try.ntmps21;go_wp2_with (first|(refine bx 4 32 #[.int .i64 Zb, .bool Zg, .slice Zp Za.length Zn] ?_;intro Jb hg w8 Zv hb;have Wy:=Ya (Zv);have GW109:=Ya ((sz hg));have GE109:=Ya ((sz hg));replace HB:=Ya (Yg bl hb);clear hb Zv hg;have hcz9_0:w8.cell? ⟨Jb,0,none⟩=some (.int .i64 Zb):=bc Wy 0;have hcz9_1:w8.cell? ⟨Jb,1,none⟩=some (.bool Zg):=bc Wy 1;have hcz9_2:w8.cell? ⟨Jb,2,none⟩=some (.slice Zp Za.length Zn):=bc Wy 2;have hfz9_0:=Yc Wy.out 0;have hfz9_1:=Yc Wy.out 1;have hfz9_2:=Yc Wy.out 2)|((with_reducible refine gate_callee (f:=37) rfl ?_);refine gl (some 13) Try.func37 #[.agg #[.int .i64 Zb, .bool Zg, .slice Zp Za.length Zn], .int .i64 a1, .int .i64 a2] ?_;(with_reducible refine(static_Ends.calls k Zb Zg _ _ Za a1 a2 t110 _ ?side1 ?side2 A5.out).mono ?_);(case side1=>exact kC (Yn Wl.out HB.out));(case side2=>exact Ws.out);rintro e w10 ⟨rfl,hb⟩;refine⟨_,rfl,?_⟩;replace Wy:=Ya (Yj (bk Wy) hb);replace HB:=Ya (Yg bl hb);(try clear hb))|((with_reducible refine gate_callee (f:=34) rfl ?_);refine gl (some 18) Try.func34 #[.int .i64 a3] ?_;(with_reducible refine(span_Horizon.calls a3 t111 _ A7.out).mono ?_);rintro e w' ⟨rfl,⟨nd,rfl⟩⟩;refine⟨_,rfl,?_⟩));go_ret;exact⟨by first|rfl|(simp[errW_none,errW_some]<;>rfl)|(simp[*,errW_none,errW_some]<;>rfl),bl⟩
end P
namespace Q
theorem Ev.pos {α:Type} {c:Prop} [Decidable c] {f g:Nat→Option α} {r:α} (h:c) (e:Ev f r):Ev (fun k=>if c then f k else g k) r:=
 Ev.congr (fun _=>Yq h) e
theorem Ev.neg {α:Type} {c:Prop} [Decidable c] {f g:Nat→Option α} {r:α} (h: ¬ c) (e:Ev g r):Ev (fun k=>if c then f k else g k) r:=
 Ev.congr (fun _=>Yr h) e
theorem Ev.ite {α:Type} {c:Prop} [Decidable c] {f g:Nat→Option α} {r:α} (e:c→Ev f r) (e': ¬ c→Ev g r):Ev (fun k=>if c then f k else g k) r:=by
 by_cases h:c
 ·exact Ev.pos h (e h)
 ·exact Ev.neg h (e' h)
theorem Ev.succ {α:Type} {g:Nat→Option α} {r:α} (e:Ev (fun k=>g (k+1)) r):Ev g r:=Ev.step (fun _=>rfl) e
theorem Ev.let_ {α β:Type} {a:α} {f:Nat→α→Option β} {r:β} (e:Ev (fun k=>f k a) r):Ev (fun k=>(some a).bind (f k)) r:=e
theorem Ev.call {α β:Type} {g:Option α} {a:α} {f:Nat→α→Option β} {r:β} (h:g=some a) (e:Ev (fun k=>f k a) r):Ev (fun k=>g.bind (f k)) r:=by
 subst h;exact e
theorem Ev.done {α:Type} {a r:α} (h:a=r):Ev (fun _=>some a) r:=h▸Ev.now a
theorem Ev.eq {α:Type} {g:Nat→Option α} {a r:α} (h:Ev g a) (e:a=r):Ev g r:=e▸h
theorem wrap_id {x:Int} (h0: -9223372036854775808≤x) (h1:x≤9223372036854775807):wrap64 x=x:=by
 unfold wrap64;omega
theorem wrap_succ {i n:Nat} (h:i<n) (hn:n≤9223372036854775807):wrap64 ((i:Int)+1)=((i+1:Nat):Int):=by
 unfold wrap64;omega
theorem drop_getD {α:Type} (l:List α) (i:Nat) (d:α) (h:i<l.length):l.drop i=l.getD i d::l.drop (i+1):=by
 rw[List.drop_eq_getElem_cons h,List.getD_eq_getElem?_getD,List.getElem?_eq_getElem h];rfl
theorem getD_mem {α:Type} {l:List α} {i:Nat} {d:α} (h:i<l.length):l.getD i d∈l:=by
 rw[List.getD_eq_getElem?_getD,List.getElem?_eq_getElem h];exact List.getElem_mem h
theorem getD_set {α:Type} (l:List α) (i j:Nat) (a d:α) (h:i<l.length):(l.set i a).getD j d=if i=j then a else l.getD j d:=by
 rw[List.getD_eq_getElem?_getD,List.getD_eq_getElem?_getD,List.getElem?_set];by_cases e:i=j
 ·subst e;simp[h]
 ·simp[e]
end Q
namespace Q
open P
def arcErr (n:Int) (a:S73):Int:=
 if a.f0<0∨a.f1<0∨a.f2<0∨a.f3<0∨n≤a.f0∨n≤a.f1 then 51 else if 1048576<a.f2∨1048576<a.f3 then 2 else 0
def arcsErr (n:Int):List S73→Int
 |[]=>0
 |a::l=>if arcErr n a=0 then arcsErr n l else arcErr n a
def netErr (n:Int) (l:List S73):Int:=if n<1 then 51 else if n>50 then 2 else if (l.length:Int)>200 then 2 else arcsErr n l
structure ArcOk (n:Int) (a:S73):Prop where
 f0:0≤a.f0
 f1:0≤a.f1
 f2:0≤a.f2
 f3:0≤a.f3
 h0:a.f0<n
 h1:a.f1<n
 h2:a.f2≤1048576
 h3:a.f3≤1048576
structure NetOk (n:Int) (l:List S73):Prop where
 lo:1≤n
 hi:n≤50
 len:l.length≤200
 arcs: ∀ a∈l,ArcOk n a
theorem arcErr_ok {n:Int} {a:S73} (h:arcErr n a=0):ArcOk n a:=by
 unfold arcErr at h;split at h
 ·omega
 ·split at h
  ·omega
  ·constructor<;>omega
theorem arcsErr_ok {n:Int} : ∀ {l:List S73},arcsErr n l=0→ ∀ a∈l,ArcOk n a
 |[],_,a,ha=>by cases ha
 |b::l,h,a,ha=>by
  unfold arcsErr at h;split at h
  ·rename_i hb
   rcases List.mem_cons.1 ha with rfl|ha
   ·exact arcErr_ok hb
   ·exact arcsErr_ok h a ha
  ·exact absurd h (by assumption)
theorem netErr_ok {n:Int} {l:List S73} (h:netErr n l=0):NetOk n l:=by
 unfold netErr at h;split at h
 ·omega
 ·split at h
  ·omega
  ·split at h
   ·omega
   ·exact⟨by omega,by omega,by omega,arcsErr_ok h⟩
theorem arcOk_err {n:Int} {a:S73} (h:ArcOk n a):arcErr n a=0:=by
 have:=h.f0;have:=h.f1;have:=h.f2;have:=h.f3;have:=h.h0;have:=h.h1;have:=h.h2;have:=h.h3;unfold arcErr;rw[Yr (by omega),Yr (by omega)]
theorem arcsOk_err {n:Int} : ∀ {l:List S73},(∀ a∈l,ArcOk n a)→arcsErr n l=0
 |[],_=>rfl
 |b::l,h=>by
  unfold arcsErr;rw[Yq (arcOk_err (h b (List.mem_cons_self ..)))];exact arcsOk_err fun a ha=>h a (List.mem_cons_of_mem _ ha)
theorem netOk_err {n:Int} {l:List S73} (h:NetOk n l):netErr n l=0:=by
 have:=h.lo;have:=h.hi;have:=h.len;unfold netErr;rw[Yr (by omega),Yr (by omega),Yr (by omega),arcsOk_err h.arcs]
theorem nodes_eq (n:Int):netfmt_nodes.f n=some (if n<1 then 51 else if n>50 then 2 else 0):=by
 unfold netfmt_nodes.f;split
 ·rfl
 ·split<;>rfl
theorem arc_ev (n:Int) (a:S73):Ev (fun k=>netfmt_arc.f k n a.f0 a.f1 a.f2 a.f3) (arcErr n a):=by
 unfold netfmt_arc.f arcErr;refine Ev.ite (fun h=> ?_) (fun h=> ?_)
 ·refine Ev.succ ?_;simp only[netfmt_arc.j0]
  repeat(first|exact Ev.now _|with_reducible refine Ev.pos (by first|assumption|omega) ?_|with_reducible refine Ev.neg (by first|assumption|omega) ?_|with_reducible refine Ev.let_ ?_)
  exact Ev.done (by unfold mn at h;rw[Yq (by omega)])
 ·refine Ev.succ ?_;simp only[netfmt_arc.j0]
  unfold mn at h;unfold mx;refine Ev.ite (fun g=> ?_) (fun g=> ?_)
  ·have g:=of_decide_eq_true g
   exact Ev.done (by rw[Yq (by omega)])
  ·have g:=of_decide_eq_false (Bool.eq_false_iff.2 g)
   refine Ev.ite (fun g1=> ?_) (fun g1=> ?_)
   ·exact Ev.done (by rw[Yr (by omega),Yq (by omega)])
   ·refine Ev.ite (fun g2=> ?_) (fun g2=> ?_)
    ·exact Ev.done (by rw[Yr (by omega),Yq (by omega)])
    ·exact Ev.done (by rw[Yr (by omega),Yr (by omega)])
theorem check_l0 (l:List S73) (n:Int) (b:Bool) (hl:l.length≤9223372036854775807) (d:Nat): ∀ i:Nat,i+d=l.length→
  Ev (fun k=>netfmt_Check.l0 k l (l.length:Int) (i:Int) n b l) (arcsErr n (l.drop i)):=by
 induction d with
 |zero=>
  intro i hi;refine Ev.succ ?_;simp only[netfmt_Check.l0];repeat(first|exact Ev.now _|with_reducible refine Ev.pos (by first|assumption|omega) ?_|with_reducible refine Ev.neg (by first|assumption|omega) ?_|with_reducible refine Ev.let_ ?_)
  rw[List.drop_of_length_le (by omega)];exact Ev.now _
 |succ d ih=>
  intro i hi;refine Ev.succ ?_;simp only[netfmt_Check.l0];repeat(first|exact Ev.now _|with_reducible refine Ev.pos (by first|assumption|omega) ?_|with_reducible refine Ev.neg (by first|assumption|omega) ?_|with_reducible refine Ev.let_ ?_)
  refine Ev.bind (arc_ev n (rd_T73 l i)) ?_;rw[drop_getD l i z73 (by omega)];have hr:rd_T73 l (i:Int)=l.getD i z73:=by unfold rd_T73;rw[Int.toNat_natCast]
  rw[hr];unfold arcsErr;refine Ev.ite (fun h=> ?_) (fun h=> ?_)
  ·rw[Yq h,wrap_succ (n:=l.length) (by omega) hl]
   exact ih (i+1) (by omega)
  ·rw[Yr h]
   exact Ev.now _
theorem check_ev (n:Int) (b:Bool) (l:List S73):Ev (fun k=>netfmt_Check.f k n b l) (netErr n l):=by
 unfold netfmt_Check.f netErr;refine Ev.call (nodes_eq n) ?_;by_cases h:n<1
 ·rw[Yq h,Yq h]
  repeat(first|exact Ev.now _|with_reducible refine Ev.pos (by first|assumption|omega) ?_|with_reducible refine Ev.neg (by first|assumption|omega) ?_|with_reducible refine Ev.let_ ?_)
 ·rw[Yr h,Yr h]
  by_cases h2:n>50
  ·rw[Yq h2,Yq h2]
   repeat(first|exact Ev.now _|with_reducible refine Ev.pos (by first|assumption|omega) ?_|with_reducible refine Ev.neg (by first|assumption|omega) ?_|with_reducible refine Ev.let_ ?_)
  ·rw[Yr h2,Yr h2]
   repeat(first|exact Ev.now _|with_reducible refine Ev.pos (by first|assumption|omega) ?_|with_reducible refine Ev.neg (by first|assumption|omega) ?_|with_reducible refine Ev.let_ ?_)
   refine Ev.ite (fun g=> ?_) (fun g=> ?_)
   ·rw[Yq g]
    exact Ev.now _
   ·rw[Yr g]
    exact check_l0 l n b (by omega) l.length 0 (by omega)
end Q
namespace Q
open P
def endsErr (n:Int) (l:List S73) (s t:Int):Int:=if netErr n l=0 then(if s<0∨t<0∨n≤s∨n≤t∨s=t then 70 else 0) else netErr n l
structure EndsOk (n s t:Int):Prop where
 s0:0≤s
 t0:0≤t
 sn:s<n
 tn:t<n
 ne:s≠t
theorem endsErr_ok {n:Int} {l:List S73} {s t:Int} (h:endsErr n l s t=0):NetOk n l∧EndsOk n s t:=by
 unfold endsErr at h;split at h
 ·split at h
  ·omega
  ·exact⟨netErr_ok (by assumption),by omega,by omega,by omega,by omega,by omega⟩
 ·exact absurd h (by assumption)
theorem ends_of {n:Int} {l:List S73} {s t:Int} (h:NetOk n l) (he:EndsOk n s t):endsErr n l s t=0:=by
 have:=he.s0;have:=he.t0;have:=he.sn;have:=he.tn;have:=he.ne;unfold endsErr;rw[Yq (netOk_err h),Yr (by omega)]
theorem ends_ev (n:Int) (b:Bool) (l:List S73) (s t:Int):Ev (fun k=>static_Ends.f k n b l s t) (endsErr n l s t):=by
 unfold static_Ends.f endsErr;refine Ev.bind (check_ev n b l) ?_;refine Ev.ite (fun h=> ?_) (fun h=> ?_)
 ·rw[Yq h]
  unfold mn mx;refine Ev.ite (fun g=> ?_) (fun g=> ?_)
  ·exact Ev.done (by rw[Yq (by omega)])
  refine Ev.ite (fun g=> ?_) (fun g=> ?_)
  ·exact Ev.done (by rw[Yq (by omega)])
  refine Ev.ite (fun g=> ?_) (fun g=> ?_)
  ·exact Ev.done (by rw[Yq (by omega)])
  ·exact Ev.done (by rw[Yr (by omega)])
 ·rw[Yr h]
  exact Ev.now _
end Q
namespace Q
def sumTo:Nat→(Nat→Int)→Int
 |0,_=>0
 |n+1,g=>sumTo n g+g n
theorem sumTo_small (n:Nat) (g:Nat→Int) (B:Int) (h: ∀ v,v<n→ -B≤g v∧g v≤B): -(n * B)≤sumTo n g∧sumTo n g≤n * B:=by
 induction n with
 |zero=>simp[sumTo]
 |succ n ih=>
  have h1:=ih (fun v hv=>h v (by omega));have h2:=h n (by omega);have e:((n+1:Nat):Int) * B=n * B+B:=by rw[show ((n+1:Nat):Int)=(n:Int)+1 by omega,Int.add_mul,Int.one_mul]
  simp only[sumTo];omega
theorem sumTo_nonneg (n:Nat) (g:Nat→Int) (h: ∀ v,v<n→0≤g v):0≤sumTo n g:=by
 induction n with
 |zero=>simp[sumTo]
 |succ n ih=>
  have h1:=ih (fun v hv=>h v (by omega));have h2:=h n (by omega);simp only[sumTo];omega
end Q
namespace H
open Go.Maps 
theorem tc_laidOut:laidOutB Try.prog=true:=by kernel_rfl
theorem slotLaw:Keyed Try.prog 53:=Keyed.of_law (deep_law_laid tc_laidOut (m:=Try.prog.types.size+1) (of_decide_eq_true (by kernel_rfl)) (of_decide_eq_true (by kernel_rfl)) (by kernel_rfl) (by kernel_rfl))
theorem tc_sizes: ∃ m,Try.prog.types.size=m+1:=⟨Try.prog.types.size - 1,by
 have h:Try.prog.types.size - 1+1=Try.prog.types.size:=by kernel_rfl
 exact h.symm⟩
def slotV (v a:Int):Value:= .agg #[.int .i64 v, .int .i64 a]
def slotK (v a:Int):Lit:= .string (keyBytes [.int .i64 v, .int .i64 a])
theorem slot_key (v a:Int) (hv:(Lit.int .i64 v).wf=true) (ha:(Lit.int .i64 a).wf=true):keyOf Try.prog 53 (slotV v a)=some (slotK v a):=by
 obtain⟨m,hm⟩:=tc_sizes;have h1:Try.prog.keyType 53=true:=by kernel_rfl
 have h2:Try.prog.cellsOf 53=2:=by kernel_rfl
 have h3:Try.prog.cellsOf 3=1:=by kernel_rfl
 have h4:(slotV v a).formed Try.prog 53=true:=by
  unfold slotV Value.formed;simp[Try.underlying53,h2]
 unfold keyOf;rw[Try.underlying53];simp only[h1,h4,hm];simp[Program.keyLits,Try.underlying53,Try.underlying3,h2,h3,slotV,slotK,Value.cells,hv,ha]
theorem slotK_inj {v a v' a':Int} (hv:(Lit.int .i64 v).wf=true) (ha:(Lit.int .i64 a).wf=true) (hv':(Lit.int .i64 v').wf=true) (ha':(Lit.int .i64 a').wf=true) (h:slotK v a=slotK v' a'):v=v'∧a=a':=by
 have h1:=slotLaw.inj (slot_key v a hv ha) (by rw[h];exact slot_key v' a' hv' ha');unfold slotV at h1;injection h1 with h1
 have h2:=congrArg Array.toList h1;simp at h2;exact h2
def SetAt (w:World) (b n:Nat) (S:Int→Int→Bool):Prop:=
 ∃ D:DataW Unit,w.ownsMap Try.prog 53 unitElem b n D∧ ∀ v a,(Lit.int .i64 v).wf=true→(Lit.int .i64 a).wf=true→Maps.has D (slotK v a)=S v a
theorem SetAt.kept {w w':World} {b n:Nat} {S:Int→Int→Bool} {row:Option Nat} (h:SetAt w b n S) (hg:w.grownBy w' row) (hne:some b≠row):SetAt w' b n S:=by
 obtain⟨D,h1,h2⟩:=h;exact⟨D,h1.kept hg hne,h2⟩
theorem SetAt.below {w w':World} {b n:Nat} {S:Int→Int→Bool} (h:SetAt w b n S) (hb:Below w.heap.size w w'):SetAt w' b n S:=h.kept (grown_of_below hb none) (by simp)
theorem zeroUnit (w:World):(zeroValue 91).run Try.prog w= .ok (.agg #[]) w:=by kernel_rfl
theorem wf_i64 {x:Int} (h0: -9223372036854775808≤x) (h1:x≤9223372036854775807):(Lit.int .i64 x).wf=true:=by
 simp[Lit.wf,IntKind.min,IntKind.max,IntKind.signed,IntKind.bits];omega
set_option maxHeartbeats 400000 in
set_option maxRecDepth 100000 in
theorem has_calls {b n:Nat} {S:Int→Int→Bool} (v a:Int) (hv:(Lit.int .i64 v).wf=true) (ha:(Lit.int .i64 a).wf=true) (w:World) (h:SetAt w b n S):
  Calls Try.prog 23 #[.map (some b), .int .i64 v, .int .i64 a] w fun e w'=>e= .returned (.bool (S v a))∧Below w.heap.size w w':=by
 obtain⟨D,hown,hS⟩:=h;have hkey:=slot_key v a hv ha;rw[← hS v a hv ha];clear hS hv ha;go_enter Try.func23,Try.ntmps23;go_wp2_with (first|(at_lookup;refine wpList_lookup_own_unit _ rfl _ _ 67 rfl 53 91 slotLaw Try.underlying67 (zeroUnit _) b n D rfl hown _ _ rfl hkey ?_)|go_in);go_ret;exact⟨rfl,(Yk _ _).alloc (Nat.le_refl _) _⟩
end H
namespace H
open Go.Maps 
def risesN (S:Int→Int→Bool) (v:Int):Nat→Bool
 |0=>true
 |k+1=>risesN S v k && !(S v k && !S v (k+1))
theorem rises_not {S:Int→Int→Bool} {v:Int} {k:Nat} (h:(S v k && !S v (k+1))=true): ∀ n,k<n→risesN S v n=false
 |0,hk=>absurd hk (Nat.not_lt_zero _)
 |n+1,hk=>by
  unfold risesN;by_cases e:k=n
  ·subst e;rw[h];simp
  ·rw[rises_not h n (by omega)];rfl
set_option maxHeartbeats 800000 in
set_option maxRecDepth 100000 in
theorem rises_calls {b n:Nat} {S:Int→Int→Bool} (v:Int) (m:Nat) (hv:(Lit.int .i64 v).wf=true) (hm:m≤2000) (w:World) (h:SetAt w b n S):
  Calls Try.prog 24 #[.map (some b), .int .i64 v, .int .i64 (m:Int)] w fun e w'=>e= .returned (.bool (risesN S v m))∧Below w.heap.size w w':=by
 have HV:=Ya hv;have HS:=Ya h;clear hv h;go_enter Try.func24,Try.ntmps24;go_wp2;go_loopw [9,7] (fun i _ wr=> ∃ k:Nat,k≤m∧i= .int .i64 k∧Aside0 (risesN S v k=true)∧Aside0 (SetAt wr b n S)∧Aside0 (Below w.heap.size w wr)) (fun i _ _=>m - (intOf i).toNat)
 case atStart=>exact⟨0,Nat.zero_le _,rfl,⟨rfl⟩,HS,⟨Yk _ _⟩⟩
 case round=>
  obtain⟨k,hk,rfl,HR,HS,HB⟩:=hrel;by_cases hlt:k<m
  ·go_wp2_with fail
   refine(has_calls v (k:Int) HV.out (wf_i64 (by omega) (by omega)) _ HS.out).mono ?_;rintro e w1 ⟨rfl,hb1⟩;have HB1:=Ya hb1;have HS1:=Ya (HS.out.below hb1);clear hb1;cases hx:S v k with
   |false=>
    have HX:=Ya hx;clear hx;go_wp2_with fail;go_roundw
    case rel=>exact⟨k+1,by omega,by go_num,⟨by unfold risesN;rw[HR.out,HX.out];rfl⟩,HS1,⟨below_then HB.out HB.out.size HB1.out⟩⟩
    case measure=>simp[intOf];omega
   |true=>
    have HX:=Ya hx;clear hx;go_wp2_with fail;refine(has_calls v ((k:Int)+1) HV.out (wf_i64 (by omega) (by omega)) _ HS1.out).mono ?_;rintro e w2 ⟨rfl,hb2⟩;have HB2:=Ya hb2;have HS2:=Ya (HS1.out.below hb2);clear hb2;cases hy:S v ((k:Int)+1) with
    |true=>
     have HY:=Ya hy;clear hy;go_wp2_with fail;go_roundw
     case rel=>exact⟨k+1,by omega,by go_num,⟨by unfold risesN;rw[HR.out,HX.out,HY.out];rfl⟩,HS2,⟨below_then (below_then HB.out HB.out.size HB1.out) (by have:=HB.out.size;have:=HB1.out.size;omega) HB2.out⟩⟩
     case measure=>simp[intOf];omega
    |false=>
     have HY:=Ya hy;clear hy;go_wp2_with fail;go_ret;exact⟨by rw[rises_not (k:=k) (by rw[HX.out,HY.out];rfl) m hlt];rfl,below_then (below_then HB.out HB.out.size HB1.out) (by have:=HB.out.size;have:=HB1.out.size;omega) HB2.out⟩
  ·have e:k=m:=by omega
   subst e;go_wp2_with fail;go_ret;exact⟨by rw[HR.out];rfl,HB.out⟩
end H
namespace H
open Go.Maps P
def slotOkB (n h:Int) (s:S53):Bool:=decide (0≤s.f0) && decide (0≤s.f1) && decide (s.f0<n) && decide (s.f1≤h)
def hasL (l:List S53) (v a:Int):Bool:=l.any fun s=>decide (s.f0=v) && decide (s.f1=a)
def OfPost (w w':World) (l:List S53) (n h:Int) (e:Ending):Prop:=
 if l.all (slotOkB n h)=true then ∃ b m,w.heap.size≤b∧e= .returned (.tuple #[.map (some b), .bool true])∧SetAt w' b m (hasL l) else e= .returned (.tuple #[.map none, .bool false])
theorem of_bad {l:List S53} {s:S53} {n h:Int} (hm:s∈l) (hb:slotOkB n h s=false):l.all (slotOkB n h)=false:=by
 cases e:l.all (slotOkB n h) with
 |false=>rfl
 |true=>rw[List.all_eq_true.1 e s hm] at hb;cases hb
theorem has_put_at {l:List S53} {s:S53} {D:DataW Unit}
  (hD:IsMap D) (hS: ∀ v a,(Lit.int .i64 v).wf=true→(Lit.int .i64 a).wf=true→Maps.has D (slotK v a)=hasL l v a) (h0:(Lit.int .i64 s.f0).wf=true) (h1:(Lit.int .i64 s.f1).wf=true):
  ∀ v a,(Lit.int .i64 v).wf=true→(Lit.int .i64 a).wf=true→Maps.has (D.put (slotK s.f0 s.f1) (.agg [])) (slotK v a)=hasL (l ++ [s]) v a:=by
 intro v a hv ha;by_cases e:slotK v a=slotK s.f0 s.f1
 ·obtain⟨rfl,rfl⟩:=slotK_inj hv ha h0 h1 e
  rw[Maps.has_put_same hD (slotLaw.key (slot_key _ _ hv ha))];simp[hasL]
 ·rw[Maps.has_put_other e,hS v a hv ha]
  have hne: ¬ (s.f0=v∧s.f1=a):=fun⟨h2,h3⟩=>e (by rw[h2,h3])
  simp only[hasL,List.any_append,List.any_cons,List.any_nil,Bool.or_false];have:(decide (s.f0=v) && decide (s.f1=a))=false:=by
   by_cases h2:s.f0=v
   ·have h3: ¬ s.f1=a:=fun h3=>hne ⟨h2,h3⟩
    simp[h3]
   ·simp[h2]
  rw[this,Bool.or_false]
attribute [local go_sem] max2_int min2_int max_two min_two
set_option maxHeartbeats 1000000 in
set_option maxRecDepth 100000 in
theorem of_calls (A:Option Addr) (c:Nat) (l:List S53) (n h:Int) (w:World) (hr:Kd.C k53 w A l.length l) (hn:n≤1000) (hh:h≤2000):
  Calls Try.prog 22 #[.slice A l.length c, .int .i64 n, .int .i64 h] w fun e w'=>OfPost w w' l n h e∧Below w.heap.size w w':=by
 have HR:=Ya hr;have hmax:l.length≤9223372036854775807:=hr.2.1;clear hr;have hmm:= @run_makeMap Try.prog;go_enter Try.func22,Try.ntmps22;go_wp2;go_loopw [14,10] (fun i _ wr=> ∃ k:Nat,k≤l.length∧i= .int .i64 k∧Aside0 ((l.take k).all (slotOkB n h)=true)∧Aside0 (∃ D:DataW Unit,wr.ownsMap Try.prog 53 unitElem w.heap.size k D∧ ∀ v a,(Lit.int .i64 v).wf=true→(Lit.int .i64 a).wf=true→Maps.has D (slotK v a)=hasL (l.take k) v a)∧Aside0 (Below w.heap.size w wr)) (fun i _ _=>l.length - (intOf i).toNat)
 case atStart=>exact⟨0,Nat.zero_le _,rfl,⟨rfl⟩,⟨_,World.ownsMap_made _ _ _ _,fun _ _ _ _=>rfl⟩,⟨(Yk _ _).alloc (Nat.le_refl _) _⟩⟩
 case round=>
  obtain⟨k,hk,rfl,HOK,HM,HB⟩:=hrel;by_cases hlt:k<l.length
  ·obtain⟨ad,had,hc0,hc1⟩:=at_T53 HR.out (k:Int) (by omega) (by omega)
   subst had;simp only[Int.toNat_natCast] at hc0 hc1;replace hc0:=(HB.out.cell (World.block_lt_of_cell? w _ hc0)).trans hc0;replace hc1:=(HB.out.cell (World.block_lt_of_cell? w _ hc1)).trans hc1;have hel:l.getD k z53=rd_T53 l (k:Int):=by unfold rd_T53;rw[Int.toNat_natCast]
   have htk:l.take (k+1)=l.take k ++ [rd_T53 l (k:Int)]:=by
    rw[← hel,List.take_succ_eq_append_getElem hlt,List.getD_eq_getElem?_getD,List.getElem?_eq_getElem hlt];rfl
   have hmem:rd_T53 l (k:Int)∈l:=by
    rw[← hel,List.getD_eq_getElem?_getD,List.getElem?_eq_getElem hlt];exact List.getElem_mem hlt
   have HTK:=Ya htk;have HMEM:=Ya hmem;clear htk hel hmem;obtain⟨ji,hji⟩: ∃ j_:Int,mn (rd_T53 l (k:Int)).f0 (rd_T53 l (k:Int)).f1=j_:=⟨_,rfl⟩;have HJ:=Ya hji;have hji_:(if (rd_T53 l (k:Int)).f1<(rd_T53 l (k:Int)).f0 then(rd_T53 l (k:Int)).f1 else(rd_T53 l (k:Int)).f0)=ji:=hji;clear hji;have hmn:ji≤(rd_T53 l (k:Int)).f0∧ji≤(rd_T53 l (k:Int)).f1∧(ji=(rd_T53 l (k:Int)).f0∨ji=(rd_T53 l (k:Int)).f1):=by rw[← HJ.out];unfold mn;split<;>omega
   have HMN:=Ya hmn;clear hmn;by_cases h1:ji<0
   ·have HF:Aside0 (l.all (slotOkB n h)=false):=⟨of_bad HMEM.out (by have:=HMN.out;unfold slotOkB;simp;omega)⟩
    have b1:=Yo h1;clear h1;go_wp2_with fail;go_ret2;exact⟨by unfold OfPost;rw[HF.out];rfl,(HB.out.alloc HB.out.size _)⟩
   have b1:=Yp h1;by_cases h2:n≤(rd_T53 l (k:Int)).f0
   ·have HF:Aside0 (l.all (slotOkB n h)=false):=⟨of_bad HMEM.out (by have:=HMN.out;unfold slotOkB;simp;omega)⟩
    have b2:=Yo h2;clear h1 h2;go_wp2_with fail;go_ret2;exact⟨by unfold OfPost;rw[HF.out];rfl,(HB.out.alloc HB.out.size _)⟩
   have b2:=Yp h2;by_cases h3:h<(rd_T53 l (k:Int)).f1
   ·have HF:Aside0 (l.all (slotOkB n h)=false):=⟨of_bad HMEM.out (by have:=HMN.out;unfold slotOkB;simp;omega)⟩
    have b3:=Yo h3;clear h1 h2 h3;go_wp2_with fail;go_ret2;exact⟨by unfold OfPost;rw[HF.out];rfl,(HB.out.alloc HB.out.size _)⟩
   have b3:=Yp h3;have hg:slotOkB n h (rd_T53 l (k:Int))=true:=by have:=HMN.out;unfold slotOkB;simp;omega
   have hw0:(Lit.int .i64 (rd_T53 l (k:Int)).f0).wf=true:=wf_i64 (by have:=HMN.out;omega) (by omega);have hw1:(Lit.int .i64 (rd_T53 l (k:Int)).f1).wf=true:=wf_i64 (by have:=HMN.out;omega) (by omega);have HG:=Ya hg;have HW0:=Ya hw0;have HW1:=Ya hw1;clear h1 h2 h3 hg hw0 hw1;obtain⟨D,hown,hS⟩:=HM.out;have HD:=Ya hown.isMap;have HSS:=Ya hS;have hkey:=slot_key _ _ HW0.out HW1.out;have HKEY:=Ya hkey;have HOWN:=Ya hown;clear hS HM hkey hown;go_wp2_with (first|(at_mapUpdate;refine wpList_mapUpdate_own _ rfl _ _ _ 67 rfl 53 91 slotLaw Try.underlying67 (unitElem (H:=Unit)) w.heap.size k D rfl (HOWN.out.alloc _) (by unfold maxLen;omega) _ _ _ rfl rfl HKEY.out _ [] unitElem_mk ?_;intro w1 hown1 hgrow1)|go_in);have HO1:=Ya hown1;have HGR:=Ya hgrow1;clear hown1 hgrow1;go_roundw
   case rel=>exact⟨k+1,by omega,by go_num,⟨by rw[HTK.out,List.all_append,HOK.out];simp[HG.out]⟩,⟨_,HO1.out,by rw[HTK.out];exact has_put_at HD.out HSS.out HW0.out HW1.out⟩,⟨(HB.out.alloc HB.out.size _).grown HGR.out (by have:=HB.out.size;simp;omega) (fun j hj=>by cases hj;exact Nat.le_refl _)⟩⟩
   case measure=>simp[intOf];omega
  ·have e:k=l.length:=by omega
   subst e;have HT:Aside0 (l.take l.length=l):=⟨List.take_length⟩;go_wp2_with fail;go_ret2;refine⟨?_,HB.out⟩;have hok:=HOK.out;obtain⟨D,h1,h2⟩:=HM.out;rw[HT.out] at hok h2;unfold OfPost;rw[Yq hok];exact⟨w.heap.size,l.length,Nat.le_refl _,rfl,D,h1,h2⟩
end H
namespace H
open Go.Maps P Q
def times (h:Int) (a:S73):Nat:=(h+1 - a.f3).toNat
def takeAt (S:Int→Int→Bool) (a:S73) (t:Nat):Int:=if (S a.f0 t && !S a.f1 ((t:Int)+a.f3))=true then a.f2 else 0
def takesA (S:Int→Int→Bool) (h:Int) (a:S73):Int:=sumTo (times h a) (takeAt S a)
def takesL (S:Int→Int→Bool) (h:Int):List S73→Int
 |[]=>0
 |a::l=>takesA S h a+takesL S h l
structure ArcSm (a:S73):Prop where
 f0:0≤a.f0
 f1:0≤a.f1
 f2:0≤a.f2
 f3:0≤a.f3
 h0:a.f0≤1000
 h1:a.f1≤1000
 h2:a.f2≤1048576
 h3:a.f3≤1048576
theorem takesL_snoc (S:Int→Int→Bool) (h:Int) (a:S73): ∀ l:List S73,takesL S h (l ++ [a])=takesL S h l+takesA S h a
 |[]=>by simp[takesL]
 |b::l=>by rw[List.cons_append,takesL,takesL,takesL_snoc S h a l];omega
theorem takeAt_small (S:Int→Int→Bool) {a:S73} (ha:ArcSm a) (t:Nat):0≤takeAt S a t∧takeAt S a t≤1048576:=by
 have:=ha.f2;have:=ha.h2;unfold takeAt;split<;>omega
theorem sum_small (S:Int→Int→Bool) {a:S73} (ha:ArcSm a) (t:Nat) (ht:t≤2001):0≤sumTo t (takeAt S a)∧sumTo t (takeAt S a)≤2098200576:=by
 have h1:=sumTo_nonneg t (takeAt S a) (fun v _=>(takeAt_small S ha v).1);have h2:=(sumTo_small t (takeAt S a) 1048576 (fun v _=>by have:=takeAt_small S ha v;omega)).2;omega
theorem times_le {h:Int} {a:S73} (ha:ArcSm a) (hh:h≤2000):times h a≤2001:=by
 have:=ha.f3;unfold times;omega
theorem takesL_small (S:Int→Int→Bool) {h:Int} (hh:h≤2000): ∀ l:List S73,(∀ a∈l,ArcSm a)→0≤takesL S h l∧takesL S h l≤(l.length:Int) * 2098200576
 |[],_=>by simp[takesL]
 |a::l,hl=>by
  have h1:=takesL_small S hh l (fun b hb=>hl b (List.mem_cons_of_mem _ hb));have h2:=sum_small S (hl a (List.mem_cons_self ..)) (times h a) (times_le (hl a (List.mem_cons_self ..)) hh);have e:(((a::l).length:Nat):Int) * 2098200576=(l.length:Int) * 2098200576+2098200576:=by rw[List.length_cons];omega
  unfold takesL takesA;omega
set_option maxRecDepth 100000 in
theorem use_calls (x0 x1 x2 x3:Int) (w:World):Calls Try.prog 26 #[.agg #[.int .i64 x0, .int .i64 x1, .int .i64 x2, .int .i64 x3]] w fun e w'=>e= .returned (.bool true)∧Below w.heap.size w w':=by
 go_enter Try.func26,Try.ntmps26;go_wp2;go_ret;exact⟨rfl,by first|exact Yk _ _|exact(Yk _ _).alloc (Nat.le_refl _) _⟩
def ArcBlk (w:World) (g:Nat) (a:S73):Prop:=w.heap[g]? =some (.cells #[.int .i64 a.f0, .int .i64 a.f1, .int .i64 a.f2, .int .i64 a.f3] 73 (0,0))
theorem ArcBlk.below {w w':World} {g:Nat} {a:S73} (h:ArcBlk w g a) (hb:Below w.heap.size w w'):ArcBlk w' g a:=(hb.block g (Array.getElem?_eq_some_iff.1 h).1).trans h
set_option maxHeartbeats 2000000 in
set_option maxRecDepth 100000 in
theorem takes_calls {b m:Nat} {S:Int→Int→Bool} (n:Int) (p:Bool) (A:Option Addr) (c:Nat) (l:List S73) (h:Int) (w:World) (hr:Kd.C k73 w A l.length l) (hl:l.length≤200) (hA: ∀ a∈l,ArcSm a)
  (hh0:0≤h) (hh:h≤2000) (hS:SetAt w b m S):
  Calls Try.prog 25 #[.map (some b), .agg #[.int .i64 n, .bool p, .slice A l.length c], .int .i64 h, .func (.func 26) #[] #[]] w fun e w'=>e= .returned (.int .i64 (takesL S h l))∧Below w.heap.size w w':=by
 have HR:=Ya hr;have HA:=Ya hA;have HS:=Ya hS;clear hr hA hS;go_enter Try.func25,Try.ntmps25;go_wp2;go_loopw [16,9,11,12] (fun i acc _ _ wr=> ∃ k:Nat,k≤l.length∧i= .int .i64 k∧acc= .int .i64 (takesL S h (l.take k))∧Aside0 (SetAt wr b m S)∧Aside0 (Below w.heap.size w wr)) (fun i _ _ _ _=>l.length - (intOf i).toNat)
 case atStart=>exact⟨0,Nat.zero_le _,rfl,rfl,⟨HS.out.below ((Yk _ _).alloc (Nat.le_refl _) _)⟩,⟨(Yk _ _).alloc (Nat.le_refl _) _⟩⟩
 case round=>
  obtain⟨k,hk,rfl,rfl,HS1,HB⟩:=hrel;by_cases hlt:k<l.length
  ·obtain⟨ad,had,hc0,hc1,hc2,hc3⟩:=at_T73 HR.out (k:Int) (by omega) (by omega)
   subst had;simp only[Int.toNat_natCast] at hc0 hc1 hc2 hc3;replace hc0:=(HB.out.cell (World.block_lt_of_cell? w _ hc0)).trans hc0;replace hc1:=(HB.out.cell (World.block_lt_of_cell? w _ hc1)).trans hc1;replace hc2:=(HB.out.cell (World.block_lt_of_cell? w _ hc2)).trans hc2;replace hc3:=(HB.out.cell (World.block_lt_of_cell? w _ hc3)).trans hc3;have hel:l.getD k z73=rd_T73 l (k:Int):=by unfold rd_T73;rw[Int.toNat_natCast]
   have htk:l.take (k+1)=l.take k ++ [rd_T73 l (k:Int)]:=by
    rw[← hel,List.take_succ_eq_append_getElem hlt,List.getD_eq_getElem?_getD,List.getElem?_eq_getElem hlt];rfl
   have hmem:rd_T73 l (k:Int)∈l:=by
    rw[← hel,List.getD_eq_getElem?_getD,List.getElem?_eq_getElem hlt];exact List.getElem_mem hlt
   have HTK:=Ya htk;have HSM:=Ya (HA.out _ hmem);have hbase:=takesL_small S hh (l.take k) (fun a ha=>HA.out a (List.mem_of_mem_take ha));have hbl:((l.take k).length:Int)≤200:=by simp;omega
   have HBASE:Aside0 (0≤takesL S h (l.take k)∧takesL S h (l.take k)≤419640115200):=⟨by omega⟩;clear htk hel hmem hbase hbl;obtain⟨a,ha⟩: ∃ a,rd_T73 l (k:Int)=a:=⟨_,rfl⟩;rw[ha] at hc0 hc1 hc2 hc3 HTK HSM;clear ha;obtain⟨base,hb_⟩: ∃ x,takesL S h (l.take k)=x:=⟨_,rfl⟩;rw[hb_] at HBASE ⊢;have HBS:=Ya hb_;clear hb_;obtain⟨wo,rfl⟩: ∃ wo:World,wo=wr:=⟨_,rfl⟩;have p0:=HSM.out.f0;have p1:=HSM.out.f1;have p2:=HSM.out.f2;have p3:=HSM.out.f3;have q0:=HSM.out.h0;have q1:=HSM.out.h1;have q2:=HSM.out.h2;have q3:=HSM.out.h3;have r0:=HBASE.out.1;have r1:=HBASE.out.2;go_wp2_with fail;go_loopw [12,9] (fun i acc wr=> ∃ t:Nat,t≤times h a∧i= .int .i64 t∧acc= .int .i64 (base+sumTo t (takeAt S a))∧Aside0 (ArcBlk wr wo.heap.size a)∧Aside0 (SetAt wr b m S)∧Aside0 (Below w.heap.size w wr)) (fun i _ _=>times h a - (intOf i).toNat)
   case atStart=>exact⟨0,Nat.zero_le _,rfl,by simp[sumTo],⟨(MapKept.heap_alloc _ _).1⟩,⟨HS1.out.below ((Yk _ _).alloc (Nat.le_refl _) _)⟩,⟨HB.out.alloc HB.out.size _⟩⟩
   case round=>
    obtain⟨t,ht,rfl,rfl,HK,HS2,HB2⟩:=hrel;by_cases htl:t<times h a
    ·have b1:decide ((t:Int)+a.f3≤h)=true:=Yo (by unfold times at htl;omega)
     have hts:t≤2001:=by have:=times_le HSM.out hh;omega
     have hsm:=sum_small S HSM.out t hts;have s0:=hsm.1;have s1:=hsm.2;have htf:(t:Int)+a.f3≤2000:=by unfold times at htl;omega
     have HTF:=Ya htf;clear hsm htf;have c0:wr.cell? ⟨wo.heap.size,0,none⟩=some (.int .i64 a.f0):=(Yb HK.out 0).trans rfl;have c1:wr.cell? ⟨wo.heap.size,1,none⟩=some (.int .i64 a.f1):=(Yb HK.out 1).trans rfl;have c2:wr.cell? ⟨wo.heap.size,2,none⟩=some (.int .i64 a.f2):=(Yb HK.out 2).trans rfl;have c3:wr.cell? ⟨wo.heap.size,3,none⟩=some (.int .i64 a.f3):=(Yb HK.out 3).trans rfl;go_wp2_with fail;refine(use_calls _ _ _ _ _).mono ?_;rintro e w1 ⟨rfl,hb1⟩;have HK1:=Ya (HK.out.below hb1);have HS3:=Ya (HS2.out.below hb1);have HB3:=Ya (below_then HB2.out HB2.out.size hb1);clear hb1 c0 c1 c2 c3 HK HS2 HB2;have c0:w1.cell? ⟨wo.heap.size,0,none⟩=some (.int .i64 a.f0):=(Yb HK1.out 0).trans rfl;have c1:w1.cell? ⟨wo.heap.size,1,none⟩=some (.int .i64 a.f1):=(Yb HK1.out 1).trans rfl;have c2:w1.cell? ⟨wo.heap.size,2,none⟩=some (.int .i64 a.f2):=(Yb HK1.out 2).trans rfl;have c3:w1.cell? ⟨wo.heap.size,3,none⟩=some (.int .i64 a.f3):=(Yb HK1.out 3).trans rfl;go_wp2_with fail;refine(has_calls a.f0 (t:Int) (wf_i64 (by omega) (by omega)) (wf_i64 (by omega) (by omega)) _ HS3.out).mono ?_;rintro e w2 ⟨rfl,hb2⟩;have HK2:=Ya (HK1.out.below hb2);have HS4:=Ya (HS3.out.below hb2);have HB4:=Ya (below_then HB3.out HB3.out.size hb2);clear hb2 c0 c1 c2 c3 HK1 HS3 HB3;have c0:w2.cell? ⟨wo.heap.size,0,none⟩=some (.int .i64 a.f0):=(Yb HK2.out 0).trans rfl;have c1:w2.cell? ⟨wo.heap.size,1,none⟩=some (.int .i64 a.f1):=(Yb HK2.out 1).trans rfl;have c2:w2.cell? ⟨wo.heap.size,2,none⟩=some (.int .i64 a.f2):=(Yb HK2.out 2).trans rfl;have c3:w2.cell? ⟨wo.heap.size,3,none⟩=some (.int .i64 a.f3):=(Yb HK2.out 3).trans rfl;cases hx:S a.f0 t with
     |false=>
      have HX:=Ya hx;clear hx;go_wp2_with fail;go_roundw
      case rel=>exact⟨t+1,by omega,by go_num,by show _=Value.int .i64 (base+(sumTo t (takeAt S a)+takeAt S a t));unfold takeAt;rw[HX.out,Bool.false_and,Yr (by decide),Int.add_zero],HK2,HS4,HB4⟩
      case measure=>simp[intOf];omega
     |true=>
      have HX:=Ya hx;clear hx;go_wp2_with fail;refine(has_calls a.f1 ((t:Int)+a.f3) (wf_i64 (by omega) (by omega)) (wf_i64 (by omega) (by have:=HTF.out;omega)) _ HS4.out).mono ?_;rintro e w3 ⟨rfl,hb3⟩;have HK3:=Ya (HK2.out.below hb3);have HS5:=Ya (HS4.out.below hb3);have HB5:=Ya (below_then HB4.out HB4.out.size hb3);clear hb3 c0 c1 c2 c3 HK2 HS4 HB4;have c0:w3.cell? ⟨wo.heap.size,0,none⟩=some (.int .i64 a.f0):=(Yb HK3.out 0).trans rfl;have c1:w3.cell? ⟨wo.heap.size,1,none⟩=some (.int .i64 a.f1):=(Yb HK3.out 1).trans rfl;have c2:w3.cell? ⟨wo.heap.size,2,none⟩=some (.int .i64 a.f2):=(Yb HK3.out 2).trans rfl;have c3:w3.cell? ⟨wo.heap.size,3,none⟩=some (.int .i64 a.f3):=(Yb HK3.out 3).trans rfl;cases hy:S a.f1 ((t:Int)+a.f3) with
      |true=>
       have HY:=Ya hy;clear hy;go_wp2_with fail;go_roundw
       case rel=>exact⟨t+1,by omega,by go_num,by show _=Value.int .i64 (base+(sumTo t (takeAt S a)+takeAt S a t));unfold takeAt;rw[HX.out,HY.out,Bool.not_true,Bool.and_false,Yr (by decide),Int.add_zero],HK3,HS5,HB5⟩
       case measure=>simp[intOf];omega
      |false=>
       have HY:=Ya hy;clear hy;go_wp2_with fail;go_roundw
       case rel=>exact⟨t+1,by omega,by go_num,by show _=Value.int .i64 (base+(sumTo t (takeAt S a)+takeAt S a t));have e1:takeAt S a t=a.f2:=(by unfold takeAt;rw[HX.out,HY.out,Bool.not_false,Bool.and_true,Yq rfl]);rw[e1, ← Int.add_assoc],HK3,HS5,HB5⟩
       case measure=>simp[intOf];omega
    ·have b1:decide ((t:Int)+a.f3≤h)=false:=Yp (by unfold times at htl;omega)
     have HE:Aside0 (t=times h a):=⟨by omega⟩;have hts:t≤2001:=by have:=times_le HSM.out hh;omega
     have c0:wr.cell? ⟨wo.heap.size,0,none⟩=some (.int .i64 a.f0):=(Yb HK.out 0).trans rfl;have c1:wr.cell? ⟨wo.heap.size,1,none⟩=some (.int .i64 a.f1):=(Yb HK.out 1).trans rfl;have c2:wr.cell? ⟨wo.heap.size,2,none⟩=some (.int .i64 a.f2):=(Yb HK.out 2).trans rfl;have c3:wr.cell? ⟨wo.heap.size,3,none⟩=some (.int .i64 a.f3):=(Yb HK.out 3).trans rfl;go_wp2_with fail;go_roundw
     case rel=>exact⟨k+1,by omega,by go_num,by rw[HTK.out,takesL_snoc,HBS.out,HE.out];rfl,HS2,HB2⟩
     case measure=>simp[intOf];omega
  ·have e:k=l.length:=by omega
   subst e;have HT:Aside0 (l.take l.length=l):=⟨List.take_length⟩;go_wp2_with fail;go_ret;exact⟨by rw[HT.out];rfl,HB.out⟩
end H
namespace P
attribute [local go_sem] max2_int min2_int max_two min_two max_three min_three max_four min_four
def ebbtideref18_Has.l0:Nat→List (S53)→Int→Int→Int→Option (Bool)
 |0,_,_,_,_=>none
 |k+1,x0,x1,x2,x7=>if x7<(x0.length:Int) then(if 0≤x7 then(if ((rd_T53 x0 x7).f0)=x1 then(if ((rd_T53 x0 x7).f1)=x2 then(some true) else(ebbtideref18_Has.l0 k x0 x1 x2 (wrap64 (x7+1)))) else(ebbtideref18_Has.l0 k x0 x1 x2 (wrap64 (x7+1)))) else(none)) else(some false)
def ebbtideref18_Has.f (k:Nat) (l0:List (S53)) (a1:Int) (a2:Int):Option (Bool):=ebbtideref18_Has.l0 k l0 a1 a2 0
set_option maxHeartbeats 8000000 in
set_option maxRecDepth 100000 in
theorem ebbtideref18_Has.calls (k:Nat) (A0:Option Addr) (c0:Nat) (l0:List (S53)) (a1:Int) (a2:Int) (r:Bool) (w:World) (hr0:Kd.C k53 w A0 l0.length l0) (hc0:l0.length≤c0) (h:ebbtideref18_Has.f k l0 a1 a2=some r):
  Calls Try.prog 27 #[.slice A0 l0.length c0, .int .i64 a1, .int .i64 a2] w fun e w'=>e= .returned (.bool r)∧Drawn0 w w':=by
 have HR0:=Ya hr0;have HC0:=Ya hc0;clear hr0 hc0;have H:=h;unfold ebbtideref18_Has.f at H;clear h;have H':=Ya H;clear H;go_enter Try.func27,Try.ntmps27;go_wp2;go_loopg [7] k (fun kq v7 w'=> ∃ (Wf:Int),v7= .int .i64 Wf∧Aside0 (ebbtideref18_Has.l0 kq l0 a1 a2 Wf=some r)∧Aside0 (kq≤k)∧Drawn0 w w')
 case atStart=>exact⟨(0),(by first|rfl|(simp;done)|(simp[*];done)),H',⟨Nat.le_refl _⟩,by repeat(first|exact Drawn0.refl _|apply Drawn0.step)⟩
 case round=>
  clear H';obtain⟨Wf,rfl,HA,HK1,⟨m1,rfl⟩⟩:=hrel;cases gk with
  |zero=>exact absurd HA.out (by simp[ebbtideref18_Has.l0])
  |succ k1=>
   have H:=HA.out;clear HA;simp only[ebbtideref18_Has.l0] at H;by_cases c4:Wf<(l0.length:Int)
   rotate_left
   ·rw[Yr c4] at H
    have c4b0:decide (Wf<(l0.length:Int))=false:=Yp c4;clear c4;obtain rfl:=Option.some.inj H;go_wp2;go_ret;exact⟨by first|rfl|(simp;done)|(simp[*];done),by repeat(first|exact Drawn0.refl _|apply Drawn0.step)⟩
   rw[Yq c4] at H;have c4b0:decide (Wf<(l0.length:Int))=true:=Yo c4;clear c4;by_cases c5:0≤Wf
   rotate_left
   ·rw[Yr c5] at H
    exact absurd H (by simp)
   rw[Yq c5] at H;have c5b0:decide (0≤Wf)=true:=Yo c5;clear c5;by_cases c6:((rd_T53 l0 Wf).f0)=a1
   rotate_left
   ·rw[Yr c6] at H
    have c6b0:(((rd_T53 l0 Wf).f0) == a1)=false:=beq_eq_false_iff_ne.mpr c6;have c6b1:(((rd_T53 l0 Wf).f0) != a1)=true:=bne_iff_ne.mpr c6;have H':=Ya H;clear H;have p332:0≤(Wf:Int):=od;have q332:Wf<(l0.length:Int):=od;obtain⟨ad332,e332,hx332_0,hx332_1⟩:=at_T53 HR0.out Wf p332 q332;cases e332;replace p332:=eq_true p332;replace q332:=eq_true q332;go_wp2;go_roundg k1
    case measure=>have:=HK1.out;omega
    case rel=>exact⟨(wrap64 (Wf+1)),(by first|rfl|(simp;done)|(simp[*];done)),H',⟨by have:=HK1.out;omega⟩,by repeat(first|exact Drawn0.refl _|apply Drawn0.step)⟩
   rw[Yq c6] at H;have c6b0:(((rd_T53 l0 Wf).f0) == a1)=true:=beq_iff_eq.mpr c6;have c6b1:(((rd_T53 l0 Wf).f0) != a1)=false:=bne_eq_false_iff_eq.mpr c6;clear c6;by_cases c7:((rd_T53 l0 Wf).f1)=a2
   ·rw[Yq c7] at H
    have c7b0:(((rd_T53 l0 Wf).f1) == a2)=true:=beq_iff_eq.mpr c7;have c7b1:(((rd_T53 l0 Wf).f1) != a2)=false:=bne_eq_false_iff_eq.mpr c7;clear c7;obtain rfl:=Option.some.inj H;have p332:0≤(Wf:Int):=od;have q332:Wf<(l0.length:Int):=od;obtain⟨ad332,e332,hx332_0,hx332_1⟩:=at_T53 HR0.out Wf p332 q332;cases e332;replace p332:=eq_true p332;replace q332:=eq_true q332;have p333:0≤(Wf:Int):=od;have q333:Wf<(l0.length:Int):=od;obtain⟨ad333,e333,hx333_0,hx333_1⟩:=at_T53 HR0.out Wf p333 q333;obtain rfl:ad332=ad333:=(by injection e333);replace p333:=eq_true p333;replace q333:=eq_true q333;go_wp2;go_ret;exact⟨by first|rfl|(simp;done)|(simp[*];done),by repeat(first|exact Drawn0.refl _|apply Drawn0.step)⟩
   rw[Yr c7] at H;have c7b0:(((rd_T53 l0 Wf).f1) == a2)=false:=beq_eq_false_iff_ne.mpr c7;have c7b1:(((rd_T53 l0 Wf).f1) != a2)=true:=bne_iff_ne.mpr c7;have H':=Ya H;clear H;have p332:0≤(Wf:Int):=od;have q332:Wf<(l0.length:Int):=od;obtain⟨ad332,e332,hx332_0,hx332_1⟩:=at_T53 HR0.out Wf p332 q332;cases e332;replace p332:=eq_true p332;replace q332:=eq_true q332;have p333:0≤(Wf:Int):=od;have q333:Wf<(l0.length:Int):=od;obtain⟨ad333,e333,hx333_0,hx333_1⟩:=at_T53 HR0.out Wf p333 q333;obtain rfl:ad332=ad333:=(by injection e333);replace p333:=eq_true p333;replace q333:=eq_true q333;go_wp2;go_roundg k1
   case measure=>have:=HK1.out;omega
   case rel=>exact⟨(wrap64 (Wf+1)),(by first|rfl|(simp;done)|(simp[*];done)),H',⟨by have:=HK1.out;omega⟩,by repeat(first|exact Drawn0.refl _|apply Drawn0.step)⟩
end P
namespace Q
open P
open H
def spanErr (n:Int) (l:List S73) (s t h:Int):Int:=if endsErr n l s t=0 then(if h<0 then 1 else if h>1024 then 2 else 0) else endsErr n l s t
theorem spanErr_ok {n:Int} {l:List S73} {s t h:Int} (e:spanErr n l s t h=0):NetOk n l∧EndsOk n s t∧0≤h∧h≤1024:=by
 unfold spanErr at e;split at e
 ·have h2:=endsErr_ok (by assumption)
  split at e
  ·omega
  ·split at e
   ·omega
   ·exact⟨h2.1,h2.2,by omega,by omega⟩
 ·exact absurd e (by assumption)
theorem spanErr_mk {n:Int} {l:List S73} {s t h:Int} (hn:NetOk n l) (he:EndsOk n s t) (h0:0≤h) (h1:h≤1024):spanErr n l s t h=0:=by
 unfold spanErr;rw[Yq (ends_of hn he),Yr (by omega),Yr (by omega)]
theorem horizon_eq (h:Int):span_Horizon.f h=some (if h<0 then 1 else if h>1024 then 2 else 0):=by
 unfold span_Horizon.f;split
 ·rfl
 ·split<;>rfl
theorem span_asked_ev (n:Int) (b:Bool) (l:List S73) (s t h:Int):Ev (fun k=>span_Asked.f k n b l s t h) (spanErr n l s t h):=by
 unfold span_Asked.f spanErr;refine Ev.bind (ends_ev n b l s t) ?_;refine Ev.ite (fun g=> ?_) (fun g=> ?_)
 ·rw[Yq g]
  exact Ev.call (horizon_eq h) (Ev.now _)
 ·rw[Yr g]
  exact Ev.now _
def endsN (S:Int→Int→Bool) (s t:Int):Nat→Bool
 |0=>true
 |k+1=>endsN S s t k && (S s k && !S t k)
def risesAll (S:Int→Int→Bool) (h:Nat):Nat→Bool
 |0=>true
 |v+1=>risesAll S h v && risesN S v h
def tcRes (n:Int) (p:Bool) (l:List S73) (s t h:Int) (x:List S53):Int × Int:=
 if spanErr n l s t h=0 then
  (if x.all (slotOkB n h)=true then
   (if endsN (hasL x) s t (h.toNat+1)=true then(if p=true∧ ¬ risesAll (hasL x) h.toNat n.toNat=true then(0,181) else(takesL (hasL x) h l,0)) else(0,181))
   else(0,180))
 else(0,spanErr n l s t h)
theorem rdSlot_nat (l:List S53) (i:Nat):rd_T53 l (i:Int)=l.getD i z53:=by unfold rd_T53;rw[Int.toNat_natCast]
theorem hasL_cons (s:S53) (x:List S53) (v a:Int):hasL (s::x) v a=(decide (s.f0=v) && decide (s.f1=a) || hasL x v a):=rfl
theorem thas_l0 (x:List S53) (v a:Int) (hx:x.length≤9223372036854775807) (d:Nat): ∀ i:Nat,i+d=x.length→
  Ev (fun k=>ebbtideref18_Has.l0 k x v a (i:Int)) (hasL (x.drop i) v a):=by
 induction d with
 |zero=>
  intro i hi;refine Ev.succ ?_;simp only[ebbtideref18_Has.l0];repeat(first|exact Ev.now _|with_reducible refine Ev.pos (by first|assumption|omega) ?_|with_reducible refine Ev.neg (by first|assumption|omega) ?_|with_reducible refine Ev.let_ ?_)
  rw[List.drop_of_length_le (by omega)];exact Ev.now _
 |succ d ih=>
  intro i hi;refine Ev.succ ?_;simp only[ebbtideref18_Has.l0];repeat(first|exact Ev.now _|with_reducible refine Ev.pos (by first|assumption|omega) ?_|with_reducible refine Ev.neg (by first|assumption|omega) ?_|with_reducible refine Ev.let_ ?_)
  rw[drop_getD x i z53 (by omega),rdSlot_nat,hasL_cons,wrap_succ (n:=x.length) (by omega) (by omega)];refine Ev.ite (fun g=> ?_) (fun g=> ?_)
  ·refine Ev.ite (fun g2=> ?_) (fun g2=> ?_)
   ·exact Ev.done (by rw[Yo g,Yo g2];rfl)
   ·exact Ev.eq (ih (i+1) (by omega)) (by rw[Yp g2,Bool.and_false,Bool.false_or])
  ·exact Ev.eq (ih (i+1) (by omega)) (by rw[Yp g,Bool.false_and,Bool.false_or])
theorem thas_ev (x:List S53) (v a:Int) (hx:x.length≤9223372036854775807):Ev (fun k=>ebbtideref18_Has.f k x v a) (hasL x v a):=by
 unfold ebbtideref18_Has.f;exact Ev.eq (thas_l0 x v a hx x.length 0 (by omega)) (by rw[List.drop_zero])
theorem arc_sm {n:Int} {a:S73} (h:ArcOk n a) (hn:n≤50):ArcSm a:=
 ⟨h.f0,h.f1,h.f2,h.f3,by have:=h.h0;omega,by have:=h.h1;omega,h.h2,h.h3⟩
theorem ends_bad {S:Int→Int→Bool} {s t:Int} {k:Nat} (h:(S s k && !S t k)=false): ∀ m,k<m→endsN S s t m=false
 |0,hk=>absurd hk (Nat.not_lt_zero _)
 |m+1,hk=>by
  unfold endsN;by_cases e:k=m
  ·subst e;rw[h];simp
  ·rw[ends_bad h m (by omega)];rfl
theorem rises_bad {S:Int→Int→Bool} {h v:Nat} (hv:risesN S v h=false): ∀ m,v<m→risesAll S h m=false
 |0,hk=>absurd hk (Nat.not_lt_zero _)
 |m+1,hk=>by
  unfold risesAll;by_cases e:v=m
  ·subst e;rw[hv];simp
  ·rw[rises_bad hv m (by omega)];rfl
end Q
namespace H
open Go.Maps P Q
theorem Yj {w w':World} {g:Nat} {o:Obj} (h:w.heap[g]? =some o) (hb:Below w.heap.size w w'):w'.heap[g]? =some o:=(hb.block g (Array.getElem?_eq_some_iff.1 h).1).trans h
set_option maxHeartbeats 2000000 in
set_option maxRecDepth 100000 in
theorem check_walk (n:Int) (p:Bool) (A:Option Addr) (c:Nat) (l:List S73) (s t h:Int) (B:Option Addr) (cB:Nat) (x:List S53) (w:World) (hr:Kd.C k73 w A l.length l) (hc:l.length≤c) (hx:Kd.C k53 w B x.length x) (hcx:x.length≤cB):
  Calls Try.prog 10 #[(.agg #[.int .i64 n, .bool p, .slice A l.length c]), .int .i64 s, .int .i64 t, .int .i64 h, .slice B x.length cB] w fun e w'=>e= .returned (.tuple #[.int .i64 (tcRes n p l s t h x).1, .int .i64 (tcRes n p l s t h x).2])∧Below w.heap.size w w':=by
 have HR:=Ya hr;have HC:=Ya hc;have HX:=Ya hx;obtain⟨ka,hka⟩:=(span_asked_ev n p l s t h).rounds;have HKA:=Ya hka;clear hr hc hx hcx hka;obtain⟨err,herr⟩: ∃ e_,spanErr n l s t h=e_:=⟨_,rfl⟩;rw[herr] at HKA;have b0:Below w.heap.size w (w.alloc (.cells #[.int .i64 n, .bool p, .slice A l.length c] 32)):=(Yk _ _).alloc (Nat.le_refl _) _;have HB0:=Ya b0;clear b0;by_cases hz:err=0
 ·obtain⟨hn,hends,h0,hh⟩:=spanErr_ok (herr.trans hz)
  have n1:=hn.lo;have n2:=hn.hi;have s0:=hends.s0;have s1:=hends.sn;have t0:=hends.t0;have t1:=hends.tn;have HN:=Ya hn;have HZ:=Ya (herr.trans hz);have e1:(err != 0)=false:=bne_eq_false_iff_eq.mpr hz;have e2:(err == 0)=true:=beq_iff_eq.mpr hz;clear hends herr hz hn;go_enter Try.func10,Try.ntmps10;go_wp2_with fail;refine(span_Asked.calls ka n p _ _ l s t h err _ (Yn HR.out HB0.out) HC.out HKA.out).mono ?_;rintro e w1 ⟨rfl,hb1⟩;have HB1:=Ya (below_then HB0.out HB0.out.size hb1);have HK:Aside0 (w1.heap[w.heap.size]? =some (.cells #[.int .i64 n, .bool p, .slice A l.length c] 32 (0,0))):=⟨Yj (MapKept.heap_alloc _ _).1 hb1⟩;clear hb1 HB0 HKA;have d0:w1.cell? ⟨w.heap.size,0,none⟩=some (.int .i64 n):=(Yb HK.out 0).trans rfl;go_wp2_with fail;refine(of_calls B cB x n h w1 (Yn HX.out HB1.out) (by omega) (by omega)).mono ?_;rintro e w2 ⟨hpost,hb2⟩;clear d0;have HB2:=Ya (below_then HB1.out HB1.out.size hb2);have HK2:Aside0 (w2.heap[w.heap.size]? =some (.cells #[.int .i64 n, .bool p, .slice A l.length c] 32 (0,0))):=⟨Yj HK.out hb2⟩;clear hb2 HK HB1;by_cases hall:x.all (slotOkB n h)=true
  ·unfold OfPost at hpost
   rw[Yq hall] at hpost;obtain⟨b,m,hbm,rfl,hset⟩:=hpost;have HS2:=Ya hset;have HALL:=Ya hall;clear hset hall hbm;obtain⟨S,hS⟩: ∃ S,hasL x=S:=⟨_,rfl⟩;rw[hS] at HS2;have HSX:=Ya hS;clear hS;have HWS:Aside0 ((Lit.int .i64 s).wf=true):=⟨wf_i64 (by omega) (by omega)⟩;have HWT:Aside0 ((Lit.int .i64 t).wf=true):=⟨wf_i64 (by omega) (by omega)⟩;go_wp2_with fail;go_loopw [36,14] (fun i _ wr=> ∃ k:Nat,k≤h.toNat+1∧i= .int .i64 k∧Aside0 (endsN S s t k=true)∧Aside0 (SetAt wr b m S)∧Aside0 (wr.heap[w.heap.size]? =some (.cells #[.int .i64 n, .bool p, .slice A l.length c] 32 (0,0)))∧Aside0 (Below w.heap.size w wr)) (fun i _ _=>h.toNat+1 - (intOf i).toNat)
   case atStart=>exact⟨0,Nat.zero_le _,rfl,⟨rfl⟩,HS2,HK2,HB2⟩
   case round=>
    obtain⟨k,hk,rfl,HE,HS3,HK3,HB3⟩:=hrel;have HRES: ∀ r:Int × Int,tcRes n p l s t h x=r→Aside0 (tcRes n p l s t h x=r):=fun _ h=>⟨h⟩
    by_cases hlt:(k:Int)<h+1
    ·have HBAD:Aside0 ((S s k && !S t k)=false→tcRes n p l s t h x=(0,181)):=⟨fun hb=>by
      unfold tcRes;rw[Yq HZ.out,Yq HALL.out,HSX.out,Yr (by rw[ends_bad hb (h.toNat+1) (by omega)];decide)]⟩
     go_wp2_with fail;refine(has_calls s (k:Int) HWS.out (wf_i64 (by omega) (by omega)) _ HS3.out).mono ?_;rintro e w4 ⟨rfl,hb4⟩;have HS4:=Ya (HS3.out.below hb4);have HK4:Aside0 (w4.heap[w.heap.size]? =some (.cells #[.int .i64 n, .bool p, .slice A l.length c] 32 (0,0))):=⟨Yj HK3.out hb4⟩;have HB4:=Ya (below_then HB3.out HB3.out.size hb4);clear hb4 HS3 HK3 HB3;cases hx1:S s k with
     |false=>
      have HX1:=Ya hx1;clear hx1;go_wp2_with fail;go_ret2;exact⟨by rw[HBAD.out (by rw[HX1.out];rfl)];rfl,HB4.out⟩
     |true=>
      have HX1:=Ya hx1;clear hx1;go_wp2_with fail;refine(has_calls t (k:Int) HWT.out (wf_i64 (by omega) (by omega)) _ HS4.out).mono ?_;rintro e w5 ⟨rfl,hb5⟩;have HS5:=Ya (HS4.out.below hb5);have HK5:Aside0 (w5.heap[w.heap.size]? =some (.cells #[.int .i64 n, .bool p, .slice A l.length c] 32 (0,0))):=⟨Yj HK4.out hb5⟩;have HB5:=Ya (below_then HB4.out HB4.out.size hb5);clear hb5 HS4 HK4 HB4;cases hx2:S t k with
      |true=>
       have HX2:=Ya hx2;clear hx2;go_wp2_with fail;go_ret2;exact⟨by rw[HBAD.out (by rw[HX1.out,HX2.out];rfl)];rfl,HB5.out⟩
      |false=>
       have HX2:=Ya hx2;clear hx2;go_wp2_with fail;go_roundw
       case rel=>exact⟨k+1,by omega,by go_num,⟨by unfold endsN;rw[HE.out,HX1.out,HX2.out];rfl⟩,HS5,HK5,HB5⟩
       case measure=>simp[intOf];omega
    ·have HEN:Aside0 (endsN S s t (h.toNat+1)=true):=⟨by rw[show h.toNat+1=k by omega];exact HE.out⟩
     have d0:wr.cell? ⟨w.heap.size,0,none⟩=some (.int .i64 n):=(Yb HK3.out 0).trans rfl;clear HE;go_wp2_with fail;clear d0;go_loopw [53,15] (fun i _ wr=> ∃ v:Nat,v≤n.toNat∧i= .int .i64 v∧Aside0 (p=true→risesAll S h.toNat v=true)∧Aside0 (SetAt wr b m S)∧Aside0 (wr.heap[w.heap.size]? =some (.cells #[.int .i64 n, .bool p, .slice A l.length c] 32 (0,0)))∧Aside0 (Below w.heap.size w wr)) (fun i _ _=>n.toNat - (intOf i).toNat)
     case atStart=>exact⟨0,Nat.zero_le _,rfl,⟨fun _=>rfl⟩,HS3,HK3,HB3⟩
     case round=>
      clear HS3 HK3 HB3;obtain⟨v,hv,rfl,HE,HS3,HK3,HB3⟩:=hrel;have d1:wr.cell? ⟨w.heap.size,1,none⟩=some (.bool p):=(Yb HK3.out 1).trans rfl;by_cases hvlt:(v:Int)<n
      ·cases p with
       |false=>
        go_wp2_with fail;go_roundw
        case rel=>exact⟨v+1,by omega,by go_num,⟨fun hp=>by cases hp⟩,HS3,HK3,HB3⟩
        case measure=>simp[intOf];omega
       |true=>
        have hhn:h=((h.toNat:Nat):Int):=by omega
        have HHN:=Ya hhn;clear hhn;go_wp2_with fail;rw[HHN.out];refine(rises_calls (v:Int) h.toNat (wf_i64 (by omega) (by omega)) (by omega) _ HS3.out).mono ?_;rintro e w4 ⟨rfl,hb4⟩;rw[← HHN.out];have HS4:=Ya (HS3.out.below hb4);have HK4:Aside0 (w4.heap[w.heap.size]? =some (.cells #[.int .i64 n, .bool true, .slice A l.length c] 32 (0,0))):=⟨Yj HK3.out hb4⟩;have HB4:=Ya (below_then HB3.out HB3.out.size hb4);clear hb4 HS3 HK3 HB3 d1;cases hx1:risesN S v h.toNat with
        |true=>
         have HX1:=Ya hx1;clear hx1;go_wp2_with fail;go_roundw
         case rel=>exact⟨v+1,by omega,by go_num,⟨fun _=>by unfold risesAll;rw[HE.out (by trivial),HX1.out];rfl⟩,HS4,HK4,HB4⟩
         case measure=>simp[intOf];omega
        |false=>
         have HX1:=Ya hx1;clear hx1;have HFIN:Aside0 (tcRes n true l s t h x=(0,181)):=⟨by
          unfold tcRes;rw[Yq HZ.out,Yq HALL.out,HSX.out,Yq HEN.out,Yq ⟨rfl,by rw[rises_bad HX1.out n.toNat (by omega)];decide⟩]⟩
         go_wp2_with fail;go_ret2;exact⟨by rw[HFIN.out];rfl,HB4.out⟩
      ·have HFIN:Aside0 (tcRes n p l s t h x=(takesL S h l,0)):=⟨by
        unfold tcRes;rw[Yq HZ.out,Yq HALL.out,HSX.out,Yq HEN.out,Yr (fun⟨a,b⟩=>b (by rw[show n.toNat=v by omega];exact HE.out a))]⟩
       have d0:wr.cell? ⟨w.heap.size,0,none⟩=some (.int .i64 n):=(Yb HK3.out 0).trans rfl;have d2:wr.cell? ⟨w.heap.size,2,none⟩=some (.slice A l.length c):=(Yb HK3.out 2).trans rfl;go_wp2_with fail;refine(takes_calls n p A c l h _ (Yn HR.out HB3.out) HN.out.len (fun a ha=>arc_sm (HN.out.arcs a ha) HN.out.hi) h0 (by omega) HS3.out).mono ?_;rintro e w4 ⟨rfl,hb4⟩;have HB4:=Ya (below_then HB3.out HB3.out.size hb4);clear hb4;go_wp2_with fail;go_ret2;exact⟨by rw[HFIN.out];rfl,HB4.out⟩
  ·unfold OfPost at hpost
   rw[Yr hall] at hpost;subst hpost;have HFIN:Aside0 (tcRes n p l s t h x=(0,180)):=⟨by unfold tcRes;rw[Yq HZ.out,Yr hall]⟩;clear hall;go_wp2_with fail;go_ret2;exact⟨by rw[HFIN.out];rfl,HB2.out⟩
 ·have HFIN:Aside0 (tcRes n p l s t h x=(0,err)):=⟨by unfold tcRes;rw[Yr (by rw[herr];exact hz),herr]⟩
  have e1:(err != 0)=true:=bne_iff_ne.mpr hz;have e2:(err == 0)=false:=beq_eq_false_iff_ne.mpr hz;clear hz herr;go_enter Try.func10,Try.ntmps10;go_wp2_with fail;refine(span_Asked.calls ka n p _ _ l s t h err _ (Yn HR.out HB0.out) HC.out HKA.out).mono ?_;rintro e w1 ⟨rfl,hb1⟩;have HB1:=Ya (below_then HB0.out HB0.out.size hb1);clear hb1 HB0 HKA;go_wp2_with fail;go_ret2;exact⟨by rw[HFIN.out];rfl,HB1.out⟩
end H
namespace H
open Go.Maps P Q
theorem timecut_Check_calls (n:Int) (p:Bool) (A:Option Addr) (c:Nat) (l:List S73) (s t h:Int) (B:Option Addr) (cB:Nat) (x:List S53) (r1 r2:Int) (w:World) (hr:Kd.C k73 w A l.length l) (hc:l.length≤c) (hx:Kd.C k53 w B x.length x) (hcx:x.length≤cB)
  (hf:some (tcRes n p l s t h x)=some (r1,r2)):
  Calls Try.prog 10 #[.agg #[.int .i64 n, .bool p, .slice A l.length c], .int .i64 s, .int .i64 t, .int .i64 h, .slice B x.length cB] w fun e w'=>e= .returned (.tuple #[.int .i64 r1, .int .i64 r2])∧Below w.heap.size w w':=by
 have e:=Option.some.inj hf;have e1:r1=(tcRes n p l s t h x).1:=by rw[e]
 have e2:r2=(tcRes n p l s t h x).2:=by rw[e]
 rw[e1,e2];exact check_walk n p A c l s t h B cB x w hr hc hx hcx
end H
namespace P
attribute [local go_sem] max2_int min2_int max_two min_two max_three min_three max_four min_four
def timecut_Check.f (Zb:Int) (Zg:Bool) (Za:List (S73)) (a1:Int) (a2:Int) (a3:Int) (l4:List (S53)):Option (Int × Int):=some (Q.tcRes Zb Zg Za a1 a2 a3 l4)
theorem timecut_Check.calls (Zb:Int) (Zg:Bool) (Zp:Option Addr) (Zn:Nat) (Za:List (S73)) (a1:Int) (a2:Int) (a3:Int) (A4:Option Addr) (c4:Nat) (l4:List (S53)) (r1:Int) (r2:Int) (w:World) (Wi:Kd.C k73 w Zp Za.length Za) (Wj:Za.length≤Zn) (hr4:Kd.C k53 w A4 l4.length l4) (hc4:l4.length≤c4) (h:timecut_Check.f Zb Zg Za a1 a2 a3 l4=some (r1,r2)):
  Calls Try.prog 10 #[.agg #[.int .i64 Zb, .bool Zg, .slice Zp Za.length Zn], .int .i64 a1, .int .i64 a2, .int .i64 a3, .slice A4 l4.length c4] w fun e w'=>e= .returned (.tuple #[.int .i64 r1, .int .i64 r2])∧Below w.heap.size w w':=H.timecut_Check_calls Zb Zg Zp Zn Za a1 a2 a3 A4 c4 l4 r1 r2 w Wi Wj hr4 hc4 h
end P
namespace P
attribute [local go_sem] max2_int min2_int max_two min_two max_three min_three max_four min_four
def ebbtidelaw14_Line.f (a0:Bool):Option (Int × Bool × (List (S73))):=some (3,a0,(([(⟨0,1,2,1⟩:S73),(⟨1,2,2,1⟩:S73)]:List (S73))))
set_option maxHeartbeats 8000000 in
set_option maxRecDepth 100000 in
theorem ebbtidelaw14_Line.calls (a0:Bool) (r1:Int) (r2:Bool) (r3:List (S73)) (w:World) (h:ebbtidelaw14_Line.f a0=some (r1,r2,r3)):
  Calls Try.prog 17 #[.bool a0] w fun e w'=> ∃ v2_:Value,e= .returned (.agg #[.int .i64 r1, .bool r2,v2_])∧Kd.R k73 73 w' w.heap.size (fun _=>True) v2_ r3∧Below w.heap.size w w':=by
 have hu32:=Try.underlying32;have hu73:=Try.underlying73;have HB:=Ya (Yk w.heap.size w);have H:(some (3,a0,(([(⟨0,1,2,1⟩:S73),(⟨1,2,2,1⟩:S73)]:List (S73)))))=some (r1,r2,r3):=h;clear h;obtain⟨y114,hy114⟩: ∃ y_:List (S73),y_=(([(⟨0,1,2,1⟩:S73),(⟨1,2,2,1⟩:S73)]:List (S73))):=⟨_,rfl⟩;replace H:(some (3,a0,y114))=some (r1,r2,r3):=by first|(rw[hy114];with_reducible exact H)|(have H2_:=(Option.bind_some _ _).symm.trans H;rw[hy114];with_reducible exact H2_)|(have H2_:=(Option.bind_some _ _).symm.trans H;with_reducible exact H2_)|with_reducible exact H|(rw[hy114];exact H)|exact H
 have Ny114:=Ya hy114;clear hy114;simp only[Option.some.injEq,Prod.mk.injEq] at H;obtain⟨rfl,rfl,rfl⟩:=H;go_enter Try.func17,Try.ntmps17;go_wp2_with (first|((with_reducible refine gate_dst (N:=2) rfl ?_);refine box_event ?hg (N:=2) ?hd (cs:= #[.int .i64 0, .bool false, .slice none 0 0]) (t:=32) ?hr ?_;(case hd=>rfl);(case hg=>rfl);(case hr=>first|(go_simp;done)|(go_simp;rfl));intro Ud hg w2 Zv hb;have n0_:=Ya (Yg (by repeat(first|(with_reducible first|exact HB.out|apply below_alloc|apply pw_below_drewN|apply Yd)|exact HB.out)) hb);have n1_:=Ya (Zv);have n2_:=Ya ((by rw[hg];exact(Ye (by repeat(first|(with_reducible first|exact HB.out|apply below_alloc|apply pw_below_drewN|apply Yd)|exact HB.out))):w.heap.size≤Ud));have n3_:=Ya ((by rw[hg];exact(Ye (by repeat(first|(with_reducible first|exact HB.out|apply below_alloc|apply pw_below_drewN|apply Yd)|exact HB.out))):w.heap.size≤Ud));clear HB;have HB:=n0_;have Vu:=n1_;have GW113:=n2_;have GE113:=n3_;clear n0_ n1_ n2_ n3_;clear hb Zv hg)|((with_reducible refine gate_dst (N:=6) rfl ?_);refine Kd.R_lit k73 _ 73 ?hg (N:=6) ?hd (xs:=([(⟨0,1,2,1⟩:S73),(⟨1,2,2,1⟩:S73)]:List (S73))) (inner:=[.int .i64 0, .int .i64 1, .int .i64 2, .int .i64 1, .int .i64 1, .int .i64 2, .int .i64 2, .int .i64 1]) (ok:=fun _=>True) (okp:=fun _=>True) ?hr ?hp (fun _ hk=>hk) trivial (Yk _ _) (Nat.le_refl _) (by simp) ?_;(case hd=>rfl);(case hg=>rfl);(case hr=>first|(go_simp;done)|(go_simp;rfl));(case hp=>exact(Reps.c4 (show Kd.M k73 _ _ _ (⟨0,1,2,1⟩:S73) [.int .i64 0, .int .i64 1, .int .i64 2, .int .i64 1] from(k73_mkM _ _ _ (⟨0,1,2,1⟩:S73) )) (Reps.c4 (show Kd.M k73 _ _ _ (⟨1,2,2,1⟩:S73) [.int .i64 1, .int .i64 2, .int .i64 2, .int .i64 1] from(k73_mkM _ _ _ (⟨1,2,2,1⟩:S73) )) (Reps.none _ _))));intro v115 w3 ho4 hb hg_ hnew_;clear hg_ hnew_;(first|rw[← Ny114.out] at ho4|(simp only[Int.reduceToNat] at ho4;rw[← Ny114.out] at ho4));have n0_:=Ya (Kd.R_lower ho4 (Ye (by repeat(first|(with_reducible first|exact HB.out|apply below_alloc|apply pw_below_drewN|apply Yd|refine below_set ?_ GE113.out)|exact HB.out))));have n1_:=Ya (Yj (g:=Ud) (o:= .cells #[.int .i64 0, .bool false, .slice none 0 0] 32 (0,0)) (by(with_reducible repeat(first|refine Yh ?_ _|refine Yi ?_|refine Yf ?_ _));exact Vu.out) hb);have n2_:=Ya (Yg (by repeat(first|(with_reducible first|exact HB.out|apply below_alloc|apply pw_below_drewN|apply Yd|refine below_set ?_ GE113.out)|exact HB.out)) hb);clear Vu;clear HB;have HO116:=n0_;have Vu:=n1_;have HB:=n2_;clear n0_ n1_ n2_;clear hb ho4;obtain⟨Ao5,co5,eo5⟩:=Kd.R_slice HO116.out;subst eo5;have Ji:w3.cell? ⟨Ud,0,none⟩=some (.int .i64 0):=(Yb Vu.out 0).trans rfl;have Jj:w3.cell? ⟨Ud,1,none⟩=some (.bool false):=(Yb Vu.out 1).trans rfl;have Jk:w3.cell? ⟨Ud,2,none⟩=some (.slice none 0 0):=(Yb Vu.out 2).trans rfl;have Jl:=Yc Vu.out 0;have Jm:=Yc Vu.out 1;have Jn:=Yc Vu.out 2));refine bodyPost_ret (results_cell_row rfl _ _ Ud 32 #[.int .i64 3, .bool a0, .slice Ao5 y114.length co5] (0,0) _ rfl (by(with_reducible repeat(first|refine Yh ?_ _|refine Yi ?_|refine Yf ?_ _));refine Ys (cs:= #[.int .i64 3, .bool a0, .slice none 0 0]) ?_ 2 _ rfl;(with_reducible repeat(first|refine Yh ?_ _|refine Yi ?_|refine Yf ?_ _));refine Ys (cs:= #[.int .i64 3, .bool false, .slice none 0 0]) ?_ 1 _ rfl;(with_reducible repeat(first|refine Yh ?_ _|refine Yi ?_|refine Yf ?_ _));refine Ys (cs:= #[.int .i64 0, .bool false, .slice none 0 0]) ?_ 0 _ rfl;(with_reducible repeat(first|refine Yh ?_ _|refine Yi ?_|refine Yf ?_ _));exact Vu.out) Try.underlying32 rfl (by kernel_rfl)) rfl ?_;exact⟨_,by first|rfl|(simp[errW_none,errW_some]<;>rfl)|(simp[*,errW_none,errW_some]<;>rfl),by(with_reducible repeat(first|apply Kd.R_alloc|apply Kd.R_drewN|apply Yl));exact Kd.R_mono (Kd.R_far (p:=⟨Ud,2,none⟩) (Kd.R_far (p:=⟨Ud,1,none⟩) (Kd.R_far (p:=⟨Ud,0,none⟩) (Kd.R_types HO116.out Vu.out (by decide)) (fun _ hk=>hk.2) (.int .i64 3)) (fun _ hk=>hk.2) (.bool a0)) (fun _ hk=>hk.2) (.slice Ao5 y114.length co5)) (fun _ hk=>trivial),by repeat(first|(with_reducible first|exact HB.out|apply below_alloc|apply pw_below_drewN|apply Yd|refine below_set ?_ GE113.out)|exact HB.out)⟩
end P
namespace P
attribute [local go_sem] max2_int min2_int max_two min_two max_three min_three max_four min_four
mutual
def timecut_From.l0:Nat→List Int→List (S53)→Int→Int→Option ((List (S53)) × Int)
 |0,_,_,_,_=>none
 |k+1,x2,x10,x31,x32=>if x32<x31 then(timecut_From.l1 k x2 x10 x32 x31 x32 x2 (x2.length:Int) 0) else(some (x10,0))
def timecut_From.l1:Nat→List Int→List (S53)→Int→Int→Int→List Int→Int→Int→Option ((List (S53)) × Int)
 |0,_,_,_,_,_,_,_,_=>none
 |k+1,x2,x10,x11,x31,x32,x35,x36,x37=>if x37<x36 then(if 0≤x37 then(if x37<(x35.length:Int) then(if (rd x35 x37)≤x11 then(if x10.length<8796093022208 then(timecut_From.l1 k x2 (x10 ++ [(⟨x37,x11⟩:S53)]) x11 x31 x32 x35 x36 (wrap64 (x37+1))) else(none)) else(timecut_From.l1 k x2 x10 x11 x31 x32 x35 x36 (wrap64 (x37+1)))) else(none)) else(none)) else(timecut_From.l0 k x2 x10 x31 (wrap64 (x32+1)))
end
def timecut_From.f (k:Nat) (Zb:Int) (Zg:Bool) (Za:List (S73)) (a1:Int) (l2:List Int):Option ((List (S53)) × Int):=(netfmt_Check.f k Zb Zg Za).bind fun t118=>(if t118=0 then((span_Horizon.f a1).bind fun t119=>(if t119=0 then(if (l2.length:Int)=Zb then(timecut_From.l0 k l2 (([]:List (S53))) (wrap64 (a1+1)) 0) else(some (([]:List (S53)),1))) else(some (([]:List (S53)),t119)))) else(some (([]:List (S53)),t118)))
theorem timecut_From.mono_l: ∀ k,(∀ y0 y1 y2 y3,LeO (timecut_From.l0 k y0 y1 y2 y3) (timecut_From.l0 (k+1) y0 y1 y2 y3))∧(∀ y0 y1 y2 y3 y4 y5 y6 y7,LeO (timecut_From.l1 k y0 y1 y2 y3 y4 y5 y6 y7) (timecut_From.l1 (k+1) y0 y1 y2 y3 y4 y5 y6 y7))
 |0=>⟨fun _ _ _ _ r h=>by simp[timecut_From.l0] at h,fun _ _ _ _ _ _ _ _ r h=>by simp[timecut_From.l1] at h⟩
 |k+1=>by
  obtain⟨ih0,ih1⟩:=timecut_From.mono_l k;refine⟨?_,?_⟩
  ·intro y0 y1 y2 y3
   unfold timecut_From.l0;repeat' first
   |(with_reducible exact ih0 _ _ _ _)
   |(with_reducible exact ih1 _ _ _ _ _ _ _ _)
   |(with_reducible exact netfmt_Check.mono _ _ _ _)
   |(with_reducible exact LeO.refl _)
   |(with_reducible exact LeO.none _)
   |(with_reducible refine LeO.ite ?_ ?_)
   |(with_reducible refine LeO.bind ?_ (fun _=> ?_))
   |refine LeO.ite ?_ ?_
   |refine LeO.bind ?_ (fun _=> ?_)
  ·intro y0 y1 y2 y3 y4 y5 y6 y7
   unfold timecut_From.l1;repeat' first
   |(with_reducible exact ih0 _ _ _ _)
   |(with_reducible exact ih1 _ _ _ _ _ _ _ _)
   |(with_reducible exact netfmt_Check.mono _ _ _ _)
   |(with_reducible exact LeO.refl _)
   |(with_reducible exact LeO.none _)
   |(with_reducible refine LeO.ite ?_ ?_)
   |(with_reducible refine LeO.bind ?_ (fun _=> ?_))
   |refine LeO.ite ?_ ?_
   |refine LeO.bind ?_ (fun _=> ?_)
theorem timecut_From.mono: ∀ a0 a1 a2 a3 a4 k,LeO (timecut_From.f k a0 a1 a2 a3 a4) (timecut_From.f (k+1) a0 a1 a2 a3 a4):=by
 intro a0 a1 a2 a3 a4 k;obtain⟨ih0,ih1⟩:=timecut_From.mono_l k;unfold timecut_From.f;repeat' first
   |(with_reducible exact ih0 _ _ _ _)
   |(with_reducible exact ih1 _ _ _ _ _ _ _ _)
   |(with_reducible exact netfmt_Check.mono _ _ _ _)
   |(with_reducible exact LeO.refl _)
   |(with_reducible exact LeO.none _)
   |(with_reducible refine LeO.ite ?_ ?_)
   |(with_reducible refine LeO.bind ?_ (fun _=> ?_))
   |refine LeO.ite ?_ ?_
   |refine LeO.bind ?_ (fun _=> ?_)
set_option maxHeartbeats 8000000 in
set_option maxRecDepth 100000 in
theorem timecut_From.calls (k:Nat) (Zb:Int) (Zg:Bool) (Zp:Option Addr) (Zn:Nat) (Za:List (S73)) (a1:Int) (A2:Option Addr) (c2:Nat) (l2:List Int) (r1:List (S53)) (r2:Int) (w:World) (Wi:Kd.C k73 w Zp Za.length Za) (Wj:Za.length≤Zn) (hr2:Kd.C (Kd.int .i64) w A2 l2.length l2) (hc2:l2.length≤c2) (h:timecut_From.f k Zb Zg Za a1 l2=some (r1,r2)):
  Calls Try.prog 18 #[.agg #[.int .i64 Zb, .bool Zg, .slice Zp Za.length Zn], .int .i64 a1, .slice A2 l2.length c2] w fun e w'=> ∃ v0_:Value,e= .returned (.tuple #[v0_, .int .i64 r2])∧Kd.R k53 53 w' w.heap.size (fun _=>True) v0_ r1∧Below w.heap.size w w':=by
 have hu32:=Try.underlying32;have hu53:=Try.underlying53;have Wl:=Ya Wi;have Ws:=Ya Wj;clear Wi Wj;have HR2:=Ya hr2;have HC2:=Ya hc2;clear hr2 hc2;have HB:=Ya (Yk w.heap.size w);have H:=h;unfold timecut_From.f at H;clear h;replace H:=Option.bind_eq_some_iff.mp H;obtain⟨t118,A40,H⟩:=H;try dsimp only at H
 have A4:=Ya A40;clear A40;by_cases c5:t118=0
 rotate_left
 ·rw[Yr c5] at H
  have c5b0:(t118 == 0)=false:=beq_eq_false_iff_ne.mpr c5;have c5b1:(t118 != 0)=true:=bne_iff_ne.mpr c5;simp only[Option.some.injEq,Prod.mk.injEq] at H;obtain⟨rfl,rfl⟩:=H;go_enter Try.func18,Try.ntmps18;go_wp2_with (first|(refine bx 3 32 #[.int .i64 Zb, .bool Zg, .slice Zp Za.length Zn] ?_;intro Wg hg w29 Zv hb;have Zr:=Ya (Zv);have GW117:=Ya ((sz hg));have GE117:=Ya ((sz hg));replace HB:=Ya (Yg bl hb);clear hb Zv hg;have hcz30_0:w29.cell? ⟨Wg,0,none⟩=some (.int .i64 Zb):=bc Zr 0;have hcz30_1:w29.cell? ⟨Wg,1,none⟩=some (.bool Zg):=bc Zr 1;have hcz30_2:w29.cell? ⟨Wg,2,none⟩=some (.slice Zp Za.length Zn):=bc Zr 2;have hfz30_0:=Yc Zr.out 0;have hfz30_1:=Yc Zr.out 1;have hfz30_2:=Yc Zr.out 2)|((with_reducible refine gate_callee (f:=33) rfl ?_);refine gl (some 15) Try.func33 #[.agg #[.int .i64 Zb, .bool Zg, .slice Zp Za.length Zn]] ?_;(with_reducible refine(netfmt_Check.calls k Zb Zg _ _ Za t118 _ ?side1 ?side2 A4.out).mono ?_);(case side1=>exact kC (Yn Wl.out HB.out));(case side2=>exact Ws.out);rintro e w31 ⟨rfl,hb⟩;refine⟨_,rfl,?_⟩;replace Zr:=Ya (Yj (bk Zr) hb);replace HB:=Ya (Yg bl hb);(try clear hb)));go_ret2;exact⟨_,by first|rfl|(simp[errW_none,errW_some]<;>rfl)|(simp[*,errW_none,errW_some]<;>rfl),by first|exact Kd.R_nil _ _ _ _ _|exact Kd.N_nil _ _ _ _ _|exact Kd.V_nil _ _ _ _ _|exact Kd.Q_nil _ _ _ _ _|exact Kd.S_nil _ _ _ _ _,HB.out⟩
 rw[Yq c5] at H;have c5b0:(t118 == 0)=true:=beq_iff_eq.mpr c5;have c5b1:(t118 != 0)=false:=bne_eq_false_iff_eq.mpr c5;clear c5;replace H:=Option.bind_eq_some_iff.mp H;obtain⟨t119,A60,H⟩:=H;try dsimp only at H
 have A6:=Ya A60;clear A60;by_cases c7:t119=0
 rotate_left
 ·rw[Yr c7] at H
  have c7b0:(t119 == 0)=false:=beq_eq_false_iff_ne.mpr c7;have c7b1:(t119 != 0)=true:=bne_iff_ne.mpr c7;simp only[Option.some.injEq,Prod.mk.injEq] at H;obtain⟨rfl,rfl⟩:=H;go_enter Try.func18,Try.ntmps18;go_wp2_with (first|(refine bx 3 32 #[.int .i64 Zb, .bool Zg, .slice Zp Za.length Zn] ?_;intro Wg hg w26 Zv hb;have Zr:=Ya (Zv);have GW117:=Ya ((sz hg));have GE117:=Ya ((sz hg));replace HB:=Ya (Yg bl hb);clear hb Zv hg;have hcz27_0:w26.cell? ⟨Wg,0,none⟩=some (.int .i64 Zb):=bc Zr 0;have hcz27_1:w26.cell? ⟨Wg,1,none⟩=some (.bool Zg):=bc Zr 1;have hcz27_2:w26.cell? ⟨Wg,2,none⟩=some (.slice Zp Za.length Zn):=bc Zr 2;have hfz27_0:=Yc Zr.out 0;have hfz27_1:=Yc Zr.out 1;have hfz27_2:=Yc Zr.out 2)|((with_reducible refine gate_callee (f:=33) rfl ?_);refine gl (some 15) Try.func33 #[.agg #[.int .i64 Zb, .bool Zg, .slice Zp Za.length Zn]] ?_;(with_reducible refine(netfmt_Check.calls k Zb Zg _ _ Za t118 _ ?side1 ?side2 A4.out).mono ?_);(case side1=>exact kC (Yn Wl.out HB.out));(case side2=>exact Ws.out);rintro e w28 ⟨rfl,hb⟩;refine⟨_,rfl,?_⟩;replace Zr:=Ya (Yj (bk Zr) hb);replace HB:=Ya (Yg bl hb);(try clear hb))|((with_reducible refine gate_callee (f:=34) rfl ?_);refine gl (some 20) Try.func34 #[.int .i64 a1] ?_;(with_reducible refine(span_Horizon.calls a1 t119 _ A6.out).mono ?_);rintro e w' ⟨rfl,⟨nd,rfl⟩⟩;refine⟨_,rfl,?_⟩));go_ret2;exact⟨_,by first|rfl|(simp[errW_none,errW_some]<;>rfl)|(simp[*,errW_none,errW_some]<;>rfl),by first|exact Kd.R_nil _ _ _ _ _|exact Kd.N_nil _ _ _ _ _|exact Kd.V_nil _ _ _ _ _|exact Kd.Q_nil _ _ _ _ _|exact Kd.S_nil _ _ _ _ _,bl⟩
 rw[Yq c7] at H;have c7b0:(t119 == 0)=true:=beq_iff_eq.mpr c7;have c7b1:(t119 != 0)=false:=bne_eq_false_iff_eq.mpr c7;clear c7;by_cases c8:(l2.length:Int)=Zb
 rotate_left
 ·rw[Yr c8] at H
  have c8b0:((l2.length:Int) == Zb)=false:=beq_eq_false_iff_ne.mpr c8;have c8b1:((l2.length:Int) != Zb)=true:=bne_iff_ne.mpr c8;simp only[Option.some.injEq,Prod.mk.injEq] at H;obtain⟨rfl,rfl⟩:=H;go_enter Try.func18,Try.ntmps18;go_wp2_with (first|(refine bx 3 32 #[.int .i64 Zb, .bool Zg, .slice Zp Za.length Zn] ?_;intro Wg hg w22 Zv hb;have Zr:=Ya (Zv);have GW117:=Ya ((sz hg));have GE117:=Ya ((sz hg));replace HB:=Ya (Yg bl hb);clear hb Zv hg;have hcz23_0:w22.cell? ⟨Wg,0,none⟩=some (.int .i64 Zb):=bc Zr 0;have hcz23_1:w22.cell? ⟨Wg,1,none⟩=some (.bool Zg):=bc Zr 1;have hcz23_2:w22.cell? ⟨Wg,2,none⟩=some (.slice Zp Za.length Zn):=bc Zr 2;have hfz23_0:=Yc Zr.out 0;have hfz23_1:=Yc Zr.out 1;have hfz23_2:=Yc Zr.out 2)|((with_reducible refine gate_callee (f:=33) rfl ?_);refine gl (some 15) Try.func33 #[.agg #[.int .i64 Zb, .bool Zg, .slice Zp Za.length Zn]] ?_;(with_reducible refine(netfmt_Check.calls k Zb Zg _ _ Za t118 _ ?side1 ?side2 A4.out).mono ?_);(case side1=>exact kC (Yn Wl.out HB.out));(case side2=>exact Ws.out);rintro e w24 ⟨rfl,hb⟩;refine⟨_,rfl,?_⟩;replace Zr:=Ya (Yj (bk Zr) hb);replace HB:=Ya (Yg bl hb);(try clear hb))|((with_reducible refine gate_callee (f:=34) rfl ?_);refine gl (some 20) Try.func34 #[.int .i64 a1] ?_;(with_reducible refine(span_Horizon.calls a1 t119 _ A6.out).mono ?_);rintro e w' ⟨rfl,⟨nd,rfl⟩⟩;refine⟨_,rfl,?_⟩;have Uu:w24.cell? ⟨Wg,0,none⟩=some (.int .i64 Zb):=bc Zr 0;have Uv:w24.cell? ⟨Wg,1,none⟩=some (.bool Zg):=bc Zr 1;have Uw:w24.cell? ⟨Wg,2,none⟩=some (.slice Zp Za.length Zn):=bc Zr 2;have Ux:=Yc Zr.out 0;have Uy:=Yc Zr.out 1;have Uz:=Yc Zr.out 2));go_ret2;exact⟨_,by first|rfl|(simp[errW_none,errW_some]<;>rfl)|(simp[*,errW_none,errW_some]<;>rfl),by first|exact Kd.R_nil _ _ _ _ _|exact Kd.N_nil _ _ _ _ _|exact Kd.V_nil _ _ _ _ _|exact Kd.Q_nil _ _ _ _ _|exact Kd.S_nil _ _ _ _ _,bl⟩
 rw[Yq c8] at H;have c8b0:((l2.length:Int) == Zb)=true:=beq_iff_eq.mpr c8;have c8b1:((l2.length:Int) != Zb)=false:=bne_eq_false_iff_eq.mpr c8;clear c8;obtain⟨y120,hy120⟩: ∃ y_:List (S53),y_=(([]:List (S53))):=⟨_,rfl⟩;rw[← hy120] at H;have Ny120:=Ya hy120;clear hy120;have H':=Ya H;clear H;go_enter Try.func18,Try.ntmps18;go_wp2_with (first|(refine bx 3 32 #[.int .i64 Zb, .bool Zg, .slice Zp Za.length Zn] ?_;intro Wg hg w9 Zv hb;have Zr:=Ya (Zv);have GW117:=Ya ((sz hg));have GE117:=Ya ((sz hg));replace HB:=Ya (Yg bl hb);clear hb Zv hg;have Vv:w9.cell? ⟨Wg,0,none⟩=some (.int .i64 Zb):=bc Zr 0;have Vw:w9.cell? ⟨Wg,1,none⟩=some (.bool Zg):=bc Zr 1;have Vx:w9.cell? ⟨Wg,2,none⟩=some (.slice Zp Za.length Zn):=bc Zr 2;have Vy:=Yc Zr.out 0;have Vz:=Yc Zr.out 1;have Ua:=Yc Zr.out 2)|((with_reducible refine gate_callee (f:=33) rfl ?_);refine gl (some 15) Try.func33 #[.agg #[.int .i64 Zb, .bool Zg, .slice Zp Za.length Zn]] ?_;(with_reducible refine(netfmt_Check.calls k Zb Zg _ _ Za t118 _ ?side1 ?side2 A4.out).mono ?_);(case side1=>exact kC (Yn Wl.out HB.out));(case side2=>exact Ws.out);rintro e w11 ⟨rfl,hb⟩;refine⟨_,rfl,?_⟩;replace Zr:=Ya (Yj (bk Zr) hb);replace HB:=Ya (Yg bl hb);(try clear hb))|((with_reducible refine gate_callee (f:=34) rfl ?_);refine gl (some 20) Try.func34 #[.int .i64 a1] ?_;(with_reducible refine(span_Horizon.calls a1 t119 _ A6.out).mono ?_);rintro e w' ⟨rfl,⟨nd,rfl⟩⟩;refine⟨_,rfl,?_⟩;have Jo:w11.cell? ⟨Wg,0,none⟩=some (.int .i64 Zb):=bc Zr 0;have Jp:w11.cell? ⟨Wg,1,none⟩=some (.bool Zg):=bc Zr 1;have Jq:w11.cell? ⟨Wg,2,none⟩=some (.slice Zp Za.length Zn):=bc Zr 2;have Jr:=Yc Zr.out 0;have Js:=Yc Zr.out 1;have Jt:=Yc Zr.out 2)|((with_reducible refine gate_dst (N:=29) rfl ?_);refine Kd.R_lit k53 _ 53 ?hg (N:=29) ?hd (xs:=([]:List (S53))) (inner:=[]) (ok:=fun _=>True) (okp:=fun _=>True) ?hr ?hp (fun _ hk=>hk) trivial (Yk _ _) (Nat.le_refl _) (by simp) ?_;(case hd=>rfl);(case hg=>rfl);(case hr=>first|(go_simp;done)|(go_simp;rfl));(case hp=>exact(Reps.none _ _));intro v121 w13 ho14 hb hg_ hnew_;clear hg_ hnew_;(first|rw[← Ny120.out] at ho14|(simp only[Int.reduceToNat] at ho14;rw[← Ny120.out] at ho14));have HO122:=Ya (Kd.R_lower ho14 (Ye bl));replace Zr:=Ya (Yj (bk Zr) hb);replace HB:=Ya (Yg bl hb);clear hb ho14));go_loopg [10,32] k (fun kq v10 v32 w'=> ∃ (x10_1:List (S53)) (Vc:Int),v32= .int .i64 Vc∧Aside0 (timecut_From.l0 kq l2 x10_1 (wrap64 (a1+1)) Vc=some (r1,r2))∧Aside0 (kq≤k)∧Aside0 (Kd.R k53 53 w' w.heap.size (fun _=>True) v10 x10_1)∧Aside0 (w'.heap[Wg]? =some (.cells #[.int .i64 Zb, .bool Zg,(.slice Zp Za.length Zn)] 32 (0,0)))∧Aside0 (Below w.heap.size w w'))
 case atStart=>exact⟨(y120),(0),(by first|rfl|(simp;done)|(simp[*];done)),H',⟨Nat.le_refl _⟩,⟨HO122.out⟩,⟨Zr.out⟩,⟨HB.out⟩⟩
 case round=>
  clear H';try clear c2
  try clear c5
  try clear c5b0
  try clear c5b1
  try clear c7
  try clear c7b0
  try clear c7b1
  try clear c8
  try clear c8b0
  try clear c8b1
  try clear Vv
  try clear Vw
  try clear Vx
  try clear Jo
  try clear Jp
  try clear Jq
  try clear Vy
  try clear Vz
  try clear Ua
  try clear Jr
  try clear Js
  try clear Jt
  obtain⟨x10_1,Vc,rfl,HA,HK1,HO_10,Zr,HB⟩:=hrel;cases gk with
  |zero=>exact absurd HA.out (by simp[timecut_From.l0])
  |succ k1=>
   have H:=HA.out;clear HA;simp only[timecut_From.l0] at H;by_cases c15:Vc<(wrap64 (a1+1))
   rotate_left
   ·rw[Yr c15] at H
    have c15b0:decide (Vc<(wrap64 (a1+1)))=false:=Yp c15;clear c15;simp only[Option.some.injEq,Prod.mk.injEq] at H;obtain⟨rfl,rfl⟩:=H;go_wp2;go_ret2;exact⟨_,by first|rfl|(simp[errW_none,errW_some]<;>rfl)|(simp[*,errW_none,errW_some]<;>rfl),by(with_reducible repeat(first|apply Kd.R_alloc|apply Kd.R_drewN|apply Yl));exact HO_10.out,HB.out⟩
   rw[Yq c15] at H;have c15b0:decide (Vc<(wrap64 (a1+1)))=true:=Yo c15;clear c15;have H':=Ya H;clear H;go_wp2;go_loopg [10,37] k1 (fun kq v10 v37 w'=> ∃ (Ut:List (S53)) (Wa:Int),v37= .int .i64 Wa∧Aside0 (timecut_From.l1 kq l2 Ut Vc (wrap64 (a1+1)) Vc l2 (l2.length:Int) Wa=some (r1,r2))∧Aside0 (kq≤k1)∧Aside0 (Kd.R k53 53 w' w.heap.size (fun _=>True) v10 Ut)∧Aside0 (w'.heap[Wg]? =some (.cells #[.int .i64 Zb, .bool Zg,(.slice Zp Za.length Zn)] 32 (0,0)))∧Aside0 (Below w.heap.size w w'))
   case atStart=>exact⟨(x10_1),(0),(by first|rfl|(simp;done)|(simp[*];done)),H',⟨Nat.le_refl _⟩,⟨HO_10.out⟩,⟨Zr.out⟩,⟨HB.out⟩⟩
   case round=>
    clear H';try clear c2
    try clear c5
    try clear c5b0
    try clear c5b1
    try clear c7
    try clear c7b0
    try clear c7b1
    try clear c8
    try clear c8b0
    try clear c8b1
    try clear c15
    try clear c15b0
    try clear Vv
    try clear Vw
    try clear Vx
    try clear Jo
    try clear Jp
    try clear Jq
    try clear Vy
    try clear Vz
    try clear Ua
    try clear Jr
    try clear Js
    try clear Jt
    obtain⟨Ut,Wa,rfl,HA,HK2,HO_10,Zr,HB⟩:=hrel;cases gk with
    |zero=>exact absurd HA.out (by simp[timecut_From.l1])
    |succ k2=>
     have H:=HA.out;clear HA;simp only[timecut_From.l1] at H;by_cases c16:Wa<(l2.length:Int)
     rotate_left
     ·rw[Yr c16] at H
      have c16b0:decide (Wa<(l2.length:Int))=false:=Yp c16;clear c16;have H':=Ya H;clear H;go_wp2;go_roundg k2
      case measure=>have:=HK1.out;have:=HK2.out;omega
      case rel=>exact⟨(Ut),(wrap64 (Vc+1)),(by first|rfl|(simp;done)|(simp[*];done)),H',⟨by have:=HK1.out;have:=HK2.out;omega⟩,⟨HO_10.out⟩,⟨Zr.out⟩,⟨HB.out⟩⟩
     rw[Yq c16] at H;have c16b0:decide (Wa<(l2.length:Int))=true:=Yo c16;clear c16;by_cases c17:0≤Wa
     rotate_left
     ·rw[Yr c17] at H
      exact absurd H (by simp)
     rw[Yq c17] at H;have c17b0:decide (0≤Wa)=true:=Yo c17;clear c17;by_cases c18:Wa<(l2.length:Int)
     rotate_left
     ·rw[Yr c18] at H
      exact absurd H (by simp)
     rw[Yq c18] at H;have c18b0:decide (Wa<(l2.length:Int))=true:=Yo c18;clear c18;by_cases c19:(rd l2 Wa)≤Vc
     rotate_left
     ·rw[Yr c19] at H
      have c19b0:decide ((rd l2 Wa)≤Vc)=false:=Yp c19;clear c19;have H':=Ya H;clear H;have p123:0≤(Wa:Int):=od;have q123:Wa<(l2.length:Int):=od;obtain⟨ad123,e123,Uj⟩:=Kd.at_int HR2.out Wa p123 q123;cases e123;replace Uj:=hc HB Uj;replace p123:=eq_true p123;replace q123:=eq_true q123;go_wp2;go_roundg k2
      case measure=>have:=HK1.out;have:=HK2.out;omega
      case rel=>exact⟨(Ut),(wrap64 (Wa+1)),(by first|rfl|(simp;done)|(simp[*];done)),H',⟨by have:=HK1.out;have:=HK2.out;omega⟩,⟨HO_10.out⟩,⟨Zr.out⟩,⟨HB.out⟩⟩
     rw[Yq c19] at H;have c19b0:decide ((rd l2 Wa)≤Vc)=true:=Yo c19;clear c19;by_cases c20:Ut.length<8796093022208
     rotate_left
     ·rw[Yr c20] at H
      exact absurd H (by simp)
     rw[Yq c20] at H;have LMc20:=Ya c20;clear c20;obtain⟨y124,hy124⟩: ∃ y_:List (S53),y_=(Ut ++ [(⟨Wa,Vc⟩:S53)]):=⟨_,rfl⟩;rw[← hy124] at H;have Ny124:=Ya hy124;clear hy124;have H':=Ya H;clear H;have p123:0≤(Wa:Int):=od;have q123:Wa<(l2.length:Int):=od;obtain⟨ad123,e123,Uj⟩:=Kd.at_int HR2.out Wa p123 q123;cases e123;replace Uj:=hc HB Uj;replace p123:=eq_true p123;replace q123:=eq_true q123;go_wp2_with (first|((with_reducible refine gate_builtin (b:= .append) (xs:= #[.tmp 45, .tmp 49]) rfl ?_);at_builtin;refine Kd.R_append k53 (w0:=w) w.heap.size rfl (.tmp 45) (.tmp 49) 40 53 (.agg #[(.int .i64 0),(.int .i64 0)]) 16 rfl Try.underlying40 info53 rfl (by decide) (by omega) u10 Ut (⟨Wa,Vc⟩:S53) [.int .i64 Wa, .int .i64 Vc] (fun _=>True) (fun _=>False) rfl rfl ?aP (fun _ hk=>hk.elim) ?aF ?aO ?aB ?aS ?aL ?_;(case aP=>exact k53_mkM _ _ _ (⟨Wa,Vc⟩:S53));(case aB=>exact bl);(case aF=>exact(fun _ _=>trivial));(case aO=>exact(kR HO_10));(case aS=>exact(Ye bl));(case aL=>have:=LMc20.out;omega);intro v125 w21 ho hb hg hat;rw[← Ny124.out] at ho;replace Zr:=Ya (blk_grown (bk Zr) hg (Kd.R_ne HO_10.out Zr.out (by decide)));replace HB:=Ya (hb);have HO126:=Ya (ho);clear HO_10;clear ho hb hg hat));go_roundg k2
     case measure=>have:=HK1.out;have:=HK2.out;omega
     case rel=>exact⟨(y124),(wrap64 (Wa+1)),(by first|rfl|(simp;done)|(simp[*];done)),H',⟨by have:=HK1.out;have:=HK2.out;omega⟩,⟨HO126.out⟩,⟨Zr.out⟩,⟨HB.out⟩⟩
end P
namespace P
attribute [local go_sem] max2_int min2_int max_two min_two max_three min_three max_four min_four
theorem eqA53 (d:Nat) (w:World) (x0 y0:Int) (x1 y1:Int):
  (Op.equalIn (d+2) 53 (.agg #[.int .i64 x0, .int .i64 x1]) (.agg #[.int .i64 y0, .int .i64 y1])).run Try.prog w= .ok (x0 == y0 && (x1 == y1)) w:=by
 refine eqA_of Try.underlying53 (by kernel_rfl) ?_;refine eqf_cons (by rfl) (by go_simp;rfl) (by go_simp;rfl) (by go_simp) ?_;exact eqf_last (by rfl) (by go_simp;rfl) (by go_simp;rfl) (by go_simp)
end P
namespace P
attribute [local go_sem] max2_int min2_int max_two min_two max_three min_three max_four min_four
attribute [local go_sem high] eqA53
def ebbtideref03_SameSlots.l0:Nat→List (S53)→List (S53)→Int→Option (Bool)
 |0,_,_,_=>none
 |k+1,x0,x1,x5=>if x5<(x0.length:Int) then(if 0≤x5 then(if x5<(x1.length:Int) then(if (!(((rd_T53 x0 x5).f0) == ((rd_T53 x1 x5).f0)) || (!(((rd_T53 x0 x5).f1) == ((rd_T53 x1 x5).f1))))=true then(some false) else(ebbtideref03_SameSlots.l0 k x0 x1 (wrap64 (x5+1)))) else(none)) else(none)) else(some true)
def ebbtideref03_SameSlots.f (k:Nat) (l0:List (S53)) (l1:List (S53)):Option (Bool):=if (l0.length:Int)=(l1.length:Int) then(ebbtideref03_SameSlots.l0 k l0 l1 0) else(some false)
theorem ebbtideref03_SameSlots.mono_l: ∀ k,(∀ y0 y1 y2,LeO (ebbtideref03_SameSlots.l0 k y0 y1 y2) (ebbtideref03_SameSlots.l0 (k+1) y0 y1 y2))
 |0=>fun _ _ _ r h=>by simp[ebbtideref03_SameSlots.l0] at h
 |k+1=>by
  have ih0:=ebbtideref03_SameSlots.mono_l k
  ·intro y0 y1 y2
   unfold ebbtideref03_SameSlots.l0;repeat' first
   |(with_reducible exact ih0 _ _ _)
   |(with_reducible exact LeO.refl _)
   |(with_reducible exact LeO.none _)
   |(with_reducible refine LeO.ite ?_ ?_)
   |(with_reducible refine LeO.bind ?_ (fun _=> ?_))
   |refine LeO.ite ?_ ?_
   |refine LeO.bind ?_ (fun _=> ?_)
theorem ebbtideref03_SameSlots.mono: ∀ a0 a1 k,LeO (ebbtideref03_SameSlots.f k a0 a1) (ebbtideref03_SameSlots.f (k+1) a0 a1):=by
 intro a0 a1 k;have ih0:=ebbtideref03_SameSlots.mono_l k;unfold ebbtideref03_SameSlots.f;repeat' first
   |(with_reducible exact ih0 _ _ _)
   |(with_reducible exact LeO.refl _)
   |(with_reducible exact LeO.none _)
   |(with_reducible refine LeO.ite ?_ ?_)
   |(with_reducible refine LeO.bind ?_ (fun _=> ?_))
   |refine LeO.ite ?_ ?_
   |refine LeO.bind ?_ (fun _=> ?_)
set_option maxHeartbeats 8000000 in
set_option maxRecDepth 100000 in
theorem ebbtideref03_SameSlots.calls (k:Nat) (A0:Option Addr) (c0:Nat) (l0:List (S53)) (A1:Option Addr) (c1:Nat) (l1:List (S53)) (r:Bool) (w:World) (hr0:Kd.C k53 w A0 l0.length l0) (hc0:l0.length≤c0) (hr1:Kd.C k53 w A1 l1.length l1) (hc1:l1.length≤c1) (h:ebbtideref03_SameSlots.f k l0 l1=some r):
  Calls Try.prog 19 #[.slice A0 l0.length c0, .slice A1 l1.length c1] w fun e w'=>e= .returned (.bool r)∧Drawn0 w w':=by
 have hu53:=Try.underlying53;have HR0:=Ya hr0;have HC0:=Ya hc0;clear hr0 hc0;have HR1:=Ya hr1;have HC1:=Ya hc1;clear hr1 hc1;have H:=h;unfold ebbtideref03_SameSlots.f at H;clear h;by_cases c3:(l0.length:Int)=(l1.length:Int)
 rotate_left
 ·rw[Yr c3] at H
  have c3b0:((l0.length:Int) == (l1.length:Int))=false:=beq_eq_false_iff_ne.mpr c3;have c3b1:((l0.length:Int) != (l1.length:Int))=true:=bne_iff_ne.mpr c3;have c3b2:(l0.length == l1.length)=false:=by first|simpa using c3|(simp at c3 ⊢;omega)
  obtain rfl:=Option.some.inj H;go_enter Try.func19,Try.ntmps19;go_wp2;repeat(go_quiet (fail);try go_wp2)
  go_ret;exact⟨by first|rfl|(simp;done)|(simp[*];done),by repeat(first|exact Drawn0.refl _|apply Drawn0.step)⟩
 rw[Yq c3] at H;have c3b0:((l0.length:Int) == (l1.length:Int))=true:=beq_iff_eq.mpr c3;have c3b1:((l0.length:Int) != (l1.length:Int))=false:=bne_eq_false_iff_eq.mpr c3;have c3b2:(l0.length == l1.length)=true:=by first|simpa using c3|(simp at c3 ⊢;omega)
 clear c3;have H':=Ya H;clear H;go_enter Try.func19,Try.ntmps19;go_wp2;repeat(go_quiet (fail);try go_wp2)
 go_loopg [5] k (fun kq v5 w'=> ∃ (Xk:Int),v5= .int .i64 Xk∧Aside0 (ebbtideref03_SameSlots.l0 kq l0 l1 Xk=some r)∧Aside0 (kq≤k)∧Drawn0 w w')
 case atStart=>exact⟨(0),(by first|rfl|(simp;done)|(simp[*];done)),H',⟨Nat.le_refl _⟩,by repeat(first|exact Drawn0.refl _|apply Drawn0.step)⟩
 case round=>
  clear H';try clear c1
  try clear c3
  try clear c3b0
  try clear c3b1
  try clear c3b2
  obtain⟨Xk,rfl,HA,HK1,⟨m1,rfl⟩⟩:=hrel;cases gk with
  |zero=>exact absurd HA.out (by simp[ebbtideref03_SameSlots.l0])
  |succ k1=>
   have H:=HA.out;clear HA;simp only[ebbtideref03_SameSlots.l0] at H;by_cases c4:Xk<(l0.length:Int)
   rotate_left
   ·rw[Yr c4] at H
    have c4b0:decide (Xk<(l0.length:Int))=false:=Yp c4;clear c4;obtain rfl:=Option.some.inj H;go_wp2;repeat(go_quiet (fail);try go_wp2)
    go_ret;exact⟨by first|rfl|(simp;done)|(simp[*];done),by repeat(first|exact Drawn0.refl _|apply Drawn0.step)⟩
   rw[Yq c4] at H;have c4b0:decide (Xk<(l0.length:Int))=true:=Yo c4;clear c4;by_cases c5:0≤Xk
   rotate_left
   ·rw[Yr c5] at H
    exact absurd H (by simp)
   rw[Yq c5] at H;have c5b0:decide (0≤Xk)=true:=Yo c5;clear c5;by_cases c6:Xk<(l1.length:Int)
   rotate_left
   ·rw[Yr c6] at H
    exact absurd H (by simp)
   rw[Yq c6] at H;have c6b0:decide (Xk<(l1.length:Int))=true:=Yo c6;clear c6;by_cases c7:(!(((rd_T53 l0 Xk).f0) == ((rd_T53 l1 Xk).f0)) || (!(((rd_T53 l0 Xk).f1) == ((rd_T53 l1 Xk).f1))))=true
   ·rw[Yq c7] at H
    have c7b0:(!(((rd_T53 l0 Xk).f0) == ((rd_T53 l1 Xk).f0)) || (!(((rd_T53 l0 Xk).f1) == ((rd_T53 l1 Xk).f1))))=true:=c7;clear c7;obtain rfl:=Option.some.inj H;have p127:0≤(Xk:Int):=od;have q127:Xk<(l0.length:Int):=od;obtain⟨ad127,e127,hx127_0,hx127_1⟩:=at_T53 HR0.out Xk p127 q127;cases e127;replace p127:=eq_true p127;replace q127:=eq_true q127;have p128:0≤(Xk:Int):=od;have q128:Xk<(l1.length:Int):=od;obtain⟨ad128,e128,hx128_0,hx128_1⟩:=at_T53 HR1.out Xk p128 q128;cases e128;replace p128:=eq_true p128;replace q128:=eq_true q128;go_wp2;repeat(go_quiet (fail);try go_wp2)
    go_ret;exact⟨by first|rfl|(simp;done)|(simp[*];done),by repeat(first|exact Drawn0.refl _|apply Drawn0.step)⟩
   rw[Yr c7] at H;have c7b0:(!(((rd_T53 l0 Xk).f0) == ((rd_T53 l1 Xk).f0)) || (!(((rd_T53 l0 Xk).f1) == ((rd_T53 l1 Xk).f1))))=false:=by simpa using c7
   clear c7;have H':=Ya H;clear H;have p127:0≤(Xk:Int):=od;have q127:Xk<(l0.length:Int):=od;obtain⟨ad127,e127,hx127_0,hx127_1⟩:=at_T53 HR0.out Xk p127 q127;cases e127;replace p127:=eq_true p127;replace q127:=eq_true q127;have p128:0≤(Xk:Int):=od;have q128:Xk<(l1.length:Int):=od;obtain⟨ad128,e128,hx128_0,hx128_1⟩:=at_T53 HR1.out Xk p128 q128;cases e128;replace p128:=eq_true p128;replace q128:=eq_true q128;go_wp2;repeat(go_quiet (fail);try go_wp2)
   go_roundg k1
   case measure=>have:=HK1.out;omega
   case rel=>exact⟨(wrap64 (Xk+1)),(by first|rfl|(simp;done)|(simp[*];done)),H',⟨by have:=HK1.out;omega⟩,by repeat(first|exact Drawn0.refl _|apply Drawn0.step)⟩
end P
namespace P
attribute [local go_sem] max2_int min2_int max_two min_two max_three min_three max_four min_four
def ebbtidelaw18_awake.f (k:Nat)  :Option (Bool):=(some (([(⟨0,0⟩:S53),(⟨0,1⟩:S53),(⟨0,2⟩:S53)]:List (S53)):List (S53))).bind fun y129=>((ebbtidelaw14_Line.f true).bind fun bt132=>((timecut_Check.f bt132.1 bt132.2.1 bt132.2.2 0 2 2 y129).bind fun bt137=>((ebbtidelaw14_Line.f true).bind fun bt139=>((timecut_Check.f bt139.1 bt139.2.1 bt139.2.2 0 2 2 (([(⟨0,0⟩:S53),(⟨0,1⟩:S53),(⟨0,2⟩:S53),(⟨1,1⟩:S53),(⟨1,2⟩:S53)]:List (S53)))).bind fun bt147=>((ebbtidelaw14_Line.f true).bind fun bt149=>(if 2≤(y129.length:Int) then((timecut_Check.f bt149.1 bt149.2.1 bt149.2.2 0 2 2 (y129.take 2)).bind fun bt158=>((ebbtidelaw14_Line.f true).bind fun bt160=>((timecut_From.f k bt160.1 bt160.2.1 bt160.2.2 2 (([0,3,9]:List Int))).bind fun bt168=>(if bt137.2=0 then(if bt137.1=4 then(if bt147.2=0 then(if bt147.1=2 then(if bt158.2=181 then(if bt168.2=0 then((ebbtideref03_SameSlots.f k bt168.1 y129).bind fun t172=>(some t172)) else(some false)) else(some false)) else(some false)) else(some false)) else(some false)) else(some false))))) else(none)))))))
theorem ebbtidelaw18_awake.mono: ∀ k,LeO (ebbtidelaw18_awake.f k ) (ebbtidelaw18_awake.f (k+1) ):=by
 intro  k;unfold ebbtidelaw18_awake.f;repeat' first
   |(with_reducible exact ebbtideref03_SameSlots.mono _ _ _)
   |(with_reducible exact timecut_From.mono _ _ _ _ _ _)
   |(with_reducible exact LeO.refl _)
   |(with_reducible exact LeO.none _)
   |(with_reducible refine LeO.ite ?_ ?_)
   |(with_reducible refine LeO.bind ?_ (fun _=> ?_))
   |exact ebbtideref03_SameSlots.mono _ _ _
   |exact timecut_From.mono _ _ _ _ _ _
   |exact LeO.none _
   |refine LeO.ite ?_ ?_
   |refine LeO.bind ?_ (fun _=> ?_)
def ebbtidelaw18_awake.T4:Bool × List (List Nat × List Nat):=(true,[([],[]),([],[]),([1],[1]),([0,2,0],[0,2]),([3],[3]),([4],[4]),([4],[4]),([5,3,0,1,2,3,4,5],[5]),([6,7,0,1,2,3,4,5,6,7],[6])])
def ebbtidelaw18_awake.B4:List Nat:=[0,0,2,7,15,31,31,63,255]
theorem ebbtidelaw18_awake.tab4:rtab .any (opsOf Try.f7 4)=ebbtidelaw18_awake.T4:=by kernel_rfl
theorem ebbtidelaw18_awake.bits4:waitsOk ebbtidelaw18_awake.T4.2 ebbtidelaw18_awake.B4=true:=by kernel_rfl
set_option maxHeartbeats 8000000 in
set_option maxRecDepth 100000 in
theorem ebbtidelaw18_awake.calls (k:Nat)  (r:Bool) (w:World) (h:ebbtidelaw18_awake.f k  =some r) (hrT_:r=true:=by first|rfl|exact Aside0.out (by assumption)):
  Calls Try.prog 7 #[] w fun e w'=>e= .returned (.bool r)∧Below w.heap.size w w':=by
 have HRT:=Ya hrT_;clear hrT_;have hu53:=Try.underlying53;have HB:=Ya (Yk w.heap.size w);have H:=h;unfold ebbtidelaw18_awake.f at H;clear h;obtain⟨y129,hy129⟩: ∃ y_:List (S53),y_=(([(⟨0,0⟩:S53),(⟨0,1⟩:S53),(⟨0,2⟩:S53)]:List (S53))):=⟨_,rfl⟩;rw[Option.bind_some, ← hy129] at H;have Ny129:=Ya hy129;clear hy129;replace H:=Option.bind_eq_some_iff.mp H;obtain⟨⟨t132,t133,t134⟩,A10,H⟩:=H;replace H:((timecut_Check.f t132 t133 t134 0 2 2 y129).bind fun bt137=>((ebbtidelaw14_Line.f true).bind fun bt139=>((timecut_Check.f bt139.1 bt139.2.1 bt139.2.2 0 2 2 (([(⟨0,0⟩:S53),(⟨0,1⟩:S53),(⟨0,2⟩:S53),(⟨1,1⟩:S53),(⟨1,2⟩:S53)]:List (S53)))).bind fun bt147=>((ebbtidelaw14_Line.f true).bind fun bt149=>(if 2≤(y129.length:Int) then((timecut_Check.f bt149.1 bt149.2.1 bt149.2.2 0 2 2 (y129.take 2)).bind fun bt158=>((ebbtidelaw14_Line.f true).bind fun bt160=>((timecut_From.f k bt160.1 bt160.2.1 bt160.2.2 2 (([0,3,9]:List Int))).bind fun bt168=>(if bt137.2=0 then(if bt137.1=4 then(if bt147.2=0 then(if bt147.1=2 then(if bt158.2=181 then(if bt168.2=0 then((ebbtideref03_SameSlots.f k bt168.1 y129).bind fun t172=>(some t172)) else(some false)) else(some false)) else(some false)) else(some false)) else(some false)) else(some false))))) else(none))))))=some r:=H;have A1:=Ya A10;clear A10;replace H:=Option.bind_eq_some_iff.mp H;obtain⟨⟨t137,t138⟩,A20,H⟩:=H;replace H:((ebbtidelaw14_Line.f true).bind fun bt139=>((timecut_Check.f bt139.1 bt139.2.1 bt139.2.2 0 2 2 (([(⟨0,0⟩:S53),(⟨0,1⟩:S53),(⟨0,2⟩:S53),(⟨1,1⟩:S53),(⟨1,2⟩:S53)]:List (S53)))).bind fun bt147=>((ebbtidelaw14_Line.f true).bind fun bt149=>(if 2≤(y129.length:Int) then((timecut_Check.f bt149.1 bt149.2.1 bt149.2.2 0 2 2 (y129.take 2)).bind fun bt158=>((ebbtidelaw14_Line.f true).bind fun bt160=>((timecut_From.f k bt160.1 bt160.2.1 bt160.2.2 2 (([0,3,9]:List Int))).bind fun bt168=>(if t138=0 then(if t137=4 then(if bt147.2=0 then(if bt147.1=2 then(if bt158.2=181 then(if bt168.2=0 then((ebbtideref03_SameSlots.f k bt168.1 y129).bind fun t172=>(some t172)) else(some false)) else(some false)) else(some false)) else(some false)) else(some false)) else(some false))))) else(none)))))=some r:=H;have A2:=Ya A20;clear A20;replace H:=Option.bind_eq_some_iff.mp H;obtain⟨⟨t139,t140,t141⟩,A30,H⟩:=H;replace H:((timecut_Check.f t139 t140 t141 0 2 2 (([(⟨0,0⟩:S53),(⟨0,1⟩:S53),(⟨0,2⟩:S53),(⟨1,1⟩:S53),(⟨1,2⟩:S53)]:List (S53)))).bind fun bt147=>((ebbtidelaw14_Line.f true).bind fun bt149=>(if 2≤(y129.length:Int) then((timecut_Check.f bt149.1 bt149.2.1 bt149.2.2 0 2 2 (y129.take 2)).bind fun bt158=>((ebbtidelaw14_Line.f true).bind fun bt160=>((timecut_From.f k bt160.1 bt160.2.1 bt160.2.2 2 (([0,3,9]:List Int))).bind fun bt168=>(if t138=0 then(if t137=4 then(if bt147.2=0 then(if bt147.1=2 then(if bt158.2=181 then(if bt168.2=0 then((ebbtideref03_SameSlots.f k bt168.1 y129).bind fun t172=>(some t172)) else(some false)) else(some false)) else(some false)) else(some false)) else(some false)) else(some false))))) else(none))))=some r:=H;have A3:=Ya A30;clear A30;obtain⟨y144,hy144⟩: ∃ y_:List (S53),y_=(([(⟨0,0⟩:S53),(⟨0,1⟩:S53),(⟨0,2⟩:S53),(⟨1,1⟩:S53),(⟨1,2⟩:S53)]:List (S53))):=⟨_,rfl⟩;replace H:((timecut_Check.f t139 t140 t141 0 2 2 y144).bind fun bt147=>((ebbtidelaw14_Line.f true).bind fun bt149=>(if 2≤(y129.length:Int) then((timecut_Check.f bt149.1 bt149.2.1 bt149.2.2 0 2 2 (y129.take 2)).bind fun bt158=>((ebbtidelaw14_Line.f true).bind fun bt160=>((timecut_From.f k bt160.1 bt160.2.1 bt160.2.2 2 (([0,3,9]:List Int))).bind fun bt168=>(if t138=0 then(if t137=4 then(if bt147.2=0 then(if bt147.1=2 then(if bt158.2=181 then(if bt168.2=0 then((ebbtideref03_SameSlots.f k bt168.1 y129).bind fun t172=>(some t172)) else(some false)) else(some false)) else(some false)) else(some false)) else(some false)) else(some false))))) else(none))))=some r:=by first|(rw[hy144];with_reducible exact H)|(have H2_:=(Option.bind_some _ _).symm.trans H;rw[hy144];with_reducible exact H2_)|(have H2_:=(Option.bind_some _ _).symm.trans H;with_reducible exact H2_)|with_reducible exact H|(rw[hy144];exact H)|exact H
 have Ny144:=Ya hy144;clear hy144;replace H:=Option.bind_eq_some_iff.mp H;obtain⟨⟨t147,t148⟩,A40,H⟩:=H;replace H:((ebbtidelaw14_Line.f true).bind fun bt149=>(if 2≤(y129.length:Int) then((timecut_Check.f bt149.1 bt149.2.1 bt149.2.2 0 2 2 (y129.take 2)).bind fun bt158=>((ebbtidelaw14_Line.f true).bind fun bt160=>((timecut_From.f k bt160.1 bt160.2.1 bt160.2.2 2 (([0,3,9]:List Int))).bind fun bt168=>(if t138=0 then(if t137=4 then(if t148=0 then(if t147=2 then(if bt158.2=181 then(if bt168.2=0 then((ebbtideref03_SameSlots.f k bt168.1 y129).bind fun t172=>(some t172)) else(some false)) else(some false)) else(some false)) else(some false)) else(some false)) else(some false))))) else(none)))=some r:=H;have A4:=Ya A40;clear A40;replace H:=Option.bind_eq_some_iff.mp H;obtain⟨⟨t149,t150,t151⟩,A50,H⟩:=H;replace H:(if 2≤(y129.length:Int) then((timecut_Check.f t149 t150 t151 0 2 2 (y129.take 2)).bind fun bt158=>((ebbtidelaw14_Line.f true).bind fun bt160=>((timecut_From.f k bt160.1 bt160.2.1 bt160.2.2 2 (([0,3,9]:List Int))).bind fun bt168=>(if t138=0 then(if t137=4 then(if t148=0 then(if t147=2 then(if bt158.2=181 then(if bt168.2=0 then((ebbtideref03_SameSlots.f k bt168.1 y129).bind fun t172=>(some t172)) else(some false)) else(some false)) else(some false)) else(some false)) else(some false)) else(some false))))) else(none))=some r:=H;have A5:=Ya A50;clear A50;by_cases c6:2≤(y129.length:Int)
 rotate_left
 ·rw[Yr c6] at H
  exact absurd H (by simp)
 rw[Yq c6] at H;have c6b0:=eq_true c6;have c6b1:decide (2≤(y129.length:Int))=true:=Yo c6;clear c6;obtain⟨y154,hy154⟩: ∃ y_:List (S53),y_=(y129.take 2):=⟨_,rfl⟩;rw[← hy154] at H;have Ny154:=Ya hy154;clear hy154;replace H:=Option.bind_eq_some_iff.mp H;obtain⟨⟨t158,t159⟩,A70,H⟩:=H;try dsimp only at H
 have A7:=Ya A70;clear A70;replace H:=Option.bind_eq_some_iff.mp H;obtain⟨⟨t160,t161,t162⟩,A80,H⟩:=H;try dsimp only at H
 have A8:=Ya A80;clear A80;obtain⟨y165,hy165⟩: ∃ y_:List Int,y_=(([0,3,9]:List Int)):=⟨_,rfl⟩
 (first|rw[← hy165] at H|skip)
 have Ny165:=Ya hy165;clear hy165;replace H:=Option.bind_eq_some_iff.mp H;obtain⟨⟨t168,t171⟩,A90,H⟩:=H;replace H:(if t138=0 then(if t137=4 then(if t148=0 then(if t147=2 then(if t159=181 then(if t171=0 then((ebbtideref03_SameSlots.f k t168 y129).bind fun t172=>(some t172)) else(some false)) else(some false)) else(some false)) else(some false)) else(some false)) else(some false))=some r:=H;have A9:=Ya A90;clear A90;by_cases c10:t138=0
 rotate_left
 ·rw[Yr c10] at H
  exact absurd (Option.some.inj H) (by rw[HRT.out];decide)
 rw[Yq c10] at H;have c10b0:(t138 == 0)=true:=beq_iff_eq.mpr c10;have c10b1:(t138 != 0)=false:=bne_eq_false_iff_eq.mpr c10;clear c10;by_cases c11:t137=4
 rotate_left
 ·rw[Yr c11] at H
  exact absurd (Option.some.inj H) (by rw[HRT.out];decide)
 rw[Yq c11] at H;have c11b0:(t137 == 4)=true:=beq_iff_eq.mpr c11;have c11b1:(t137 != 4)=false:=bne_eq_false_iff_eq.mpr c11;clear c11;by_cases c12:t148=0
 rotate_left
 ·rw[Yr c12] at H
  exact absurd (Option.some.inj H) (by rw[HRT.out];decide)
 rw[Yq c12] at H;have c12b0:(t148 == 0)=true:=beq_iff_eq.mpr c12;have c12b1:(t148 != 0)=false:=bne_eq_false_iff_eq.mpr c12;clear c12;by_cases c13:t147=2
 rotate_left
 ·rw[Yr c13] at H
  exact absurd (Option.some.inj H) (by rw[HRT.out];decide)
 rw[Yq c13] at H;have c13b0:(t147 == 2)=true:=beq_iff_eq.mpr c13;have c13b1:(t147 != 2)=false:=bne_eq_false_iff_eq.mpr c13;clear c13;by_cases c14:t159=181
 rotate_left
 ·rw[Yr c14] at H
  exact absurd (Option.some.inj H) (by rw[HRT.out];decide)
 rw[Yq c14] at H;have c14b0:(t159 == 181)=true:=beq_iff_eq.mpr c14;have c14b1:(t159 != 181)=false:=bne_eq_false_iff_eq.mpr c14;clear c14;by_cases c15:t171=0
 rotate_left
 ·rw[Yr c15] at H
  exact absurd (Option.some.inj H) (by rw[HRT.out];decide)
 rw[Yq c15] at H;have c15b0:(t171 == 0)=true:=beq_iff_eq.mpr c15;have c15b1:(t171 != 0)=false:=bne_eq_false_iff_eq.mpr c15;clear c15;replace H:=Option.bind_eq_some_iff.mp H;obtain⟨t172,A160,H⟩:=H;try dsimp only at H
 have A16:=Ya A160;clear A160;obtain rfl:=Option.some.inj H;go_enter Try.func7,Try.ntmps7;try go_wp2_with (first|((with_reducible refine gate_dst (N:=13) rfl ?_);refine Kd.R_lit k53 _ 53 ?hg (N:=13) ?hd (xs:=([(⟨0,0⟩:S53),(⟨0,1⟩:S53),(⟨0,2⟩:S53)]:List (S53))) (inner:=[.int .i64 0, .int .i64 0, .int .i64 0, .int .i64 1, .int .i64 0, .int .i64 2]) (ok:=fun _=>True) (okp:=fun _=>True) ?hr ?hp (fun _ hk=>hk) trivial (Yk _ _) (Nat.le_refl _) (by simp) ?_;(case hd=>rfl);(case hg=>rfl);(case hr=>first|(go_simp;done)|(go_simp;rfl));(case hp=>exact(Reps.c2 (show Kd.M k53 _ _ _ (⟨0,0⟩:S53) [.int .i64 0, .int .i64 0] from(k53_mkM _ _ _ (⟨0,0⟩:S53) )) (Reps.c2 (show Kd.M k53 _ _ _ (⟨0,1⟩:S53) [.int .i64 0, .int .i64 1] from(k53_mkM _ _ _ (⟨0,1⟩:S53) )) (Reps.c2 (show Kd.M k53 _ _ _ (⟨0,2⟩:S53) [.int .i64 0, .int .i64 2] from(k53_mkM _ _ _ (⟨0,2⟩:S53) )) (Reps.none _ _)))));intro v130 w17 ho18 hb hg_ hnew_;clear hg_ hnew_;(first|rw[← Ny129.out] at ho18|(simp only[Int.reduceToNat] at ho18;rw[← Ny129.out] at ho18));have Xj:=Ya (Kd.R_lower ho18 (Ye bl));replace HB:=Ya (Yg bl hb);clear hb ho18)|((with_reducible refine gate_callee (f:=17) rfl ?_);refine gl (some 15) Try.func17 #[.bool true] ?_;(with_reducible refine(ebbtidelaw14_Line.calls true t132 t133 t134 _ A1.out).mono ?_);rintro e w19 ⟨v135,rfl,ho0,hb⟩;refine⟨_,rfl,?_⟩;replace Xj:=Ya (Ym (kR Xj) hb);have Xs:=Ya (Kd.R_lower ho0 (Ye bl));replace HB:=Ya (Yg bl hb);(try clear hb);(try clear hk);(try clear ho0);obtain⟨Ao20,co20,eo20⟩:=Kd.R_slice Xs.out;subst eo20;obtain⟨Ao21,co21,eo21⟩:=Kd.R_slice Xj.out;subst eo21)|((with_reducible refine gate_callee (f:=10) rfl ?_);refine gl (some 17) Try.func10 #[.agg #[.int .i64 t132, .bool t133, .slice Ao20 t134.length co20], .int .i64 0, .int .i64 2, .int .i64 2, .slice Ao21 y129.length co21] ?_;(with_reducible refine(timecut_Check.calls t132 t133 _ _ t134 0 2 2 _ _ y129 t137 t138 _ ?side1 ?side2 ?side3 ?side4 A2.out).mono ?_);(case side1=>exact kC (Kd.R_reads' Xs.out).2.2);(case side2=>exact(Kd.R_reads' Xs.out).2.1);(case side3=>exact kC (Kd.R_reads' Xj.out).2.2);(case side4=>exact(Kd.R_reads' Xj.out).2.1);rintro e w22 ⟨rfl,hb⟩;refine⟨_,rfl,?_⟩;replace Xj:=Ya (Ym (kR Xj) hb);replace Xs:=Ya (Ym (kR Xs) hb);replace HB:=Ya (Yg bl hb);(try clear hb);(try clear hb2);(try clear hk);(try clear hi))|((with_reducible refine gate_callee (f:=17) rfl ?_);refine gl (some 21) Try.func17 #[.bool true] ?_;(with_reducible refine(ebbtidelaw14_Line.calls true t139 t140 t141 _ A3.out).mono ?_);rintro e w23 ⟨v142,rfl,ho0,hb⟩;refine⟨_,rfl,?_⟩;replace Xj:=Ya (Ym (kR Xj) hb);have Wk:=Ya (Kd.R_lower (Kd.R_new' ho0 (Kd.R_lt (kR Xs))) (Ye bl));replace Xs:=Ya (Kd.R_elder' (kR Xs) (Kd.R_base ho0) hb);replace HB:=Ya (Yg bl hb);(try clear hb);(try clear hb2);(try clear hk);(try clear hi);(try clear ho0))|((with_reducible refine gate_dst (N:=27) rfl ?_);refine Kd.R_lit k53 _ 53 ?hg (N:=27) ?hd (xs:=([(⟨0,0⟩:S53),(⟨0,1⟩:S53),(⟨0,2⟩:S53),(⟨1,1⟩:S53),(⟨1,2⟩:S53)]:List (S53))) (inner:=[.int .i64 0, .int .i64 0, .int .i64 0, .int .i64 1, .int .i64 0, .int .i64 2, .int .i64 1, .int .i64 1, .int .i64 1, .int .i64 2]) (ok:=fun _=>True) (okp:=fun _=>True) ?hr ?hp (fun _ hk=>hk) trivial (Yk _ _) (Nat.le_refl _) (by simp) ?_;(case hd=>rfl);(case hg=>rfl);(case hr=>first|(go_simp;done)|(go_simp;rfl));(case hp=>exact(Reps.c2 (show Kd.M k53 _ _ _ (⟨0,0⟩:S53) [.int .i64 0, .int .i64 0] from(k53_mkM _ _ _ (⟨0,0⟩:S53) )) (Reps.c2 (show Kd.M k53 _ _ _ (⟨0,1⟩:S53) [.int .i64 0, .int .i64 1] from(k53_mkM _ _ _ (⟨0,1⟩:S53) )) (Reps.c2 (show Kd.M k53 _ _ _ (⟨0,2⟩:S53) [.int .i64 0, .int .i64 2] from(k53_mkM _ _ _ (⟨0,2⟩:S53) )) (Reps.c2 (show Kd.M k53 _ _ _ (⟨1,1⟩:S53) [.int .i64 1, .int .i64 1] from(k53_mkM _ _ _ (⟨1,1⟩:S53) )) (Reps.c2 (show Kd.M k53 _ _ _ (⟨1,2⟩:S53) [.int .i64 1, .int .i64 2] from(k53_mkM _ _ _ (⟨1,2⟩:S53) )) (Reps.none _ _)))))));intro v145 w24 ho25 hb hg_ hnew_;clear hg_ hnew_;(first|rw[← Ny144.out] at ho25|(simp only[Int.reduceToNat] at ho25;rw[← Ny144.out] at ho25));replace Xs:=Ya (Ym (kR Xs) hb);replace Wk:=Ya (Ym (kR Wk) hb);have Wq:=Ya (Kd.R_lower (Kd.R_new' ho25 (Kd.R_lt (kR Xj))) (Ye bl));replace Xj:=Ya (Kd.R_elder' (kR Xj) (Kd.R_base ho25) hb);replace HB:=Ya (Yg bl hb);clear hb ho25;obtain⟨Vh,Vi,eo26⟩:=Kd.R_slice Wk.out;subst eo26;obtain⟨Ao27,co27,eo27⟩:=Kd.R_slice Wq.out;subst eo27)|((with_reducible refine gate_callee (f:=10) rfl ?_);refine gl (some 28) Try.func10 #[.agg #[.int .i64 t139, .bool t140, .slice Vh t141.length Vi], .int .i64 0, .int .i64 2, .int .i64 2, .slice Ao27 y144.length co27] ?_;(with_reducible refine(timecut_Check.calls t139 t140 _ _ t141 0 2 2 _ _ y144 t147 t148 _ ?side1 ?side2 ?side3 ?side4 A4.out).mono ?_);(case side1=>exact kC (Kd.R_reads' Wk.out).2.2);(case side2=>exact(Kd.R_reads' Wk.out).2.1);(case side3=>exact kC (Kd.R_reads' Wq.out).2.2);(case side4=>exact(Kd.R_reads' Wq.out).2.1);rintro e w28 ⟨rfl,hb⟩;refine⟨_,rfl,?_⟩;replace Xj:=Ya (Ym (kR Xj) hb);replace Xs:=Ya (Ym (kR Xs) hb);replace Wk:=Ya (Ym (kR Wk) hb);replace Wq:=Ya (Ym (kR Wq) hb);replace HB:=Ya (Yg bl hb);(try clear hb);(try clear hb2);(try clear hk);(try clear hi)))
 replace Xj:=Ya (Yl Xj.out);replace Xs:=Ya (Yl Xs.out);replace Wk:=Ya (Yl Wk.out);replace Wq:=Ya (Yl Wq.out);replace HB:=Ya (Yd HB.out);have q30:(2:Int)≤((y129.length:Int):Int):=od;obtain⟨i030,hi030,_,hsz30,_⟩:=info_parts info53;have hroom30:y129.length≤co21:=(Kd.R_reads' Xj.out).2.1;have hC30:Kd.C k53 _ Ao21 y129.length y129:=(Kd.R_reads' Xj.out).2.2;have hcut30:=cut_to (P:=Try.prog) 40 53 .i64 Try.underlying40 hi030 Ao21 y129.length co21 2 (by omega) q30 hroom30;have hr30:=Kd.C_take (m:=2) hC30 (by omega);have hy30:y154.length=(2:Int).toNat:=(by rw[Ny154.out,List.length_take];omega);rw[← Ny154.out] at hr30;rw[← hy30] at hcut30;have Wt:=Ya hr30;have HC157:=Ya (show y154.length≤co21 from by omega);clear hr30 hC30 hroom30 hi030 hsz30;have KY30:=Ya hy30;clear hy30;have KL30:=Ya (show 2≤y129.length from by omega);replace q30:=eq_true q30;refine start_ (n:=9) (S:=fun w'=>True) (ds:=[]) #[false,false,false,false,false,false,false,false,false] (by kernel_rfl) rfl rfl trivial (fun hHeld=> ?_);refine with_tabW ebbtidelaw18_awake.tab4 ebbtidelaw18_awake.bits4 (fun HT_ HW_=> ?_);generalize w28.drew=w29 at Xj Xs Wk Wq HB Wt hHeld ⊢;refine pu 1 33 (bm 9 2) ?_;refine pu 2 34 (bm 9 6) ?_;refine on 0 (some 32) (bm 9 7) fun K hK=> ?_
 refine gs Try.func17 #[.bool true] ?_
 with_reducible refine(ebbtidelaw14_Line.calls true t149 t150 t151 _ A5.out).mono ?_
 rintro e w31 ⟨v152,rfl,ho0,hb⟩;refine⟨_,rfl,?_⟩;replace Xj:=Ya (Ym Xj.out hb);replace Wq:=Ya (Ym Wq.out hb);have Vs:=Ya (Kd.R_lower (Kd.R_new' (Kd.R_new' ho0 (Kd.R_lt Xs.out)) (Kd.R_lt Wk.out)) (Ye HB.out));replace Xs:=Ya (Kd.R_elder' Xs.out (Kd.R_base ho0) hb);replace Wk:=Ya (Kd.R_elder' Wk.out (Kd.R_base ho0) hb);replace Wt:=Ya (Yn (by repeat(first|(with_reducible exact Wt.out)|(with_reducible refine Kd.C_alloc ?_ _)|(with_reducible refine Kd.C_drewN ?_ _)|(with_reducible refine Kd.C_drew ?_)|exact Wt.out)) hb);replace HB:=Ya (Yg HB.out hb)
 (try clear hb)
 (try clear hb2)
 (try clear hk)
 (try clear hi)
 (try clear ho0)
 obtain⟨Ao32,co32,eo32⟩:=Kd.R_slice Vs.out
 (first|subst eo32|(injection eo32 with f1_ f2_ f3_;have f4_:=f1_.symm;have f5_:=f3_.symm;clear f1_ f2_ f3_;subst f4_;subst f5_))
 refine hK.out _ _ trivial (fun hHeld=> ?_);clear hK K;refine nm ?_;refine on 3 (some 35) (bm 9 15) fun K hK=> ?_
 refine gs Try.func10 #[.agg #[.int .i64 t149, .bool t150, .slice Ao32 t151.length co32], .int .i64 0, .int .i64 2, .int .i64 2, .slice Ao21 y154.length co21] ?_
 with_reducible refine(timecut_Check.calls t149 t150 _ _ t151 0 2 2 _ _ y154 t158 t159 _ ?side1 ?side2 ?side3 ?side4 A7.out).mono ?_
 (case side1=>exact(Kd.R_reads' Vs.out).2.2)
 (case side2=>exact(Kd.R_reads' Vs.out).2.1)
 (case side3=>exact(by repeat(first|(with_reducible exact Wt.out)|(with_reducible refine Kd.C_alloc ?_ _)|(with_reducible refine Kd.C_drewN ?_ _)|(with_reducible refine Kd.C_drew ?_)|exact Wt.out)))
 (case side4=>exact HC157.out)
 rintro e w33 ⟨rfl,hb⟩;refine⟨_,rfl,?_⟩;replace Xj:=Ya (Ym Xj.out hb);replace Xs:=Ya (Ym Xs.out hb);replace Wk:=Ya (Ym Wk.out hb);replace Wq:=Ya (Ym Wq.out hb);replace Vs:=Ya (Ym Vs.out hb);replace Wt:=Ya (Yn (by repeat(first|(with_reducible exact Wt.out)|(with_reducible refine Kd.C_alloc ?_ _)|(with_reducible refine Kd.C_drewN ?_ _)|(with_reducible refine Kd.C_drew ?_)|exact Wt.out)) hb);replace HB:=Ya (Yg HB.out hb)
 (try clear hb)
 (try clear hb2)
 (try clear hk)
 (try clear hi)
 refine hK.out _ _ trivial (fun hHeld=> ?_);clear hK K;refine nm ?_;refine pu 4 31 (bm 9 31) ?_;refine pu 5 36 (bm 9 63) ?_;refine pu 6 37 (bm 9 127) ?_;refine pu 7 6 (bm 9 255) ?_;refine pu 8 7 (bm 9 511) ?_;refine done_ (done_of HT_.out (by kernel_rfl)) ?_;try go_wp2_with (first|((with_reducible refine gate_callee (f:=17) rfl ?_);refine gl (some 39) Try.func17 #[.bool true] ?_;(with_reducible refine(ebbtidelaw14_Line.calls true t160 t161 t162 _ A8.out).mono ?_);rintro e w34 ⟨v163,rfl,ho0,hb⟩;refine⟨_,rfl,?_⟩;replace Xj:=Ya (Ym (kR Xj) hb);replace Wq:=Ya (Ym (kR Wq) hb);have Jc:=Ya (Kd.R_lower (Kd.R_new' (Kd.R_new' (Kd.R_new' ho0 (Kd.R_lt (kR Xs))) (Kd.R_lt (kR Wk))) (Kd.R_lt (kR Vs))) (Ye bl));replace Xs:=Ya (Kd.R_elder' (kR Xs) (Kd.R_base ho0) hb);replace Wk:=Ya (Kd.R_elder' (kR Wk) (Kd.R_base ho0) hb);replace Vs:=Ya (Kd.R_elder' (kR Vs) (Kd.R_base ho0) hb);replace Wt:=Ya (Yn (by repeat(first|(with_reducible exact Wt.out)|(with_reducible refine Kd.C_alloc ?_ _)|(with_reducible refine Kd.C_drewN ?_ _)|(with_reducible refine Kd.C_drew ?_)|exact Wt.out)) hb);replace HB:=Ya (Yg bl hb);(try clear hb);(try clear ho0))|((with_reducible refine gate_dst (N:=40) rfl ?_);refine Kd.R_lit (Kd.int .i64) _ 3 ?hg (N:=40) ?hd (xs:=([0,3,9]:List Int)) (inner:=[.int .i64 0, .int .i64 3, .int .i64 9]) (ok:=fun _=>True) (okp:=fun _=>True) ?hr ?hp (fun _ hk=>hk) trivial (Yk _ _) (Nat.le_refl _) (by simp) ?_;(case hd=>rfl);(case hg=>rfl);(case hr=>first|(go_simp;done)|(go_simp;rfl));(case hp=>exact(Reps.one (show Kd.M (Kd.int .i64) _ _ _ 0 [.int .i64 0] from rfl) (Reps.one (show Kd.M (Kd.int .i64) _ _ _ 3 [.int .i64 3] from rfl) (Reps.one (show Kd.M (Kd.int .i64) _ _ _ 9 [.int .i64 9] from rfl) (Reps.none _ _)))));intro v166 w35 ho36 hb hg_ hnew_;clear hg_ hnew_;(first|rw[← Ny165.out] at ho36|(simp only[Int.reduceToNat] at ho36;rw[← Ny165.out] at ho36));replace Xj:=Ya (Ym (kR Xj) hb);replace Xs:=Ya (Ym (kR Xs) hb);replace Wk:=Ya (Ym (kR Wk) hb);replace Wq:=Ya (Ym (kR Wq) hb);replace Vs:=Ya (Ym (kR Vs) hb);replace Jc:=Ya (Ym (kR Jc) hb);have HO167:=Ya (Kd.R_lower ho36 (Ye bl));replace Wt:=Ya (Yn (by repeat(first|(with_reducible exact Wt.out)|(with_reducible refine Kd.C_alloc ?_ _)|(with_reducible refine Kd.C_drewN ?_ _)|(with_reducible refine Kd.C_drew ?_)|exact Wt.out)) hb);replace HB:=Ya (Yg bl hb);clear hb ho36;obtain⟨Ao37,co37,eo37⟩:=Kd.R_slice Jc.out;subst eo37;obtain⟨Ao38,co38,eo38⟩:=Kd.R_slice HO167.out;subst eo38)|((with_reducible refine gate_callee (f:=18) rfl ?_);refine gl (some 41) Try.func18 #[.agg #[.int .i64 t160, .bool t161, .slice Ao37 t162.length co37], .int .i64 2, .slice Ao38 y165.length co38] ?_;(with_reducible refine(timecut_From.calls k t160 t161 _ _ t162 2 _ _ y165 t168 t171 _ ?side1 ?side2 ?side3 ?side4 A9.out).mono ?_);(case side1=>exact kC (Kd.R_reads' Jc.out).2.2);(case side2=>exact(Kd.R_reads' Jc.out).2.1);(case side3=>exact kC (Kd.R_reads' HO167.out).2.2);(case side4=>exact(Kd.R_reads' HO167.out).2.1);rintro e w39 ⟨v169,rfl,ho0,hb⟩;refine⟨_,rfl,?_⟩;replace Xs:=Ya (Ym (kR Xs) hb);replace Wk:=Ya (Ym (kR Wk) hb);replace Vs:=Ya (Ym (kR Vs) hb);replace Jc:=Ya (Ym (kR Jc) hb);replace HO167:=Ya (Ym (kR HO167) hb);have HO170:=Ya (Kd.R_lower (Kd.R_new' (Kd.R_new' ho0 (Kd.R_lt (kR Xj))) (Kd.R_lt (kR Wq))) (Ye bl));replace Xj:=Ya (Kd.R_elder' (kR Xj) (Kd.R_base ho0) hb);replace Wq:=Ya (Kd.R_elder' (kR Wq) (Kd.R_base ho0) hb);replace Wt:=Ya (Yn (by repeat(first|(with_reducible exact Wt.out)|(with_reducible refine Kd.C_alloc ?_ _)|(with_reducible refine Kd.C_drewN ?_ _)|(with_reducible refine Kd.C_drew ?_)|exact Wt.out)) hb);replace HB:=Ya (Yg bl hb);(try clear hb);(try clear hb2);(try clear hk);(try clear hi);(try clear ho0);obtain⟨Ao40,co40,eo40⟩:=Kd.R_slice HO170.out;subst eo40)|(go_at_call 19;(with_reducible refine(ebbtideref03_SameSlots.calls k _ _ t168 _ _ y129 t172 _ ?side1 ?side2 ?side3 ?side4 A16.out).mono ?_);(case side1=>exact kC (Kd.R_reads' HO170.out).2.2);(case side2=>exact(Kd.R_reads' HO170.out).2.1);(case side3=>exact kC (Kd.R_reads' Xj.out).2.2);(case side4=>exact(Kd.R_reads' Xj.out).2.1);rintro e w' ⟨rfl,⟨nd,rfl⟩⟩))
 go_ret;exact⟨by first|rfl|(simp[errW_none,errW_some]<;>rfl)|(simp[*,errW_none,errW_some]<;>rfl),bl⟩
end P
namespace P
attribute [local go_sem] max2_int min2_int max_two min_two max_three min_three max_four min_four
def ebbtidelaw12_Read.l0:Nat→Int→Int→Int→Bool→List (S77)→Int→Int→Int→Int→Bool→List (S73)→Option (Int × Bool × (List (S73)) × Int × Int × Int)
 |0,_,_,_,_,_,_,_,_,_,_,_=>none
 |k+1,x1,x9,x174000,x174001,Ub,Uk,Ju,Jv,Xm,Jw,Ja=>if x9<(Ub.length:Int) then(if x9<x1 then(if 0≤x9 then(if Xm=0 then(none) else(if Ja.length<4398046511104 then(ebbtidelaw12_Read.l0 k x1 (wrap64 (x9+1)) x174000 x174001 Ub Uk Ju Jv Xm Jw (Ja ++ [(⟨Int.tmod (wrap64 ((rd_T77 Ub x9).f0)) Xm,Int.tmod (wrap64 ((rd_T77 Ub x9).f1)) Xm,Int.tmod (wrap64 ((rd_T77 Ub x9).f2)) 6,Int.tmod (wrap64 ((rd_T77 Ub x9).f3)) 4⟩:S73)])) else(none))) else(none)) else(if Xm=0 then(none) else(if (wrap64 (Xm - 1))=0 then(none) else(some (Xm,Jw,Ja,Int.tmod (wrap64 (Uk)) Xm,Int.tmod (wrap64 ((wrap64 ((Int.tmod (wrap64 (Uk)) Xm)+1))+(Int.tmod (wrap64 (Ju)) (wrap64 (Xm - 1))))) Xm,Int.tmod (wrap64 (Jv)) 8))))) else(if Xm=0 then(none) else(if (wrap64 (Xm - 1))=0 then(none) else(some (Xm,Jw,Ja,Int.tmod (wrap64 (Uk)) Xm,Int.tmod (wrap64 ((wrap64 ((Int.tmod (wrap64 (Uk)) Xm)+1))+(Int.tmod (wrap64 (Ju)) (wrap64 (Xm - 1))))) Xm,Int.tmod (wrap64 (Jv)) 8))))
def ebbtidelaw12_Read.f (k:Nat) (Zb:Int) (Zg:Bool) (Za:List (S77)) (Wz:Int) (Va:Int) (Vb:Int) (a1:Int):Option (Int × Bool × (List (S73)) × Int × Int × Int):=ebbtidelaw12_Read.l0 k a1 0 Zb Zg Za Wz Va Vb (wrap64 (2+(Int.tmod (wrap64 (Zb)) 4))) Zg ([]:List (S73))
def ebbtidelaw12_Read.T6:Bool × List (List Nat × List Nat):=(true,[([],[]),([0],[0]),([],[]),([2],[2]),([3],[3]),([],[]),([5],[5]),([4,6],[4,6]),([],[]),([8],[8]),([9],[9]),([],[]),([11],[11]),([10,12],[10,12]),([],[]),([14],[14]),([15],[15]),([16],[16]),([],[]),([18],[18]),([19],[19]),([20],[20]),([7,13,17,21],[7,13,17,21]),([22],[22]),([1,23],[1,23]),([0,1,2,3,4,5,6,7,8,9,10,11,12,13,14,15,16,17,18,19,20,21,22,23,24],[]),([25,24,24,0,1,2,3,4,5,6,7,8,9,10,11,12,13,14,15,16,17,18,19,20,21,22,23,24],[24,25])])
def ebbtidelaw12_Read.B6:List Nat:=[0,1,0,4,12,0,32,124,0,256,768,0,2048,7936,0,16384,49152,114688,0,262144,786432,1835008,4194300,8388604,16777215,33554431,67108863]
theorem ebbtidelaw12_Read.tab6:rtab .any (opsOf Try.f12 6)=ebbtidelaw12_Read.T6:=by kernel_rfl
theorem ebbtidelaw12_Read.bits6:waitsOk ebbtidelaw12_Read.T6.2 ebbtidelaw12_Read.B6=true:=by kernel_rfl
def ebbtidelaw12_Read.T8:Bool × List (List Nat × List Nat):=(true,[([],[]),([0],[0]),([],[]),([2],[2]),([3],[3]),([],[]),([5],[5]),([6],[6]),([4,7],[4,7]),([1,8],[1,8]),([],[]),([10],[10]),([9,11],[9,11]),([12,0,1,2,3,4,5,6,7,8,9,10,11,12],[12])])
def ebbtidelaw12_Read.B8:List Nat:=[0,1,0,4,12,0,32,96,252,511,0,1024,4095,8191]
theorem ebbtidelaw12_Read.tab8:rtab .any (opsOf Try.f12 8)=ebbtidelaw12_Read.T8:=by kernel_rfl
theorem ebbtidelaw12_Read.bits8:waitsOk ebbtidelaw12_Read.T8.2 ebbtidelaw12_Read.B8=true:=by kernel_rfl
def ebbtidelaw12_Read.T9:Bool × List (List Nat × List Nat):=(true,[([],[]),([],[]),([],[]),([],[]),([3],[3]),([4],[4]),([5],[5]),([0,0],[0]),([1,7,0,1,7],[1]),([2,8,0,1,2,7,8],[2]),([6,9,0,1,2,3,4,5,6,7,8,9],[6])])
def ebbtidelaw12_Read.B9:List Nat:=[0,0,0,0,8,24,56,1,131,391,1023]
theorem ebbtidelaw12_Read.tab9:rtab .any (opsOf Try.f12 9)=ebbtidelaw12_Read.T9:=by kernel_rfl
theorem ebbtidelaw12_Read.bits9:waitsOk ebbtidelaw12_Read.T9.2 ebbtidelaw12_Read.B9=true:=by kernel_rfl
set_option maxHeartbeats 8000000 in
set_option maxRecDepth 100000 in
theorem ebbtidelaw12_Read.calls (k:Nat) (Zb:Int) (Zg:Bool) (Zp:Option Addr) (Zn:Nat) (Za:List (S77)) (Wz:Int) (Va:Int) (Vb:Int) (a1:Int) (r1:Int) (r2:Bool) (r3:List (S73)) (r4:Int) (r5:Int) (r6:Int) (w:World) (Wi:Kd.C k77 w Zp Za.length Za) (Wj:Za.length≤Zn) (h:ebbtidelaw12_Read.f k Zb Zg Za Wz Va Vb a1=some (r1,r2,r3,r4,r5,r6)):
  Calls Try.prog 12 #[.agg #[.int .u8 Zb, .bool Zg, .slice Zp Za.length Zn, .int .u8 Wz, .int .u8 Va, .int .u8 Vb], .int .i64 a1] w fun e w'=> ∃ v2_:Value,e= .returned (.tuple #[.agg #[.int .i64 r1, .bool r2,v2_], .int .i64 r4, .int .i64 r5, .int .i64 r6])∧Kd.R k73 73 w' w.heap.size (fun _=>True) v2_ r3∧Below w.heap.size w w':=by
 have hu24:=Try.underlying24;have hu32:=Try.underlying32;have hu77:=Try.underlying77;have hu73:=Try.underlying73;have Wl:=Ya Wi;have Ws:=Ya Wj;clear Wi Wj;have HB:=Ya (Yk w.heap.size w);have H:=h;unfold ebbtidelaw12_Read.f at H;clear h;have H':=Ya H;clear H;go_enter Try.func12,Try.ntmps12;go_wp2_with (first|(refine bx 2 24 #[.int .u8 Zb, .bool Zg, .slice Zp Za.length Zn, .int .u8 Wz, .int .u8 Va, .int .u8 Vb] ?_;intro Zs hg w3 Zv hb;have Zf:=Ya (Zv);have GW173:=Ya ((sz hg));have GE173:=Ya ((sz hg));replace HB:=Ya (Yg bl hb);clear hb Zv hg)|(refine bx 4 32 #[.int .i64 0, .bool false, .slice none 0 0] ?_;intro Zi hg w4 Zv hb;have Zw:=Ya (Zv);have GW174:=Ya ((sz hg));have GE174:=Ya ((sz hg));replace HB:=Ya (Yg bl hb);have Ze:=Ya (by rw[hg];exact Nat.ne_of_lt (blk_lt (bk Zf)):Zs≠Zi);have Wb:=Ya (by rw[hg];exact Nat.ne_of_gt (blk_lt (bk Zf)):Zi≠Zs);replace Zf:=Ya (Yj (bk Zf) hb);clear hb Zv hg;have hnb5:=Ze.out;have hnc5:=Wb.out;have Ji:w4.cell? ⟨Zs,0,none⟩=some (.int .u8 Zb):=bc Zf 0;have Jj:w4.cell? ⟨Zs,1,none⟩=some (.bool Zg):=bc Zf 1;have Jk:w4.cell? ⟨Zs,2,none⟩=some (.slice Zp Za.length Zn):=bc Zf 2;have hcz6_3:w4.cell? ⟨Zs,3,none⟩=some (.int .u8 Wz):=bc Zf 3;have hcz6_4:w4.cell? ⟨Zs,4,none⟩=some (.int .u8 Va):=bc Zf 4;have hcz6_5:w4.cell? ⟨Zs,5,none⟩=some (.int .u8 Vb):=bc Zf 5;have Jl:=Yc Zf.out 0;have Jm:=Yc Zf.out 1;have Jn:=Yc Zf.out 2;have hfz6_3:=Yc Zf.out 3;have hfz6_4:=Yc Zf.out 4;have hfz6_5:=Yc Zf.out 5)|(refine bx 8 32 #[.int .i64 0, .bool false, .slice none 0 0] ?_;intro Xf hg w7 Zv hb;have Zm:=Ya (Zv);have GW175:=Ya ((sz hg));have GE175:=Ya ((sz hg));replace HB:=Ya (Yg bl hb);have Wh:=Ya (by rw[hg];exact Nat.ne_of_lt (blk_lt (bk Zf)):Zs≠Xf);have Vj:=Ya (by rw[hg];exact Nat.ne_of_gt (blk_lt (bk Zf)):Xf≠Zs);replace Zf:=Ya (Yj (bk Zf) hb);have Xg:=Ya (by rw[hg];exact Nat.ne_of_lt (blk_lt (bk Zw)):Zi≠Xf);have Zo:=Ya (by rw[hg];exact Nat.ne_of_gt (blk_lt (bk Zw)):Xf≠Zi);replace Zw:=Ya (Yj (bk Zw) hb);clear hb Zv hg;have hnb8:=Vj.out;have hnc8:=Wh.out;have hnb9:=Zo.out;have hnc9:=Xg.out;have Vv:w7.cell? ⟨Xf,0,none⟩=some (.int .i64 0):=bc Zm 0;have Vw:w7.cell? ⟨Xf,1,none⟩=some (.bool false):=bc Zm 1;have Vx:w7.cell? ⟨Xf,2,none⟩=some (.slice none 0 0):=bc Zm 2;have Vy:=Yc Zm.out 0;have Vz:=Yc Zm.out 1;have Ua:=Yc Zm.out 2));go_loopg [9] k (fun kq v9 w'=> ∃ (Zu:Int) (Xl:List (S73)) (u176002:Value),v9= .int .i64 Zu∧Aside0 (ebbtidelaw12_Read.l0 kq a1 Zu Zb Zg Za Wz Va Vb (wrap64 (2+(Int.tmod (wrap64 (Zb)) 4))) Zg Xl=some (r1,r2,r3,r4,r5,r6))∧Aside0 (kq≤k)∧Aside0 (Kd.R k73 73 w' w.heap.size (fun _=>True) u176002 Xl)∧Aside0 (w'.heap[Zs]? =some (.cells #[.int .u8 Zb, .bool Zg,(.slice Zp Za.length Zn), .int .u8 Wz, .int .u8 Va, .int .u8 Vb] 24 (0,0)))∧Aside0 (w'.heap[Zi]? =some (.cells #[.int .i64 0, .bool false,(.slice none 0 0)] 32 (0,0)))∧Aside0 (w'.heap[Xf]? =some (.cells #[.int .i64 (wrap64 (2+(Int.tmod (wrap64 (Zb)) 4))), .bool Zg,u176002] 32 (0,0)))∧Aside0 (Below w.heap.size w w'))
 case atStart=>exact⟨(0),(([]:List (S73))),(.slice none 0 0),(by first|rfl|(simp;done)|(simp[*];done)),H',⟨Nat.le_refl _⟩,⟨by first|exact Kd.R_nil _ _ _ _ _|exact Kd.N_nil _ _ _ _ _|exact Kd.V_nil _ _ _ _ _|exact Kd.Q_nil _ _ _ _ _|exact Kd.S_nil _ _ _ _ _⟩,⟨by(with_reducible repeat(first|refine Yh ?_ _|refine Yi ?_|refine Yf ?_ _));refine blk_far ?_ Wh.out _;(with_reducible repeat(first|refine Yh ?_ _|refine Yi ?_|refine Yf ?_ _));refine blk_far ?_ Wh.out _;(with_reducible repeat(first|refine Yh ?_ _|refine Yi ?_|refine Yf ?_ _));refine blk_far ?_ Wh.out _;(with_reducible repeat(first|refine Yh ?_ _|refine Yi ?_|refine Yf ?_ _));exact Zf.out⟩,⟨by(with_reducible repeat(first|refine Yh ?_ _|refine Yi ?_|refine Yf ?_ _));refine blk_far ?_ Xg.out _;(with_reducible repeat(first|refine Yh ?_ _|refine Yi ?_|refine Yf ?_ _));refine blk_far ?_ Xg.out _;(with_reducible repeat(first|refine Yh ?_ _|refine Yi ?_|refine Yf ?_ _));refine blk_far ?_ Xg.out _;(with_reducible repeat(first|refine Yh ?_ _|refine Yi ?_|refine Yf ?_ _));exact Zw.out⟩,⟨by(with_reducible repeat(first|refine Yh ?_ _|refine Yi ?_|refine Yf ?_ _));refine Ys (cs:= #[.int .i64 (wrap64 (2+(Int.tmod (wrap64 (Zb)) 4))), .bool Zg, .slice none 0 0]) ?_ 2 _ rfl;(with_reducible repeat(first|refine Yh ?_ _|refine Yi ?_|refine Yf ?_ _));refine Ys (cs:= #[.int .i64 (wrap64 (2+(Int.tmod (wrap64 (Zb)) 4))), .bool false, .slice none 0 0]) ?_ 1 _ rfl;(with_reducible repeat(first|refine Yh ?_ _|refine Yi ?_|refine Yf ?_ _));refine Ys (cs:= #[.int .i64 0, .bool false, .slice none 0 0]) ?_ 0 _ rfl;(with_reducible repeat(first|refine Yh ?_ _|refine Yi ?_|refine Yf ?_ _));exact Zm.out⟩,⟨bl⟩⟩
 case round=>
  clear H';try clear Vv
  try clear Vw
  try clear Vx
  try clear Ji
  try clear Jj
  try clear Jk
  try clear hcz6_3
  try clear hcz6_4
  try clear hcz6_5
  try clear Vy
  try clear Vz
  try clear Ua
  try clear Jl
  try clear Jm
  try clear Jn
  try clear hfz6_3
  try clear hfz6_4
  try clear hfz6_5
  obtain⟨Zu,Xl,u176002,rfl,HA,HK1,HO_176002,Zf,Zw,Zm,HB⟩:=hrel;cases gk with
  |zero=>exact absurd HA.out (by simp[ebbtidelaw12_Read.l0])
  |succ k1=>
   have H:=HA.out;clear HA;simp only[ebbtidelaw12_Read.l0] at H;by_cases c11:Zu<(Za.length:Int)
   rotate_left
   ·rw[Yr c11] at H
    have c11b0:decide (Zu<(Za.length:Int))=false:=Yp c11;clear c11;by_cases c42:(wrap64 (2+(Int.tmod (wrap64 (Zb)) 4)))=0
    ·rw[Yq c42] at H
     exact absurd H (by simp)
    rw[Yr c42] at H;have c42b0:((wrap64 (2+(Int.tmod (wrap64 (Zb)) 4))) == 0)=false:=beq_eq_false_iff_ne.mpr c42;have c42b1:((wrap64 (2+(Int.tmod (wrap64 (Zb)) 4))) != 0)=true:=bne_iff_ne.mpr c42;by_cases c43:(wrap64 ((wrap64 (2+(Int.tmod (wrap64 (Zb)) 4))) - 1))=0
    ·rw[Yq c43] at H
     exact absurd H (by simp)
    rw[Yr c43] at H;have c43b0:((wrap64 ((wrap64 (2+(Int.tmod (wrap64 (Zb)) 4))) - 1)) == 0)=false:=beq_eq_false_iff_ne.mpr c43;have c43b1:((wrap64 ((wrap64 (2+(Int.tmod (wrap64 (Zb)) 4))) - 1)) != 0)=true:=bne_iff_ne.mpr c43;simp only[Option.some.injEq,Prod.mk.injEq] at H;obtain⟨rfl,rfl,rfl,rfl,rfl,rfl⟩:=H;have hnb44:=Ze.out;have hnc44:=Wb.out;have hnb45:=Wh.out;have hnc45:=Vj.out;have hcz46_0:wr.cell? ⟨Zs,0,none⟩=some (.int .u8 Zb):=bc Zf 0;have hcz46_1:wr.cell? ⟨Zs,1,none⟩=some (.bool Zg):=bc Zf 1;have hcz46_2:wr.cell? ⟨Zs,2,none⟩=some (.slice Zp Za.length Zn):=bc Zf 2;have hcz46_3:wr.cell? ⟨Zs,3,none⟩=some (.int .u8 Wz):=bc Zf 3;have hcz46_4:wr.cell? ⟨Zs,4,none⟩=some (.int .u8 Va):=bc Zf 4;have hcz46_5:wr.cell? ⟨Zs,5,none⟩=some (.int .u8 Vb):=bc Zf 5;have hfz46_0:=Yc Zf.out 0;have hfz46_1:=Yc Zf.out 1;have hfz46_2:=Yc Zf.out 2;have hfz46_3:=Yc Zf.out 3;have hfz46_4:=Yc Zf.out 4;have hfz46_5:=Yc Zf.out 5;have hnb47:=Zo.out;have hnc47:=Xg.out;have hcz48_0:wr.cell? ⟨Xf,0,none⟩=some (.int .i64 (wrap64 (2+(Int.tmod (wrap64 (Zb)) 4)))):=bc Zm 0;have hcz48_1:wr.cell? ⟨Xf,1,none⟩=some (.bool Zg):=bc Zm 1;have hcz48_2:wr.cell? ⟨Xf,2,none⟩=some (u176002):=bc Zm 2;have hfz48_0:=Yc Zm.out 0;have hfz48_1:=Yc Zm.out 1;have hfz48_2:=Yc Zm.out 2;try go_wp2
    replace HO_176002:=Ya (Yl HO_176002.out);replace Zf:=Ya (Yi Zf.out);replace Zw:=Ya (Yi Zw.out);replace Zm:=Ya (Yi Zm.out);replace HB:=Ya (Yd HB.out);refine start_ (n:=14) (S:=fun w'=>w'.cell? ⟨Zs,0,none⟩=some (.int .u8 Zb)∧w'.cell? ⟨Zs,1,none⟩=some (.bool Zg)∧w'.cell? ⟨Zs,2,none⟩=some (.slice Zp Za.length Zn)∧w'.cell? ⟨Zs,3,none⟩=some (.int .u8 Wz)∧w'.cell? ⟨Zs,4,none⟩=some (.int .u8 Va)∧w'.cell? ⟨Zs,5,none⟩=some (.int .u8 Vb)∧w'.cell? ⟨Xf,0,none⟩=some (.int .i64 (wrap64 (2+(Int.tmod (wrap64 (Zb)) 4))))∧w'.cell? ⟨Xf,1,none⟩=some (.bool Zg)∧w'.cell? ⟨Xf,2,none⟩=some (u176002)) (ds:=[]) #[false,false,false,false,false,false,false,false,false,false,false,false,false,false] (by kernel_rfl) rfl rfl ⟨(Yb Zf.out 0).trans rfl,(Yb Zf.out 1).trans rfl,(Yb Zf.out 2).trans rfl,(Yb Zf.out 3).trans rfl,(Yb Zf.out 4).trans rfl,(Yb Zf.out 5).trans rfl,(Yb Zm.out 0).trans rfl,(Yb Zm.out 1).trans rfl,(Yb Zm.out 2).trans rfl⟩ (fun hHeld=> ?_);refine with_tabW ebbtidelaw12_Read.tab8 ebbtidelaw12_Read.bits8 (fun HT_ HW_=> ?_);generalize wr.drew=w49 at HO_176002 Zf Zw Zm HB hHeld ⊢;refine pu 0 70 (bm 14 1) ?_;refine pu 1 71 (bm 14 3) ?_;refine pu 2 72 (bm 14 7) ?_;refine pu 5 75 (bm 14 39) ?_;refine pu 10 80 (bm 14 1063) ?_;refine ta 3 73 (bm 14 1071) hHeld ?_;refine pu 4 74 (bm 14 1087) ?_;refine ta 6 76 (bm 14 1151) hHeld ?_;refine pu 7 77 (bm 14 1279) ?_;refine pu 8 78 (bm 14 1535) ?_;refine pu 9 79 (bm 14 2047) ?_;refine ta 11 81 (bm 14 4095) hHeld ?_;refine pu 12 82 (bm 14 8191) ?_;refine pu 13 12 (bm 14 16383) ?_;refine done_ (done_of HT_.out (by kernel_rfl)) ?_;try go_wp2
    replace HO_176002:=Ya (Yl HO_176002.out);replace Zf:=Ya (Yi Zf.out);replace Zw:=Ya (Yi Zw.out);replace Zm:=Ya (Yi Zm.out);replace HB:=Ya (Yd HB.out);obtain⟨Ao53,co53,eo53⟩:=Kd.R_slice HO_176002.out
    (first|subst eo53|(injection eo53 with f1_ f2_ f3_;have f4_:=f1_.symm;have f5_:=f3_.symm;clear f1_ f2_ f3_;subst f4_;subst f5_))
    refine start_ (n:=11) (S:=fun w'=>w'.cell? ⟨Xf,0,none⟩=some (.int .i64 (wrap64 (2+(Int.tmod (wrap64 (Zb)) 4))))∧w'.cell? ⟨Xf,1,none⟩=some (.bool Zg)∧w'.cell? ⟨Xf,2,none⟩=some (.slice Ao53 Xl.length co53)∧w'.cell? ⟨Zs,0,none⟩=some (.int .u8 Zb)∧w'.cell? ⟨Zs,1,none⟩=some (.bool Zg)∧w'.cell? ⟨Zs,2,none⟩=some (.slice Zp Za.length Zn)∧w'.cell? ⟨Zs,3,none⟩=some (.int .u8 Wz)∧w'.cell? ⟨Zs,4,none⟩=some (.int .u8 Va)∧w'.cell? ⟨Zs,5,none⟩=some (.int .u8 Vb)) (ds:=[]) #[false,false,false,false,false,false,false,false,false,false,false] (by kernel_rfl) rfl rfl ⟨(Yb Zm.out 0).trans rfl,(Yb Zm.out 1).trans rfl,(Yb Zm.out 2).trans rfl,(Yb Zf.out 0).trans rfl,(Yb Zf.out 1).trans rfl,(Yb Zf.out 2).trans rfl,(Yb Zf.out 3).trans rfl,(Yb Zf.out 4).trans rfl,(Yb Zf.out 5).trans rfl⟩ (fun hHeld=> ?_);refine with_tabW ebbtidelaw12_Read.tab9 ebbtidelaw12_Read.bits9 (fun HT_ HW_=> ?_);generalize w49.drew=w50 at HO_176002 Zf Zw Zm HB hHeld ⊢;refine pu 1 84 (bm 11 2) ?_;refine pu 2 85 (bm 11 6) ?_;refine pu 3 86 (bm 11 14) ?_;refine ta 0 83 (bm 11 15) hHeld ?_;refine ta 4 87 (bm 11 31) hHeld ?_;refine pu 5 88 (bm 11 63) ?_;refine pu 6 89 (bm 11 127) ?_;refine on 7 none (bm 11 255) fun K hK=> ?_
    have hs51:w50.cell? ⟨Zi,0,none⟩=some (.int .i64 0):=bc Zw 0;have hfs51:=Yc Zw.out 0;have hns51_0:=Ze.out;have hns51_2:=Zo.out;have hms51_0:=Wb.out;have hms51_2:=Xg.out;have hs52:w50.cell? ⟨Zi,1,none⟩=some (.bool false):=bc Zw 1;have hfs52:=Yc Zw.out 1;have hns52_0:=Ze.out;have hns52_2:=Zo.out;have hms52_0:=Wb.out;have hms52_2:=Xg.out;have hs54:w50.cell? ⟨Zi,2,none⟩=some (.slice none 0 0):=bc Zw 2;have hfs54:=Yc Zw.out 2;have hns54_0:=Ze.out;have hns54_2:=Zo.out;have hms54_0:=Wb.out;have hms54_2:=Xg.out;refine skip_ (w1:= ?_) (by rfl) rfl ?_ ?_
    rotate_left
    ·go_simp
     rfl
    refine hK.out _ _ ⟨((cell_far (p:=⟨Zi,_,none⟩) Zo.out _).trans (((cell_far (p:=⟨Zi,_,none⟩) Zo.out _).trans (((cell_far (p:=⟨Zi,_,none⟩) Zo.out _).trans (hHeld.1)))))),((cell_far (p:=⟨Zi,_,none⟩) Zo.out _).trans (((cell_far (p:=⟨Zi,_,none⟩) Zo.out _).trans (((cell_far (p:=⟨Zi,_,none⟩) Zo.out _).trans (hHeld.2.1)))))),((cell_far (p:=⟨Zi,_,none⟩) Zo.out _).trans (((cell_far (p:=⟨Zi,_,none⟩) Zo.out _).trans (((cell_far (p:=⟨Zi,_,none⟩) Zo.out _).trans (hHeld.2.2.1)))))),((cell_far (p:=⟨Zi,_,none⟩) Ze.out _).trans (((cell_far (p:=⟨Zi,_,none⟩) Ze.out _).trans (((cell_far (p:=⟨Zi,_,none⟩) Ze.out _).trans (hHeld.2.2.2.1)))))),((cell_far (p:=⟨Zi,_,none⟩) Ze.out _).trans (((cell_far (p:=⟨Zi,_,none⟩) Ze.out _).trans (((cell_far (p:=⟨Zi,_,none⟩) Ze.out _).trans (hHeld.2.2.2.2.1)))))),((cell_far (p:=⟨Zi,_,none⟩) Ze.out _).trans (((cell_far (p:=⟨Zi,_,none⟩) Ze.out _).trans (((cell_far (p:=⟨Zi,_,none⟩) Ze.out _).trans (hHeld.2.2.2.2.2.1)))))),((cell_far (p:=⟨Zi,_,none⟩) Ze.out _).trans (((cell_far (p:=⟨Zi,_,none⟩) Ze.out _).trans (((cell_far (p:=⟨Zi,_,none⟩) Ze.out _).trans (hHeld.2.2.2.2.2.2.1)))))),((cell_far (p:=⟨Zi,_,none⟩) Ze.out _).trans (((cell_far (p:=⟨Zi,_,none⟩) Ze.out _).trans (((cell_far (p:=⟨Zi,_,none⟩) Ze.out _).trans (hHeld.2.2.2.2.2.2.2.1)))))),((cell_far (p:=⟨Zi,_,none⟩) Ze.out _).trans (((cell_far (p:=⟨Zi,_,none⟩) Ze.out _).trans (((cell_far (p:=⟨Zi,_,none⟩) Ze.out _).trans (hHeld.2.2.2.2.2.2.2.2))))))⟩ (fun hHeld=> ?_);clear hK K;refine pu 8 5 (bm 11 511) ?_;refine pu 9 6 (bm 11 1023) ?_;refine pu 10 7 (bm 11 2047) ?_;refine done_ (done_of HT_.out (by kernel_rfl)) ?_;try go_wp2
    refine bodyPost_ret (results_list (rs:=[.cell 4 32, .tmp 5, .tmp 6, .tmp 7]) rfl (by simp) (.cell Zi 32 #[.int .i64 (wrap64 (2+(Int.tmod (wrap64 (Zb)) 4))), .bool Zg, .slice Ao53 Xl.length co53] (0,0) _ rfl (by(with_reducible repeat(first|refine Yh ?_ _|refine Yi ?_|refine Yf ?_ _));refine Ys (cs:= #[.int .i64 (wrap64 (2+(Int.tmod (wrap64 (Zb)) 4))), .bool Zg, .slice none 0 0]) ?_ 2 _ rfl;(with_reducible repeat(first|refine Yh ?_ _|refine Yi ?_|refine Yf ?_ _));refine Ys (cs:= #[.int .i64 (wrap64 (2+(Int.tmod (wrap64 (Zb)) 4))), .bool false, .slice none 0 0]) ?_ 1 _ rfl;(with_reducible repeat(first|refine Yh ?_ _|refine Yi ?_|refine Yf ?_ _));refine Ys (cs:= #[.int .i64 0, .bool false, .slice none 0 0]) ?_ 0 _ rfl;(with_reducible repeat(first|refine Yh ?_ _|refine Yi ?_|refine Yf ?_ _));exact Zw.out) Try.underlying32 rfl (by kernel_rfl) (.tmp (.tmp (.tmp .nil))))) rfl ?_;exact⟨_,by first|rfl|(simp[errW_none,errW_some]<;>rfl)|(simp[*,errW_none,errW_some]<;>rfl),by(with_reducible repeat(first|apply Kd.R_alloc|apply Kd.R_drewN|apply Yl));exact Kd.R_mono (Kd.R_far (p:=⟨Zi,2,none⟩) (Kd.R_far (p:=⟨Zi,1,none⟩) (Kd.R_far (p:=⟨Zi,0,none⟩) (Kd.R_types HO_176002.out Zw.out (by decide)) (fun _ hk=>hk.2) (.int .i64 (wrap64 (2+(Int.tmod (wrap64 (Zb)) 4))))) (fun _ hk=>hk.2) (.bool Zg)) (fun _ hk=>hk.2) (.slice Ao53 Xl.length co53)) (fun _ hk=>trivial),bl⟩
   rw[Yq c11] at H;have c11b0:decide (Zu<(Za.length:Int))=true:=Yo c11;clear c11;by_cases c12:Zu<a1
   rotate_left
   ·rw[Yr c12] at H
    have c12b0:decide (Zu<a1)=false:=Yp c12;clear c12;by_cases c29:(wrap64 (2+(Int.tmod (wrap64 (Zb)) 4)))=0
    ·rw[Yq c29] at H
     exact absurd H (by simp)
    rw[Yr c29] at H;have c29b0:((wrap64 (2+(Int.tmod (wrap64 (Zb)) 4))) == 0)=false:=beq_eq_false_iff_ne.mpr c29;have c29b1:((wrap64 (2+(Int.tmod (wrap64 (Zb)) 4))) != 0)=true:=bne_iff_ne.mpr c29;by_cases c30:(wrap64 ((wrap64 (2+(Int.tmod (wrap64 (Zb)) 4))) - 1))=0
    ·rw[Yq c30] at H
     exact absurd H (by simp)
    rw[Yr c30] at H;have c30b0:((wrap64 ((wrap64 (2+(Int.tmod (wrap64 (Zb)) 4))) - 1)) == 0)=false:=beq_eq_false_iff_ne.mpr c30;have c30b1:((wrap64 ((wrap64 (2+(Int.tmod (wrap64 (Zb)) 4))) - 1)) != 0)=true:=bne_iff_ne.mpr c30;simp only[Option.some.injEq,Prod.mk.injEq] at H;obtain⟨rfl,rfl,rfl,rfl,rfl,rfl⟩:=H;have hnb31:=Ze.out;have hnc31:=Wb.out;have hnb32:=Wh.out;have hnc32:=Vj.out;have hcz33_0:wr.cell? ⟨Zs,0,none⟩=some (.int .u8 Zb):=bc Zf 0;have hcz33_1:wr.cell? ⟨Zs,1,none⟩=some (.bool Zg):=bc Zf 1;have hcz33_2:wr.cell? ⟨Zs,2,none⟩=some (.slice Zp Za.length Zn):=bc Zf 2;have hcz33_3:wr.cell? ⟨Zs,3,none⟩=some (.int .u8 Wz):=bc Zf 3;have hcz33_4:wr.cell? ⟨Zs,4,none⟩=some (.int .u8 Va):=bc Zf 4;have hcz33_5:wr.cell? ⟨Zs,5,none⟩=some (.int .u8 Vb):=bc Zf 5;have hfz33_0:=Yc Zf.out 0;have hfz33_1:=Yc Zf.out 1;have hfz33_2:=Yc Zf.out 2;have hfz33_3:=Yc Zf.out 3;have hfz33_4:=Yc Zf.out 4;have hfz33_5:=Yc Zf.out 5;have hnb34:=Zo.out;have hnc34:=Xg.out;have hcz35_0:wr.cell? ⟨Xf,0,none⟩=some (.int .i64 (wrap64 (2+(Int.tmod (wrap64 (Zb)) 4)))):=bc Zm 0;have hcz35_1:wr.cell? ⟨Xf,1,none⟩=some (.bool Zg):=bc Zm 1;have hcz35_2:wr.cell? ⟨Xf,2,none⟩=some (u176002):=bc Zm 2;have hfz35_0:=Yc Zm.out 0;have hfz35_1:=Yc Zm.out 1;have hfz35_2:=Yc Zm.out 2;try go_wp2
    replace HO_176002:=Ya (Yl HO_176002.out);replace Zf:=Ya (Yi Zf.out);replace Zw:=Ya (Yi Zw.out);replace Zm:=Ya (Yi Zm.out);replace HB:=Ya (Yd HB.out);refine start_ (n:=14) (S:=fun w'=>w'.cell? ⟨Zs,0,none⟩=some (.int .u8 Zb)∧w'.cell? ⟨Zs,1,none⟩=some (.bool Zg)∧w'.cell? ⟨Zs,2,none⟩=some (.slice Zp Za.length Zn)∧w'.cell? ⟨Zs,3,none⟩=some (.int .u8 Wz)∧w'.cell? ⟨Zs,4,none⟩=some (.int .u8 Va)∧w'.cell? ⟨Zs,5,none⟩=some (.int .u8 Vb)∧w'.cell? ⟨Xf,0,none⟩=some (.int .i64 (wrap64 (2+(Int.tmod (wrap64 (Zb)) 4))))∧w'.cell? ⟨Xf,1,none⟩=some (.bool Zg)∧w'.cell? ⟨Xf,2,none⟩=some (u176002)) (ds:=[]) #[false,false,false,false,false,false,false,false,false,false,false,false,false,false] (by kernel_rfl) rfl rfl ⟨(Yb Zf.out 0).trans rfl,(Yb Zf.out 1).trans rfl,(Yb Zf.out 2).trans rfl,(Yb Zf.out 3).trans rfl,(Yb Zf.out 4).trans rfl,(Yb Zf.out 5).trans rfl,(Yb Zm.out 0).trans rfl,(Yb Zm.out 1).trans rfl,(Yb Zm.out 2).trans rfl⟩ (fun hHeld=> ?_);refine with_tabW ebbtidelaw12_Read.tab8 ebbtidelaw12_Read.bits8 (fun HT_ HW_=> ?_);generalize wr.drew=w36 at HO_176002 Zf Zw Zm HB hHeld ⊢;refine pu 0 70 (bm 14 1) ?_;refine pu 1 71 (bm 14 3) ?_;refine pu 2 72 (bm 14 7) ?_;refine pu 5 75 (bm 14 39) ?_;refine pu 10 80 (bm 14 1063) ?_;refine ta 3 73 (bm 14 1071) hHeld ?_;refine pu 4 74 (bm 14 1087) ?_;refine ta 6 76 (bm 14 1151) hHeld ?_;refine pu 7 77 (bm 14 1279) ?_;refine pu 8 78 (bm 14 1535) ?_;refine pu 9 79 (bm 14 2047) ?_;refine ta 11 81 (bm 14 4095) hHeld ?_;refine pu 12 82 (bm 14 8191) ?_;refine pu 13 12 (bm 14 16383) ?_;refine done_ (done_of HT_.out (by kernel_rfl)) ?_;try go_wp2
    replace HO_176002:=Ya (Yl HO_176002.out);replace Zf:=Ya (Yi Zf.out);replace Zw:=Ya (Yi Zw.out);replace Zm:=Ya (Yi Zm.out);replace HB:=Ya (Yd HB.out);obtain⟨Ao40,co40,eo40⟩:=Kd.R_slice HO_176002.out
    (first|subst eo40|(injection eo40 with f1_ f2_ f3_;have f4_:=f1_.symm;have f5_:=f3_.symm;clear f1_ f2_ f3_;subst f4_;subst f5_))
    refine start_ (n:=11) (S:=fun w'=>w'.cell? ⟨Xf,0,none⟩=some (.int .i64 (wrap64 (2+(Int.tmod (wrap64 (Zb)) 4))))∧w'.cell? ⟨Xf,1,none⟩=some (.bool Zg)∧w'.cell? ⟨Xf,2,none⟩=some (.slice Ao40 Xl.length co40)∧w'.cell? ⟨Zs,0,none⟩=some (.int .u8 Zb)∧w'.cell? ⟨Zs,1,none⟩=some (.bool Zg)∧w'.cell? ⟨Zs,2,none⟩=some (.slice Zp Za.length Zn)∧w'.cell? ⟨Zs,3,none⟩=some (.int .u8 Wz)∧w'.cell? ⟨Zs,4,none⟩=some (.int .u8 Va)∧w'.cell? ⟨Zs,5,none⟩=some (.int .u8 Vb)) (ds:=[]) #[false,false,false,false,false,false,false,false,false,false,false] (by kernel_rfl) rfl rfl ⟨(Yb Zm.out 0).trans rfl,(Yb Zm.out 1).trans rfl,(Yb Zm.out 2).trans rfl,(Yb Zf.out 0).trans rfl,(Yb Zf.out 1).trans rfl,(Yb Zf.out 2).trans rfl,(Yb Zf.out 3).trans rfl,(Yb Zf.out 4).trans rfl,(Yb Zf.out 5).trans rfl⟩ (fun hHeld=> ?_);refine with_tabW ebbtidelaw12_Read.tab9 ebbtidelaw12_Read.bits9 (fun HT_ HW_=> ?_);generalize w36.drew=w37 at HO_176002 Zf Zw Zm HB hHeld ⊢;refine pu 1 84 (bm 11 2) ?_;refine pu 2 85 (bm 11 6) ?_;refine pu 3 86 (bm 11 14) ?_;refine ta 0 83 (bm 11 15) hHeld ?_;refine ta 4 87 (bm 11 31) hHeld ?_;refine pu 5 88 (bm 11 63) ?_;refine pu 6 89 (bm 11 127) ?_;refine on 7 none (bm 11 255) fun K hK=> ?_
    have hs38:w37.cell? ⟨Zi,0,none⟩=some (.int .i64 0):=bc Zw 0;have hfs38:=Yc Zw.out 0;have hns38_0:=Ze.out;have hns38_2:=Zo.out;have hms38_0:=Wb.out;have hms38_2:=Xg.out;have hs39:w37.cell? ⟨Zi,1,none⟩=some (.bool false):=bc Zw 1;have hfs39:=Yc Zw.out 1;have hns39_0:=Ze.out;have hns39_2:=Zo.out;have hms39_0:=Wb.out;have hms39_2:=Xg.out;have hs41:w37.cell? ⟨Zi,2,none⟩=some (.slice none 0 0):=bc Zw 2;have hfs41:=Yc Zw.out 2;have hns41_0:=Ze.out;have hns41_2:=Zo.out;have hms41_0:=Wb.out;have hms41_2:=Xg.out;refine skip_ (w1:= ?_) (by rfl) rfl ?_ ?_
    rotate_left
    ·go_simp
     rfl
    refine hK.out _ _ ⟨((cell_far (p:=⟨Zi,_,none⟩) Zo.out _).trans (((cell_far (p:=⟨Zi,_,none⟩) Zo.out _).trans (((cell_far (p:=⟨Zi,_,none⟩) Zo.out _).trans (hHeld.1)))))),((cell_far (p:=⟨Zi,_,none⟩) Zo.out _).trans (((cell_far (p:=⟨Zi,_,none⟩) Zo.out _).trans (((cell_far (p:=⟨Zi,_,none⟩) Zo.out _).trans (hHeld.2.1)))))),((cell_far (p:=⟨Zi,_,none⟩) Zo.out _).trans (((cell_far (p:=⟨Zi,_,none⟩) Zo.out _).trans (((cell_far (p:=⟨Zi,_,none⟩) Zo.out _).trans (hHeld.2.2.1)))))),((cell_far (p:=⟨Zi,_,none⟩) Ze.out _).trans (((cell_far (p:=⟨Zi,_,none⟩) Ze.out _).trans (((cell_far (p:=⟨Zi,_,none⟩) Ze.out _).trans (hHeld.2.2.2.1)))))),((cell_far (p:=⟨Zi,_,none⟩) Ze.out _).trans (((cell_far (p:=⟨Zi,_,none⟩) Ze.out _).trans (((cell_far (p:=⟨Zi,_,none⟩) Ze.out _).trans (hHeld.2.2.2.2.1)))))),((cell_far (p:=⟨Zi,_,none⟩) Ze.out _).trans (((cell_far (p:=⟨Zi,_,none⟩) Ze.out _).trans (((cell_far (p:=⟨Zi,_,none⟩) Ze.out _).trans (hHeld.2.2.2.2.2.1)))))),((cell_far (p:=⟨Zi,_,none⟩) Ze.out _).trans (((cell_far (p:=⟨Zi,_,none⟩) Ze.out _).trans (((cell_far (p:=⟨Zi,_,none⟩) Ze.out _).trans (hHeld.2.2.2.2.2.2.1)))))),((cell_far (p:=⟨Zi,_,none⟩) Ze.out _).trans (((cell_far (p:=⟨Zi,_,none⟩) Ze.out _).trans (((cell_far (p:=⟨Zi,_,none⟩) Ze.out _).trans (hHeld.2.2.2.2.2.2.2.1)))))),((cell_far (p:=⟨Zi,_,none⟩) Ze.out _).trans (((cell_far (p:=⟨Zi,_,none⟩) Ze.out _).trans (((cell_far (p:=⟨Zi,_,none⟩) Ze.out _).trans (hHeld.2.2.2.2.2.2.2.2))))))⟩ (fun hHeld=> ?_);clear hK K;refine pu 8 5 (bm 11 511) ?_;refine pu 9 6 (bm 11 1023) ?_;refine pu 10 7 (bm 11 2047) ?_;refine done_ (done_of HT_.out (by kernel_rfl)) ?_;try go_wp2
    refine bodyPost_ret (results_list (rs:=[.cell 4 32, .tmp 5, .tmp 6, .tmp 7]) rfl (by simp) (.cell Zi 32 #[.int .i64 (wrap64 (2+(Int.tmod (wrap64 (Zb)) 4))), .bool Zg, .slice Ao40 Xl.length co40] (0,0) _ rfl (by(with_reducible repeat(first|refine Yh ?_ _|refine Yi ?_|refine Yf ?_ _));refine Ys (cs:= #[.int .i64 (wrap64 (2+(Int.tmod (wrap64 (Zb)) 4))), .bool Zg, .slice none 0 0]) ?_ 2 _ rfl;(with_reducible repeat(first|refine Yh ?_ _|refine Yi ?_|refine Yf ?_ _));refine Ys (cs:= #[.int .i64 (wrap64 (2+(Int.tmod (wrap64 (Zb)) 4))), .bool false, .slice none 0 0]) ?_ 1 _ rfl;(with_reducible repeat(first|refine Yh ?_ _|refine Yi ?_|refine Yf ?_ _));refine Ys (cs:= #[.int .i64 0, .bool false, .slice none 0 0]) ?_ 0 _ rfl;(with_reducible repeat(first|refine Yh ?_ _|refine Yi ?_|refine Yf ?_ _));exact Zw.out) Try.underlying32 rfl (by kernel_rfl) (.tmp (.tmp (.tmp .nil))))) rfl ?_;exact⟨_,by first|rfl|(simp[errW_none,errW_some]<;>rfl)|(simp[*,errW_none,errW_some]<;>rfl),by(with_reducible repeat(first|apply Kd.R_alloc|apply Kd.R_drewN|apply Yl));exact Kd.R_mono (Kd.R_far (p:=⟨Zi,2,none⟩) (Kd.R_far (p:=⟨Zi,1,none⟩) (Kd.R_far (p:=⟨Zi,0,none⟩) (Kd.R_types HO_176002.out Zw.out (by decide)) (fun _ hk=>hk.2) (.int .i64 (wrap64 (2+(Int.tmod (wrap64 (Zb)) 4))))) (fun _ hk=>hk.2) (.bool Zg)) (fun _ hk=>hk.2) (.slice Ao40 Xl.length co40)) (fun _ hk=>trivial),bl⟩
   rw[Yq c12] at H;have c12b0:decide (Zu<a1)=true:=Yo c12;clear c12;by_cases c13:0≤Zu
   rotate_left
   ·rw[Yr c13] at H
    exact absurd H (by simp)
   rw[Yq c13] at H;have c13b0:decide (0≤Zu)=true:=Yo c13;clear c13;by_cases c14:(wrap64 (2+(Int.tmod (wrap64 (Zb)) 4)))=0
   ·rw[Yq c14] at H
    exact absurd H (by simp)
   rw[Yr c14] at H;have c14b0:((wrap64 (2+(Int.tmod (wrap64 (Zb)) 4))) == 0)=false:=beq_eq_false_iff_ne.mpr c14;have c14b1:((wrap64 (2+(Int.tmod (wrap64 (Zb)) 4))) != 0)=true:=bne_iff_ne.mpr c14;by_cases c15:Xl.length<4398046511104
   rotate_left
   ·rw[Yr c15] at H
    exact absurd H (by simp)
   rw[Yq c15] at H;have LMc15:=Ya c15;clear c15;obtain⟨y178,hy178⟩: ∃ y_:List (S73),y_=(Xl ++ [(⟨Int.tmod (wrap64 ((rd_T77 Za Zu).f0)) (wrap64 (2+(Int.tmod (wrap64 (Zb)) 4))),Int.tmod (wrap64 ((rd_T77 Za Zu).f1)) (wrap64 (2+(Int.tmod (wrap64 (Zb)) 4))),Int.tmod (wrap64 ((rd_T77 Za Zu).f2)) 6,Int.tmod (wrap64 ((rd_T77 Za Zu).f3)) 4⟩:S73)]):=⟨_,rfl⟩;rw[← hy178] at H;have Ny178:=Ya hy178;clear hy178;have H':=Ya H;clear H;have hnb16:=Ze.out;have hnc16:=Wb.out;have hnb17:=Wh.out;have hnc17:=Vj.out;have hcz18_0:wr.cell? ⟨Zs,0,none⟩=some (.int .u8 Zb):=bc Zf 0;have hcz18_1:wr.cell? ⟨Zs,1,none⟩=some (.bool Zg):=bc Zf 1;have hcz18_2:wr.cell? ⟨Zs,2,none⟩=some (.slice Zp Za.length Zn):=bc Zf 2;have hcz18_3:wr.cell? ⟨Zs,3,none⟩=some (.int .u8 Wz):=bc Zf 3;have hcz18_4:wr.cell? ⟨Zs,4,none⟩=some (.int .u8 Va):=bc Zf 4;have hcz18_5:wr.cell? ⟨Zs,5,none⟩=some (.int .u8 Vb):=bc Zf 5;have hfz18_0:=Yc Zf.out 0;have hfz18_1:=Yc Zf.out 1;have hfz18_2:=Yc Zf.out 2;have hfz18_3:=Yc Zf.out 3;have hfz18_4:=Yc Zf.out 4;have hfz18_5:=Yc Zf.out 5;have p176:0≤(Zu:Int):=od;have q176:Zu<(Za.length:Int):=od;obtain⟨ad176,e176,hx176_0,hx176_1,hx176_2,hx176_3⟩:=at_T77 Wl.out Zu p176 q176;cases e176;replace hx176_0:=hc HB hx176_0;replace hx176_1:=hc HB hx176_1;replace hx176_2:=hc HB hx176_2;replace hx176_3:=hc HB hx176_3;replace p176:=eq_true p176;replace q176:=eq_true q176;try go_wp2_with (first|(refine bx 10 77 #[.int .u8 0, .int .u8 0, .int .u8 0, .int .u8 0] ?_;intro Zz hg w19 Zv hb;replace HO_176002:=Ya (Ym (kR HO_176002) hb);have Xn:=Ya (Zv);have GW177:=Ya ((sz hg));have GE177:=Ya ((sz hg));replace HB:=Ya (Yg bl hb);have Vk:=Ya (by rw[hg];exact Nat.ne_of_lt (blk_lt (bk Zf)):Zs≠Zz);have NB177_173:=Ya (by rw[hg];exact Nat.ne_of_gt (blk_lt (bk Zf)):Zz≠Zs);replace Zf:=Ya (Yj (bk Zf) hb);have Vl:=Ya (by rw[hg];exact Nat.ne_of_lt (blk_lt (bk Zw)):Zi≠Zz);have NB177_174:=Ya (by rw[hg];exact Nat.ne_of_gt (blk_lt (bk Zw)):Zz≠Zi);replace Zw:=Ya (Yj (bk Zw) hb);have Vd:=Ya (by rw[hg];exact Nat.ne_of_lt (blk_lt (bk Zm)):Xf≠Zz);have Jf:=Ya (by rw[hg];exact Nat.ne_of_gt (blk_lt (bk Zm)):Zz≠Xf);replace Zm:=Ya (Yj (bk Zm) hb);clear hb Zv hg;have hnb20:=NB177_173.out;have hnc20:=Vk.out;have hnb21:=NB177_174.out;have hnc21:=Vl.out;have hnb22:=Jf.out;have hnc22:=Vd.out;have hcz23_0:w19.cell? ⟨Zz,0,none⟩=some (.int .u8 0):=bc Xn 0;have hcz23_1:w19.cell? ⟨Zz,1,none⟩=some (.int .u8 0):=bc Xn 1;have hcz23_2:w19.cell? ⟨Zz,2,none⟩=some (.int .u8 0):=bc Xn 2;have hcz23_3:w19.cell? ⟨Zz,3,none⟩=some (.int .u8 0):=bc Xn 3;have hfz23_0:=Yc Xn.out 0;have hfz23_1:=Yc Xn.out 1;have hfz23_2:=Yc Xn.out 2;have hfz23_3:=Yc Xn.out 3))
   have n0_:Aside0 (Kd.R k73 73 ((((w19.setCell ⟨Zz,0,none⟩ (.int .u8 ((rd_T77 Za Zu).f0))).setCell ⟨Zz,1,none⟩ (.int .u8 ((rd_T77 Za Zu).f1))).setCell ⟨Zz,2,none⟩ (.int .u8 ((rd_T77 Za Zu).f2))).setCell ⟨Zz,3,none⟩ (.int .u8 ((rd_T77 Za Zu).f3))) w.heap.size (fun _=>True) u176002 Xl):=⟨by(with_reducible repeat(first|apply Kd.R_alloc|apply Kd.R_drewN|apply Yl));exact Kd.R_mono (Kd.R_far (p:=⟨Zz,3,none⟩) (Kd.R_far (p:=⟨Zz,2,none⟩) (Kd.R_far (p:=⟨Zz,1,none⟩) (Kd.R_far (p:=⟨Zz,0,none⟩) (Kd.R_types HO_176002.out Xn.out (by decide)) (fun _ hk=>hk.2) (.int .u8 ((rd_T77 Za Zu).f0))) (fun _ hk=>hk.2) (.int .u8 ((rd_T77 Za Zu).f1))) (fun _ hk=>hk.2) (.int .u8 ((rd_T77 Za Zu).f2))) (fun _ hk=>hk.2) (.int .u8 ((rd_T77 Za Zu).f3))) (fun _ hk=>trivial)⟩;have n1_:Aside0 (((((w19.setCell ⟨Zz,0,none⟩ (.int .u8 ((rd_T77 Za Zu).f0))).setCell ⟨Zz,1,none⟩ (.int .u8 ((rd_T77 Za Zu).f1))).setCell ⟨Zz,2,none⟩ (.int .u8 ((rd_T77 Za Zu).f2))).setCell ⟨Zz,3,none⟩ (.int .u8 ((rd_T77 Za Zu).f3))).heap[Zs]? =some (.cells #[.int .u8 Zb, .bool Zg, .slice (some ad176) Za.length Zn, .int .u8 Wz, .int .u8 Va, .int .u8 Vb] 24 (0,0))):=⟨by(with_reducible repeat(first|refine Yh ?_ _|refine Yi ?_|refine Yf ?_ _));refine blk_far ?_ Vk.out _;(with_reducible repeat(first|refine Yh ?_ _|refine Yi ?_|refine Yf ?_ _));refine blk_far ?_ Vk.out _;(with_reducible repeat(first|refine Yh ?_ _|refine Yi ?_|refine Yf ?_ _));refine blk_far ?_ Vk.out _;(with_reducible repeat(first|refine Yh ?_ _|refine Yi ?_|refine Yf ?_ _));refine blk_far ?_ Vk.out _;(with_reducible repeat(first|refine Yh ?_ _|refine Yi ?_|refine Yf ?_ _));exact Zf.out⟩;have n2_:Aside0 (((((w19.setCell ⟨Zz,0,none⟩ (.int .u8 ((rd_T77 Za Zu).f0))).setCell ⟨Zz,1,none⟩ (.int .u8 ((rd_T77 Za Zu).f1))).setCell ⟨Zz,2,none⟩ (.int .u8 ((rd_T77 Za Zu).f2))).setCell ⟨Zz,3,none⟩ (.int .u8 ((rd_T77 Za Zu).f3))).heap[Zi]? =some (.cells #[.int .i64 0, .bool false, .slice none 0 0] 32 (0,0))):=⟨by(with_reducible repeat(first|refine Yh ?_ _|refine Yi ?_|refine Yf ?_ _));refine blk_far ?_ Vl.out _;(with_reducible repeat(first|refine Yh ?_ _|refine Yi ?_|refine Yf ?_ _));refine blk_far ?_ Vl.out _;(with_reducible repeat(first|refine Yh ?_ _|refine Yi ?_|refine Yf ?_ _));refine blk_far ?_ Vl.out _;(with_reducible repeat(first|refine Yh ?_ _|refine Yi ?_|refine Yf ?_ _));refine blk_far ?_ Vl.out _;(with_reducible repeat(first|refine Yh ?_ _|refine Yi ?_|refine Yf ?_ _));exact Zw.out⟩;have n3_:Aside0 (((((w19.setCell ⟨Zz,0,none⟩ (.int .u8 ((rd_T77 Za Zu).f0))).setCell ⟨Zz,1,none⟩ (.int .u8 ((rd_T77 Za Zu).f1))).setCell ⟨Zz,2,none⟩ (.int .u8 ((rd_T77 Za Zu).f2))).setCell ⟨Zz,3,none⟩ (.int .u8 ((rd_T77 Za Zu).f3))).heap[Xf]? =some (.cells #[.int .i64 (wrap64 (2+(Int.tmod (wrap64 (Zb)) 4))), .bool Zg,u176002] 32 (0,0))):=⟨by(with_reducible repeat(first|refine Yh ?_ _|refine Yi ?_|refine Yf ?_ _));refine blk_far ?_ Vd.out _;(with_reducible repeat(first|refine Yh ?_ _|refine Yi ?_|refine Yf ?_ _));refine blk_far ?_ Vd.out _;(with_reducible repeat(first|refine Yh ?_ _|refine Yi ?_|refine Yf ?_ _));refine blk_far ?_ Vd.out _;(with_reducible repeat(first|refine Yh ?_ _|refine Yi ?_|refine Yf ?_ _));refine blk_far ?_ Vd.out _;(with_reducible repeat(first|refine Yh ?_ _|refine Yi ?_|refine Yf ?_ _));exact Zm.out⟩;have n4_:Aside0 (((((w19.setCell ⟨Zz,0,none⟩ (.int .u8 ((rd_T77 Za Zu).f0))).setCell ⟨Zz,1,none⟩ (.int .u8 ((rd_T77 Za Zu).f1))).setCell ⟨Zz,2,none⟩ (.int .u8 ((rd_T77 Za Zu).f2))).setCell ⟨Zz,3,none⟩ (.int .u8 ((rd_T77 Za Zu).f3))).heap[Zz]? =some (.cells #[.int .u8 ((rd_T77 Za Zu).f0), .int .u8 ((rd_T77 Za Zu).f1), .int .u8 ((rd_T77 Za Zu).f2), .int .u8 ((rd_T77 Za Zu).f3)] 77 (0,0))):=⟨by(with_reducible repeat(first|refine Yh ?_ _|refine Yi ?_|refine Yf ?_ _));refine Ys (cs:= #[.int .u8 ((rd_T77 Za Zu).f0), .int .u8 ((rd_T77 Za Zu).f1), .int .u8 ((rd_T77 Za Zu).f2), .int .u8 0]) ?_ 3 _ rfl;(with_reducible repeat(first|refine Yh ?_ _|refine Yi ?_|refine Yf ?_ _));refine Ys (cs:= #[.int .u8 ((rd_T77 Za Zu).f0), .int .u8 ((rd_T77 Za Zu).f1), .int .u8 0, .int .u8 0]) ?_ 2 _ rfl;(with_reducible repeat(first|refine Yh ?_ _|refine Yi ?_|refine Yf ?_ _));refine Ys (cs:= #[.int .u8 ((rd_T77 Za Zu).f0), .int .u8 0, .int .u8 0, .int .u8 0]) ?_ 1 _ rfl;(with_reducible repeat(first|refine Yh ?_ _|refine Yi ?_|refine Yf ?_ _));refine Ys (cs:= #[.int .u8 0, .int .u8 0, .int .u8 0, .int .u8 0]) ?_ 0 _ rfl;(with_reducible repeat(first|refine Yh ?_ _|refine Yi ?_|refine Yf ?_ _));exact Xn.out⟩;have n5_:Aside0 (Below w.heap.size w ((((w19.setCell ⟨Zz,0,none⟩ (.int .u8 ((rd_T77 Za Zu).f0))).setCell ⟨Zz,1,none⟩ (.int .u8 ((rd_T77 Za Zu).f1))).setCell ⟨Zz,2,none⟩ (.int .u8 ((rd_T77 Za Zu).f2))).setCell ⟨Zz,3,none⟩ (.int .u8 ((rd_T77 Za Zu).f3)))):=⟨bl⟩
   (try clear HO_176002)
   (try clear Zf)
   (try clear Zw)
   (try clear Zm)
   (try clear Xn)
   (try clear HB)
   generalize ((((w19.setCell ⟨Zz,0,none⟩ (.int .u8 ((rd_T77 Za Zu).f0))).setCell ⟨Zz,1,none⟩ (.int .u8 ((rd_T77 Za Zu).f1))).setCell ⟨Zz,2,none⟩ (.int .u8 ((rd_T77 Za Zu).f2))).setCell ⟨Zz,3,none⟩ (.int .u8 ((rd_T77 Za Zu).f3)))=w24 at n0_ n1_ n2_ n3_ n4_ n5_ ⊢;have HO_176002:=n0_;have Zf:=n1_;have Zw:=n2_;have Zm:=n3_;have Xn:=n4_;have HB:=n5_;clear n0_ n1_ n2_ n3_ n4_ n5_;replace HO_176002:=Ya (Yl HO_176002.out);replace Zf:=Ya (Yi Zf.out);replace Zw:=Ya (Yi Zw.out);replace Zm:=Ya (Yi Zm.out);replace Xn:=Ya (Yi Xn.out);replace HB:=Ya (Yd HB.out);refine start_ (n:=27) (S:=fun w'=>w'.cell? ⟨Xf,0,none⟩=some (.int .i64 (wrap64 (2+(Int.tmod (wrap64 (Zb)) 4))))∧w'.cell? ⟨Xf,1,none⟩=some (.bool Zg)∧w'.cell? ⟨Xf,2,none⟩=some (u176002)∧w'.cell? ⟨Zz,0,none⟩=some (.int .u8 ((rd_T77 Za Zu).f0))∧w'.cell? ⟨Zz,1,none⟩=some (.int .u8 ((rd_T77 Za Zu).f1))∧w'.cell? ⟨Zz,2,none⟩=some (.int .u8 ((rd_T77 Za Zu).f2))∧w'.cell? ⟨Zz,3,none⟩=some (.int .u8 ((rd_T77 Za Zu).f3))) (ds:=[26]) #[false,false,false,false,false,false,false,false,false,false,false,false,false,false,false,false,false,false,false,false,false,false,false,false,false,false,false] (by kernel_rfl) rfl rfl ⟨(Yb Zm.out 0).trans rfl,(Yb Zm.out 1).trans rfl,(Yb Zm.out 2).trans rfl,(Yb Xn.out 0).trans rfl,(Yb Xn.out 1).trans rfl,(Yb Xn.out 2).trans rfl,(Yb Xn.out 3).trans rfl⟩ (fun hHeld=> ?_);refine with_tabW ebbtidelaw12_Read.tab6 ebbtidelaw12_Read.bits6 (fun HT_ HW_=> ?_);generalize w24.drew=w25 at HO_176002 Zf Zw Zm Xn HB hHeld ⊢;refine pu 0 38 (bm 27 1) ?_;refine pu 2 40 (bm 27 5) ?_;refine pu 5 43 (bm 27 37) ?_;refine pu 8 46 (bm 27 293) ?_;refine pu 11 49 (bm 27 2341) ?_;refine pu 14 52 (bm 27 18725) ?_;refine pu 18 56 (bm 27 280869) ?_;refine ta 1 39 (bm 27 280871) hHeld ?_;refine ta 3 41 (bm 27 280879) hHeld ?_;refine pu 4 42 (bm 27 280895) ?_;refine ta 6 44 (bm 27 280959) hHeld ?_;refine pu 7 45 (bm 27 281087) ?_;refine ta 9 47 (bm 27 281599) hHeld ?_;refine pu 10 48 (bm 27 282623) ?_;refine ta 12 50 (bm 27 286719) hHeld ?_;refine pu 13 51 (bm 27 294911) ?_;refine ta 15 53 (bm 27 327679) hHeld ?_;refine pu 16 54 (bm 27 393215) ?_;refine pu 17 55 (bm 27 524287) ?_;refine ta 19 57 (bm 27 1048575) hHeld ?_;refine pu 20 58 (bm 27 2097151) ?_;refine pu 21 59 (bm 27 4194303) ?_;refine pu 22 60 (bm 27 8388607) ?_;refine on 23 (some 61) (bm 27 16777215) fun K hK=> ?_
   refine value_ (w1:= ?_) (v:= ?_) (by rfl) rfl ?_ ?_
   rotate_left 2
   ·go_simp
    constructor
    ·rfl
    ·rfl
   refine hK.out _ _ ⟨(Yb (Yf Zm.out _) 0).trans rfl,(Yb (Yf Zm.out _) 1).trans rfl,(Yb (Yf Zm.out _) 2).trans rfl,(Yb (Yf Xn.out _) 0).trans rfl,(Yb (Yf Xn.out _) 1).trans rfl,(Yb (Yf Xn.out _) 2).trans rfl,(Yb (Yf Xn.out _) 3).trans rfl⟩ (fun hHeld=> ?_);clear hK K;refine nm ?_;refine on 24 (some 62) (bm 27 33554431) fun K hK=> ?_
   refine Kd.R_append_step k73 (w0:=w) w.heap.size (by rfl) (.tmp 39) (.tmp 61) 30 73 (.agg #[(.int .i64 0),(.int .i64 0),(.int .i64 0),(.int .i64 0)]) 32 rfl Try.underlying30 info73 rfl (by decide) (by omega) u176002 Xl (⟨Int.tmod (wrap64 ((rd_T77 Za Zu).f0)) (wrap64 (2+(Int.tmod (wrap64 (Zb)) 4))),Int.tmod (wrap64 ((rd_T77 Za Zu).f1)) (wrap64 (2+(Int.tmod (wrap64 (Zb)) 4))),Int.tmod (wrap64 ((rd_T77 Za Zu).f2)) 6,Int.tmod (wrap64 ((rd_T77 Za Zu).f3)) 4⟩:S73) [.int .i64 (Int.tmod (wrap64 ((rd_T77 Za Zu).f0)) (wrap64 (2+(Int.tmod (wrap64 (Zb)) 4)))), .int .i64 (Int.tmod (wrap64 ((rd_T77 Za Zu).f1)) (wrap64 (2+(Int.tmod (wrap64 (Zb)) 4)))), .int .i64 (Int.tmod (wrap64 ((rd_T77 Za Zu).f2)) 6), .int .i64 (Int.tmod (wrap64 ((rd_T77 Za Zu).f3)) 4)] (fun _=>True) (fun _=>False) rfl rfl ?aP (fun _ hk=>hk.elim) ?aF ?aO ?aB ?aS ?aL ?_
   (case aP=>exact k73_mkM _ _ _ (⟨Int.tmod (wrap64 ((rd_T77 Za Zu).f0)) (wrap64 (2+(Int.tmod (wrap64 (Zb)) 4))),Int.tmod (wrap64 ((rd_T77 Za Zu).f1)) (wrap64 (2+(Int.tmod (wrap64 (Zb)) 4))),Int.tmod (wrap64 ((rd_T77 Za Zu).f2)) 6,Int.tmod (wrap64 ((rd_T77 Za Zu).f3)) 4⟩:S73))
   (case aB=>exact HB.out)
   (case aF=>exact(fun _ _=>trivial))
   (case aO=>exact HO_176002.out)
   (case aS=>exact(Ye HB.out))
   (case aL=>have:=LMc15.out;omega)
   intro v179 w26 ho hb hg hat
   rw[← Ny178.out] at ho;replace Zf:=Ya (blk_grown Zf.out hg (Kd.R_ne HO_176002.out Zf.out (by decide)));replace Zw:=Ya (blk_grown Zw.out hg (Kd.R_ne HO_176002.out Zw.out (by decide)));replace Zm:=Ya (blk_grown Zm.out hg (Kd.R_ne HO_176002.out Zm.out (by decide)));replace Xn:=Ya (blk_grown Xn.out hg (Kd.R_ne HO_176002.out Xn.out (by decide)));replace HB:=Ya (hb);have HO180:=Ya (ho);clear HO_176002;clear ho hb hg hat
   obtain⟨Ao27,co27,eo27⟩:=Kd.R_slice HO180.out
   (first|subst eo27|(injection eo27 with f1_ f2_ f3_;have f4_:=f1_.symm;have f5_:=f3_.symm;clear f1_ f2_ f3_;subst f4_;subst f5_))
   refine hK.out _ _ ⟨bc Zm 0,bc Zm 1,bc Zm 2,bc Xn 0,bc Xn 1,bc Xn 2,bc Xn 3⟩ (fun hHeld=> ?_);clear hK K;refine nm ?_;refine pu 25 63 (bm 27 67108863) ?_;refine last_ (i:=26) (N:=none) #[true,true,true,true,true,true,true,true,true,true,true,true,true,true,true,true,true,true,true,true,true,true,true,true,true,true,true] rfl rfl (one_of HT_.out (by kernel_rfl)) (by decide) (fun K hK=> ?_);have hs28:w26.cell? ⟨Xf,2,none⟩=some (u176002):=bc Zm 2;have hfs28:=Yc Zm.out 2;have hns28_0:=Wh.out;have hns28_1:=Xg.out;have hns28_3:=Jf.out;have hms28_0:=Vj.out;have hms28_1:=Zo.out;have hms28_3:=Vd.out;refine skip_ (w1:= ?_) (by rfl) rfl ?_ ?_
   rotate_left
   ·go_simp
    rfl
   refine hK.out _ _ ?_;clear hK K;refine done_ (done_of HT_.out (by kernel_rfl)) ?_;try go_wp2
   go_roundg k1
   case measure=>have:=HK1.out;omega
   case rel=>exact⟨(wrap64 (Zu+1)),(y178),(.slice Ao27 y178.length co27),(by first|rfl|(simp;done)|(simp[*];done)),H',⟨by have:=HK1.out;omega⟩,⟨by(with_reducible repeat(first|apply Kd.R_alloc|apply Kd.R_drewN|apply Yl));exact Kd.R_mono (Kd.R_far (p:=⟨Xf,2,none⟩) (Kd.R_types HO180.out Zm.out (by decide)) (fun _ hk=>hk.2) (.slice Ao27 y178.length co27)) (fun _ hk=>trivial)⟩,⟨by(with_reducible repeat(first|refine Yh ?_ _|refine Yi ?_|refine Yf ?_ _));refine blk_far ?_ Wh.out _;(with_reducible repeat(first|refine Yh ?_ _|refine Yi ?_|refine Yf ?_ _));exact Zf.out⟩,⟨by(with_reducible repeat(first|refine Yh ?_ _|refine Yi ?_|refine Yf ?_ _));refine blk_far ?_ Xg.out _;(with_reducible repeat(first|refine Yh ?_ _|refine Yi ?_|refine Yf ?_ _));exact Zw.out⟩,⟨by(with_reducible repeat(first|refine Yh ?_ _|refine Yi ?_|refine Yf ?_ _));refine Ys (cs:= #[.int .i64 (wrap64 (2+(Int.tmod (wrap64 (Zb)) 4))), .bool Zg,u176002]) ?_ 2 _ rfl;(with_reducible repeat(first|refine Yh ?_ _|refine Yi ?_|refine Yf ?_ _));exact Zm.out⟩,⟨bl⟩⟩
end P
namespace P
attribute [local go_sem] max2_int min2_int max_two min_two max_three min_three max_four min_four
mutual
def ebbtidelaw18_Made.l0:Nat→Int→Int→Int→List Int→List (S53)→Int→Int→Bool→List (S73)→Option ((List (S53)))
 |0,_,_,_,_,_,_,_,_,_=>none
 |k+1,x1,x2,x3,x4,x11,x12,Xu,Xv,Wd=>if x12≤x3 then(ebbtidelaw18_Made.l1 k x1 x2 x3 x4 x11 x12 0 Xu Xv Wd) else(some x11)
def ebbtidelaw18_Made.l1:Nat→Int→Int→Int→List Int→List (S53)→Int→Int→Int→Bool→List (S73)→Option ((List (S53)))
 |0,_,_,_,_,_,_,_,_,_,_=>none
 |k+1,x1,x2,x3,x4,x11,x12,x13,Xu,Xv,Wd=>if x13<Xu then(if x13<(x4.length:Int) then(if 0≤x13 then(ebbtidelaw18_Made.j2 k x1 x2 x3 x4 x11 x12 x13 (rd x4 x13) Xu Xv Wd) else(none)) else(ebbtidelaw18_Made.j2 k x1 x2 x3 x4 x11 x12 x13 0 Xu Xv Wd)) else(ebbtidelaw18_Made.l0 k x1 x2 x3 x4 x11 (wrap64 (x12+1)) Xu Xv Wd)
def ebbtidelaw18_Made.j2:Nat→Int→Int→Int→List Int→List (S53)→Int→Int→Int→Int→Bool→List (S73)→Option ((List (S53)))
 |0,_,_,_,_,_,_,_,_,_,_,_=>none
 |k+1,x1,x2,x3,x4,x11,x12,x13,x14,Xu,Xv,Wd=>if 0≤x12 then(if Xv=true then(if (wrap64 (x3+2))=0 then(none) else(if x13=x1 then(if x11.length<8796093022208 then(ebbtidelaw18_Made.l1 k x1 x2 x3 x4 (x11 ++ [(⟨x13,x12⟩:S53)]) x12 (wrap64 (x13+1)) Xu Xv Wd) else(none)) else(if x13=x2 then(ebbtidelaw18_Made.l1 k x1 x2 x3 x4 x11 x12 (wrap64 (x13+1)) Xu Xv Wd) else(if (Int.tmod (wrap64 (x14)) (wrap64 (x3+2)))≤x12 then(if x11.length<8796093022208 then(ebbtidelaw18_Made.l1 k x1 x2 x3 x4 (x11 ++ [(⟨x13,x12⟩:S53)]) x12 (wrap64 (x13+1)) Xu Xv Wd) else(none)) else(ebbtidelaw18_Made.l1 k x1 x2 x3 x4 x11 x12 (wrap64 (x13+1)) Xu Xv Wd))))) else(if x13=x1 then(if x11.length<8796093022208 then(ebbtidelaw18_Made.l1 k x1 x2 x3 x4 (x11 ++ [(⟨x13,x12⟩:S53)]) x12 (wrap64 (x13+1)) Xu Xv Wd) else(none)) else(if x13=x2 then(ebbtidelaw18_Made.l1 k x1 x2 x3 x4 x11 x12 (wrap64 (x13+1)) Xu Xv Wd) else(if (Go.bits .and .u16 (shr .u16 x14 x12) 1)=1 then(if x11.length<8796093022208 then(ebbtidelaw18_Made.l1 k x1 x2 x3 x4 (x11 ++ [(⟨x13,x12⟩:S53)]) x12 (wrap64 (x13+1)) Xu Xv Wd) else(none)) else(ebbtidelaw18_Made.l1 k x1 x2 x3 x4 x11 x12 (wrap64 (x13+1)) Xu Xv Wd))))) else(none)
end
def ebbtidelaw18_Made.f (k:Nat) (Zb:Int) (Zg:Bool) (Za:List (S73)) (a1:Int) (a2:Int) (a3:Int) (l4:List Int):Option ((List (S53))):=ebbtidelaw18_Made.l0 k a1 a2 a3 l4 ([]:List (S53)) 0 Zb Zg Za
set_option maxHeartbeats 8000000 in
set_option maxRecDepth 100000 in
theorem ebbtidelaw18_Made.calls (k:Nat) (Zb:Int) (Zg:Bool) (Zp:Option Addr) (Zn:Nat) (Za:List (S73)) (a1:Int) (a2:Int) (a3:Int) (A4:Option Addr) (c4:Nat) (l4:List Int) (r:List (S53)) (w:World) (Wi:Kd.C k73 w Zp Za.length Za) (Wj:Za.length≤Zn) (hr4:Kd.C (Kd.int .u16) w A4 l4.length l4) (hc4:l4.length≤c4) (h:ebbtidelaw18_Made.f k Zb Zg Za a1 a2 a3 l4=some r):
  Calls Try.prog 11 #[.agg #[.int .i64 Zb, .bool Zg, .slice Zp Za.length Zn], .int .i64 a1, .int .i64 a2, .int .i64 a3, .slice A4 l4.length c4] w fun e w'=> ∃ v0_:Value,e= .returned (v0_)∧Kd.R k53 53 w' w.heap.size (fun _=>True) v0_ r∧Below w.heap.size w w':=by
 have hu32:=Try.underlying32;have hu53:=Try.underlying53;have Wl:=Ya Wi;have Ws:=Ya Wj;clear Wi Wj;have HR4:=Ya hr4;have HC4:=Ya hc4;clear hr4 hc4;have HB:=Ya (Yk w.heap.size w);have H:=h;unfold ebbtidelaw18_Made.f at H;clear h;have H':=Ya H;clear H;go_enter Try.func11,Try.ntmps11;go_wp2_with (first|(refine bx 5 32 #[.int .i64 Zb, .bool Zg, .slice Zp Za.length Zn] ?_;intro Xi hg w6 Zv hb;have Zh:=Ya (Zv);have GW291:=Ya ((sz hg));have GE291:=Ya ((sz hg));replace HB:=Ya (Yg bl hb);clear hb Zv hg));go_loopg [11,12] k (fun kq v11 v12 w'=> ∃ (x11_1:List (S53)) (Xa:Int),v12= .int .i64 Xa∧Aside0 (ebbtidelaw18_Made.l0 kq a1 a2 a3 l4 x11_1 Xa Zb Zg Za=some r)∧Aside0 (kq≤k)∧Aside0 (Kd.R k53 53 w' w.heap.size (fun _=>True) v11 x11_1)∧Aside0 (w'.heap[Xi]? =some (.cells #[.int .i64 Zb, .bool Zg,(.slice Zp Za.length Zn)] 32 (0,0)))∧Aside0 (Below w.heap.size w w'))
 case atStart=>exact⟨(([]:List (S53))),(0),(by first|rfl|(simp;done)|(simp[*];done)),H',⟨Nat.le_refl _⟩,⟨by first|exact Kd.R_nil _ _ _ _ _|exact Kd.N_nil _ _ _ _ _|exact Kd.V_nil _ _ _ _ _|exact Kd.Q_nil _ _ _ _ _|exact Kd.S_nil _ _ _ _ _⟩,⟨Zh.out⟩,⟨HB.out⟩⟩
 case round=>
  clear H';try clear c4
  obtain⟨x11_1,Xa,rfl,HA,HK1,HO_11,Zh,HB⟩:=hrel;cases gk with
  |zero=>exact absurd HA.out (by simp[ebbtidelaw18_Made.l0])
  |succ k1=>
   have H:=HA.out;clear HA;simp only[ebbtidelaw18_Made.l0] at H;by_cases c7:Xa≤a3
   rotate_left
   ·rw[Yr c7] at H
    have c7b0:decide (Xa≤a3)=false:=Yp c7;clear c7;obtain rfl:=Option.some.inj H;go_wp2;go_ret;exact⟨_,by first|rfl|(simp[errW_none,errW_some]<;>rfl)|(simp[*,errW_none,errW_some]<;>rfl),by(with_reducible repeat(first|apply Kd.R_alloc|apply Kd.R_drewN|apply Yl));exact HO_11.out,HB.out⟩
   rw[Yq c7] at H;have c7b0:decide (Xa≤a3)=true:=Yo c7;clear c7;have H':=Ya H;clear H;go_wp2;go_loopg [11,13] k1 (fun kq v11 v13 w'=> ∃ (Xh:List (S53)) (Zj:Int),v13= .int .i64 Zj∧Aside0 (ebbtidelaw18_Made.l1 kq a1 a2 a3 l4 Xh Xa Zj Zb Zg Za=some r)∧Aside0 (kq≤k1)∧Aside0 (Kd.R k53 53 w' w.heap.size (fun _=>True) v11 Xh)∧Aside0 (w'.heap[Xi]? =some (.cells #[.int .i64 Zb, .bool Zg,(.slice Zp Za.length Zn)] 32 (0,0)))∧Aside0 (Below w.heap.size w w'))
   case atStart=>exact⟨(x11_1),(0),(by first|rfl|(simp;done)|(simp[*];done)),H',⟨Nat.le_refl _⟩,⟨HO_11.out⟩,⟨Zh.out⟩,⟨HB.out⟩⟩
   case round=>
    clear H';try clear c4
    try clear c7
    try clear c7b0
    obtain⟨Xh,Zj,rfl,HA,HK2,HO_11,Zh,HB⟩:=hrel;cases gk with
    |zero=>exact absurd HA.out (by simp[ebbtidelaw18_Made.l1])
    |succ k2=>
     have H:=HA.out;clear HA;simp only[ebbtidelaw18_Made.l1] at H;by_cases c8:Zj<Zb
     rotate_left
     ·rw[Yr c8] at H
      have c8b0:decide (Zj<Zb)=false:=Yp c8;clear c8;have H':=Ya H;clear H;have hcz39_0:wr.cell? ⟨Xi,0,none⟩=some (.int .i64 Zb):=bc Zh 0;have hcz39_1:wr.cell? ⟨Xi,1,none⟩=some (.bool Zg):=bc Zh 1;have hcz39_2:wr.cell? ⟨Xi,2,none⟩=some (.slice Zp Za.length Zn):=bc Zh 2;have hfz39_0:=Yc Zh.out 0;have hfz39_1:=Yc Zh.out 1;have hfz39_2:=Yc Zh.out 2;go_wp2;go_roundg k2
      case measure=>have:=HK1.out;have:=HK2.out;omega
      case rel=>exact⟨(Xh),(wrap64 (Xa+1)),(by first|rfl|(simp;done)|(simp[*];done)),H',⟨by have:=HK1.out;have:=HK2.out;omega⟩,⟨HO_11.out⟩,⟨Zh.out⟩,⟨HB.out⟩⟩
     rw[Yq c8] at H;have c8b0:decide (Zj<Zb)=true:=Yo c8;clear c8;have HC9:=Ya H;clear H;have Vv:wr.cell? ⟨Xi,0,none⟩=some (.int .i64 Zb):=bc Zh 0;have Vw:wr.cell? ⟨Xi,1,none⟩=some (.bool Zg):=bc Zh 1;have Vx:wr.cell? ⟨Xi,2,none⟩=some (.slice Zp Za.length Zn):=bc Zh 2;have Vy:=Yc Zh.out 0;have Vz:=Yc Zh.out 1;have Ua:=Yc Zh.out 2;go_upto_if 30 with (fail)
     go_cut [14] (fun v14 wc=> ∃ (kq:Nat) (Ue:Int),v14= .int .u16 Ue∧Aside0 (ebbtidelaw18_Made.j2 kq a1 a2 a3 l4 Xh Xa Zj Ue Zb Zg Za=some r)∧Aside0 (kq≤k2)∧Aside0 (Kd.R k53 53 wc w.heap.size (fun _=>True) u11 Xh)∧Aside0 (wc.heap[Xi]? =some (.cells #[.int .i64 Zb, .bool Zg,(.slice Zp Za.length Zn)] 32 (0,0)))∧Aside0 (Below w.heap.size w wc))
     case first=>
      have H:=HC9.out;clear HC9;by_cases c11:Zj<(l4.length:Int)
      rotate_left
      ·rw[Yr c11] at H
       have c11b0:decide (Zj<(l4.length:Int))=false:=Yp c11;clear c11
       (first|rw[c11b0]|(simp only[i64_w,i32_w];rw[c11b0])|skip)
       have H':=Ya H;clear H;go_wp2;go_meet
       case rel=>exact⟨_,(0),(by first|rfl|(simp;done)|(simp[*];done)),H',⟨by have:=HK1.out;have:=HK2.out;first|omega|exact Nat.le_refl _⟩,⟨HO_11.out⟩,⟨Zh.out⟩,⟨HB.out⟩⟩
      rw[Yq c11] at H;have c11b0:decide (Zj<(l4.length:Int))=true:=Yo c11;clear c11
      (first|rw[c11b0]|(simp only[i64_w,i32_w];rw[c11b0])|skip)
      by_cases c12:0≤Zj
      rotate_left
      ·rw[Yr c12] at H
       exact absurd H (by simp)
      rw[Yq c12] at H;have c12b0:decide (0≤Zj)=true:=Yo c12;clear c12;have H':=Ya H;clear H;have p292:0≤(Zj:Int):=od;have q292:Zj<(l4.length:Int):=od;obtain⟨ad292,e292,Jx⟩:=Kd.at_int HR4.out Zj p292 q292;cases e292;replace Jx:=hc HB Jx;replace p292:=eq_true p292;replace q292:=eq_true q292;go_wp2;go_meet
      case rel=>exact⟨_,(rd l4 Zj),(by first|rfl|(simp;done)|(simp[*];done)),H',⟨by have:=HK1.out;have:=HK2.out;first|omega|exact Nat.le_refl _⟩,⟨HO_11.out⟩,⟨Zh.out⟩,⟨HB.out⟩⟩
     case rest=>
      clear HC9;try clear c4
      try clear c7
      try clear c7b0
      try clear c8
      try clear c8b0
      try clear c11
      try clear c11b0
      try clear c12
      try clear c12b0
      try clear Vv
      try clear Vw
      try clear Vx
      try clear Vy
      try clear Vz
      try clear Ua
      try clear Jx
      try clear p292
      try clear q292
      obtain⟨kq,Ue,rfl,HA,HJ8,HO_11,Zh,HB⟩:=hcut;cases kq with
      |zero=>exact absurd HA.out (by simp[ebbtidelaw18_Made.j2])
      |succ kj8=>
       have H:=HA.out;clear HA;simp only[ebbtidelaw18_Made.j2] at H;by_cases c13:0≤Xa
       rotate_left
       ·rw[Yr c13] at H
        exact absurd H (by simp)
       rw[Yq c13] at H;have c13b0:=eq_true c13;have c13b1:decide (0≤Xa)=true:=Yo c13;clear c13;obtain⟨ji14,hji14⟩: ∃ j_:Int,(shr .u16 Ue Xa)=j_:=⟨_,rfl⟩;replace H:(if Zg=true then(if (wrap64 (a3+2))=0 then(none) else(if Zj=a1 then(if Xh.length<8796093022208 then(ebbtidelaw18_Made.l1 kj8 a1 a2 a3 l4 (Xh ++ [(⟨Zj,Xa⟩:S53)]) Xa (wrap64 (Zj+1)) Zb Zg Za) else(none)) else(if Zj=a2 then(ebbtidelaw18_Made.l1 kj8 a1 a2 a3 l4 Xh Xa (wrap64 (Zj+1)) Zb Zg Za) else(if (Int.tmod (wrap64 (Ue)) (wrap64 (a3+2)))≤Xa then(if Xh.length<8796093022208 then(ebbtidelaw18_Made.l1 kj8 a1 a2 a3 l4 (Xh ++ [(⟨Zj,Xa⟩:S53)]) Xa (wrap64 (Zj+1)) Zb Zg Za) else(none)) else(ebbtidelaw18_Made.l1 kj8 a1 a2 a3 l4 Xh Xa (wrap64 (Zj+1)) Zb Zg Za))))) else(if Zj=a1 then(if Xh.length<8796093022208 then(ebbtidelaw18_Made.l1 kj8 a1 a2 a3 l4 (Xh ++ [(⟨Zj,Xa⟩:S53)]) Xa (wrap64 (Zj+1)) Zb Zg Za) else(none)) else(if Zj=a2 then(ebbtidelaw18_Made.l1 kj8 a1 a2 a3 l4 Xh Xa (wrap64 (Zj+1)) Zb Zg Za) else(if (Go.bits .and .u16 (ji14) 1)=1 then(if Xh.length<8796093022208 then(ebbtidelaw18_Made.l1 kj8 a1 a2 a3 l4 (Xh ++ [(⟨Zj,Xa⟩:S53)]) Xa (wrap64 (Zj+1)) Zb Zg Za) else(none)) else(ebbtidelaw18_Made.l1 kj8 a1 a2 a3 l4 Xh Xa (wrap64 (Zj+1)) Zb Zg Za)))))=some r:=by first|(rw[hji14] at H;exact H)|(simp only[hji14] at H ⊢;exact H)
       have hji14_:(Ue / 2 ^ min Xa.toNat 16)=ji14:=hji14;have hji14z:Xa≤16→(Ue / 2 ^ Xa.toNat)=ji14:=shr_small hji14;by_cases c15:Zg=true
       rotate_left
       ·replace c15:=Bool.eq_false_iff.mpr c15
        subst c15;rw[Yr (show ¬ (false=true) by decide)] at H;by_cases c28:Zj=a1
        ·rw[Yq c28] at H
         have c28b0:(Zj == a1)=true:=beq_iff_eq.mpr c28;have c28b1:(Zj != a1)=false:=bne_eq_false_iff_eq.mpr c28;clear c28;by_cases c29:Xh.length<8796093022208
         rotate_left
         ·rw[Yr c29] at H
          exact absurd H (by simp)
         rw[Yq c29] at H;have LMc29:=Ya c29;clear c29;obtain⟨y299,hy299⟩: ∃ y_:List (S53),y_=(Xh ++ [(⟨Zj,Xa⟩:S53)]):=⟨_,rfl⟩;rw[← hy299] at H;have Ny299:=Ya hy299;clear hy299;have H':=Ya H;clear H;have hcz30_0:wc.cell? ⟨Xi,0,none⟩=some (.int .i64 Zb):=bc Zh 0;have hcz30_1:wc.cell? ⟨Xi,1,none⟩=some (.bool false):=bc Zh 1;have hcz30_2:wc.cell? ⟨Xi,2,none⟩=some (.slice Zp Za.length Zn):=bc Zh 2;have hfz30_0:=Yc Zh.out 0;have hfz30_1:=Yc Zh.out 1;have hfz30_2:=Yc Zh.out 2;go_wp2_with (first|((with_reducible refine gate_builtin (b:= .append) (xs:= #[.tmp 60, .tmp 64]) rfl ?_);at_builtin;refine Kd.R_append k53 (w0:=w) w.heap.size rfl (.tmp 60) (.tmp 64) 40 53 (.agg #[(.int .i64 0),(.int .i64 0)]) 16 rfl Try.underlying40 info53 rfl (by decide) (by omega) u11 Xh (⟨Zj,Xa⟩:S53) [.int .i64 Zj, .int .i64 Xa] (fun _=>True) (fun _=>False) rfl rfl ?aP (fun _ hk=>hk.elim) ?aF ?aO ?aB ?aS ?aL ?_;(case aP=>exact k53_mkM _ _ _ (⟨Zj,Xa⟩:S53));(case aB=>exact bl);(case aF=>exact(fun _ _=>trivial));(case aO=>exact(kR HO_11));(case aS=>exact(Ye bl));(case aL=>have:=LMc29.out;omega);intro v300 w31 ho hb hg hat;rw[← Ny299.out] at ho;replace Zh:=Ya (blk_grown (bk Zh) hg (Kd.R_ne HO_11.out Zh.out (by decide)));replace HB:=Ya (hb);have HO301:=Ya (ho);clear HO_11;clear ho hb hg hat));go_roundg kj8
         case measure=>have:=HK1.out;have:=HK2.out;have:=HJ8.out;omega
         case rel=>exact⟨(y299),(wrap64 (Zj+1)),(by first|rfl|(simp;done)|(simp[*];done)),H',⟨by have:=HK1.out;have:=HK2.out;have:=HJ8.out;omega⟩,⟨HO301.out⟩,⟨Zh.out⟩,⟨HB.out⟩⟩
        rw[Yr c28] at H;have c28b0:(Zj == a1)=false:=beq_eq_false_iff_ne.mpr c28;have c28b1:(Zj != a1)=true:=bne_iff_ne.mpr c28;by_cases c32:Zj=a2
        ·rw[Yq c32] at H
         have c32b0:(Zj == a2)=true:=beq_iff_eq.mpr c32;have c32b1:(Zj != a2)=false:=bne_eq_false_iff_eq.mpr c32;clear c32;have H':=Ya H;clear H;have hcz33_0:wc.cell? ⟨Xi,0,none⟩=some (.int .i64 Zb):=bc Zh 0;have hcz33_1:wc.cell? ⟨Xi,1,none⟩=some (.bool false):=bc Zh 1;have hcz33_2:wc.cell? ⟨Xi,2,none⟩=some (.slice Zp Za.length Zn):=bc Zh 2;have hfz33_0:=Yc Zh.out 0;have hfz33_1:=Yc Zh.out 1;have hfz33_2:=Yc Zh.out 2;go_wp2;go_roundg kj8
         case measure=>have:=HK1.out;have:=HK2.out;have:=HJ8.out;omega
         case rel=>exact⟨(Xh),(wrap64 (Zj+1)),(by first|rfl|(simp;done)|(simp[*];done)),H',⟨by have:=HK1.out;have:=HK2.out;have:=HJ8.out;omega⟩,⟨HO_11.out⟩,⟨Zh.out⟩,⟨HB.out⟩⟩
        rw[Yr c32] at H;have c32b0:(Zj == a2)=false:=beq_eq_false_iff_ne.mpr c32;have c32b1:(Zj != a2)=true:=bne_iff_ne.mpr c32;by_cases c34:(Go.bits .and .u16 (ji14) 1)=1
        rotate_left
        ·rw[Yr c34] at H
         have c34b0:((Go.bits .and .u16 (ji14) 1) == 1)=false:=beq_eq_false_iff_ne.mpr c34;have c34b1:((Go.bits .and .u16 (ji14) 1) != 1)=true:=bne_iff_ne.mpr c34;have H':=Ya H;clear H;have hcz38_0:wc.cell? ⟨Xi,0,none⟩=some (.int .i64 Zb):=bc Zh 0;have hcz38_1:wc.cell? ⟨Xi,1,none⟩=some (.bool false):=bc Zh 1;have hcz38_2:wc.cell? ⟨Xi,2,none⟩=some (.slice Zp Za.length Zn):=bc Zh 2;have hfz38_0:=Yc Zh.out 0;have hfz38_1:=Yc Zh.out 1;have hfz38_2:=Yc Zh.out 2;go_wp2;go_roundg kj8
         case measure=>have:=HK1.out;have:=HK2.out;have:=HJ8.out;omega
         case rel=>exact⟨(Xh),(wrap64 (Zj+1)),(by first|rfl|(simp;done)|(simp[*];done)),H',⟨by have:=HK1.out;have:=HK2.out;have:=HJ8.out;omega⟩,⟨HO_11.out⟩,⟨Zh.out⟩,⟨HB.out⟩⟩
        rw[Yq c34] at H;have c34b0:((Go.bits .and .u16 (ji14) 1) == 1)=true:=beq_iff_eq.mpr c34;have c34b1:((Go.bits .and .u16 (ji14) 1) != 1)=false:=bne_eq_false_iff_eq.mpr c34;clear c34;by_cases c35:Xh.length<8796093022208
        rotate_left
        ·rw[Yr c35] at H
         exact absurd H (by simp)
        rw[Yq c35] at H;have LMc35:=Ya c35;clear c35;obtain⟨y302,hy302⟩: ∃ y_:List (S53),y_=(Xh ++ [(⟨Zj,Xa⟩:S53)]):=⟨_,rfl⟩;rw[← hy302] at H;have Ny302:=Ya hy302;clear hy302;have H':=Ya H;clear H;have hcz36_0:wc.cell? ⟨Xi,0,none⟩=some (.int .i64 Zb):=bc Zh 0;have hcz36_1:wc.cell? ⟨Xi,1,none⟩=some (.bool false):=bc Zh 1;have hcz36_2:wc.cell? ⟨Xi,2,none⟩=some (.slice Zp Za.length Zn):=bc Zh 2;have hfz36_0:=Yc Zh.out 0;have hfz36_1:=Yc Zh.out 1;have hfz36_2:=Yc Zh.out 2;go_wp2_with (first|((with_reducible refine gate_builtin (b:= .append) (xs:= #[.tmp 60, .tmp 64]) rfl ?_);at_builtin;refine Kd.R_append k53 (w0:=w) w.heap.size rfl (.tmp 60) (.tmp 64) 40 53 (.agg #[(.int .i64 0),(.int .i64 0)]) 16 rfl Try.underlying40 info53 rfl (by decide) (by omega) u11 Xh (⟨Zj,Xa⟩:S53) [.int .i64 Zj, .int .i64 Xa] (fun _=>True) (fun _=>False) rfl rfl ?aP (fun _ hk=>hk.elim) ?aF ?aO ?aB ?aS ?aL ?_;(case aP=>exact k53_mkM _ _ _ (⟨Zj,Xa⟩:S53));(case aB=>exact bl);(case aF=>exact(fun _ _=>trivial));(case aO=>exact(kR HO_11));(case aS=>exact(Ye bl));(case aL=>have:=LMc35.out;omega);intro v303 w37 ho hb hg hat;rw[← Ny302.out] at ho;replace Zh:=Ya (blk_grown (bk Zh) hg (Kd.R_ne HO_11.out Zh.out (by decide)));replace HB:=Ya (hb);have HO304:=Ya (ho);clear HO_11;clear ho hb hg hat));go_roundg kj8
        case measure=>have:=HK1.out;have:=HK2.out;have:=HJ8.out;omega
        case rel=>exact⟨(y302),(wrap64 (Zj+1)),(by first|rfl|(simp;done)|(simp[*];done)),H',⟨by have:=HK1.out;have:=HK2.out;have:=HJ8.out;omega⟩,⟨HO304.out⟩,⟨Zh.out⟩,⟨HB.out⟩⟩
       subst c15;first|rw[Yq rfl] at H|rw[Yq trivial] at H
       by_cases c16:(wrap64 (a3+2))=0
       ·rw[Yq c16] at H
        exact absurd H (by simp)
       rw[Yr c16] at H;have c16b0:((wrap64 (a3+2)) == 0)=false:=beq_eq_false_iff_ne.mpr c16;have c16b1:((wrap64 (a3+2)) != 0)=true:=bne_iff_ne.mpr c16;by_cases c17:Zj=a1
       ·rw[Yq c17] at H
        have c17b0:(Zj == a1)=true:=beq_iff_eq.mpr c17;have c17b1:(Zj != a1)=false:=bne_eq_false_iff_eq.mpr c17;clear c17;by_cases c18:Xh.length<8796093022208
        rotate_left
        ·rw[Yr c18] at H
         exact absurd H (by simp)
        rw[Yq c18] at H;have LMc18:=Ya c18;clear c18;obtain⟨y293,hy293⟩: ∃ y_:List (S53),y_=(Xh ++ [(⟨Zj,Xa⟩:S53)]):=⟨_,rfl⟩;rw[← hy293] at H;have Ny293:=Ya hy293;clear hy293;have H':=Ya H;clear H;have hcz19_0:wc.cell? ⟨Xi,0,none⟩=some (.int .i64 Zb):=bc Zh 0;have hcz19_1:wc.cell? ⟨Xi,1,none⟩=some (.bool true):=bc Zh 1;have hcz19_2:wc.cell? ⟨Xi,2,none⟩=some (.slice Zp Za.length Zn):=bc Zh 2;have hfz19_0:=Yc Zh.out 0;have hfz19_1:=Yc Zh.out 1;have hfz19_2:=Yc Zh.out 2;go_wp2_with (first|((with_reducible refine gate_builtin (b:= .append) (xs:= #[.tmp 60, .tmp 64]) rfl ?_);at_builtin;refine Kd.R_append k53 (w0:=w) w.heap.size rfl (.tmp 60) (.tmp 64) 40 53 (.agg #[(.int .i64 0),(.int .i64 0)]) 16 rfl Try.underlying40 info53 rfl (by decide) (by omega) u11 Xh (⟨Zj,Xa⟩:S53) [.int .i64 Zj, .int .i64 Xa] (fun _=>True) (fun _=>False) rfl rfl ?aP (fun _ hk=>hk.elim) ?aF ?aO ?aB ?aS ?aL ?_;(case aP=>exact k53_mkM _ _ _ (⟨Zj,Xa⟩:S53));(case aB=>exact bl);(case aF=>exact(fun _ _=>trivial));(case aO=>exact(kR HO_11));(case aS=>exact(Ye bl));(case aL=>have:=LMc18.out;omega);intro v294 w20 ho hb hg hat;rw[← Ny293.out] at ho;replace Zh:=Ya (blk_grown (bk Zh) hg (Kd.R_ne HO_11.out Zh.out (by decide)));replace HB:=Ya (hb);have HO295:=Ya (ho);clear HO_11;clear ho hb hg hat));go_roundg kj8
        case measure=>have:=HK1.out;have:=HK2.out;have:=HJ8.out;omega
        case rel=>exact⟨(y293),(wrap64 (Zj+1)),(by first|rfl|(simp;done)|(simp[*];done)),H',⟨by have:=HK1.out;have:=HK2.out;have:=HJ8.out;omega⟩,⟨HO295.out⟩,⟨Zh.out⟩,⟨HB.out⟩⟩
       rw[Yr c17] at H;have c17b0:(Zj == a1)=false:=beq_eq_false_iff_ne.mpr c17;have c17b1:(Zj != a1)=true:=bne_iff_ne.mpr c17;by_cases c21:Zj=a2
       ·rw[Yq c21] at H
        have c21b0:(Zj == a2)=true:=beq_iff_eq.mpr c21;have c21b1:(Zj != a2)=false:=bne_eq_false_iff_eq.mpr c21;clear c21;have H':=Ya H;clear H;have hcz22_0:wc.cell? ⟨Xi,0,none⟩=some (.int .i64 Zb):=bc Zh 0;have hcz22_1:wc.cell? ⟨Xi,1,none⟩=some (.bool true):=bc Zh 1;have hcz22_2:wc.cell? ⟨Xi,2,none⟩=some (.slice Zp Za.length Zn):=bc Zh 2;have hfz22_0:=Yc Zh.out 0;have hfz22_1:=Yc Zh.out 1;have hfz22_2:=Yc Zh.out 2;go_wp2;go_roundg kj8
        case measure=>have:=HK1.out;have:=HK2.out;have:=HJ8.out;omega
        case rel=>exact⟨(Xh),(wrap64 (Zj+1)),(by first|rfl|(simp;done)|(simp[*];done)),H',⟨by have:=HK1.out;have:=HK2.out;have:=HJ8.out;omega⟩,⟨HO_11.out⟩,⟨Zh.out⟩,⟨HB.out⟩⟩
       rw[Yr c21] at H;have c21b0:(Zj == a2)=false:=beq_eq_false_iff_ne.mpr c21;have c21b1:(Zj != a2)=true:=bne_iff_ne.mpr c21;by_cases c23:(Int.tmod (wrap64 (Ue)) (wrap64 (a3+2)))≤Xa
       rotate_left
       ·rw[Yr c23] at H
        have c23b0:decide ((Int.tmod (wrap64 (Ue)) (wrap64 (a3+2)))≤Xa)=false:=Yp c23;clear c23;have H':=Ya H;clear H;have hcz27_0:wc.cell? ⟨Xi,0,none⟩=some (.int .i64 Zb):=bc Zh 0;have hcz27_1:wc.cell? ⟨Xi,1,none⟩=some (.bool true):=bc Zh 1;have hcz27_2:wc.cell? ⟨Xi,2,none⟩=some (.slice Zp Za.length Zn):=bc Zh 2;have hfz27_0:=Yc Zh.out 0;have hfz27_1:=Yc Zh.out 1;have hfz27_2:=Yc Zh.out 2;go_wp2;go_roundg kj8
        case measure=>have:=HK1.out;have:=HK2.out;have:=HJ8.out;omega
        case rel=>exact⟨(Xh),(wrap64 (Zj+1)),(by first|rfl|(simp;done)|(simp[*];done)),H',⟨by have:=HK1.out;have:=HK2.out;have:=HJ8.out;omega⟩,⟨HO_11.out⟩,⟨Zh.out⟩,⟨HB.out⟩⟩
       rw[Yq c23] at H;have c23b0:decide ((Int.tmod (wrap64 (Ue)) (wrap64 (a3+2)))≤Xa)=true:=Yo c23;clear c23;by_cases c24:Xh.length<8796093022208
       rotate_left
       ·rw[Yr c24] at H
        exact absurd H (by simp)
       rw[Yq c24] at H;have LMc24:=Ya c24;clear c24;obtain⟨y296,hy296⟩: ∃ y_:List (S53),y_=(Xh ++ [(⟨Zj,Xa⟩:S53)]):=⟨_,rfl⟩;rw[← hy296] at H;have Ny296:=Ya hy296;clear hy296;have H':=Ya H;clear H;have Uu:wc.cell? ⟨Xi,0,none⟩=some (.int .i64 Zb):=bc Zh 0;have Uv:wc.cell? ⟨Xi,1,none⟩=some (.bool true):=bc Zh 1;have Uw:wc.cell? ⟨Xi,2,none⟩=some (.slice Zp Za.length Zn):=bc Zh 2;have Ux:=Yc Zh.out 0;have Uy:=Yc Zh.out 1;have Uz:=Yc Zh.out 2;go_wp2_with (first|((with_reducible refine gate_builtin (b:= .append) (xs:= #[.tmp 60, .tmp 64]) rfl ?_);at_builtin;refine Kd.R_append k53 (w0:=w) w.heap.size rfl (.tmp 60) (.tmp 64) 40 53 (.agg #[(.int .i64 0),(.int .i64 0)]) 16 rfl Try.underlying40 info53 rfl (by decide) (by omega) u11 Xh (⟨Zj,Xa⟩:S53) [.int .i64 Zj, .int .i64 Xa] (fun _=>True) (fun _=>False) rfl rfl ?aP (fun _ hk=>hk.elim) ?aF ?aO ?aB ?aS ?aL ?_;(case aP=>exact k53_mkM _ _ _ (⟨Zj,Xa⟩:S53));(case aB=>exact bl);(case aF=>exact(fun _ _=>trivial));(case aO=>exact(kR HO_11));(case aS=>exact(Ye bl));(case aL=>have:=LMc24.out;omega);intro v297 w26 ho hb hg hat;rw[← Ny296.out] at ho;replace Zh:=Ya (blk_grown (bk Zh) hg (Kd.R_ne HO_11.out Zh.out (by decide)));replace HB:=Ya (hb);have HO298:=Ya (ho);clear HO_11;clear ho hb hg hat));go_roundg kj8
       case measure=>have:=HK1.out;have:=HK2.out;have:=HJ8.out;omega
       case rel=>exact⟨(y296),(wrap64 (Zj+1)),(by first|rfl|(simp;done)|(simp[*];done)),H',⟨by have:=HK1.out;have:=HK2.out;have:=HJ8.out;omega⟩,⟨HO298.out⟩,⟨Zh.out⟩,⟨HB.out⟩⟩
end P
end Go.Proofs.Ytjaoknhhoicigaa
