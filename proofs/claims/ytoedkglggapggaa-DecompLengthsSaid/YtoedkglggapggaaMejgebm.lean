/- What the law's row needs of these texts, taken out of them by wip/tool/mini.py: P0 QPress P2 P3 P4 P5 P58 P59 P60 P66 QBfsLaw QWayLaw QDownLaw P104 P105 P107 QBfLaw QSortArr QSortLaw P9 P11 QLists QStepsLaw QSetLaw. -/
import Derived.Test.YtoedkglggapggaaProg
import Derived.Below
import Derived.Deep.Draws
import Derived.Deep.AppendLies
import Derived.Maps.AppendAt
import Derived.OwnWalk
import Derived.Laws.BytesArg
import Derived.Laws.MakeOwn
import Derived.Laws.OwnMore
import Derived.Deep.OwnRows
import Derived.Tactics
import Derived.Lib.ConvBytes
import Derived.Laws.Slices
import Derived.WalkKit
import Derived.KernelRfl
import Derived.RowKit3
import Derived.Deep.LoopGhost
import Derived.Deep.QuietTactic
import Derived.BigQuiet
import Derived.WideLaws
import Derived.Deep.DeepCutAuto
import Derived.Deep.CutBlock
import Derived.Deep.RegionHeld3
import Derived.Laws.Rows
import Derived.Lib.AppendStr
import Derived.ArgAppend
import Derived.Laws.IdiomCopy
import Derived.OrdersHeld
import Derived.Laws.BitsLemmas
import Derived.RowKit
import Derived.Test.YtoedkglggapggaaVhpaoob
import Derived.Laws.StructEq
import Derived.Deep.MidRow
import Derived.Lib.LazyBuf
import Derived.RegionTactic
import Derived.ChangeAlike
import Derived.BigRegion
import Derived.LoopTactic
import Derived.Laws.AppendOwn
set_option linter.unusedVariables false
set_option linter.unusedSimpArgs false
open Go.RowKit Go.Proofs.YtoedkglggapggaaW.PrintWords Go.Proofs.YtoedkglggapggaaW.PrintLast Go.Proofs.YtoedkglggapggaaW.PrintMore
namespace Go.Proofs.Ytoedkglggapggaa
namespace P
attribute [local go_sem] max2_int min2_int max_two min_two max_three min_three max_four min_four
def errW:Option Int→Value
 |none=> .nilIface
 |some c=> .iface 0 (.int .i64 c)
theorem errW_none:errW none= .nilIface:=rfl
theorem errW_some (c:Int):errW (some c)= .iface 0 (.int .i64 c):=rfl
theorem info3:(Try.prog.info? 3).map (fun i=>(i.zero,i.size,i.bytes))=some (some (.int .i64 0),1,8):=by kernel_rfl
theorem info47:(Try.prog.info? 47).map (fun i=>(i.zero,i.size,i.bytes))=some (some (.agg #[(.slice none 0 0),(.int .i64 0)]),2,32):=by kernel_rfl
theorem info50:(Try.prog.info? 50).map (fun i=>(i.zero,i.size,i.bytes))=some (some (.agg #[(.int .i64 0),(.int .i64 0),(.int .i64 0),(.int .i64 0)]),4,32):=by kernel_rfl
theorem info79:(Try.prog.info? 79).map (fun i=>(i.zero,i.size,i.bytes))=some (some (.agg #[(.int .i64 0),(.bool false)]),2,16):=by kernel_rfl
structure S50 where
 f0:Int
 f1:Int
 f2:Int
 f3:Int
def z50:S50:=⟨(0:Int),(0:Int),(0:Int),(0:Int)⟩
def k50:Kd S50:=Kd.iso (Kd.pair (Kd.int .i64) (Kd.pair (Kd.int .i64) (Kd.pair (Kd.int .i64) (Kd.int .i64)))) (fun x:S50=>(x.f0,x.f1,x.f2,x.f3))
theorem k50_open {w:World} {x:S50} {cs:List Value} (h:k50.K w x cs):cs=[.int .i64 x.f0, .int .i64 x.f1, .int .i64 x.f2, .int .i64 x.f3]:=by
 obtain⟨_,_,rfl,rfl,⟨_,_,rfl,rfl,⟨_,_,rfl,rfl,rfl⟩⟩⟩:=h;exact rfl
theorem k50_openM {w:World} {base:Nat} {ok:Nat→Prop} {x:S50} {cs:List Value} (h:k50.M w base ok x cs):cs=[.int .i64 x.f0, .int .i64 x.f1, .int .i64 x.f2, .int .i64 x.f3]:=by
 obtain⟨_,_,rfl,rfl,⟨_,_,rfl,rfl,⟨_,_,rfl,rfl,rfl⟩⟩⟩:=h;exact rfl
theorem k50_mkM (w:World) (base:Nat) (ok:Nat→Prop) (x:S50)  :k50.M w base ok x [.int .i64 x.f0, .int .i64 x.f1, .int .i64 x.f2, .int .i64 x.f3]:=⟨[.int .i64 x.f0],[.int .i64 x.f1, .int .i64 x.f2, .int .i64 x.f3],rfl,rfl,⟨[.int .i64 x.f1],[.int .i64 x.f2, .int .i64 x.f3],rfl,rfl,⟨[.int .i64 x.f2],[.int .i64 x.f3],rfl,rfl,rfl⟩⟩⟩
def rd_T50 (xs:List S50) (i:Int):S50:=xs.getD i.toNat z50
theorem at_T50 {w:World} {A:Option Addr} {n:Nat} {xs:List S50} (h:Kd.C k50 w A n xs) (i:Int) (h0:0≤i) (h1:i<n): ∃ ad ,A=some ad∧w.cell? (ad.add (i.toNat * 4))=some (.int .i64 (rd_T50 xs i).f0)∧w.cell? ⟨(ad.add (i.toNat * 4)).block,(ad.add (i.toNat * 4)).off+1,none⟩=some (.int .i64 (rd_T50 xs i).f1)∧w.cell? ⟨(ad.add (i.toNat * 4)).block,(ad.add (i.toNat * 4)).off+2,none⟩=some (.int .i64 (rd_T50 xs i).f2)∧w.cell? ⟨(ad.add (i.toNat * 4)).block,(ad.add (i.toNat * 4)).off+3,none⟩=some (.int .i64 (rd_T50 xs i).f3):=by
 obtain⟨ad,c,e,_,hK,hc0⟩:=Kd.C_get h z50 i h0 h1;have hc: ∀ j u,c[j]? =some u→w.cell? (ad.add (i.toNat * 4+j))=some u:=hc0;obtain rfl:=k50_open hK;exact⟨ad,e,hc 0 _ rfl,by rw[← add_field _ _ 1 (by omega)];exact hc 1 _ rfl,by rw[← add_field _ _ 2 (by omega)];exact hc 2 _ rfl,by rw[← add_field _ _ 3 (by omega)];exact hc 3 _ rfl⟩
structure S79 where
 f0:Int
 f1:Bool
def z79:S79:=⟨(0:Int),false⟩
def k79:Kd S79:=Kd.iso (Kd.pair (Kd.int .i64) Kd.bool) (fun x:S79=>(x.f0,x.f1))
theorem k79_open {w:World} {x:S79} {cs:List Value} (h:k79.K w x cs):cs=[.int .i64 x.f0, .bool x.f1]:=by
 obtain⟨_,_,rfl,rfl,rfl⟩:=h;exact rfl
theorem k79_mkM (w:World) (base:Nat) (ok:Nat→Prop) (x:S79)  :k79.M w base ok x [.int .i64 x.f0, .bool x.f1]:=⟨[.int .i64 x.f0],[.bool x.f1],rfl,rfl,rfl⟩
def rd_T79 (xs:List S79) (i:Int):S79:=xs.getD i.toNat z79
theorem at_T79 {w:World} {A:Option Addr} {n:Nat} {xs:List S79} (h:Kd.C k79 w A n xs) (i:Int) (h0:0≤i) (h1:i<n): ∃ ad ,A=some ad∧w.cell? (ad.add (i.toNat * 2))=some (.int .i64 (rd_T79 xs i).f0)∧w.cell? ⟨(ad.add (i.toNat * 2)).block,(ad.add (i.toNat * 2)).off+1,none⟩=some (.bool (rd_T79 xs i).f1):=by
 obtain⟨ad,c,e,_,hK,hc0⟩:=Kd.C_get h z79 i h0 h1;have hc: ∀ j u,c[j]? =some u→w.cell? (ad.add (i.toNat * 2+j))=some u:=hc0;obtain rfl:=k79_open hK;exact⟨ad,e,hc 0 _ rfl,by rw[← add_field _ _ 1 (by omega)];exact hc 1 _ rfl⟩
def rd_L4 (xs:List (List S79)) (i:Int):(List S79):=xs.getD i.toNat ([]:List S79)
def rd_L5 (xs:List (List Int)) (i:Int):(List Int):=xs.getD i.toNat ([]:List Int)
theorem at_L5 {w:World} {A:Option Addr} {n:Nat} {xs:List (List Int)} (h:Kd.C (Kd.slice 3 (Kd.int .i64)) w A n xs) (i:Int) (h0:0≤i) (h1:i<n): ∃ ad A0 c0,A=some ad∧w.cell? (ad.add i.toNat)=some (.slice A0 (rd_L5 xs i).length c0)∧(rd_L5 xs i).length≤c0∧(Kd.int .i64).C w A0 (rd_L5 xs i).length (rd_L5 xs i):=by
 obtain⟨ad,c,e,_,hK,hc0⟩:=Kd.C_get h ([]:List Int) i h0 h1;have hc: ∀ j u,c[j]? =some u→w.cell? (ad.add (i.toNat * 1+j))=some u:=hc0;obtain⟨A0,c0,rfl,l0,g0⟩:=hK;exact⟨ad,A0,c0,e,by have hq:=hc 0 _ rfl;rwa [Nat.mul_one,Nat.add_zero] at hq,l0,g0⟩
structure S47 where
 f0:(List Int)
 f1:Int
def z47:S47:=⟨([]:List Int),(0:Int)⟩
def k47:Kd S47:=Kd.iso (Kd.pair (Kd.slice 3 (Kd.int .i64)) (Kd.int .i64)) (fun x:S47=>(x.f0,x.f1))
theorem k47_open {w:World} {x:S47} {cs:List Value} (h:k47.K w x cs): ∃ A0 c0,cs=[.slice A0 x.f0.length c0, .int .i64 x.f1]∧x.f0.length≤c0∧(Kd.int .i64).C w A0 x.f0.length x.f0:=by
 obtain⟨_,_,rfl,⟨A0,c0,rfl,l0,g0⟩,rfl⟩:=h;exact⟨A0,c0,rfl,l0,g0⟩
theorem k47_mk (w:World) (x:S47) {A0:Option Addr} {c0:Nat} (l0:x.f0.length≤c0) (g0:(Kd.int .i64).C w A0 x.f0.length x.f0):k47.K w x [.slice A0 x.f0.length c0, .int .i64 x.f1]:=⟨[.slice A0 x.f0.length c0],[.int .i64 x.f1],rfl,⟨A0,c0,rfl,l0,g0⟩,rfl⟩
theorem k47_mkM (w:World) (base:Nat) (ok:Nat→Prop) (x:S47) {v0:Value} (g0:(Kd.int .i64).R 3 w base ok v0 x.f0):k47.M w base ok x [v0, .int .i64 x.f1]:=⟨[v0],[.int .i64 x.f1],rfl,⟨v0,rfl,g0⟩,rfl⟩
theorem k47_mkF (W:World) (ok:Nat→Prop) (x:S47) {A0:Option Addr} {c0:Nat} (l0:x.f0.length≤c0) (g0:Kd.F (Kd.int .i64) W ok A0 x.f0.length x.f0):Kd.FK k47 W ok x [.slice A0 x.f0.length c0, .int .i64 x.f1]:=fun W2 hW=>k47_mk W2 x l0 (g0 W2 hW)
def rd_T47 (xs:List S47) (i:Int):S47:=xs.getD i.toNat z47
theorem at_T47 {w:World} {A:Option Addr} {n:Nat} {xs:List S47} (h:Kd.C k47 w A n xs) (i:Int) (h0:0≤i) (h1:i<n): ∃ ad A0 c0,A=some ad∧w.cell? (ad.add (i.toNat * 2))=some (.slice A0 (rd_T47 xs i).f0.length c0)∧w.cell? ⟨(ad.add (i.toNat * 2)).block,(ad.add (i.toNat * 2)).off+1,none⟩=some (.int .i64 (rd_T47 xs i).f1)∧(rd_T47 xs i).f0.length≤c0∧(Kd.int .i64).C w A0 (rd_T47 xs i).f0.length (rd_T47 xs i).f0:=by
 obtain⟨ad,c,e,_,hK,hc0⟩:=Kd.C_get h z47 i h0 h1;have hc: ∀ j u,c[j]? =some u→w.cell? (ad.add (i.toNat * 2+j))=some u:=hc0;obtain⟨A0,c0,rfl,l0,g0⟩:=k47_open hK;exact⟨ad,A0,c0,e,hc 0 _ rfl,by rw[← add_field _ _ 1 (by omega)];exact hc 1 _ rfl,l0,g0⟩
end P
namespace P
open Go 
theorem bl {n:Nat} {w w':World} (h:Below n w w':=by repeat(first|(with_reducible first|exact HB.out|apply Ye|apply Yd|apply Yg|refine Yh ?_ (Aside0.out (by assumption)))|exact HB.out)):Below n w w':=h
theorem sz {w w':World} {g:Nat} (hg:g=w'.heap.size) (h:Below w.heap.size w w':=by repeat(first|(with_reducible first|exact HB.out|apply Ye|apply Yd|apply Yg|refine Yh ?_ (Aside0.out (by assumption)))|exact HB.out)):w.heap.size≤g:=by rw[hg];exact Yi h
theorem od {p:Prop} [Decidable p] (h:decide p=true:=by first|(with_reducible assumption)|assumption):p:=Yr h
theorem bk {w w':World} {g:Nat} {o:Obj} (B:Aside0 (w.heap[g]? =some o)) (h:w.heap[g]? =some o→w'.heap[g]? =some o:=by intro h_;(with_reducible repeat(first|refine Yl ?_ _|refine Ym ?_|refine Yj ?_ _));exact h_):w'.heap[g]? =some o:=h B.out
theorem kR {α:Type} {d:Kd α} {e b:Nat} {ok:Nat→Prop} {v:Value} {xs:List α} {w w':World} (B:Aside0 (Kd.R d e w b ok v xs)) (h:Kd.R d e w b ok v xs→Kd.R d e w' b ok v xs:=by intro h_;(with_reducible repeat(first|apply Kd.R_alloc|apply Kd.R_drewN|apply Kd.R_drew));exact h_):Kd.R d e w' b ok v xs:=h B.out
theorem kN {α:Type} {d:Kd α} {e b:Nat} {ok:Nat→Prop} {v:Value} {xs:List α} {w w':World} (B:Aside0 (Kd.N d e w b ok v xs)) (h:Kd.N d e w b ok v xs→Kd.N d e w' b ok v xs:=by intro h_;(with_reducible repeat(first|apply Kd.N_alloc|apply Kd.N_drewN|apply Kd.N_drew));exact h_):Kd.N d e w' b ok v xs:=h B.out
theorem bc {w:World} {g:Nat} {t:TypeId} {cs:Array Value} {v:Value} (B:Aside0 (w.heap[g]? =some (.cells cs t (0,0)))) (i:Nat) (h:cs[i]? =some v:=by rfl):w.cell? ⟨g,i,none⟩=some v:=(Yc B.out i).trans h
theorem hc {w w':World} {p:Addr} {v:Value} (B:Aside0 (Below w.heap.size w w')) (h:w.cell? p=some v):w'.cell? p=some v:=(B.out.cell (Yb w _ h)).trans h
theorem kC {α:Type} {d:Kd α} {A:Option Addr} {n:Nat} {xs:List α} {w w':World} (B:Kd.C d w A n xs) (h:Kd.C d w A n xs→Kd.C d w' A n xs:=by intro h_;(with_reducible repeat(first|exact h_|refine Kd.C_alloc ?_ _|refine Kd.C_drewN ?_ _|refine Kd.C_drew ?_))):Kd.C d w' A n xs:=h B
section
variable {P:Program} {ops:Array Oper} {o:Oper} {rest:List Oper} {a:Act} {Q:Exit→Act→World→Prop} {K:Act→World→Prop}
theorem bx {W:World} (N:Tmp) (t:TypeId) (cs:Array Value) (h: ∀ g,g=W.heap.size→ ∀ w1,w1.heap[g]? =some (.cells cs t (0,0))→Below W.heap.size W w1→wpList P ops Q rest (a.put o.dst (.pointer (some ⟨g,0,none⟩))) w1) (hd:o.dst=some N:=by with_reducible rfl) (hg:o.guard=none:=by rfl)
  (hr:(execOp a.eval o).run P W= .ok (.value (.pointer (some ⟨W.heap.size,0,none⟩))) (W.alloc (.cells cs t (0,0))):=by first|(go_simp;done)|(go_simp;rfl)):wpList P ops Q (o::rest) a W:=Yw hg hd hr h
theorem gl {w : World} (N : Option Tmp) {f : FuncId} {fn : Func} {ars : Array Operand} {ts : Array TypeId} (hf : P.funcs[f]? = some fn) (args : Array Value) (h : Calls P f args w fun e w' => ∃ v, e = .returned v ∧ wpList P ops Q rest (a.put N v) w') (hd : o.dst = N := by rfl) (hg : o.guard = none := by rfl) (hname : (fn.name == "runtime.NumGoroutine") = false := by kernel_rfl) (hb : fn.body.isSome = true := by rfl)
  (hop:o.op= .call { callee:= .value (.func f),args:=ars,argTypes:=ts } :=by rfl) (hargs:ars.map a.eval=args:=by(try simp only[List.map_toArray,List.map_cons,List.map_nil]);first|done|rfl|(simp only[List.length_drop,List.length_take];rfl)):wpList P ops Q (o::rest) a w:=goesL_ N hd hg hf hname hb args hop hargs h
theorem gs {w : World} {N : Option Tmp} {f : FuncId} {fn : Func} {ars : Array Operand} {ts : Array TypeId} (hf : P.funcs[f]? = some fn) (args : Array Value) (h : Calls P f args w fun e w' => ∃ v, e = .returned v ∧ K (a.put N v) w') (hname : (fn.name == "runtime.NumGoroutine") = false := by kernel_rfl) (hb : fn.body.isSome = true := by rfl) (hw : Region.wanted o (yielded ops a.tmps) = true := by rfl) (hN : o.dst = N := by rfl)
  (hop:o.op= .call { callee:= .value (.func f),args:=ars,argTypes:=ts } :=by rfl) (hargs:ars.map a.eval=args:=by(try simp only[List.map_toArray,List.map_cons,List.map_nil]);first|done|rfl|(simp only[List.length_drop,List.length_take];rfl)):if Region.wanted o (yielded ops a.tmps)=true then Oper.wp P o a w K Q else K (a.put N undef) w:=goes_ hf hname hb args hw hN hop hargs h
end
def bm (n k:Nat):Array Bool:=((List.range n).map fun i=>k.testBit i).toArray
section
variable {P:Program} {md:Region.Mode} {ops:Array Oper} {Q:Exit→Act→World→Prop} {S:World→Prop} {ds:List Nat} {oi:Oper} {v:Value} {fuel:Nat} {l:Array Bool} {a a':Act} {w:World}
theorem pu (i N:Nat) (l':Array Bool) (h:wpAnyLast P md ops Q S ds fuel l' a' w) (hi:ops[i]? =some oi:=by rfl) (hN:oi.dst=some N:=by rfl) (hc:anyB md ops l l' i=true:=by exact any_of HT_.out (by kernel_rfl)) (hQ: ∀ c a w,Q (.panic c) (a.put oi.dst v) w→Q (.panic c) a w:=by exact fun _ _ _ h=>h) (hy:Yields P ops oi v a:=by refine Or.inl ⟨by rfl,?_⟩;intro w';go_simp;with_reducible rfl) (ha:a.put (some N) v=a':=by simp only[Act.put,List.setIfInBounds_toArray,List.set_cons_zero,List.set_cons_succ,i64_w,i32_w];rfl):wpAnyLast P md ops Q S ds (fuel+1) l a w:=pure_ l' hi hN hc hQ hy ha h
theorem ta (i N:Nat) (l':Array Bool) (hS:S w) (h:wpAnyLast P md ops Q S ds fuel l' a' w) (hi:ops[i]? =some oi:=by rfl) (hN:oi.dst=some N:=by rfl) (hc:takeB md ops ds l l' i=true:=by exact take_ofW HT_.out HW_.out (by kernel_rfl)) (hQ: ∀ c a w,Q (.panic c) (a.put oi.dst v) w→Q (.panic c) a w:=by exact fun _ _ _ h=>h) (hy:YieldsIf P ops S oi v a:=by refine Or.inl ⟨by rfl,?_⟩;intro w' hs_;(try dsimp only at hs_);go_split_ands;go_simp;with_reducible rfl) (ha:a.put (some N) v=a':=by simp only[Act.put,List.setIfInBounds_toArray,List.set_cons_zero,List.set_cons_succ,i64_w,i32_w];rfl):wpAnyLast P md ops Q S ds (fuel+1) l a w:=take_ l' hi hN hc hQ hy hS ha h
theorem on (i:Nat) (N:Option Tmp) (l':Array Bool) (h: ∀ K:Act→World→Prop,Shut (∀ a' w',S w'→(S w'→wpAnyLast P md ops Q S ds fuel l' a' w')→K a' w')→if Region.wanted oi (yielded ops a.tmps)=true then Oper.wp P oi a w K Q else K (a.put N undef) w)
  (hi:ops[i]? =some oi:=by rfl) (hN:oi.dst=N:=by rfl) (hc:readyB md ops l l' i=true:=by exact one_of HT_.out (by kernel_rfl)) (hd:i ∉ ds:=by decide):wpAnyLast P md ops Q S ds (fuel+1) l a w:=one_ l' hi hN hc hd h
theorem nm (h:wpAnyLast P md ops Q S ds fuel l a' w) (ha:a=a':=by show Act.put _ _ _=_;simp only[Act.put,List.setIfInBounds_toArray,List.set_cons_zero,List.set_cons_succ,i64_w,i32_w];rfl):wpAnyLast P md ops Q S ds fuel l a w:=norm_ ha h
end
end P
namespace P
attribute [local go_sem] max2_int min2_int max_two min_two max_three min_three max_four min_four
def netfmt_nodes.f (a0:Int):Option (Int):=if a0<1 then(some 51) else(if a0>50 then(some 2) else(some 0))
set_option maxHeartbeats 8000000 in
set_option maxRecDepth 100000 in
theorem netfmt_nodes.calls (a0:Int) (r:Int) (w:World) (h:netfmt_nodes.f a0=some r):
  Calls Try.prog 80 #[.int .i64 a0] w fun e w'=>e= .returned (.int .i64 r)∧Drawn0 w w':=by
 have H:=h;unfold netfmt_nodes.f at H;clear h;by_cases c2:a0<1
 ·rw[Yu c2] at H
  have c2b0:decide (a0<1)=true:=Ys c2;clear c2;obtain rfl:=Option.some.inj H;go_enter Try.func80,Try.ntmps80;go_wp2;go_ret;exact⟨by first|rfl|(simp;done)|(simp[*];done),by repeat(first|exact Drawn0.refl _|apply Drawn0.step)⟩
 rw[Yv c2] at H;have c2b0:decide (a0<1)=false:=Yt c2;clear c2;by_cases c3:a0>50
 rotate_left
 ·rw[Yv c3] at H
  have c3b0:decide (50<a0)=false:=Yt c3;clear c3;obtain rfl:=Option.some.inj H;go_enter Try.func80,Try.ntmps80;go_wp2;go_ret;exact⟨by first|rfl|(simp;done)|(simp[*];done),by repeat(first|exact Drawn0.refl _|apply Drawn0.step)⟩
 rw[Yu c3] at H;have c3b0:decide (50<a0)=true:=Ys c3;clear c3;obtain rfl:=Option.some.inj H;go_enter Try.func80,Try.ntmps80;go_wp2;go_ret;exact⟨by first|rfl|(simp;done)|(simp[*];done),by repeat(first|exact Drawn0.refl _|apply Drawn0.step)⟩
end P
namespace P
attribute [local go_sem] max2_int min2_int max_two min_two max_three min_three max_four min_four
def netfmt_arc.j0:Nat→Bool→Int→Int→Int→Int→Option (Int)
 |0,_,_,_,_,_=>none
 |k+1,x5,x110000,x110001,x110002,x110003=>if x5=true then(some 51) else(if x110002>1048576 then(some 2) else(if x110003>1048576 then(some 2) else(some 0)))
def netfmt_arc.f (k:Nat) (a0:Int) (Zh:Int) (Zp:Int) (Xj:Int) (Xk:Int):Option (Int):=if (mn (mn (mn Zh Zp) Xj) Xk)<0 then(netfmt_arc.j0 k true Zh Zp Xj Xk) else(netfmt_arc.j0 k (decide ((mx Zh Zp)≥a0)) Zh Zp Xj Xk)
theorem netfmt_arc.mono_l: ∀ k,(∀ y0 y1 y2 y3 y4,LeO (netfmt_arc.j0 k y0 y1 y2 y3 y4) (netfmt_arc.j0 (k+1) y0 y1 y2 y3 y4))
 |0=>fun _ _ _ _ _ r h=>by simp[netfmt_arc.j0] at h
 |k+1=>by
  have ih0:=netfmt_arc.mono_l k
  ·intro y0 y1 y2 y3 y4
   unfold netfmt_arc.j0;repeat' first
   |(with_reducible exact ih0 _ _ _ _ _)
   |(with_reducible exact LeO.refl _)
   |(with_reducible exact LeO.none _)
   |(with_reducible refine LeO.ite ?_ ?_)
   |(with_reducible refine LeO.bind ?_ (fun _=> ?_))
   |refine LeO.ite ?_ ?_
   |refine LeO.bind ?_ (fun _=> ?_)
theorem netfmt_arc.mono: ∀ a0 a1 a2 a3 a4 k,LeO (netfmt_arc.f k a0 a1 a2 a3 a4) (netfmt_arc.f (k+1) a0 a1 a2 a3 a4):=by
 intro a0 a1 a2 a3 a4 k;have ih0:=netfmt_arc.mono_l k;unfold netfmt_arc.f;repeat' first
   |(with_reducible exact ih0 _ _ _ _ _)
   |(with_reducible exact LeO.refl _)
   |(with_reducible exact LeO.none _)
   |(with_reducible refine LeO.ite ?_ ?_)
   |(with_reducible refine LeO.bind ?_ (fun _=> ?_))
   |refine LeO.ite ?_ ?_
   |refine LeO.bind ?_ (fun _=> ?_)
set_option maxHeartbeats 8000000 in
set_option maxRecDepth 100000 in
theorem netfmt_arc.calls (k:Nat) (a0:Int) (Zh:Int) (Zp:Int) (Xj:Int) (Xk:Int) (r:Int) (w:World) (h:netfmt_arc.f k a0 Zh Zp Xj Xk=some r):
  Calls Try.prog 81 #[.int .i64 a0, .agg #[.int .i64 Zh, .int .i64 Zp, .int .i64 Xj, .int .i64 Xk]] w fun e w'=>e= .returned (.int .i64 r)∧Below w.heap.size w w':=by
 have hu50:=Try.underlying50;have HB:=Ya (Yo w.heap.size w);have H:=h;unfold netfmt_arc.f at H;clear h;have HC3:=Ya H;clear H;go_enter Try.func81,Try.ntmps81;go_upto_region 1 with (first|((with_reducible refine gate_dst (N:=3) rfl ?_);(try (refine gate_guard (by rfl) ?_;dsimp only));refine Yw ?hg (N:=3) ?hd (cs:= #[.int .i64 Zh, .int .i64 Zp, .int .i64 Xj, .int .i64 Xk]) (t:=50) ?hr ?_;(case hd=>rfl);(case hg=>rfl);(case hr=>first|(go_simp;done)|(go_simp;rfl));intro We hg w4 Zg hb;have n0_:=Ya (Yk (by repeat(first|(with_reducible first|exact HB.out|apply Ye|apply Yd|apply Yg)|exact HB.out)) hb);have n1_:=Ya (Zg);have n2_:=Ya ((by rw[hg];exact(Yi (by repeat(first|(with_reducible first|exact HB.out|apply Ye|apply Yd|apply Yg)|exact HB.out))):w.heap.size≤We));have n3_:=Ya ((by rw[hg];exact(Yi (by repeat(first|(with_reducible first|exact HB.out|apply Ye|apply Yd|apply Yg)|exact HB.out))):w.heap.size≤We));clear HB;have HB:=n0_;have Xb:=n1_;have GW109:=n2_;have GE109:=n3_;clear n0_ n1_ n2_ n3_;clear hb Zg hg))
 (try simp only[Act.put,List.setIfInBounds_toArray,List.set_cons_zero,List.set_cons_succ])
 go_cut [5] (fun v5 wc=> ∃ (kq:Nat) (x5_2:Bool),v5= .bool x5_2∧Aside0 (netfmt_arc.j0 kq x5_2 Zh Zp Xj Xk=some r)∧Aside0 (kq≤k)∧Aside0 (wc.heap[We]? =some (.cells #[.int .i64 Zh, .int .i64 Zp, .int .i64 Xj, .int .i64 Xk] 50 (0,0)))∧Aside0 (Below w.heap.size w wc))
 case first=>
  have H:=HC3.out;clear HC3;obtain⟨ji5,hji5⟩: ∃ j_:Int,(mn Zh Zp)=j_:=⟨_,rfl⟩;replace H:(if (mn (mn (ji5) Xj) Xk)<0 then(netfmt_arc.j0 k true Zh Zp Xj Xk) else(netfmt_arc.j0 k (decide ((mx Zh Zp)≥a0)) Zh Zp Xj Xk))=some r:=by first|(rw[hji5] at H;exact H)|(simp only[hji5] at H ⊢;exact H)
  have hji5_:(if Zp<Zh then Zp else Zh)=ji5:=hji5;obtain⟨ji6,hji6⟩: ∃ j_:Int,(mn (ji5) Xj)=j_:=⟨_,rfl⟩;replace H:(if (mn (ji6) Xk)<0 then(netfmt_arc.j0 k true Zh Zp Xj Xk) else(netfmt_arc.j0 k (decide ((mx Zh Zp)≥a0)) Zh Zp Xj Xk))=some r:=by first|(rw[hji6] at H;exact H)|(simp only[hji6] at H ⊢;exact H)
  have hji6_:(if Xj<(ji5) then Xj else(ji5))=ji6:=hji6;obtain⟨ji7,hji7⟩: ∃ j_:Int,(mn (ji6) Xk)=j_:=⟨_,rfl⟩;replace H:(if (ji7)<0 then(netfmt_arc.j0 k true Zh Zp Xj Xk) else(netfmt_arc.j0 k (decide ((mx Zh Zp)≥a0)) Zh Zp Xj Xk))=some r:=by first|(rw[hji7] at H;exact H)|(simp only[hji7] at H ⊢;exact H)
  have hji7_:(if Xk<(ji6) then Xk else(ji6))=ji7:=hji7;by_cases c8:(ji7)<0
  ·rw[Yu c8] at H
   have c8b0:decide ((ji7)<0)=true:=Ys c8;clear c8
   (first|rw[c8b0]|(simp only[i64_w,i32_w];rw[c8b0])|skip)
   have H':=Ya H;clear H;have Ul:w4.cell? ⟨We,0,none⟩=some (.int .i64 Zh):=bc Xb 0;have Um:w4.cell? ⟨We,1,none⟩=some (.int .i64 Zp):=bc Xb 1;have hcz9_2:w4.cell? ⟨We,2,none⟩=some (.int .i64 Xj):=bc Xb 2;have hcz9_3:w4.cell? ⟨We,3,none⟩=some (.int .i64 Xk):=bc Xb 3;have Un:=Yf Xb.out 0;have Uo:=Yf Xb.out 1;have hfz9_2:=Yf Xb.out 2;have hfz9_3:=Yf Xb.out 3;go_wp2;go_meet
   case rel=>exact⟨_,(true),(by first|rfl|(simp;done)|(simp[*];done)),H',⟨by first|omega|exact Nat.le_refl _⟩,⟨Xb.out⟩,⟨HB.out⟩⟩
  rw[Yv c8] at H;have c8b0:decide ((ji7)<0)=false:=Yt c8;clear c8
  (first|rw[c8b0]|(simp only[i64_w,i32_w];rw[c8b0])|skip)
  obtain⟨ji10,hji10⟩: ∃ j_:Int,(mx Zh Zp)=j_:=⟨_,rfl⟩;replace H:(netfmt_arc.j0 k (decide ((ji10)≥a0)) Zh Zp Xj Xk)=some r:=by first|(rw[hji10] at H;exact H)|(simp only[hji10] at H ⊢;exact H)
  have hji10_:(if Zh<Zp then Zp else Zh)=ji10:=hji10;have H':=Ya H;clear H;have hcz11_0:w4.cell? ⟨We,0,none⟩=some (.int .i64 Zh):=bc Xb 0;have hcz11_1:w4.cell? ⟨We,1,none⟩=some (.int .i64 Zp):=bc Xb 1;have hcz11_2:w4.cell? ⟨We,2,none⟩=some (.int .i64 Xj):=bc Xb 2;have hcz11_3:w4.cell? ⟨We,3,none⟩=some (.int .i64 Xk):=bc Xb 3;have hfz11_0:=Yf Xb.out 0;have hfz11_1:=Yf Xb.out 1;have hfz11_2:=Yf Xb.out 2;have hfz11_3:=Yf Xb.out 3;go_wp2;go_meet
  case rel=>exact⟨_,(decide ((ji10)≥a0)),(by first|rfl|(simp;done)|(simp only[← hji10]<;>(first|rfl|simp))|(simp[*];done)),H',⟨by first|omega|exact Nat.le_refl _⟩,⟨Xb.out⟩,⟨HB.out⟩⟩
 case rest=>
  clear HC3;try clear c8
  try clear c8b0
  try clear hcz11_0
  try clear hcz11_1
  try clear hcz11_2
  try clear hcz11_3
  try clear Ul
  try clear Um
  try clear hcz9_2
  try clear hcz9_3
  try clear hfz11_0
  try clear hfz11_1
  try clear hfz11_2
  try clear hfz11_3
  try clear Un
  try clear Uo
  try clear hfz9_2
  try clear hfz9_3
  obtain⟨kq,x5_2,rfl,HA,HJ2,Xb,HB⟩:=hcut;cases kq with
  |zero=>exact absurd HA.out (by simp[netfmt_arc.j0])
  |succ kj2=>
   have H:=HA.out;clear HA;simp only[netfmt_arc.j0] at H;by_cases c12:x5_2=true
   ·subst c12
    first|rw[Yu rfl] at H|rw[Yu trivial] at H
    obtain rfl:=Option.some.inj H;go_wp2;go_ret;exact⟨by first|rfl|(simp[errW_none,errW_some]<;>rfl)|(simp[*,errW_none,errW_some]<;>rfl),HB.out⟩
   replace c12:=Bool.eq_false_iff.mpr c12;subst c12;rw[Yv (show ¬ (false=true) by decide)] at H;by_cases c13:Xj>1048576
   ·rw[Yu c13] at H
    have c13b0:decide (1048576<Xj)=true:=Ys c13;clear c13;obtain rfl:=Option.some.inj H;have hcz14_0:wc.cell? ⟨We,0,none⟩=some (.int .i64 Zh):=bc Xb 0;have hcz14_1:wc.cell? ⟨We,1,none⟩=some (.int .i64 Zp):=bc Xb 1;have hcz14_2:wc.cell? ⟨We,2,none⟩=some (.int .i64 Xj):=bc Xb 2;have hcz14_3:wc.cell? ⟨We,3,none⟩=some (.int .i64 Xk):=bc Xb 3;have hfz14_0:=Yf Xb.out 0;have hfz14_1:=Yf Xb.out 1;have hfz14_2:=Yf Xb.out 2;have hfz14_3:=Yf Xb.out 3;go_wp2;go_ret;exact⟨by first|rfl|(simp[errW_none,errW_some]<;>rfl)|(simp[*,errW_none,errW_some]<;>rfl),HB.out⟩
   rw[Yv c13] at H;have c13b0:decide (1048576<Xj)=false:=Yt c13;clear c13;by_cases c15:Xk>1048576
   rotate_left
   ·rw[Yv c15] at H
    have c15b0:decide (1048576<Xk)=false:=Yt c15;clear c15;obtain rfl:=Option.some.inj H;have Vm:wc.cell? ⟨We,0,none⟩=some (.int .i64 Zh):=bc Xb 0;have Vn:wc.cell? ⟨We,1,none⟩=some (.int .i64 Zp):=bc Xb 1;have hcz17_2:wc.cell? ⟨We,2,none⟩=some (.int .i64 Xj):=bc Xb 2;have hcz17_3:wc.cell? ⟨We,3,none⟩=some (.int .i64 Xk):=bc Xb 3;have Vo:=Yf Xb.out 0;have Vp:=Yf Xb.out 1;have hfz17_2:=Yf Xb.out 2;have hfz17_3:=Yf Xb.out 3;go_wp2;go_ret;exact⟨by first|rfl|(simp[errW_none,errW_some]<;>rfl)|(simp[*,errW_none,errW_some]<;>rfl),HB.out⟩
   rw[Yu c15] at H;have c15b0:decide (1048576<Xk)=true:=Ys c15;clear c15;obtain rfl:=Option.some.inj H;have Uv:wc.cell? ⟨We,0,none⟩=some (.int .i64 Zh):=bc Xb 0;have Uw:wc.cell? ⟨We,1,none⟩=some (.int .i64 Zp):=bc Xb 1;have hcz16_2:wc.cell? ⟨We,2,none⟩=some (.int .i64 Xj):=bc Xb 2;have hcz16_3:wc.cell? ⟨We,3,none⟩=some (.int .i64 Xk):=bc Xb 3;have Ux:=Yf Xb.out 0;have Uy:=Yf Xb.out 1;have hfz16_2:=Yf Xb.out 2;have hfz16_3:=Yf Xb.out 3;go_wp2;go_ret;exact⟨by first|rfl|(simp[errW_none,errW_some]<;>rfl)|(simp[*,errW_none,errW_some]<;>rfl),HB.out⟩
end P
namespace P
attribute [local go_sem] max2_int min2_int max_two min_two max_three min_three max_four min_four
def netfmt_Check.l0:Nat→List (S50)→Int→Int→Int→Bool→List (S50)→Option (Int)
 |0,_,_,_,_,_,_=>none
 |k+1,x18,x19,x20,x111000,x111001,x111002=>if x20<x19 then(if 0≤x20 then(if x20<(x18.length:Int) then((netfmt_arc.f k x111000 ((rd_T50 x18 x20).f0) ((rd_T50 x18 x20).f1) ((rd_T50 x18 x20).f2) ((rd_T50 x18 x20).f3)).bind fun t114=>(if t114=0 then(netfmt_Check.l0 k x18 x19 (wrap64 (x20+1)) x111000 x111001 x111002) else(some t114))) else(none)) else(none)) else(some 0)
def netfmt_Check.f (k:Nat) (Zb:Int) (Zc:Bool) (Za:List (S50)):Option (Int):=(netfmt_nodes.f Zb).bind fun t111=>(if t111=0 then(if (Za.length:Int)>200 then(some 2) else(netfmt_Check.l0 k Za (Za.length:Int) 0 Zb Zc Za)) else(some t111))
theorem netfmt_Check.mono_l: ∀ k,(∀ y0 y1 y2 y3 y4 y5,LeO (netfmt_Check.l0 k y0 y1 y2 y3 y4 y5) (netfmt_Check.l0 (k+1) y0 y1 y2 y3 y4 y5))
 |0=>fun _ _ _ _ _ _ r h=>by simp[netfmt_Check.l0] at h
 |k+1=>by
  have ih0:=netfmt_Check.mono_l k
  ·intro y0 y1 y2 y3 y4 y5
   unfold netfmt_Check.l0;repeat' first
   |(with_reducible exact ih0 _ _ _ _ _ _)
   |(with_reducible exact netfmt_arc.mono _ _ _ _ _ _)
   |(with_reducible exact LeO.refl _)
   |(with_reducible exact LeO.none _)
   |(with_reducible refine LeO.ite ?_ ?_)
   |(with_reducible refine LeO.bind ?_ (fun _=> ?_))
   |refine LeO.ite ?_ ?_
   |refine LeO.bind ?_ (fun _=> ?_)
theorem netfmt_Check.mono: ∀ a0 a1 a2 k,LeO (netfmt_Check.f k a0 a1 a2) (netfmt_Check.f (k+1) a0 a1 a2):=by
 intro a0 a1 a2 k;have ih0:=netfmt_Check.mono_l k;unfold netfmt_Check.f;repeat' first
   |(with_reducible exact ih0 _ _ _ _ _ _)
   |(with_reducible exact netfmt_arc.mono _ _ _ _ _ _)
   |(with_reducible exact LeO.refl _)
   |(with_reducible exact LeO.none _)
   |(with_reducible refine LeO.ite ?_ ?_)
   |(with_reducible refine LeO.bind ?_ (fun _=> ?_))
   |refine LeO.ite ?_ ?_
   |refine LeO.bind ?_ (fun _=> ?_)
set_option maxHeartbeats 8000000 in
set_option maxRecDepth 100000 in
theorem netfmt_Check.calls (k:Nat) (Zb:Int) (Zc:Bool) (Zf:Option Addr) (Ze:Nat) (Za:List (S50)) (r:Int) (w:World) (Zq:Kd.C k50 w Zf Za.length Za) (Zr:Za.length≤Ze) (h:netfmt_Check.f k Zb Zc Za=some r):
  Calls Try.prog 61 #[.agg #[.int .i64 Zb, .bool Zc, .slice Zf Za.length Ze]] w fun e w'=>e= .returned (.int .i64 r)∧Below w.heap.size w w':=by
 have hu24:=Try.underlying24;have hu50:=Try.underlying50;have Zo:=Ya Zq;have Xo:=Ya Zr;clear Zq Zr;have HB:=Ya (Yo w.heap.size w);have H:=h;unfold netfmt_Check.f at H;clear h;replace H:=Option.bind_eq_some_iff.mp H;obtain⟨t111,A20,H⟩:=H;try dsimp only at H
 have A2:=Ya A20;clear A20;by_cases c3:t111=0
 rotate_left
 ·rw[Yv c3] at H
  have c3b0:(t111 == 0)=false:=beq_eq_false_iff_ne.mpr c3;have c3b1:(t111 != 0)=true:=bne_iff_ne.mpr c3;obtain rfl:=Option.some.inj H;go_enter Try.func61,Try.ntmps61;go_wp2_with (first|(refine bx 1 24 #[.int .i64 Zb, .bool Zc, .slice Zf Za.length Ze] ?_;intro Xq hg w24 Zg hb;have Zx:=Ya (Zg);have GW110:=Ya (by rw[hg];exact(Yi HB.out):w.heap.size≤Xq);have GE110:=Ya (by rw[hg];exact(Yi HB.out):w.heap.size≤Xq);replace HB:=Ya (Yk HB.out hb);clear hb Zg hg;have hcz25_0:w24.cell? ⟨Xq,0,none⟩=some (.int .i64 Zb):=bc Zx 0;have hcz25_1:w24.cell? ⟨Xq,1,none⟩=some (.bool Zc):=bc Zx 1;have hcz25_2:w24.cell? ⟨Xq,2,none⟩=some (.slice Zf Za.length Ze):=bc Zx 2;have hfz25_0:=Yf Zx.out 0;have hfz25_1:=Yf Zx.out 1;have hfz25_2:=Yf Zx.out 2)|((with_reducible refine gate_callee (f:=80) rfl ?_);refine gl (some 9) Try.func80 #[.int .i64 Zb] ?_;(with_reducible refine(netfmt_nodes.calls Zb t111 _ A2.out).mono ?_);rintro e w' ⟨rfl,⟨nd,rfl⟩⟩;refine⟨_,rfl,?_⟩));go_ret;exact⟨by first|rfl|(simp[errW_none,errW_some]<;>rfl)|(simp[*,errW_none,errW_some]<;>rfl),bl⟩
 rw[Yu c3] at H;have c3b0:(t111 == 0)=true:=beq_iff_eq.mpr c3;have c3b1:(t111 != 0)=false:=bne_eq_false_iff_eq.mpr c3;clear c3;by_cases c4:(Za.length:Int)>200
 ·rw[Yu c4] at H
  have c4b0:decide (200<(Za.length:Int))=true:=Ys c4;have c4b1:decide (200<Za.length)=true:=Ys (by omega);clear c4;obtain rfl:=Option.some.inj H;go_enter Try.func61,Try.ntmps61;go_wp2_with (first|(refine bx 1 24 #[.int .i64 Zb, .bool Zc, .slice Zf Za.length Ze] ?_;intro Xq hg w5 Zg hb;have Zx:=Ya (Zg);have GW110:=Ya (by rw[hg];exact(Yi HB.out):w.heap.size≤Xq);have GE110:=Ya (by rw[hg];exact(Yi HB.out):w.heap.size≤Xq);replace HB:=Ya (Yk HB.out hb);clear hb Zg hg;have hcz6_0:w5.cell? ⟨Xq,0,none⟩=some (.int .i64 Zb):=bc Zx 0;have hcz6_1:w5.cell? ⟨Xq,1,none⟩=some (.bool Zc):=bc Zx 1;have hcz6_2:w5.cell? ⟨Xq,2,none⟩=some (.slice Zf Za.length Ze):=bc Zx 2;have hfz6_0:=Yf Zx.out 0;have hfz6_1:=Yf Zx.out 1;have hfz6_2:=Yf Zx.out 2)|((with_reducible refine gate_callee (f:=80) rfl ?_);refine gl (some 9) Try.func80 #[.int .i64 Zb] ?_;(with_reducible refine(netfmt_nodes.calls Zb t111 _ A2.out).mono ?_);rintro e w' ⟨rfl,⟨nd,rfl⟩⟩;refine⟨_,rfl,?_⟩));go_ret;exact⟨by first|rfl|(simp[errW_none,errW_some]<;>rfl)|(simp[*,errW_none,errW_some]<;>rfl),bl⟩
 rw[Yv c4] at H;have c4b0:decide (200<(Za.length:Int))=false:=Yt c4;have c4b1:decide (200<Za.length)=false:=Yt (by omega);clear c4;have H':=Ya H;clear H;go_enter Try.func61,Try.ntmps61;go_wp2_with (first|(refine bx 1 24 #[.int .i64 Zb, .bool Zc, .slice Zf Za.length Ze] ?_;intro Xq hg w7 Zg hb;have Zx:=Ya (Zg);have GW110:=Ya (by rw[hg];exact(Yi HB.out):w.heap.size≤Xq);have GE110:=Ya (by rw[hg];exact(Yi HB.out):w.heap.size≤Xq);replace HB:=Ya (Yk HB.out hb);clear hb Zg hg;have Wi:w7.cell? ⟨Xq,0,none⟩=some (.int .i64 Zb):=bc Zx 0;have Wj:w7.cell? ⟨Xq,1,none⟩=some (.bool Zc):=bc Zx 1;have Wk:w7.cell? ⟨Xq,2,none⟩=some (.slice Zf Za.length Ze):=bc Zx 2;have Wl:=Yf Zx.out 0;have Wm:=Yf Zx.out 1;have Wn:=Yf Zx.out 2)|((with_reducible refine gate_callee (f:=80) rfl ?_);refine gl (some 9) Try.func80 #[.int .i64 Zb] ?_;(with_reducible refine(netfmt_nodes.calls Zb t111 _ A2.out).mono ?_);rintro e w' ⟨rfl,⟨nd,rfl⟩⟩;refine⟨_,rfl,?_⟩));go_loopg [20] k (fun kq v20 w'=> ∃ (Zs:Int),v20= .int .i64 Zs∧Aside0 (netfmt_Check.l0 kq Za (Za.length:Int) Zs Zb Zc Za=some r)∧Aside0 (kq≤k)∧Aside0 (w'.heap[Xq]? =some (.cells #[.int .i64 Zb, .bool Zc,(.slice Zf Za.length Ze)] 24 (0,0)))∧Aside0 (Below w.heap.size w w'))
 case atStart=>exact⟨(0),(by first|rfl|(simp;done)|(simp[*];done)),H',⟨Nat.le_refl _⟩,⟨bk Zx⟩,⟨bl⟩⟩
 case round=>
  clear H';try clear c3
  try clear c3b0
  try clear c3b1
  try clear c4
  try clear c4b0
  try clear c4b1
  try clear hcz6_0
  try clear hcz6_1
  try clear hcz6_2
  try clear Wi
  try clear Wj
  try clear Wk
  try clear hfz6_0
  try clear hfz6_1
  try clear hfz6_2
  try clear Wl
  try clear Wm
  try clear Wn
  obtain⟨Zs,rfl,HA,HK1,Zx,HB⟩:=hrel;cases gk with
  |zero=>exact absurd HA.out (by simp[netfmt_Check.l0])
  |succ k1=>
   have H:=HA.out;clear HA;simp only[netfmt_Check.l0] at H;by_cases c9:Zs<(Za.length:Int)
   rotate_left
   ·rw[Yv c9] at H
    have c9b0:decide (Zs<(Za.length:Int))=false:=Yt c9;clear c9;obtain rfl:=Option.some.inj H;go_wp2;go_ret;exact⟨by first|rfl|(simp[errW_none,errW_some]<;>rfl)|(simp[*,errW_none,errW_some]<;>rfl),HB.out⟩
   rw[Yu c9] at H;have c9b0:decide (Zs<(Za.length:Int))=true:=Ys c9;clear c9;by_cases c10:0≤Zs
   rotate_left
   ·rw[Yv c10] at H
    exact absurd H (by simp)
   rw[Yu c10] at H;have c10b0:decide (0≤Zs)=true:=Ys c10;clear c10;by_cases c11:Zs<(Za.length:Int)
   rotate_left
   ·rw[Yv c11] at H
    exact absurd H (by simp)
   rw[Yu c11] at H;have c11b0:decide (Zs<(Za.length:Int))=true:=Ys c11;clear c11;replace H:=Option.bind_eq_some_iff.mp H;obtain⟨t114,A120,H⟩:=H;try dsimp only at H
   have A12:=Ya A120;clear A120;by_cases c13:t114=0
   rotate_left
   ·rw[Yv c13] at H
    have c13b0:(t114 == 0)=false:=beq_eq_false_iff_ne.mpr c13;have c13b1:(t114 != 0)=true:=bne_iff_ne.mpr c13;obtain rfl:=Option.some.inj H;have p112:0≤(Zs:Int):=od;have q112:Zs<(Za.length:Int):=od;obtain⟨ad112,e112,Uz,Ja,Jb,Jc⟩:=at_T50 Zo.out Zs p112 q112;cases e112;replace Uz:=hc HB Uz;replace Ja:=hc HB Ja;replace Jb:=hc HB Jb;replace Jc:=hc HB Jc;replace p112:=eq_true p112;replace q112:=eq_true q112;go_wp2_with (first|(refine bx 5 50 #[.int .i64 0, .int .i64 0, .int .i64 0, .int .i64 0] ?_;intro Vk hg w19 Zg hb;have Wp:=Ya (Zg);have GW113:=Ya ((sz hg));have GE113:=Ya ((sz hg));replace HB:=Ya (Yk bl hb);have Xv:=Ya (by rw[hg];exact Nat.ne_of_lt (blk_lt (bk Zx)):Xq≠Vk);have Jw:=Ya (by rw[hg];exact Nat.ne_of_gt (blk_lt (bk Zx)):Vk≠Xq);replace Zx:=Ya (Yn (bk Zx) hb);clear hb Zg hg;have hnb20:=Jw.out;have hnc20:=Xv.out;have hcz21_0:w19.cell? ⟨Vk,0,none⟩=some (.int .i64 0):=bc Wp 0;have hcz21_1:w19.cell? ⟨Vk,1,none⟩=some (.int .i64 0):=bc Wp 1;have hcz21_2:w19.cell? ⟨Vk,2,none⟩=some (.int .i64 0):=bc Wp 2;have hcz21_3:w19.cell? ⟨Vk,3,none⟩=some (.int .i64 0):=bc Wp 3;have hfz21_0:=Yf Wp.out 0;have hfz21_1:=Yf Wp.out 1;have hfz21_2:=Yf Wp.out 2;have hfz21_3:=Yf Wp.out 3;have hcz22_0:w19.cell? ⟨Xq,0,none⟩=some (.int .i64 Zb):=bc Zx 0;have hcz22_1:w19.cell? ⟨Xq,1,none⟩=some (.bool Zc):=bc Zx 1;have hcz22_2:w19.cell? ⟨Xq,2,none⟩=some (.slice (some ad112) Za.length Ze):=bc Zx 2;have hfz22_0:=Yf Zx.out 0;have hfz22_1:=Yf Zx.out 1;have hfz22_2:=Yf Zx.out 2)|((with_reducible refine gate_callee (f:=81) rfl ?_);refine gl (some 27) Try.func81 #[.int .i64 Zb, .agg #[.int .i64 ((rd_T50 Za Zs).f0), .int .i64 ((rd_T50 Za Zs).f1), .int .i64 ((rd_T50 Za Zs).f2), .int .i64 ((rd_T50 Za Zs).f3)]] ?_;(with_reducible refine(netfmt_arc.calls k1 Zb ((rd_T50 Za Zs).f0) ((rd_T50 Za Zs).f1) ((rd_T50 Za Zs).f2) ((rd_T50 Za Zs).f3) t114 _ A12.out).mono ?_);rintro e w23 ⟨rfl,hb⟩;refine⟨_,rfl,?_⟩;replace Zx:=Ya (Yn (g:=Xq) (o:= .cells #[.int .i64 Zb, .bool Zc, .slice (some ad112) Za.length Ze] 24 (0,0)) (by(with_reducible repeat(first|refine Yl ?_ _|refine Ym ?_|refine Yj ?_ _));refine blk_far ?_ Xv.out _;(with_reducible repeat(first|refine Yl ?_ _|refine Ym ?_|refine Yj ?_ _));refine blk_far ?_ Xv.out _;(with_reducible repeat(first|refine Yl ?_ _|refine Ym ?_|refine Yj ?_ _));refine blk_far ?_ Xv.out _;(with_reducible repeat(first|refine Yl ?_ _|refine Ym ?_|refine Yj ?_ _));refine blk_far ?_ Xv.out _;(with_reducible repeat(first|refine Yl ?_ _|refine Ym ?_|refine Yj ?_ _));exact Zx.out) hb);replace Wp:=Ya (Yn (g:=Vk) (o:= .cells #[.int .i64 ((rd_T50 Za Zs).f0), .int .i64 ((rd_T50 Za Zs).f1), .int .i64 ((rd_T50 Za Zs).f2), .int .i64 ((rd_T50 Za Zs).f3)] 50 (0,0)) (by(with_reducible repeat(first|refine Yl ?_ _|refine Ym ?_|refine Yj ?_ _));refine Yx (cs:= #[.int .i64 ((rd_T50 Za Zs).f0), .int .i64 ((rd_T50 Za Zs).f1), .int .i64 ((rd_T50 Za Zs).f2), .int .i64 0]) ?_ 3 _ rfl;(with_reducible repeat(first|refine Yl ?_ _|refine Ym ?_|refine Yj ?_ _));refine Yx (cs:= #[.int .i64 ((rd_T50 Za Zs).f0), .int .i64 ((rd_T50 Za Zs).f1), .int .i64 0, .int .i64 0]) ?_ 2 _ rfl;(with_reducible repeat(first|refine Yl ?_ _|refine Ym ?_|refine Yj ?_ _));refine Yx (cs:= #[.int .i64 ((rd_T50 Za Zs).f0), .int .i64 0, .int .i64 0, .int .i64 0]) ?_ 1 _ rfl;(with_reducible repeat(first|refine Yl ?_ _|refine Ym ?_|refine Yj ?_ _));refine Yx (cs:= #[.int .i64 0, .int .i64 0, .int .i64 0, .int .i64 0]) ?_ 0 _ rfl;(with_reducible repeat(first|refine Yl ?_ _|refine Ym ?_|refine Yj ?_ _));exact Wp.out) hb);replace HB:=Ya (Yk bl hb);(try clear hb)));go_ret;exact⟨by first|rfl|(simp[errW_none,errW_some]<;>rfl)|(simp[*,errW_none,errW_some]<;>rfl),HB.out⟩
   rw[Yu c13] at H;have c13b0:(t114 == 0)=true:=beq_iff_eq.mpr c13;have c13b1:(t114 != 0)=false:=bne_eq_false_iff_eq.mpr c13;clear c13;have H':=Ya H;clear H;have p112:0≤(Zs:Int):=od;have q112:Zs<(Za.length:Int):=od;obtain⟨ad112,e112,Uz,Ja,Jb,Jc⟩:=at_T50 Zo.out Zs p112 q112;cases e112;replace Uz:=hc HB Uz;replace Ja:=hc HB Ja;replace Jb:=hc HB Jb;replace Jc:=hc HB Jc;replace p112:=eq_true p112;replace q112:=eq_true q112;go_wp2_with (first|(refine bx 5 50 #[.int .i64 0, .int .i64 0, .int .i64 0, .int .i64 0] ?_;intro Vk hg w14 Zg hb;have Wp:=Ya (Zg);have GW113:=Ya ((sz hg));have GE113:=Ya ((sz hg));replace HB:=Ya (Yk bl hb);have Xv:=Ya (by rw[hg];exact Nat.ne_of_lt (blk_lt (bk Zx)):Xq≠Vk);have Jw:=Ya (by rw[hg];exact Nat.ne_of_gt (blk_lt (bk Zx)):Vk≠Xq);replace Zx:=Ya (Yn (bk Zx) hb);clear hb Zg hg;have hnb15:=Jw.out;have hnc15:=Xv.out;have Uv:w14.cell? ⟨Vk,0,none⟩=some (.int .i64 0):=bc Wp 0;have Uw:w14.cell? ⟨Vk,1,none⟩=some (.int .i64 0):=bc Wp 1;have hcz16_2:w14.cell? ⟨Vk,2,none⟩=some (.int .i64 0):=bc Wp 2;have hcz16_3:w14.cell? ⟨Vk,3,none⟩=some (.int .i64 0):=bc Wp 3;have Ux:=Yf Wp.out 0;have Uy:=Yf Wp.out 1;have hfz16_2:=Yf Wp.out 2;have hfz16_3:=Yf Wp.out 3;have Vm:w14.cell? ⟨Xq,0,none⟩=some (.int .i64 Zb):=bc Zx 0;have Vn:w14.cell? ⟨Xq,1,none⟩=some (.bool Zc):=bc Zx 1;have hcz17_2:w14.cell? ⟨Xq,2,none⟩=some (.slice (some ad112) Za.length Ze):=bc Zx 2;have Vo:=Yf Zx.out 0;have Vp:=Yf Zx.out 1;have hfz17_2:=Yf Zx.out 2)|((with_reducible refine gate_callee (f:=81) rfl ?_);refine gl (some 27) Try.func81 #[.int .i64 Zb, .agg #[.int .i64 ((rd_T50 Za Zs).f0), .int .i64 ((rd_T50 Za Zs).f1), .int .i64 ((rd_T50 Za Zs).f2), .int .i64 ((rd_T50 Za Zs).f3)]] ?_;(with_reducible refine(netfmt_arc.calls k1 Zb ((rd_T50 Za Zs).f0) ((rd_T50 Za Zs).f1) ((rd_T50 Za Zs).f2) ((rd_T50 Za Zs).f3) t114 _ A12.out).mono ?_);rintro e w18 ⟨rfl,hb⟩;refine⟨_,rfl,?_⟩;replace Zx:=Ya (Yn (g:=Xq) (o:= .cells #[.int .i64 Zb, .bool Zc, .slice (some ad112) Za.length Ze] 24 (0,0)) (by(with_reducible repeat(first|refine Yl ?_ _|refine Ym ?_|refine Yj ?_ _));refine blk_far ?_ Xv.out _;(with_reducible repeat(first|refine Yl ?_ _|refine Ym ?_|refine Yj ?_ _));refine blk_far ?_ Xv.out _;(with_reducible repeat(first|refine Yl ?_ _|refine Ym ?_|refine Yj ?_ _));refine blk_far ?_ Xv.out _;(with_reducible repeat(first|refine Yl ?_ _|refine Ym ?_|refine Yj ?_ _));refine blk_far ?_ Xv.out _;(with_reducible repeat(first|refine Yl ?_ _|refine Ym ?_|refine Yj ?_ _));exact Zx.out) hb);replace Wp:=Ya (Yn (g:=Vk) (o:= .cells #[.int .i64 ((rd_T50 Za Zs).f0), .int .i64 ((rd_T50 Za Zs).f1), .int .i64 ((rd_T50 Za Zs).f2), .int .i64 ((rd_T50 Za Zs).f3)] 50 (0,0)) (by(with_reducible repeat(first|refine Yl ?_ _|refine Ym ?_|refine Yj ?_ _));refine Yx (cs:= #[.int .i64 ((rd_T50 Za Zs).f0), .int .i64 ((rd_T50 Za Zs).f1), .int .i64 ((rd_T50 Za Zs).f2), .int .i64 0]) ?_ 3 _ rfl;(with_reducible repeat(first|refine Yl ?_ _|refine Ym ?_|refine Yj ?_ _));refine Yx (cs:= #[.int .i64 ((rd_T50 Za Zs).f0), .int .i64 ((rd_T50 Za Zs).f1), .int .i64 0, .int .i64 0]) ?_ 2 _ rfl;(with_reducible repeat(first|refine Yl ?_ _|refine Ym ?_|refine Yj ?_ _));refine Yx (cs:= #[.int .i64 ((rd_T50 Za Zs).f0), .int .i64 0, .int .i64 0, .int .i64 0]) ?_ 1 _ rfl;(with_reducible repeat(first|refine Yl ?_ _|refine Ym ?_|refine Yj ?_ _));refine Yx (cs:= #[.int .i64 0, .int .i64 0, .int .i64 0, .int .i64 0]) ?_ 0 _ rfl;(with_reducible repeat(first|refine Yl ?_ _|refine Ym ?_|refine Yj ?_ _));exact Wp.out) hb);replace HB:=Ya (Yk bl hb);(try clear hb)));go_roundg k1
   case measure=>have:=HK1.out;omega
   case rel=>exact⟨(wrap64 (Zs+1)),(by first|rfl|(simp;done)|(simp[*];done)),H',⟨by have:=HK1.out;omega⟩,⟨Zx.out⟩,⟨HB.out⟩⟩
end P
namespace P
attribute [local go_sem] max2_int min2_int max_two min_two max_three min_three max_four min_four
def static_Ends.f (k:Nat) (Zb:Int) (Zc:Bool) (Za:List (S50)) (a1:Int) (a2:Int):Option (Int):=(netfmt_Check.f k Zb Zc Za).bind fun t116=>(if t116=0 then(if (mn a1 a2)<0 then(some 70) else(if (mx a1 a2)≥Zb then(some 70) else(if a1=a2 then(some 70) else(some 0)))) else(some t116))
set_option maxHeartbeats 8000000 in
set_option maxRecDepth 100000 in
theorem static_Ends.calls (k:Nat) (Zb:Int) (Zc:Bool) (Zf:Option Addr) (Ze:Nat) (Za:List (S50)) (a1:Int) (a2:Int) (r:Int) (w:World) (Zq:Kd.C k50 w Zf Za.length Za) (Zr:Za.length≤Ze) (h:static_Ends.f k Zb Zc Za a1 a2=some r):
  Calls Try.prog 65 #[.agg #[.int .i64 Zb, .bool Zc, .slice Zf Za.length Ze], .int .i64 a1, .int .i64 a2] w fun e w'=>e= .returned (.int .i64 r)∧Below w.heap.size w w':=by
 have hu24:=Try.underlying24;have Zo:=Ya Zq;have Xo:=Ya Zr;clear Zq Zr;have HB:=Ya (Yo w.heap.size w);have H:=h;unfold static_Ends.f at H;clear h;replace H:=Option.bind_eq_some_iff.mp H;obtain⟨t116,A40,H⟩:=H;try dsimp only at H
 have A4:=Ya A40;clear A40;by_cases c5:t116=0
 rotate_left
 ·rw[Yv c5] at H
  have c5b0:(t116 == 0)=false:=beq_eq_false_iff_ne.mpr c5;have c5b1:(t116 != 0)=true:=bne_iff_ne.mpr c5;obtain rfl:=Option.some.inj H;go_enter Try.func65,Try.ntmps65;go_wp2_with (first|((with_reducible refine gate_dst (N:=3) rfl ?_);(try (refine gate_guard (by rfl) ?_;dsimp only));refine Yw ?hg (N:=3) ?hd (cs:= #[.int .i64 Zb, .bool Zc, .slice Zf Za.length Ze]) (t:=24) ?hr ?_;(case hd=>rfl);(case hg=>rfl);(case hr=>first|(go_simp;done)|(go_simp;rfl));intro Xi hg w26 Zg hb;have Zn:=Ya (Zg);have GW115:=Ya (by rw[hg];exact(Yi HB.out):w.heap.size≤Xi);have GE115:=Ya (by rw[hg];exact(Yi HB.out):w.heap.size≤Xi);replace HB:=Ya (Yk HB.out hb);clear hb Zg hg;have hcz27_0:w26.cell? ⟨Xi,0,none⟩=some (.int .i64 Zb):=bc Zn 0;have hcz27_1:w26.cell? ⟨Xi,1,none⟩=some (.bool Zc):=bc Zn 1;have hcz27_2:w26.cell? ⟨Xi,2,none⟩=some (.slice Zf Za.length Ze):=bc Zn 2;have hfz27_0:=Yf Zn.out 0;have hfz27_1:=Yf Zn.out 1;have hfz27_2:=Yf Zn.out 2)|((with_reducible refine gate_callee (f:=61) rfl ?_);refine gl (some 9) Try.func61 #[.agg #[.int .i64 Zb, .bool Zc, .slice Zf Za.length Ze]] ?_;(with_reducible refine(netfmt_Check.calls k Zb Zc _ _ Za t116 _ ?side1 ?side2 A4.out).mono ?_);(case side1=>exact kC (Yq Zo.out HB.out));(case side2=>exact Xo.out);rintro e w28 ⟨rfl,hb⟩;refine⟨_,rfl,?_⟩;replace Zn:=Ya (Yn Zn.out hb);replace HB:=Ya (Yk HB.out hb);(try clear hb)));go_ret;exact⟨by first|rfl|(simp[errW_none,errW_some]<;>rfl)|(simp[*,errW_none,errW_some]<;>rfl),HB.out⟩
 rw[Yu c5] at H;have c5b0:(t116 == 0)=true:=beq_iff_eq.mpr c5;have c5b1:(t116 != 0)=false:=bne_eq_false_iff_eq.mpr c5;clear c5;obtain⟨ji6,hji6⟩: ∃ j_:Int,(mn a1 a2)=j_:=⟨_,rfl⟩;replace H:(if (ji6)<0 then(some 70) else(if (mx a1 a2)≥Zb then(some 70) else(if a1=a2 then(some 70) else(some 0))))=some r:=by first|(rw[hji6] at H;exact H)|(simp only[hji6] at H ⊢;exact H)
 (try rw[hji6] at A4)
 have hji6_:(if a2<a1 then a2 else a1)=ji6:=hji6;by_cases c7:(ji6)<0
 ·rw[Yu c7] at H
  have c7b0:decide ((ji6)<0)=true:=Ys c7;clear c7;obtain rfl:=Option.some.inj H;go_enter Try.func65,Try.ntmps65;go_wp2_with (first|((with_reducible refine gate_dst (N:=3) rfl ?_);(try (refine gate_guard (by rfl) ?_;dsimp only));refine Yw ?hg (N:=3) ?hd (cs:= #[.int .i64 Zb, .bool Zc, .slice Zf Za.length Ze]) (t:=24) ?hr ?_;(case hd=>rfl);(case hg=>rfl);(case hr=>first|(go_simp;done)|(go_simp;rfl));intro Xi hg w8 Zg hb;have Zn:=Ya (Zg);have GW115:=Ya (by rw[hg];exact(Yi HB.out):w.heap.size≤Xi);have GE115:=Ya (by rw[hg];exact(Yi HB.out):w.heap.size≤Xi);replace HB:=Ya (Yk HB.out hb);clear hb Zg hg;have Ul:w8.cell? ⟨Xi,0,none⟩=some (.int .i64 Zb):=bc Zn 0;have Um:w8.cell? ⟨Xi,1,none⟩=some (.bool Zc):=bc Zn 1;have hcz9_2:w8.cell? ⟨Xi,2,none⟩=some (.slice Zf Za.length Ze):=bc Zn 2;have Un:=Yf Zn.out 0;have Uo:=Yf Zn.out 1;have hfz9_2:=Yf Zn.out 2)|((with_reducible refine gate_callee (f:=61) rfl ?_);refine gl (some 9) Try.func61 #[.agg #[.int .i64 Zb, .bool Zc, .slice Zf Za.length Ze]] ?_;(with_reducible refine(netfmt_Check.calls k Zb Zc _ _ Za t116 _ ?side1 ?side2 A4.out).mono ?_);(case side1=>exact kC (Yq Zo.out HB.out));(case side2=>exact Xo.out);rintro e w10 ⟨rfl,hb⟩;refine⟨_,rfl,?_⟩;replace Zn:=Ya (Yn Zn.out hb);replace HB:=Ya (Yk HB.out hb);(try clear hb)));go_ret;exact⟨by first|rfl|(simp[errW_none,errW_some]<;>rfl)|(simp only[← hji6];first|rfl|(simp[errW_none,errW_some]<;>rfl))|(simp[*,errW_none,errW_some]<;>rfl),HB.out⟩
 rw[Yv c7] at H;have c7b0:decide ((ji6)<0)=false:=Yt c7;clear c7;obtain⟨ji11,hji11⟩: ∃ j_:Int,(mx a1 a2)=j_:=⟨_,rfl⟩;replace H:(if (ji11)≥Zb then(some 70) else(if a1=a2 then(some 70) else(some 0)))=some r:=by first|(rw[hji11] at H;exact H)|(simp only[hji11] at H ⊢;exact H)
 (try rw[hji11] at A4)
 have hji11_:(if a1<a2 then a2 else a1)=ji11:=hji11;by_cases c12:(ji11)≥Zb
 ·rw[Yu c12] at H
  have c12b0:decide (Zb≤(ji11))=true:=Ys c12;clear c12;obtain rfl:=Option.some.inj H;go_enter Try.func65,Try.ntmps65;go_wp2_with (first|((with_reducible refine gate_dst (N:=3) rfl ?_);(try (refine gate_guard (by rfl) ?_;dsimp only));refine Yw ?hg (N:=3) ?hd (cs:= #[.int .i64 Zb, .bool Zc, .slice Zf Za.length Ze]) (t:=24) ?hr ?_;(case hd=>rfl);(case hg=>rfl);(case hr=>first|(go_simp;done)|(go_simp;rfl));intro Xi hg w13 Zg hb;have Zn:=Ya (Zg);have GW115:=Ya (by rw[hg];exact(Yi HB.out):w.heap.size≤Xi);have GE115:=Ya (by rw[hg];exact(Yi HB.out):w.heap.size≤Xi);replace HB:=Ya (Yk HB.out hb);clear hb Zg hg;have hcz14_0:w13.cell? ⟨Xi,0,none⟩=some (.int .i64 Zb):=bc Zn 0;have hcz14_1:w13.cell? ⟨Xi,1,none⟩=some (.bool Zc):=bc Zn 1;have hcz14_2:w13.cell? ⟨Xi,2,none⟩=some (.slice Zf Za.length Ze):=bc Zn 2;have hfz14_0:=Yf Zn.out 0;have hfz14_1:=Yf Zn.out 1;have hfz14_2:=Yf Zn.out 2)|((with_reducible refine gate_callee (f:=61) rfl ?_);refine gl (some 9) Try.func61 #[.agg #[.int .i64 Zb, .bool Zc, .slice Zf Za.length Ze]] ?_;(with_reducible refine(netfmt_Check.calls k Zb Zc _ _ Za t116 _ ?side1 ?side2 A4.out).mono ?_);(case side1=>exact kC (Yq Zo.out HB.out));(case side2=>exact Xo.out);rintro e w15 ⟨rfl,hb⟩;refine⟨_,rfl,?_⟩;replace Zn:=Ya (Yn Zn.out hb);replace HB:=Ya (Yk HB.out hb);(try clear hb);have Uv:w15.cell? ⟨Xi,0,none⟩=some (.int .i64 Zb):=bc Zn 0;have Uw:w15.cell? ⟨Xi,1,none⟩=some (.bool Zc):=bc Zn 1;have hcz16_2:w15.cell? ⟨Xi,2,none⟩=some (.slice Zf Za.length Ze):=bc Zn 2;have Ux:=Yf Zn.out 0;have Uy:=Yf Zn.out 1;have hfz16_2:=Yf Zn.out 2));go_ret;exact⟨by first|rfl|(simp[errW_none,errW_some]<;>rfl)|(simp only[← hji6, ← hji11];first|rfl|(simp[errW_none,errW_some]<;>rfl))|(simp[*,errW_none,errW_some]<;>rfl),HB.out⟩
 rw[Yv c12] at H;have c12b0:decide (Zb≤(ji11))=false:=Yt c12;clear c12;by_cases c17:a1=a2
 rotate_left
 ·rw[Yv c17] at H
  have c17b0:(a1 == a2)=false:=beq_eq_false_iff_ne.mpr c17;have c17b1:(a1 != a2)=true:=bne_iff_ne.mpr c17;obtain rfl:=Option.some.inj H;go_enter Try.func65,Try.ntmps65;go_wp2_with (first|((with_reducible refine gate_dst (N:=3) rfl ?_);(try (refine gate_guard (by rfl) ?_;dsimp only));refine Yw ?hg (N:=3) ?hd (cs:= #[.int .i64 Zb, .bool Zc, .slice Zf Za.length Ze]) (t:=24) ?hr ?_;(case hd=>rfl);(case hg=>rfl);(case hr=>first|(go_simp;done)|(go_simp;rfl));intro Xi hg w22 Zg hb;have Zn:=Ya (Zg);have GW115:=Ya (by rw[hg];exact(Yi HB.out):w.heap.size≤Xi);have GE115:=Ya (by rw[hg];exact(Yi HB.out):w.heap.size≤Xi);replace HB:=Ya (Yk HB.out hb);clear hb Zg hg;have hcz23_0:w22.cell? ⟨Xi,0,none⟩=some (.int .i64 Zb):=bc Zn 0;have hcz23_1:w22.cell? ⟨Xi,1,none⟩=some (.bool Zc):=bc Zn 1;have hcz23_2:w22.cell? ⟨Xi,2,none⟩=some (.slice Zf Za.length Ze):=bc Zn 2;have hfz23_0:=Yf Zn.out 0;have hfz23_1:=Yf Zn.out 1;have hfz23_2:=Yf Zn.out 2)|((with_reducible refine gate_callee (f:=61) rfl ?_);refine gl (some 9) Try.func61 #[.agg #[.int .i64 Zb, .bool Zc, .slice Zf Za.length Ze]] ?_;(with_reducible refine(netfmt_Check.calls k Zb Zc _ _ Za t116 _ ?side1 ?side2 A4.out).mono ?_);(case side1=>exact kC (Yq Zo.out HB.out));(case side2=>exact Xo.out);rintro e w24 ⟨rfl,hb⟩;refine⟨_,rfl,?_⟩;replace Zn:=Ya (Yn Zn.out hb);replace HB:=Ya (Yk HB.out hb);(try clear hb);have hcz25_0:w24.cell? ⟨Xi,0,none⟩=some (.int .i64 Zb):=bc Zn 0;have hcz25_1:w24.cell? ⟨Xi,1,none⟩=some (.bool Zc):=bc Zn 1;have hcz25_2:w24.cell? ⟨Xi,2,none⟩=some (.slice Zf Za.length Ze):=bc Zn 2;have hfz25_0:=Yf Zn.out 0;have hfz25_1:=Yf Zn.out 1;have hfz25_2:=Yf Zn.out 2));go_ret;exact⟨by first|rfl|(simp[errW_none,errW_some]<;>rfl)|(simp only[← hji6, ← hji11];first|rfl|(simp[errW_none,errW_some]<;>rfl))|(simp[*,errW_none,errW_some]<;>rfl),HB.out⟩
 rw[Yu c17] at H;have c17b0:(a1 == a2)=true:=beq_iff_eq.mpr c17;have c17b1:(a1 != a2)=false:=bne_eq_false_iff_eq.mpr c17;clear c17;obtain rfl:=Option.some.inj H;go_enter Try.func65,Try.ntmps65;go_wp2_with (first|((with_reducible refine gate_dst (N:=3) rfl ?_);(try (refine gate_guard (by rfl) ?_;dsimp only));refine Yw ?hg (N:=3) ?hd (cs:= #[.int .i64 Zb, .bool Zc, .slice Zf Za.length Ze]) (t:=24) ?hr ?_;(case hd=>rfl);(case hg=>rfl);(case hr=>first|(go_simp;done)|(go_simp;rfl));intro Xi hg w18 Zg hb;have Zn:=Ya (Zg);have GW115:=Ya (by rw[hg];exact(Yi HB.out):w.heap.size≤Xi);have GE115:=Ya (by rw[hg];exact(Yi HB.out):w.heap.size≤Xi);replace HB:=Ya (Yk HB.out hb);clear hb Zg hg;have hcz19_0:w18.cell? ⟨Xi,0,none⟩=some (.int .i64 Zb):=bc Zn 0;have hcz19_1:w18.cell? ⟨Xi,1,none⟩=some (.bool Zc):=bc Zn 1;have hcz19_2:w18.cell? ⟨Xi,2,none⟩=some (.slice Zf Za.length Ze):=bc Zn 2;have hfz19_0:=Yf Zn.out 0;have hfz19_1:=Yf Zn.out 1;have hfz19_2:=Yf Zn.out 2)|((with_reducible refine gate_callee (f:=61) rfl ?_);refine gl (some 9) Try.func61 #[.agg #[.int .i64 Zb, .bool Zc, .slice Zf Za.length Ze]] ?_;(with_reducible refine(netfmt_Check.calls k Zb Zc _ _ Za t116 _ ?side1 ?side2 A4.out).mono ?_);(case side1=>exact kC (Yq Zo.out HB.out));(case side2=>exact Xo.out);rintro e w20 ⟨rfl,hb⟩;refine⟨_,rfl,?_⟩;replace Zn:=Ya (Yn Zn.out hb);replace HB:=Ya (Yk HB.out hb);(try clear hb);have hcz21_0:w20.cell? ⟨Xi,0,none⟩=some (.int .i64 Zb):=bc Zn 0;have hcz21_1:w20.cell? ⟨Xi,1,none⟩=some (.bool Zc):=bc Zn 1;have hcz21_2:w20.cell? ⟨Xi,2,none⟩=some (.slice Zf Za.length Ze):=bc Zn 2;have hfz21_0:=Yf Zn.out 0;have hfz21_1:=Yf Zn.out 1;have hfz21_2:=Yf Zn.out 2));go_ret;exact⟨by first|rfl|(simp[errW_none,errW_some]<;>rfl)|(simp only[← hji6, ← hji11];first|rfl|(simp[errW_none,errW_some]<;>rfl))|(simp[*,errW_none,errW_some]<;>rfl),HB.out⟩
end P
namespace P
attribute [local go_sem] max2_int min2_int max_two min_two max_three min_three max_four min_four
def static_Asked.l0:Nat→List Int→Int→Int→Int→Bool→List (S50)→Option (Int)
 |0,_,_,_,_,_,_=>none
 |k+1,x19,x20,x21,x391000,x391001,x391002=>if x21<x20 then(if 0≤x21 then(if x21<(x19.length:Int) then(if (rd x19 x21)<0 then(some 71) else(if x21<(x391002.length:Int) then(if (rd x19 x21)>((rd_T50 x391002 x21).f2) then(some 71) else(static_Asked.l0 k x19 x20 (wrap64 (x21+1)) x391000 x391001 x391002)) else(none))) else(none)) else(none)) else(some 0)
def static_Asked.f (k:Nat) (Zb:Int) (Zc:Bool) (Za:List (S50)) (l1:List Int):Option (Int):=(netfmt_Check.f k Zb Zc Za).bind fun t391=>(if t391=0 then(if (l1.length:Int)=(Za.length:Int) then(static_Asked.l0 k l1 (l1.length:Int) 0 Zb Zc Za) else(some 71)) else(some t391))
set_option maxHeartbeats 8000000 in
set_option maxRecDepth 100000 in
theorem static_Asked.calls (k:Nat) (Zb:Int) (Zc:Bool) (Zf:Option Addr) (Ze:Nat) (Za:List (S50)) (A1:Option Addr) (c1:Nat) (l1:List Int) (r:Int) (w:World) (Zq:Kd.C k50 w Zf Za.length Za) (Zr:Za.length≤Ze) (hr1:Kd.C (Kd.int .i64) w A1 l1.length l1) (hc1:l1.length≤c1) (h:static_Asked.f k Zb Zc Za l1=some r):
  Calls Try.prog 90 #[.agg #[.int .i64 Zb, .bool Zc, .slice Zf Za.length Ze], .slice A1 l1.length c1] w fun e w'=>e= .returned (.int .i64 r)∧Below w.heap.size w w':=by
 have hu24:=Try.underlying24;have Zo:=Ya Zq;have Xo:=Ya Zr;clear Zq Zr;have HR1:=Ya hr1;have HC1:=Ya hc1;clear hr1 hc1;have HB:=Ya (Yo w.heap.size w);have H:=h;unfold static_Asked.f at H;clear h;replace H:=Option.bind_eq_some_iff.mp H;obtain⟨t391,A30,H⟩:=H;try dsimp only at H
 have A3:=Ya A30;clear A30;by_cases c4:t391=0
 rotate_left
 ·rw[Yv c4] at H
  have c4b0:(t391 == 0)=false:=beq_eq_false_iff_ne.mpr c4;have c4b1:(t391 != 0)=true:=bne_iff_ne.mpr c4;obtain rfl:=Option.some.inj H;go_enter Try.func90,Try.ntmps90;go_wp2_with (first|(refine bx 2 24 #[.int .i64 Zb, .bool Zc, .slice Zf Za.length Ze] ?_;intro Xr hg w22 Zg hb;have Zt:=Ya (Zg);have GW390:=Ya (by rw[hg];exact(Yi HB.out):w.heap.size≤Xr);have GE390:=Ya (by rw[hg];exact(Yi HB.out):w.heap.size≤Xr);replace HB:=Ya (Yk HB.out hb);clear hb Zg hg;have hcz23_0:w22.cell? ⟨Xr,0,none⟩=some (.int .i64 Zb):=bc Zt 0;have hcz23_1:w22.cell? ⟨Xr,1,none⟩=some (.bool Zc):=bc Zt 1;have hcz23_2:w22.cell? ⟨Xr,2,none⟩=some (.slice Zf Za.length Ze):=bc Zt 2;have hfz23_0:=Yf Zt.out 0;have hfz23_1:=Yf Zt.out 1;have hfz23_2:=Yf Zt.out 2)|((with_reducible refine gate_callee (f:=61) rfl ?_);refine gl (some 9) Try.func61 #[.agg #[.int .i64 Zb, .bool Zc, .slice Zf Za.length Ze]] ?_;(with_reducible refine(netfmt_Check.calls k Zb Zc _ _ Za t391 _ ?side1 ?side2 A3.out).mono ?_);(case side1=>exact kC (Yq Zo.out HB.out));(case side2=>exact Xo.out);rintro e w24 ⟨rfl,hb⟩;refine⟨_,rfl,?_⟩;replace Zt:=Ya (Yn Zt.out hb);replace HB:=Ya (Yk HB.out hb);(try clear hb)));go_ret;exact⟨by first|rfl|(simp[errW_none,errW_some]<;>rfl)|(simp[*,errW_none,errW_some]<;>rfl),HB.out⟩
 rw[Yu c4] at H;have c4b0:(t391 == 0)=true:=beq_iff_eq.mpr c4;have c4b1:(t391 != 0)=false:=bne_eq_false_iff_eq.mpr c4;clear c4;by_cases c5:(l1.length:Int)=(Za.length:Int)
 rotate_left
 ·rw[Yv c5] at H
  have c5b0:((l1.length:Int) == (Za.length:Int))=false:=beq_eq_false_iff_ne.mpr c5;have c5b1:((l1.length:Int) != (Za.length:Int))=true:=bne_iff_ne.mpr c5;have c5b2:(l1.length == Za.length)=false:=by first|simpa using c5|(simp at c5 ⊢;omega)
  obtain rfl:=Option.some.inj H;go_enter Try.func90,Try.ntmps90;go_wp2_with (first|(refine bx 2 24 #[.int .i64 Zb, .bool Zc, .slice Zf Za.length Ze] ?_;intro Xr hg w18 Zg hb;have Zt:=Ya (Zg);have GW390:=Ya (by rw[hg];exact(Yi HB.out):w.heap.size≤Xr);have GE390:=Ya (by rw[hg];exact(Yi HB.out):w.heap.size≤Xr);replace HB:=Ya (Yk HB.out hb);clear hb Zg hg;have hcz19_0:w18.cell? ⟨Xr,0,none⟩=some (.int .i64 Zb):=bc Zt 0;have hcz19_1:w18.cell? ⟨Xr,1,none⟩=some (.bool Zc):=bc Zt 1;have hcz19_2:w18.cell? ⟨Xr,2,none⟩=some (.slice Zf Za.length Ze):=bc Zt 2;have hfz19_0:=Yf Zt.out 0;have hfz19_1:=Yf Zt.out 1;have hfz19_2:=Yf Zt.out 2)|((with_reducible refine gate_callee (f:=61) rfl ?_);refine gl (some 9) Try.func61 #[.agg #[.int .i64 Zb, .bool Zc, .slice Zf Za.length Ze]] ?_;(with_reducible refine(netfmt_Check.calls k Zb Zc _ _ Za t391 _ ?side1 ?side2 A3.out).mono ?_);(case side1=>exact kC (Yq Zo.out HB.out));(case side2=>exact Xo.out);rintro e w20 ⟨rfl,hb⟩;refine⟨_,rfl,?_⟩;replace Zt:=Ya (Yn Zt.out hb);replace HB:=Ya (Yk HB.out hb);(try clear hb);have hcz21_0:w20.cell? ⟨Xr,0,none⟩=some (.int .i64 Zb):=bc Zt 0;have hcz21_1:w20.cell? ⟨Xr,1,none⟩=some (.bool Zc):=bc Zt 1;have hcz21_2:w20.cell? ⟨Xr,2,none⟩=some (.slice Zf Za.length Ze):=bc Zt 2;have hfz21_0:=Yf Zt.out 0;have hfz21_1:=Yf Zt.out 1;have hfz21_2:=Yf Zt.out 2));go_ret;exact⟨by first|rfl|(simp[errW_none,errW_some]<;>rfl)|(simp[*,errW_none,errW_some]<;>rfl),HB.out⟩
 rw[Yu c5] at H;have c5b0:((l1.length:Int) == (Za.length:Int))=true:=beq_iff_eq.mpr c5;have c5b1:((l1.length:Int) != (Za.length:Int))=false:=bne_eq_false_iff_eq.mpr c5;have c5b2:(l1.length == Za.length)=true:=by first|simpa using c5|(simp at c5 ⊢;omega)
 clear c5;have H':=Ya H;clear H;go_enter Try.func90,Try.ntmps90;go_wp2_with (first|(refine bx 2 24 #[.int .i64 Zb, .bool Zc, .slice Zf Za.length Ze] ?_;intro Xr hg w6 Zg hb;have Zt:=Ya (Zg);have GW390:=Ya (by rw[hg];exact(Yi HB.out):w.heap.size≤Xr);have GE390:=Ya (by rw[hg];exact(Yi HB.out):w.heap.size≤Xr);replace HB:=Ya (Yk HB.out hb);clear hb Zg hg;have hcz7_0:w6.cell? ⟨Xr,0,none⟩=some (.int .i64 Zb):=bc Zt 0;have hcz7_1:w6.cell? ⟨Xr,1,none⟩=some (.bool Zc):=bc Zt 1;have hcz7_2:w6.cell? ⟨Xr,2,none⟩=some (.slice Zf Za.length Ze):=bc Zt 2;have hfz7_0:=Yf Zt.out 0;have hfz7_1:=Yf Zt.out 1;have hfz7_2:=Yf Zt.out 2)|((with_reducible refine gate_callee (f:=61) rfl ?_);refine gl (some 9) Try.func61 #[.agg #[.int .i64 Zb, .bool Zc, .slice Zf Za.length Ze]] ?_;(with_reducible refine(netfmt_Check.calls k Zb Zc _ _ Za t391 _ ?side1 ?side2 A3.out).mono ?_);(case side1=>exact kC (Yq Zo.out HB.out));(case side2=>exact Xo.out);rintro e w8 ⟨rfl,hb⟩;refine⟨_,rfl,?_⟩;replace Zt:=Ya (Yn Zt.out hb);replace HB:=Ya (Yk HB.out hb);(try clear hb);have Ul:w8.cell? ⟨Xr,0,none⟩=some (.int .i64 Zb):=bc Zt 0;have Um:w8.cell? ⟨Xr,1,none⟩=some (.bool Zc):=bc Zt 1;have hcz9_2:w8.cell? ⟨Xr,2,none⟩=some (.slice Zf Za.length Ze):=bc Zt 2;have Un:=Yf Zt.out 0;have Uo:=Yf Zt.out 1;have hfz9_2:=Yf Zt.out 2));go_loopg [21] k (fun kq v21 w'=> ∃ (Xl:Int),v21= .int .i64 Xl∧Aside0 (static_Asked.l0 kq l1 (l1.length:Int) Xl Zb Zc Za=some r)∧Aside0 (kq≤k)∧Aside0 (w'.heap[Xr]? =some (.cells #[.int .i64 Zb, .bool Zc,(.slice Zf Za.length Ze)] 24 (0,0)))∧Aside0 (Below w.heap.size w w'))
 case atStart=>exact⟨(0),(by first|rfl|(simp;done)|(simp[*];done)),H',⟨Nat.le_refl _⟩,⟨Zt.out⟩,⟨HB.out⟩⟩
 case round=>
  clear H';try clear c1
  try clear c4
  try clear c4b0
  try clear c4b1
  try clear c5
  try clear c5b0
  try clear c5b1
  try clear c5b2
  try clear hcz7_0
  try clear hcz7_1
  try clear hcz7_2
  try clear Ul
  try clear Um
  try clear hcz9_2
  try clear hfz7_0
  try clear hfz7_1
  try clear hfz7_2
  try clear Un
  try clear Uo
  try clear hfz9_2
  obtain⟨Xl,rfl,HA,HK1,Zt,HB⟩:=hrel;cases gk with
  |zero=>exact absurd HA.out (by simp[static_Asked.l0])
  |succ k1=>
   have H:=HA.out;clear HA;simp only[static_Asked.l0] at H;by_cases c10:Xl<(l1.length:Int)
   rotate_left
   ·rw[Yv c10] at H
    have c10b0:decide (Xl<(l1.length:Int))=false:=Yt c10;clear c10;obtain rfl:=Option.some.inj H;go_wp2;go_ret;exact⟨by first|rfl|(simp[errW_none,errW_some]<;>rfl)|(simp[*,errW_none,errW_some]<;>rfl),HB.out⟩
   rw[Yu c10] at H;have c10b0:decide (Xl<(l1.length:Int))=true:=Ys c10;clear c10;by_cases c11:0≤Xl
   rotate_left
   ·rw[Yv c11] at H
    exact absurd H (by simp)
   rw[Yu c11] at H;have c11b0:decide (0≤Xl)=true:=Ys c11;clear c11;by_cases c12:Xl<(l1.length:Int)
   rotate_left
   ·rw[Yv c12] at H
    exact absurd H (by simp)
   rw[Yu c12] at H;have c12b0:decide (Xl<(l1.length:Int))=true:=Ys c12;clear c12;by_cases c13:(rd l1 Xl)<0
   ·rw[Yu c13] at H
    have c13b0:decide ((rd l1 Xl)<0)=true:=Ys c13;clear c13;obtain rfl:=Option.some.inj H;have p392:0≤(Xl:Int):=od;have q392:Xl<(l1.length:Int):=od;obtain⟨ad392,e392,Vq⟩:=Kd.at_int HR1.out Xl p392 q392;cases e392;replace Vq:=hc HB Vq;replace p392:=eq_true p392;replace q392:=eq_true q392;go_wp2;go_ret;exact⟨by first|rfl|(simp[errW_none,errW_some]<;>rfl)|(simp[*,errW_none,errW_some]<;>rfl),HB.out⟩
   rw[Yv c13] at H;have c13b0:decide ((rd l1 Xl)<0)=false:=Yt c13;clear c13;by_cases c14:Xl<(Za.length:Int)
   rotate_left
   ·rw[Yv c14] at H
    exact absurd H (by simp)
   rw[Yu c14] at H;have c14b0:decide (Xl<(Za.length:Int))=true:=Ys c14;clear c14;by_cases c15:(rd l1 Xl)>((rd_T50 Za Xl).f2)
   ·rw[Yu c15] at H
    have c15b0:decide (((rd_T50 Za Xl).f2)<(rd l1 Xl))=true:=Ys c15;clear c15;obtain rfl:=Option.some.inj H;have p392:0≤(Xl:Int):=od;have q392:Xl<(l1.length:Int):=od;obtain⟨ad392,e392,Vq⟩:=Kd.at_int HR1.out Xl p392 q392;cases e392;replace Vq:=hc HB Vq;replace p392:=eq_true p392;replace q392:=eq_true q392;have Uv:wr.cell? ⟨Xr,0,none⟩=some (.int .i64 Zb):=bc Zt 0;have Uw:wr.cell? ⟨Xr,1,none⟩=some (.bool Zc):=bc Zt 1;have hcz16_2:wr.cell? ⟨Xr,2,none⟩=some (.slice Zf Za.length Ze):=bc Zt 2;have Ux:=Yf Zt.out 0;have Uy:=Yf Zt.out 1;have hfz16_2:=Yf Zt.out 2;have p393:0≤(Xl:Int):=od;have q393:Xl<(Za.length:Int):=od;obtain⟨ad393,e393,Jd,Je,Jf,Jg⟩:=at_T50 Zo.out Xl p393 q393;cases e393;replace Jd:=hc HB Jd;replace Je:=hc HB Je;replace Jf:=hc HB Jf;replace Jg:=hc HB Jg;replace p393:=eq_true p393;replace q393:=eq_true q393;go_wp2;go_ret;exact⟨by first|rfl|(simp[errW_none,errW_some]<;>rfl)|(simp[*,errW_none,errW_some]<;>rfl),HB.out⟩
   rw[Yv c15] at H;have c15b0:decide (((rd_T50 Za Xl).f2)<(rd l1 Xl))=false:=Yt c15;clear c15;have H':=Ya H;clear H;have p392:0≤(Xl:Int):=od;have q392:Xl<(l1.length:Int):=od;obtain⟨ad392,e392,Vq⟩:=Kd.at_int HR1.out Xl p392 q392;cases e392;replace Vq:=hc HB Vq;replace p392:=eq_true p392;replace q392:=eq_true q392;have Vm:wr.cell? ⟨Xr,0,none⟩=some (.int .i64 Zb):=bc Zt 0;have Vn:wr.cell? ⟨Xr,1,none⟩=some (.bool Zc):=bc Zt 1;have hcz17_2:wr.cell? ⟨Xr,2,none⟩=some (.slice Zf Za.length Ze):=bc Zt 2;have Vo:=Yf Zt.out 0;have Vp:=Yf Zt.out 1;have hfz17_2:=Yf Zt.out 2;have p393:0≤(Xl:Int):=od;have q393:Xl<(Za.length:Int):=od;obtain⟨ad393,e393,Jd,Je,Jf,Jg⟩:=at_T50 Zo.out Xl p393 q393;cases e393;replace Jd:=hc HB Jd;replace Je:=hc HB Je;replace Jf:=hc HB Jf;replace Jg:=hc HB Jg;replace p393:=eq_true p393;replace q393:=eq_true q393;go_wp2;go_roundg k1
   case measure=>have:=HK1.out;omega
   case rel=>exact⟨(wrap64 (Xl+1)),(by first|rfl|(simp;done)|(simp[*];done)),H',⟨by have:=HK1.out;omega⟩,⟨Zt.out⟩,⟨HB.out⟩⟩
end P
namespace P
attribute [local go_sem] max2_int min2_int max_two min_two max_three min_three max_four min_four
def static_Balance.l0:Nat→List Int→List Int→List (S50)→Int→Int→Option (List Int × Int)
 |0,_,_,_,_,_=>none
 |k+1,x1,x7,x20,x21,x22=>if x22<x21 then(if 0≤x22 then(if x22<(x20.length:Int) then(if 0≤((rd_T50 x20 x22).f0) then(if ((rd_T50 x20 x22).f0)<(x7.length:Int) then(if x22<(x1.length:Int) then((some (x7.set (((rd_T50 x20 x22).f0):Int).toNat (wrap64 ((rd x7 ((rd_T50 x20 x22).f0))+(rd x1 x22))):List Int)).bind fun y403=>(if 0≤((rd_T50 x20 x22).f1) then(if ((rd_T50 x20 x22).f1)<(x7.length:Int) then(static_Balance.l0 k x1 (y403.set (((rd_T50 x20 x22).f1):Int).toNat (wrap64 ((rd y403 ((rd_T50 x20 x22).f1)) - (rd x1 x22)))) x20 x21 (wrap64 (x22+1))) else(none)) else(none))) else(none)) else(none)) else(none)) else(none)) else(none)) else(some (x7,0))
def static_Balance.f (k:Nat) (Zb:Int) (Zc:Bool) (Za:List (S50)) (l1:List Int):Option (List Int × Int):=(static_Asked.f k Zb Zc Za l1).bind fun t395=>(if t395=0 then(if 0≤Zb then(if (Zb:Int).toNat≤35184372088832 then(static_Balance.l0 k l1 (List.replicate (Zb:Int).toNat 0) Za (Za.length:Int) 0) else(none)) else(none)) else(some (([]:List Int),t395)))
def static_Balance.T8:Bool × List (List Nat × List Nat):=(true,[([],[]),([],[]),([1],[1]),([0,2],[0,2]),([3],[3]),([],[]),([],[]),([5,6],[5,6]),([7],[7]),([4,8],[4,8]),([0,2,0,1,2,3,4,5,6,7,8,9],[0,2]),([10,9,0,1,2,3,4,5,6,7,8,9],[9,10])])
def static_Balance.B8:List Nat:=[0,0,2,7,15,0,0,96,224,511,1023,2047]
theorem static_Balance.tab8:rtab .any (opsOf Try.f73 8)=static_Balance.T8:=by kernel_rfl
theorem static_Balance.bits8:waitsOk static_Balance.T8.2 static_Balance.B8=true:=by kernel_rfl
def static_Balance.T9:Bool × List (List Nat × List Nat):=(true,[([],[]),([],[]),([1],[1]),([0,2],[0,2]),([3],[3]),([],[]),([],[]),([5,6],[5,6]),([7],[7]),([4,8],[4,8]),([0,2,0,1,2,3,4,5,6,7,8,9],[0,2]),([10,9,0,1,2,3,4,5,6,7,8,9],[9,10])])
def static_Balance.B9:List Nat:=[0,0,2,7,15,0,0,96,224,511,1023,2047]
theorem static_Balance.tab9:rtab .any (opsOf Try.f73 9)=static_Balance.T9:=by kernel_rfl
theorem static_Balance.bits9:waitsOk static_Balance.T9.2 static_Balance.B9=true:=by kernel_rfl
set_option maxHeartbeats 8000000 in
set_option maxRecDepth 100000 in
theorem static_Balance.calls (k:Nat) (Zb:Int) (Zc:Bool) (Zf:Option Addr) (Ze:Nat) (Za:List (S50)) (A1:Option Addr) (c1:Nat) (l1:List Int) (r1:List Int) (r2:Int) (w:World) (Zq:Kd.C k50 w Zf Za.length Za) (Zr:Za.length≤Ze) (hr1:Kd.C (Kd.int .i64) w A1 l1.length l1) (hc1:l1.length≤c1) (h:static_Balance.f k Zb Zc Za l1=some (r1,r2)):
  Calls Try.prog 73 #[.agg #[.int .i64 Zb, .bool Zc, .slice Zf Za.length Ze], .slice A1 l1.length c1] w fun e w'=> ∃ v0_:Value,e= .returned (.tuple #[v0_, .int .i64 r2])∧Kd.R (Kd.int .i64) 3 w' w.heap.size (fun _=>True) v0_ r1∧Below w.heap.size w w':=by
 have hu24:=Try.underlying24;have hu50:=Try.underlying50;have Zo:=Ya Zq;have Xo:=Ya Zr;clear Zq Zr;have HR1:=Ya hr1;have HC1:=Ya hc1;clear hr1 hc1;have HB:=Ya (Yo w.heap.size w);have H:=h;unfold static_Balance.f at H;clear h;replace H:=Option.bind_eq_some_iff.mp H;obtain⟨t395,A30,H⟩:=H;try dsimp only at H
 have A3:=Ya A30;clear A30;by_cases c4:t395=0
 rotate_left
 ·rw[Yv c4] at H
  have c4b0:(t395 == 0)=false:=beq_eq_false_iff_ne.mpr c4;have c4b1:(t395 != 0)=true:=bne_iff_ne.mpr c4;simp only[Option.some.injEq,Prod.mk.injEq] at H;obtain⟨rfl,rfl⟩:=H;go_enter Try.func73,Try.ntmps73;go_wp2_with (first|(refine bx 2 24 #[.int .i64 Zb, .bool Zc, .slice Zf Za.length Ze] ?_;intro Wh hg w34 Zg hb;have Zv:=Ya (Zg);have GW394:=Ya (by rw[hg];exact(Yi HB.out):w.heap.size≤Wh);have GE394:=Ya (by rw[hg];exact(Yi HB.out):w.heap.size≤Wh);replace HB:=Ya (Yk HB.out hb);clear hb Zg hg;have hcz35_0:w34.cell? ⟨Wh,0,none⟩=some (.int .i64 Zb):=bc Zv 0;have hcz35_1:w34.cell? ⟨Wh,1,none⟩=some (.bool Zc):=bc Zv 1;have hcz35_2:w34.cell? ⟨Wh,2,none⟩=some (.slice Zf Za.length Ze):=bc Zv 2;have hfz35_0:=Yf Zv.out 0;have hfz35_1:=Yf Zv.out 1;have hfz35_2:=Yf Zv.out 2)|((with_reducible refine gate_callee (f:=90) rfl ?_);refine gl (some 12) Try.func90 #[.agg #[.int .i64 Zb, .bool Zc, .slice Zf Za.length Ze], .slice A1 l1.length c1] ?_;(with_reducible refine(static_Asked.calls k Zb Zc _ _ Za _ _ l1 t395 _ ?side1 ?side2 ?side3 ?side4 A3.out).mono ?_);(case side1=>exact kC (Yq Zo.out HB.out));(case side2=>exact Xo.out);(case side3=>exact kC (Yq HR1.out HB.out));(case side4=>exact HC1.out);rintro e w36 ⟨rfl,hb⟩;refine⟨_,rfl,?_⟩;replace Zv:=Ya (Yn Zv.out hb);replace HB:=Ya (Yk HB.out hb);(try clear hb)));go_ret2;exact⟨_,by first|rfl|(simp[errW_none,errW_some]<;>rfl)|(simp[*,errW_none,errW_some]<;>rfl),by first|exact Kd.R_nil _ _ _ _ _|exact Kd.N_nil _ _ _ _ _|exact Kd.V_nil _ _ _ _ _|exact Kd.Q_nil _ _ _ _ _|exact Kd.S_nil _ _ _ _ _,HB.out⟩
 rw[Yu c4] at H;have c4b0:(t395 == 0)=true:=beq_iff_eq.mpr c4;have c4b1:(t395 != 0)=false:=bne_eq_false_iff_eq.mpr c4;clear c4;by_cases c5:0≤Zb
 rotate_left
 ·rw[Yv c5] at H
  exact absurd H (by simp)
 rw[Yu c5] at H;have c5b0:=eq_true c5;have c5b1:decide (0≤Zb)=true:=Ys c5;clear c5;by_cases c6:(Zb:Int).toNat≤35184372088832
 rotate_left
 ·rw[Yv c6] at H
  exact absurd H (by simp)
 rw[Yu c6] at H;have c6b0:=eq_true c6;have c6b1:decide ((Zb:Int).toNat≤35184372088832)=true:=Ys c6;clear c6;obtain⟨y396,hy396⟩: ∃ y_:List Int,y_=(List.replicate (Zb:Int).toNat 0):=⟨_,rfl⟩;rw[← hy396] at H;have Ny396:=Ya hy396;clear hy396;have H':=Ya H;clear H;go_enter Try.func73,Try.ntmps73;go_wp2_with (first|(refine bx 2 24 #[.int .i64 Zb, .bool Zc, .slice Zf Za.length Ze] ?_;intro Wh hg w7 Zg hb;have Zv:=Ya (Zg);have GW394:=Ya (by rw[hg];exact(Yi HB.out):w.heap.size≤Wh);have GE394:=Ya (by rw[hg];exact(Yi HB.out):w.heap.size≤Wh);replace HB:=Ya (Yk HB.out hb);clear hb Zg hg;have Wi:w7.cell? ⟨Wh,0,none⟩=some (.int .i64 Zb):=bc Zv 0;have Wj:w7.cell? ⟨Wh,1,none⟩=some (.bool Zc):=bc Zv 1;have Wk:w7.cell? ⟨Wh,2,none⟩=some (.slice Zf Za.length Ze):=bc Zv 2;have Wl:=Yf Zv.out 0;have Wm:=Yf Zv.out 1;have Wn:=Yf Zv.out 2)|((with_reducible refine gate_callee (f:=90) rfl ?_);refine gl (some 12) Try.func90 #[.agg #[.int .i64 Zb, .bool Zc, .slice Zf Za.length Ze], .slice A1 l1.length c1] ?_;(with_reducible refine(static_Asked.calls k Zb Zc _ _ Za _ _ l1 t395 _ ?side1 ?side2 ?side3 ?side4 A3.out).mono ?_);(case side1=>exact kC (Yq Zo.out HB.out));(case side2=>exact Xo.out);(case side3=>exact kC (Yq HR1.out HB.out));(case side4=>exact HC1.out);rintro e w9 ⟨rfl,hb⟩;refine⟨_,rfl,?_⟩;replace Zv:=Ya (Yn Zv.out hb);replace HB:=Ya (Yk HB.out hb);(try clear hb);have Ww:w9.cell? ⟨Wh,0,none⟩=some (.int .i64 Zb):=bc Zv 0;have Wx:w9.cell? ⟨Wh,1,none⟩=some (.bool Zc):=bc Zv 1;have Wy:w9.cell? ⟨Wh,2,none⟩=some (.slice Zf Za.length Ze):=bc Zv 2;have Wz:=Yf Zv.out 0;have Va:=Yf Zv.out 1;have Vb:=Yf Zv.out 2)|((with_reducible refine gate_dst (N:=18) rfl ?_);refine Kd.R_make (Kd.int .i64) _ 3 rfl (N:=18) rfl 31 _ _ rfl Zb rfl rfl Try.underlying31 (.int .i64 0) 8 info3 rfl (by decide) (by omega) 0 (ok:=fun _=>True) (okp:=fun _=>True) rfl (fun _ hk=>hk) trivial (Yr (by first|(with_reducible assumption)|assumption)) (Nat.le_trans (Nat.mul_le_mul_right _ (Yr (by first|(with_reducible assumption)|assumption):Zb.toNat≤35184372088832)) (by omega)) (Yo _ _) (Nat.le_refl _) ?_;intro v397 w11 ho12 hb hg_ hnew_;clear hg_ hnew_;(first|rw[← Ny396.out] at ho12|(simp only[Int.reduceToNat] at ho12;rw[← Ny396.out] at ho12));have HO398:=Ya (Kd.R_lower ho12 (Yi HB.out));replace Zv:=Ya (Yn Zv.out hb);replace HB:=Ya (Yk HB.out hb);clear hb ho12;have hcz13_0:w11.cell? ⟨Wh,0,none⟩=some (.int .i64 Zb):=bc Zv 0;have hcz13_1:w11.cell? ⟨Wh,1,none⟩=some (.bool Zc):=bc Zv 1;have hcz13_2:w11.cell? ⟨Wh,2,none⟩=some (.slice Zf Za.length Ze):=bc Zv 2;have hfz13_0:=Yf Zv.out 0;have hfz13_1:=Yf Zv.out 1;have hfz13_2:=Yf Zv.out 2));go_loopg [22] k (fun kq v22 w'=> ∃ (Wr:List Int) (Zd:Int),v22= .int .i64 Zd∧Aside0 (static_Balance.l0 kq l1 Wr Za (Za.length:Int) Zd=some (r1,r2))∧Aside0 (kq≤k)∧Aside0 (Kd.R (Kd.int .i64) 3 w' w.heap.size (fun _=>True) v397 Wr)∧Aside0 (w'.heap[Wh]? =some (.cells #[.int .i64 Zb, .bool Zc,(.slice Zf Za.length Ze)] 24 (0,0)))∧Aside0 (Below w.heap.size w w'))
 case atStart=>exact⟨(y396),(0),(by first|rfl|(simp;done)|(simp[*];done)),H',⟨Nat.le_refl _⟩,⟨HO398.out⟩,⟨Zv.out⟩,⟨HB.out⟩⟩
 case round=>
  clear H';try clear c1
  try clear c4
  try clear c4b0
  try clear c4b1
  try clear c5
  try clear c5b0
  try clear c5b1
  try clear c6
  try clear c6b0
  try clear c6b1
  try clear Ww
  try clear Wx
  try clear Wy
  try clear hcz13_0
  try clear hcz13_1
  try clear hcz13_2
  try clear Wi
  try clear Wj
  try clear Wk
  try clear Wz
  try clear Va
  try clear Vb
  try clear hfz13_0
  try clear hfz13_1
  try clear hfz13_2
  try clear Wl
  try clear Wm
  try clear Wn
  obtain⟨Wr,Zd,rfl,HA,HK1,HO_7,Zv,HB⟩:=hrel;cases gk with
  |zero=>exact absurd HA.out (by simp[static_Balance.l0])
  |succ k1=>
   have H:=HA.out;clear HA;simp only[static_Balance.l0] at H;by_cases c14:Zd<(Za.length:Int)
   rotate_left
   ·rw[Yv c14] at H
    have c14b0:decide (Zd<(Za.length:Int))=false:=Yt c14;clear c14;simp only[Option.some.injEq,Prod.mk.injEq] at H;obtain⟨rfl,rfl⟩:=H;go_wp2;go_ret2;exact⟨_,by first|rfl|(simp[errW_none,errW_some]<;>rfl)|(simp[*,errW_none,errW_some]<;>rfl),by(with_reducible repeat(first|apply Kd.R_alloc|apply Kd.R_drewN|apply Kd.R_drew));exact HO_7.out,HB.out⟩
   rw[Yu c14] at H;have c14b0:decide (Zd<(Za.length:Int))=true:=Ys c14;clear c14;by_cases c15:0≤Zd
   rotate_left
   ·rw[Yv c15] at H
    exact absurd H (by simp)
   rw[Yu c15] at H;have c15b0:decide (0≤Zd)=true:=Ys c15;clear c15;by_cases c16:Zd<(Za.length:Int)
   rotate_left
   ·rw[Yv c16] at H
    exact absurd H (by simp)
   rw[Yu c16] at H;have c16b0:decide (Zd<(Za.length:Int))=true:=Ys c16;clear c16;by_cases c17:0≤((rd_T50 Za Zd).f0)
   rotate_left
   ·rw[Yv c17] at H
    exact absurd H (by simp)
   rw[Yu c17] at H;have c17b0:decide (0≤((rd_T50 Za Zd).f0))=true:=Ys c17;clear c17;by_cases c18:((rd_T50 Za Zd).f0)<(Wr.length:Int)
   rotate_left
   ·rw[Yv c18] at H
    exact absurd H (by simp)
   rw[Yu c18] at H;have c18b0:decide (((rd_T50 Za Zd).f0)<(Wr.length:Int))=true:=Ys c18;clear c18;by_cases c19:Zd<(l1.length:Int)
   rotate_left
   ·rw[Yv c19] at H
    exact absurd H (by simp)
   rw[Yu c19] at H;have c19b0:decide (Zd<(l1.length:Int))=true:=Ys c19;clear c19;obtain⟨y403,hy403⟩: ∃ y_:List Int,y_=(Wr.set (((rd_T50 Za Zd).f0):Int).toNat (wrap64 ((rd Wr ((rd_T50 Za Zd).f0))+(rd l1 Zd)))):=⟨_,rfl⟩;rw[Option.bind_some, ← hy403] at H;have Ny403:=Ya hy403;clear hy403;by_cases c21:0≤((rd_T50 Za Zd).f1)
   rotate_left
   ·rw[Yv c21] at H
    exact absurd H (by simp)
   rw[Yu c21] at H;have c21b0:decide (0≤((rd_T50 Za Zd).f1))=true:=Ys c21;clear c21;by_cases c22:((rd_T50 Za Zd).f1)<(Wr.length:Int)
   rotate_left
   ·rw[Yv c22] at H
    exact absurd H (by simp)
   rw[Yu c22] at H;have c22b0:decide (((rd_T50 Za Zd).f1)<(Wr.length:Int))=true:=Ys c22;clear c22;obtain⟨y406,hy406⟩: ∃ y_:List Int,y_=(y403.set (((rd_T50 Za Zd).f1):Int).toNat (wrap64 ((rd y403 ((rd_T50 Za Zd).f1)) - (rd l1 Zd)))):=⟨_,rfl⟩;rw[← hy406] at H;have Ny406:=Ya hy406;clear hy406;have H':=Ya H;clear H;have p399:0≤(Zd:Int):=od;have q399:Zd<(Za.length:Int):=od;obtain⟨ad399,e399,hx399_0,hx399_1,hx399_2,hx399_3⟩:=at_T50 Zo.out Zd p399 q399;cases e399;replace hx399_0:=hc HB hx399_0;replace hx399_1:=hc HB hx399_1;replace hx399_2:=hc HB hx399_2;replace hx399_3:=hc HB hx399_3;replace p399:=eq_true p399;replace q399:=eq_true q399;try go_wp2_with (first|(refine bx 9 50 #[.int .i64 0, .int .i64 0, .int .i64 0, .int .i64 0] ?_;intro Xd hg w24 Zg hb;replace HO_7:=Ya (Yp HO_7.out hb);have Xs:=Ya (Zg);have GW400:=Ya (by rw[hg];exact(Yi HB.out):w.heap.size≤Xd);have GE400:=Ya (by rw[hg];exact(Yi HB.out):w.heap.size≤Xd);replace HB:=Ya (Yk HB.out hb);have Vz:=Ya (by rw[hg];exact Nat.ne_of_lt (blk_lt Zv.out):Wh≠Xd);have NB400_394:=Ya (by rw[hg];exact Nat.ne_of_gt (blk_lt Zv.out):Xd≠Wh);replace Zv:=Ya (Yn Zv.out hb);clear hb Zg hg;have hnb25:=NB400_394.out;have hnc25:=Vz.out;have hcz26_0:w24.cell? ⟨Xd,0,none⟩=some (.int .i64 0):=bc Xs 0;have hcz26_1:w24.cell? ⟨Xd,1,none⟩=some (.int .i64 0):=bc Xs 1;have hcz26_2:w24.cell? ⟨Xd,2,none⟩=some (.int .i64 0):=bc Xs 2;have hcz26_3:w24.cell? ⟨Xd,3,none⟩=some (.int .i64 0):=bc Xs 3;have hfz26_0:=Yf Xs.out 0;have hfz26_1:=Yf Xs.out 1;have hfz26_2:=Yf Xs.out 2;have hfz26_3:=Yf Xs.out 3))
   have n0_:Aside0 (Kd.R (Kd.int .i64) 3 ((((w24.setCell ⟨Xd,0,none⟩ (.int .i64 ((rd_T50 Za Zd).f0))).setCell ⟨Xd,1,none⟩ (.int .i64 ((rd_T50 Za Zd).f1))).setCell ⟨Xd,2,none⟩ (.int .i64 ((rd_T50 Za Zd).f2))).setCell ⟨Xd,3,none⟩ (.int .i64 ((rd_T50 Za Zd).f3))) w.heap.size (fun _=>True) v397 Wr):=⟨by(with_reducible repeat(first|apply Kd.R_alloc|apply Kd.R_drewN|apply Kd.R_drew));exact Kd.R_mono (Kd.R_far (p:=⟨Xd,3,none⟩) (Kd.R_far (p:=⟨Xd,2,none⟩) (Kd.R_far (p:=⟨Xd,1,none⟩) (Kd.R_far (p:=⟨Xd,0,none⟩) (Kd.R_types HO_7.out Xs.out (by decide)) (fun _ hk=>hk.2) (.int .i64 ((rd_T50 Za Zd).f0))) (fun _ hk=>hk.2) (.int .i64 ((rd_T50 Za Zd).f1))) (fun _ hk=>hk.2) (.int .i64 ((rd_T50 Za Zd).f2))) (fun _ hk=>hk.2) (.int .i64 ((rd_T50 Za Zd).f3))) (fun _ hk=>trivial)⟩;have n1_:Aside0 (((((w24.setCell ⟨Xd,0,none⟩ (.int .i64 ((rd_T50 Za Zd).f0))).setCell ⟨Xd,1,none⟩ (.int .i64 ((rd_T50 Za Zd).f1))).setCell ⟨Xd,2,none⟩ (.int .i64 ((rd_T50 Za Zd).f2))).setCell ⟨Xd,3,none⟩ (.int .i64 ((rd_T50 Za Zd).f3))).heap[Wh]? =some (.cells #[.int .i64 Zb, .bool Zc, .slice (some ad399) Za.length Ze] 24 (0,0))):=⟨by(with_reducible repeat(first|refine Yl ?_ _|refine Ym ?_|refine Yj ?_ _));refine blk_far ?_ Vz.out _;(with_reducible repeat(first|refine Yl ?_ _|refine Ym ?_|refine Yj ?_ _));refine blk_far ?_ Vz.out _;(with_reducible repeat(first|refine Yl ?_ _|refine Ym ?_|refine Yj ?_ _));refine blk_far ?_ Vz.out _;(with_reducible repeat(first|refine Yl ?_ _|refine Ym ?_|refine Yj ?_ _));refine blk_far ?_ Vz.out _;(with_reducible repeat(first|refine Yl ?_ _|refine Ym ?_|refine Yj ?_ _));exact Zv.out⟩;have n2_:Aside0 (((((w24.setCell ⟨Xd,0,none⟩ (.int .i64 ((rd_T50 Za Zd).f0))).setCell ⟨Xd,1,none⟩ (.int .i64 ((rd_T50 Za Zd).f1))).setCell ⟨Xd,2,none⟩ (.int .i64 ((rd_T50 Za Zd).f2))).setCell ⟨Xd,3,none⟩ (.int .i64 ((rd_T50 Za Zd).f3))).heap[Xd]? =some (.cells #[.int .i64 ((rd_T50 Za Zd).f0), .int .i64 ((rd_T50 Za Zd).f1), .int .i64 ((rd_T50 Za Zd).f2), .int .i64 ((rd_T50 Za Zd).f3)] 50 (0,0))):=⟨by(with_reducible repeat(first|refine Yl ?_ _|refine Ym ?_|refine Yj ?_ _));refine Yx (cs:= #[.int .i64 ((rd_T50 Za Zd).f0), .int .i64 ((rd_T50 Za Zd).f1), .int .i64 ((rd_T50 Za Zd).f2), .int .i64 0]) ?_ 3 _ rfl;(with_reducible repeat(first|refine Yl ?_ _|refine Ym ?_|refine Yj ?_ _));refine Yx (cs:= #[.int .i64 ((rd_T50 Za Zd).f0), .int .i64 ((rd_T50 Za Zd).f1), .int .i64 0, .int .i64 0]) ?_ 2 _ rfl;(with_reducible repeat(first|refine Yl ?_ _|refine Ym ?_|refine Yj ?_ _));refine Yx (cs:= #[.int .i64 ((rd_T50 Za Zd).f0), .int .i64 0, .int .i64 0, .int .i64 0]) ?_ 1 _ rfl;(with_reducible repeat(first|refine Yl ?_ _|refine Ym ?_|refine Yj ?_ _));refine Yx (cs:= #[.int .i64 0, .int .i64 0, .int .i64 0, .int .i64 0]) ?_ 0 _ rfl;(with_reducible repeat(first|refine Yl ?_ _|refine Ym ?_|refine Yj ?_ _));exact Xs.out⟩;have n3_:Aside0 (Below w.heap.size w ((((w24.setCell ⟨Xd,0,none⟩ (.int .i64 ((rd_T50 Za Zd).f0))).setCell ⟨Xd,1,none⟩ (.int .i64 ((rd_T50 Za Zd).f1))).setCell ⟨Xd,2,none⟩ (.int .i64 ((rd_T50 Za Zd).f2))).setCell ⟨Xd,3,none⟩ (.int .i64 ((rd_T50 Za Zd).f3)))):=⟨bl⟩
   (try clear HO_7)
   (try clear Zv)
   (try clear Xs)
   (try clear HB)
   generalize ((((w24.setCell ⟨Xd,0,none⟩ (.int .i64 ((rd_T50 Za Zd).f0))).setCell ⟨Xd,1,none⟩ (.int .i64 ((rd_T50 Za Zd).f1))).setCell ⟨Xd,2,none⟩ (.int .i64 ((rd_T50 Za Zd).f2))).setCell ⟨Xd,3,none⟩ (.int .i64 ((rd_T50 Za Zd).f3)))=w27 at n0_ n1_ n2_ n3_ ⊢;have HO_7:=n0_;have Zv:=n1_;have Xs:=n2_;have HB:=n3_;clear n0_ n1_ n2_ n3_;replace HO_7:=Ya (Kd.R_drew HO_7.out);replace Zv:=Ya (Ym Zv.out);replace Xs:=Ya (Ym Xs.out);replace HB:=Ya (Yg HB.out);obtain⟨Ao29,co29,eo29⟩:=Kd.R_slice HO_7.out
   (first|subst eo29|(injection eo29 with f1_ f2_ f3_;have f4_:=f1_.symm;have f5_:=f3_.symm;clear f1_ f2_ f3_;subst f4_;subst f5_))
   have p401:0≤(((rd_T50 Za Zd).f0):Int):=od;have q401:((rd_T50 Za Zd).f0)<(Wr.length:Int):=od;obtain⟨ad401,e401,hx401_0⟩:=Kd.at_int (Kd.R_reads' HO_7.out).2.2 ((rd_T50 Za Zd).f0) p401 q401;cases e401;replace p401:=eq_true p401;replace q401:=eq_true q401;have p402:0≤(Zd:Int):=od;have q402:Zd<(l1.length:Int):=od;obtain⟨ad402,e402,hx402_0⟩:=Kd.at_int HR1.out Zd p402 q402;have hw402_0:=hx402_0;cases e402;replace hx402_0:=hc HB hx402_0;replace p402:=eq_true p402;replace q402:=eq_true q402;have p20:0≤(((rd_T50 Za Zd).f0):Int):=od;have q20:(((rd_T50 Za Zd).f0):Int)<((Wr.length:Int):Int):=od;obtain⟨go20,co20,eo20,gb20,gl20,cl20,HG20⟩:=Kd.R_form HO_7.out (by omega)
   (first|cases eo20|(injection eo20 with ea_ en_ ec_;(first|subst ea_|(injection ea_ with ea_;subst ea_));subst ec_;clear en_))
   have GB20:=Ya gb20;have GG20:=Ya HG20;clear gb20 gl20 HG20
   (first|simp only[add_plain] at hx401_0|skip)
   obtain⟨hx20_0,hf20_0⟩:=Kd.R_celln 0 HO_7.out (((rd_T50 Za Zd).f0):Int) p20 q20;replace p20:=eq_true p20;replace q20:=eq_true q20;have HP30:=Kd.R_putn HO_7.out (((rd_T50 Za Zd).f0):Int) (wrap64 ((rd Wr ((rd_T50 Za Zd).f0))+(rd l1 Zd)));rw[← Ny403.out] at HP30;have HQ30:=Ya HP30;clear HP30;refine start_ (n:=12) (S:=fun w'=>w'.cell? ⟨Xd,0,none⟩=some (.int .i64 ((rd_T50 Za Zd).f0))∧w'.cell? ⟨Xd,1,none⟩=some (.int .i64 ((rd_T50 Za Zd).f1))∧w'.cell? ⟨Xd,2,none⟩=some (.int .i64 ((rd_T50 Za Zd).f2))∧w'.cell? ⟨Xd,3,none⟩=some (.int .i64 ((rd_T50 Za Zd).f3))∧w'.cell? ⟨go20,(((rd_T50 Za Zd).f0)).toNat,none⟩=some (.int .i64 (rd Wr ((rd_T50 Za Zd).f0)))∧w'.cell? (ad402.add (Zd).toNat)=some (.int .i64 (rd l1 Zd))) (ds:=[11]) #[false,false,false,false,false,false,false,false,false,false,false,false] (by kernel_rfl) rfl rfl ⟨(Yc Xs.out 0).trans rfl,(Yc Xs.out 1).trans rfl,(Yc Xs.out 2).trans rfl,(Yc Xs.out 3).trans rfl,hx401_0,((HB.out.cell (Yb w _ hw402_0)).trans hw402_0)⟩ (fun hHeld=> ?_);refine with_tabW static_Balance.tab8 static_Balance.bits8 (fun HT_ HW_=> ?_);generalize w27.drew=w28 at HO_7 Zv Xs HB GG20 HQ30 hf20_0 hx20_0 hx401_0 hx402_0 hHeld ⊢;refine pu 0 27 (bm 12 1) ?_;refine pu 1 28 (bm 12 3) ?_;refine pu 5 32 (bm 12 35) ?_;refine pu 6 33 (bm 12 99) ?_;refine pu 7 34 (bm 12 227) ?_;refine ta 2 29 (bm 12 231) hHeld ?_;refine pu 3 30 (bm 12 239) ?_;refine ta 4 31 (bm 12 255) hHeld ?_;refine ta 8 35 (bm 12 511) hHeld ?_;refine pu 9 36 (bm 12 1023) ?_;refine pu 10 37 (bm 12 2047) ?_;refine last_ (i:=11) (N:=none) #[true,true,true,true,true,true,true,true,true,true,true,true] rfl rfl (one_of HT_.out (by kernel_rfl)) (by decide) (fun K hK=> ?_);refine skip_ (w1:= ?_) (by rfl) rfl ?_ ?_
   rotate_left
   ·go_simp
    rfl
   refine hK.out _ _ ?_;clear hK K;refine done_ (done_of HT_.out (by kernel_rfl)) ?_;try go_wp2
   have n0_:Aside0 (Kd.R (Kd.int .i64) 3 (w28.setCell ⟨go20,(((rd_T50 Za Zd).f0):Int).toNat,none⟩ (.int .i64 (wrap64 ((rd Wr ((rd_T50 Za Zd).f0))+(rd l1 Zd))))) w.heap.size (fun _=>True) (.slice (some ⟨go20,0,none⟩) Wr.length co29) y403):=⟨HQ30.out⟩;have n1_:Aside0 ((w28.setCell ⟨go20,(((rd_T50 Za Zd).f0):Int).toNat,none⟩ (.int .i64 (wrap64 ((rd Wr ((rd_T50 Za Zd).f0))+(rd l1 Zd))))).heap[Wh]? =some (.cells #[.int .i64 Zb, .bool Zc, .slice (some ad399) Za.length Ze] 24 (0,0))):=⟨by(with_reducible repeat(first|refine Yl ?_ _|refine Ym ?_|refine Yj ?_ _));refine blk_far ?_ (by have h_:=Kd.R_ne HO_7.out Zv.out (by decide);intro e_;exact h_ (by rw[e_];rfl)) _;(with_reducible repeat(first|refine Yl ?_ _|refine Ym ?_|refine Yj ?_ _));exact Zv.out⟩;have n2_:Aside0 ((w28.setCell ⟨go20,(((rd_T50 Za Zd).f0):Int).toNat,none⟩ (.int .i64 (wrap64 ((rd Wr ((rd_T50 Za Zd).f0))+(rd l1 Zd))))).heap[Xd]? =some (.cells #[.int .i64 ((rd_T50 Za Zd).f0), .int .i64 ((rd_T50 Za Zd).f1), .int .i64 ((rd_T50 Za Zd).f2), .int .i64 ((rd_T50 Za Zd).f3)] 50 (0,0))):=⟨by(with_reducible repeat(first|refine Yl ?_ _|refine Ym ?_|refine Yj ?_ _));refine blk_far ?_ (by have h_:=Kd.R_ne HO_7.out Xs.out (by decide);intro e_;exact h_ (by rw[e_];rfl)) _;(with_reducible repeat(first|refine Yl ?_ _|refine Ym ?_|refine Yj ?_ _));exact Xs.out⟩;have n3_:Aside0 (Below w.heap.size w (w28.setCell ⟨go20,(((rd_T50 Za Zd).f0):Int).toNat,none⟩ (.int .i64 (wrap64 ((rd Wr ((rd_T50 Za Zd).f0))+(rd l1 Zd)))))):=⟨bl⟩
   (try clear HO_7)
   (try clear Zv)
   (try clear Xs)
   (try clear HB)
   generalize (w28.setCell ⟨go20,(((rd_T50 Za Zd).f0):Int).toNat,none⟩ (.int .i64 (wrap64 ((rd Wr ((rd_T50 Za Zd).f0))+(rd l1 Zd)))))=w31 at n0_ n1_ n2_ n3_ ⊢;have HO_7:=n0_;have Zv:=n1_;have Xs:=n2_;have HB:=n3_;clear n0_ n1_ n2_ n3_;replace HO_7:=Ya (Kd.R_drew HO_7.out);replace Zv:=Ya (Ym Zv.out);replace Xs:=Ya (Ym Xs.out);replace HB:=Ya (Yg HB.out);have p404:0≤(((rd_T50 Za Zd).f1):Int):=od;have q404:((rd_T50 Za Zd).f1)<(y403.length:Int):=(by have h_:(((rd_T50 Za Zd).f1):Int)<((Wr.length:Int):Int):=od;first|(have e_:=(Kd.R_reads' HO_7.out).1;omega)|simpa only[Ny403.out,List.length_set] using h_);have ql404:((((rd_T50 Za Zd).f1):Int)<((Wr.length:Int):Int))=True:=eq_true (Yr (by first|(with_reducible assumption)|assumption));obtain⟨ad404,e404,Jh⟩:=Kd.at_int (Kd.R_reads' HO_7.out).2.2 ((rd_T50 Za Zd).f1) p404 q404;obtain rfl:(⟨go20,0,none⟩:Addr)=ad404:=(by injection e404)
   (first|simp only[add_plain] at Jh|simp only[add_at] at Jh|simp only[Addr.add,Nat.zero_add] at Jh|skip)
   replace p404:=eq_true p404;replace q404:=eq_true q404;have p405:0≤(Zd:Int):=od;have q405:Zd<(l1.length:Int):=od;obtain⟨ad405,e405,hx405_0⟩:=Kd.at_int HR1.out Zd p405 q405;have hw405_0:=hx405_0;obtain rfl:ad402=ad405:=(by injection e405);replace hx405_0:=hc HB hx405_0;replace p405:=eq_true p405;replace q405:=eq_true q405;have p23:0≤(((rd_T50 Za Zd).f1):Int):=od;have q23:(((rd_T50 Za Zd).f1):Int)<((Wr.length:Int):Int):=od;obtain⟨hx23_0,hf23_0⟩:=Kd.R_celln 0 HO_7.out (((rd_T50 Za Zd).f1):Int) p23 q23;replace p23:=eq_true p23;replace q23:=eq_true q23;have HP33:=Kd.R_putn HO_7.out (((rd_T50 Za Zd).f1):Int) (wrap64 ((rd y403 ((rd_T50 Za Zd).f1)) - (rd l1 Zd)));rw[← Ny406.out] at HP33;have HQ33:=Ya HP33;clear HP33;refine start_ (n:=12) (S:=fun w'=>w'.cell? ⟨Xd,0,none⟩=some (.int .i64 ((rd_T50 Za Zd).f0))∧w'.cell? ⟨Xd,1,none⟩=some (.int .i64 ((rd_T50 Za Zd).f1))∧w'.cell? ⟨Xd,2,none⟩=some (.int .i64 ((rd_T50 Za Zd).f2))∧w'.cell? ⟨Xd,3,none⟩=some (.int .i64 ((rd_T50 Za Zd).f3))∧w'.cell? ⟨go20,(((rd_T50 Za Zd).f1)).toNat,none⟩=some (.int .i64 (rd y403 ((rd_T50 Za Zd).f1)))∧w'.cell? (ad402.add (Zd).toNat)=some (.int .i64 (rd l1 Zd))) (ds:=[11]) #[false,false,false,false,false,false,false,false,false,false,false,false] (by kernel_rfl) rfl rfl ⟨(Yc Xs.out 0).trans rfl,(Yc Xs.out 1).trans rfl,(Yc Xs.out 2).trans rfl,(Yc Xs.out 3).trans rfl,Jh,((HB.out.cell (Yb w _ hw405_0)).trans hw405_0)⟩ (fun hHeld=> ?_);refine with_tabW static_Balance.tab9 static_Balance.bits9 (fun HT_ HW_=> ?_);generalize w31.drew=w32 at HO_7 Zv Xs HB HQ30 HQ33 hf23_0 hx23_0 Jh hx405_0 hHeld ⊢;refine pu 0 38 (bm 12 1) ?_;refine pu 1 39 (bm 12 3) ?_;refine pu 5 43 (bm 12 35) ?_;refine pu 6 44 (bm 12 99) ?_;refine pu 7 45 (bm 12 227) ?_;refine ta 2 40 (bm 12 231) hHeld ?_;refine pu 3 41 (bm 12 239) ?_;refine ta 4 42 (bm 12 255) hHeld ?_;refine ta 8 46 (bm 12 511) hHeld ?_;refine pu 9 47 (bm 12 1023) ?_;refine pu 10 48 (bm 12 2047) ?_;refine last_ (i:=11) (N:=none) #[true,true,true,true,true,true,true,true,true,true,true,true] rfl rfl (one_of HT_.out (by kernel_rfl)) (by decide) (fun K hK=> ?_);refine skip_ (w1:= ?_) (by rfl) rfl ?_ ?_
   rotate_left
   ·go_simp
    rfl
   refine hK.out _ _ ?_;clear hK K;refine done_ (done_of HT_.out (by kernel_rfl)) ?_;try go_wp2
   go_roundg k1
   case measure=>have:=HK1.out;omega
   case rel=>exact⟨(y406),(wrap64 (Zd+1)),(by first|rfl|(simp;done)|(simp[*];done)),H',⟨by have:=HK1.out;omega⟩,⟨kR HQ33⟩,⟨by(with_reducible repeat(first|refine Yl ?_ _|refine Ym ?_|refine Yj ?_ _));refine blk_far ?_ (by have h_:=Kd.R_ne HO_7.out Zv.out (by decide);intro e_;exact h_ (by rw[e_];rfl)) _;(with_reducible repeat(first|refine Yl ?_ _|refine Ym ?_|refine Yj ?_ _));exact Zv.out⟩,⟨bl⟩⟩
end P
namespace P
attribute [local go_sem] max2_int min2_int max_two min_two max_three min_three max_four min_four
def static_Check.l0:Nat→Int→Int→List Int→List Int→Int→Int→Option (Int × Int)
 |0,_,_,_,_,_,_=>none
 |k+1,x1,x2,x10,x29,x30,x31=>if x31<x30 then(if 0≤x31 then(if x31<(x29.length:Int) then(if (rd x29 x31)=0 then(static_Check.l0 k x1 x2 x10 x29 x30 (wrap64 (x31+1))) else(if x31=x1 then(static_Check.l0 k x1 x2 x10 x29 x30 (wrap64 (x31+1))) else(if x31=x2 then(static_Check.l0 k x1 x2 x10 x29 x30 (wrap64 (x31+1))) else(some (0,71))))) else(none)) else(none)) else(if 0≤x1 then(if x1<(x10.length:Int) then(some (rd x10 x1,0)) else(none)) else(none))
def static_Check.f (k:Nat) (Zb:Int) (Zc:Bool) (Za:List (S50)) (a1:Int) (a2:Int) (l3:List Int):Option (Int × Int):=(static_Ends.f k Zb Zc Za a1 a2).bind fun t408=>(if t408=0 then((static_Balance.f k Zb Zc Za l3).bind fun bt409=>(if bt409.2=0 then(static_Check.l0 k a1 a2 bt409.1 bt409.1 (bt409.1.length:Int) 0) else(some (0,bt409.2)))) else(some (0,t408)))
set_option maxHeartbeats 8000000 in
set_option maxRecDepth 100000 in
theorem static_Check.calls (k:Nat) (Zb:Int) (Zc:Bool) (Zf:Option Addr) (Ze:Nat) (Za:List (S50)) (a1:Int) (a2:Int) (A3:Option Addr) (c3:Nat) (l3:List Int) (r1:Int) (r2:Int) (w:World) (Zq:Kd.C k50 w Zf Za.length Za) (Zr:Za.length≤Ze) (hr3:Kd.C (Kd.int .i64) w A3 l3.length l3) (hc3:l3.length≤c3) (h:static_Check.f k Zb Zc Za a1 a2 l3=some (r1,r2)):
  Calls Try.prog 46 #[.agg #[.int .i64 Zb, .bool Zc, .slice Zf Za.length Ze], .int .i64 a1, .int .i64 a2, .slice A3 l3.length c3] w fun e w'=>e= .returned (.tuple #[.int .i64 r1, .int .i64 r2])∧Below w.heap.size w w':=by
 have hu24:=Try.underlying24;have Zo:=Ya Zq;have Xo:=Ya Zr;clear Zq Zr;have HR3:=Ya hr3;have HC3:=Ya hc3;clear hr3 hc3;have HB:=Ya (Yo w.heap.size w);have H:=h;unfold static_Check.f at H;clear h;replace H:=Option.bind_eq_some_iff.mp H;obtain⟨t408,A50,H⟩:=H;try dsimp only at H
 have A5:=Ya A50;clear A50;by_cases c6:t408=0
 rotate_left
 ·rw[Yv c6] at H
  have c6b0:(t408 == 0)=false:=beq_eq_false_iff_ne.mpr c6;have c6b1:(t408 != 0)=true:=bne_iff_ne.mpr c6;simp only[Option.some.injEq,Prod.mk.injEq] at H;obtain⟨rfl,rfl⟩:=H;go_enter Try.func46,Try.ntmps46;go_wp2_with (first|(refine bx 4 24 #[.int .i64 Zb, .bool Zc, .slice Zf Za.length Ze] ?_;intro Wc hg w28 Zg hb;have Zy:=Ya (Zg);have GW407:=Ya (by rw[hg];exact(Yi HB.out):w.heap.size≤Wc);have GE407:=Ya (by rw[hg];exact(Yi HB.out):w.heap.size≤Wc);replace HB:=Ya (Yk HB.out hb);clear hb Zg hg;have hcz29_0:w28.cell? ⟨Wc,0,none⟩=some (.int .i64 Zb):=bc Zy 0;have hcz29_1:w28.cell? ⟨Wc,1,none⟩=some (.bool Zc):=bc Zy 1;have hcz29_2:w28.cell? ⟨Wc,2,none⟩=some (.slice Zf Za.length Ze):=bc Zy 2;have hfz29_0:=Yf Zy.out 0;have hfz29_1:=Yf Zy.out 1;have hfz29_2:=Yf Zy.out 2)|((with_reducible refine gate_callee (f:=65) rfl ?_);refine gl (some 16) Try.func65 #[.agg #[.int .i64 Zb, .bool Zc, .slice Zf Za.length Ze], .int .i64 a1, .int .i64 a2] ?_;(with_reducible refine(static_Ends.calls k Zb Zc _ _ Za a1 a2 t408 _ ?side1 ?side2 A5.out).mono ?_);(case side1=>exact kC (Yq Zo.out HB.out));(case side2=>exact Xo.out);rintro e w30 ⟨rfl,hb⟩;refine⟨_,rfl,?_⟩;replace Zy:=Ya (Yn Zy.out hb);replace HB:=Ya (Yk HB.out hb);(try clear hb)));go_ret2;exact⟨by first|rfl|(simp[errW_none,errW_some]<;>rfl)|(simp[*,errW_none,errW_some]<;>rfl),HB.out⟩
 rw[Yu c6] at H;have c6b0:(t408 == 0)=true:=beq_iff_eq.mpr c6;have c6b1:(t408 != 0)=false:=bne_eq_false_iff_eq.mpr c6;clear c6;replace H:=Option.bind_eq_some_iff.mp H;obtain⟨⟨t409,t412⟩,A70,H⟩:=H;try dsimp only at H
 have A7:=Ya A70;clear A70;by_cases c8:t412=0
 rotate_left
 ·rw[Yv c8] at H
  have c8b0:(t412 == 0)=false:=beq_eq_false_iff_ne.mpr c8;have c8b1:(t412 != 0)=true:=bne_iff_ne.mpr c8;simp only[Option.some.injEq,Prod.mk.injEq] at H;obtain⟨rfl,rfl⟩:=H;go_enter Try.func46,Try.ntmps46;go_wp2_with (first|(refine bx 4 24 #[.int .i64 Zb, .bool Zc, .slice Zf Za.length Ze] ?_;intro Wc hg w23 Zg hb;have Zy:=Ya (Zg);have GW407:=Ya (by rw[hg];exact(Yi HB.out):w.heap.size≤Wc);have GE407:=Ya (by rw[hg];exact(Yi HB.out):w.heap.size≤Wc);replace HB:=Ya (Yk HB.out hb);clear hb Zg hg;have hcz24_0:w23.cell? ⟨Wc,0,none⟩=some (.int .i64 Zb):=bc Zy 0;have hcz24_1:w23.cell? ⟨Wc,1,none⟩=some (.bool Zc):=bc Zy 1;have hcz24_2:w23.cell? ⟨Wc,2,none⟩=some (.slice Zf Za.length Ze):=bc Zy 2;have hfz24_0:=Yf Zy.out 0;have hfz24_1:=Yf Zy.out 1;have hfz24_2:=Yf Zy.out 2)|((with_reducible refine gate_callee (f:=65) rfl ?_);refine gl (some 16) Try.func65 #[.agg #[.int .i64 Zb, .bool Zc, .slice Zf Za.length Ze], .int .i64 a1, .int .i64 a2] ?_;(with_reducible refine(static_Ends.calls k Zb Zc _ _ Za a1 a2 t408 _ ?side1 ?side2 A5.out).mono ?_);(case side1=>exact kC (Yq Zo.out HB.out));(case side2=>exact Xo.out);rintro e w25 ⟨rfl,hb⟩;refine⟨_,rfl,?_⟩;replace Zy:=Ya (Yn Zy.out hb);replace HB:=Ya (Yk HB.out hb);(try clear hb);have hcz26_0:w25.cell? ⟨Wc,0,none⟩=some (.int .i64 Zb):=bc Zy 0;have hcz26_1:w25.cell? ⟨Wc,1,none⟩=some (.bool Zc):=bc Zy 1;have hcz26_2:w25.cell? ⟨Wc,2,none⟩=some (.slice Zf Za.length Ze):=bc Zy 2;have hfz26_0:=Yf Zy.out 0;have hfz26_1:=Yf Zy.out 1;have hfz26_2:=Yf Zy.out 2)|((with_reducible refine gate_callee (f:=73) rfl ?_);refine gl (some 23) Try.func73 #[.agg #[.int .i64 Zb, .bool Zc, .slice Zf Za.length Ze], .slice A3 l3.length c3] ?_;(with_reducible refine(static_Balance.calls k Zb Zc _ _ Za _ _ l3 t409 t412 _ ?side1 ?side2 ?side3 ?side4 A7.out).mono ?_);(case side1=>exact kC (Yq Zo.out HB.out));(case side2=>exact Xo.out);(case side3=>exact kC (Yq HR3.out HB.out));(case side4=>exact HC3.out);rintro e w27 ⟨v410,rfl,ho0,hb⟩;refine⟨_,rfl,?_⟩;have HO411:=Ya (Kd.R_lower ho0 (Yi HB.out));replace Zy:=Ya (Yn Zy.out hb);replace HB:=Ya (Yk HB.out hb);(try clear hb);(try clear hb2);(try clear hk);(try clear hi);(try clear ho0)));go_ret2;exact⟨by first|rfl|(simp[errW_none,errW_some]<;>rfl)|(simp[*,errW_none,errW_some]<;>rfl),HB.out⟩
 rw[Yu c8] at H;have c8b0:(t412 == 0)=true:=beq_iff_eq.mpr c8;have c8b1:(t412 != 0)=false:=bne_eq_false_iff_eq.mpr c8;clear c8;have H':=Ya H;clear H;go_enter Try.func46,Try.ntmps46;go_wp2_with (first|(refine bx 4 24 #[.int .i64 Zb, .bool Zc, .slice Zf Za.length Ze] ?_;intro Wc hg w9 Zg hb;have Zy:=Ya (Zg);have GW407:=Ya (by rw[hg];exact(Yi HB.out):w.heap.size≤Wc);have GE407:=Ya (by rw[hg];exact(Yi HB.out):w.heap.size≤Wc);replace HB:=Ya (Yk HB.out hb);clear hb Zg hg;have Ww:w9.cell? ⟨Wc,0,none⟩=some (.int .i64 Zb):=bc Zy 0;have Wx:w9.cell? ⟨Wc,1,none⟩=some (.bool Zc):=bc Zy 1;have Wy:w9.cell? ⟨Wc,2,none⟩=some (.slice Zf Za.length Ze):=bc Zy 2;have Wz:=Yf Zy.out 0;have Va:=Yf Zy.out 1;have Vb:=Yf Zy.out 2)|((with_reducible refine gate_callee (f:=65) rfl ?_);refine gl (some 16) Try.func65 #[.agg #[.int .i64 Zb, .bool Zc, .slice Zf Za.length Ze], .int .i64 a1, .int .i64 a2] ?_;(with_reducible refine(static_Ends.calls k Zb Zc _ _ Za a1 a2 t408 _ ?side1 ?side2 A5.out).mono ?_);(case side1=>exact kC (Yq Zo.out HB.out));(case side2=>exact Xo.out);rintro e w11 ⟨rfl,hb⟩;refine⟨_,rfl,?_⟩;replace Zy:=Ya (Yn Zy.out hb);replace HB:=Ya (Yk HB.out hb);(try clear hb);have hcz12_0:w11.cell? ⟨Wc,0,none⟩=some (.int .i64 Zb):=bc Zy 0;have hcz12_1:w11.cell? ⟨Wc,1,none⟩=some (.bool Zc):=bc Zy 1;have hcz12_2:w11.cell? ⟨Wc,2,none⟩=some (.slice Zf Za.length Ze):=bc Zy 2;have hfz12_0:=Yf Zy.out 0;have hfz12_1:=Yf Zy.out 1;have hfz12_2:=Yf Zy.out 2)|((with_reducible refine gate_callee (f:=73) rfl ?_);refine gl (some 23) Try.func73 #[.agg #[.int .i64 Zb, .bool Zc, .slice Zf Za.length Ze], .slice A3 l3.length c3] ?_;(with_reducible refine(static_Balance.calls k Zb Zc _ _ Za _ _ l3 t409 t412 _ ?side1 ?side2 ?side3 ?side4 A7.out).mono ?_);(case side1=>exact kC (Yq Zo.out HB.out));(case side2=>exact Xo.out);(case side3=>exact kC (Yq HR3.out HB.out));(case side4=>exact HC3.out);rintro e w13 ⟨v410,rfl,ho0,hb⟩;refine⟨_,rfl,?_⟩;have HO411:=Ya (Kd.R_lower ho0 (Yi HB.out));replace Zy:=Ya (Yn Zy.out hb);replace HB:=Ya (Yk HB.out hb);(try clear hb);(try clear hb2);(try clear hk);(try clear hi);(try clear ho0);obtain⟨Ao14,co14,eo14⟩:=Kd.R_slice HO411.out;subst eo14));go_loopg [31] k (fun kq v31 w'=> ∃ (Xg:Int),v31= .int .i64 Xg∧Aside0 (static_Check.l0 kq a1 a2 t409 t409 (t409.length:Int) Xg=some (r1,r2))∧Aside0 (kq≤k)∧Aside0 (Kd.R (Kd.int .i64) 3 w' w.heap.size (fun _=>True) (.slice Ao14 t409.length co14) t409)∧Aside0 (Kd.R (Kd.int .i64) 3 w' w.heap.size (fun _=>True) (.slice Ao14 t409.length co14) t409)∧Aside0 (w'.heap[Wc]? =some (.cells #[.int .i64 Zb, .bool Zc,(.slice Zf Za.length Ze)] 24 (0,0)))∧Aside0 (Below w.heap.size w w'))
 case atStart=>exact⟨(0),(by first|rfl|(simp;done)|(simp[*];done)),H',⟨Nat.le_refl _⟩,⟨HO411.out⟩,⟨HO411.out⟩,⟨Zy.out⟩,⟨HB.out⟩⟩
 case round=>
  clear H';try clear c3
  try clear c6
  try clear c6b0
  try clear c6b1
  try clear c8
  try clear c8b0
  try clear c8b1
  try clear Ww
  try clear Wx
  try clear Wy
  try clear hcz12_0
  try clear hcz12_1
  try clear hcz12_2
  try clear Wz
  try clear Va
  try clear Vb
  try clear hfz12_0
  try clear hfz12_1
  try clear hfz12_2
  obtain⟨Xg,rfl,HA,HK1,HO_10,HO_29,Zy,HB⟩:=hrel;cases gk with
  |zero=>exact absurd HA.out (by simp[static_Check.l0])
  |succ k1=>
   have H:=HA.out;clear HA;simp only[static_Check.l0] at H;by_cases c15:Xg<(t409.length:Int)
   rotate_left
   ·rw[Yv c15] at H
    have c15b0:decide (Xg<(t409.length:Int))=false:=Yt c15;clear c15;by_cases c21:0≤a1
    rotate_left
    ·rw[Yv c21] at H
     exact absurd H (by simp)
    rw[Yu c21] at H;have c21b0:decide (0≤a1)=true:=Ys c21;clear c21;by_cases c22:a1<(t409.length:Int)
    rotate_left
    ·rw[Yv c22] at H
     exact absurd H (by simp)
    rw[Yu c22] at H;have c22b0:decide (a1<(t409.length:Int))=true:=Ys c22;clear c22;simp only[Option.some.injEq,Prod.mk.injEq] at H;obtain⟨rfl,rfl⟩:=H;have p414:0≤(a1:Int):=od;have q414:a1<(t409.length:Int):=od;obtain⟨ad414,e414,hx414_0⟩:=Kd.at_int (Kd.R_reads' HO_10.out).2.2 a1 p414 q414;cases e414;replace p414:=eq_true p414;replace q414:=eq_true q414;go_wp2;go_ret2;exact⟨by first|rfl|(simp[errW_none,errW_some]<;>rfl)|(simp[*,errW_none,errW_some]<;>rfl),HB.out⟩
   rw[Yu c15] at H;have c15b0:decide (Xg<(t409.length:Int))=true:=Ys c15;clear c15;by_cases c16:0≤Xg
   rotate_left
   ·rw[Yv c16] at H
    exact absurd H (by simp)
   rw[Yu c16] at H;have c16b0:decide (0≤Xg)=true:=Ys c16;clear c16;by_cases c17:Xg<(t409.length:Int)
   rotate_left
   ·rw[Yv c17] at H
    exact absurd H (by simp)
   rw[Yu c17] at H;have c17b0:decide (Xg<(t409.length:Int))=true:=Ys c17;clear c17;by_cases c18:(rd t409 Xg)=0
   ·rw[Yu c18] at H
    have c18b0:((rd t409 Xg) == 0)=true:=beq_iff_eq.mpr c18;have c18b1:((rd t409 Xg) != 0)=false:=bne_eq_false_iff_eq.mpr c18;clear c18;have H':=Ya H;clear H;have p413:0≤(Xg:Int):=od;have q413:Xg<(t409.length:Int):=od;obtain⟨ad413,e413,hx413_0⟩:=Kd.at_int (Kd.R_reads' HO_29.out).2.2 Xg p413 q413;cases e413;replace p413:=eq_true p413;replace q413:=eq_true q413;go_wp2;go_roundg k1
    case measure=>have:=HK1.out;omega
    case rel=>exact⟨(wrap64 (Xg+1)),(by first|rfl|(simp;done)|(simp[*];done)),H',⟨by have:=HK1.out;omega⟩,⟨HO_10.out⟩,⟨HO_29.out⟩,⟨Zy.out⟩,⟨HB.out⟩⟩
   rw[Yv c18] at H;have c18b0:((rd t409 Xg) == 0)=false:=beq_eq_false_iff_ne.mpr c18;have c18b1:((rd t409 Xg) != 0)=true:=bne_iff_ne.mpr c18;by_cases c19:Xg=a1
   ·rw[Yu c19] at H
    have c19b0:(Xg == a1)=true:=beq_iff_eq.mpr c19;have c19b1:(Xg != a1)=false:=bne_eq_false_iff_eq.mpr c19;clear c19;have H':=Ya H;clear H;have p413:0≤(Xg:Int):=od;have q413:Xg<(t409.length:Int):=od;obtain⟨ad413,e413,hx413_0⟩:=Kd.at_int (Kd.R_reads' HO_29.out).2.2 Xg p413 q413;cases e413;replace p413:=eq_true p413;replace q413:=eq_true q413;go_wp2;go_roundg k1
    case measure=>have:=HK1.out;omega
    case rel=>exact⟨(wrap64 (Xg+1)),(by first|rfl|(simp;done)|(simp[*];done)),H',⟨by have:=HK1.out;omega⟩,⟨HO_10.out⟩,⟨HO_29.out⟩,⟨Zy.out⟩,⟨HB.out⟩⟩
   rw[Yv c19] at H;have c19b0:(Xg == a1)=false:=beq_eq_false_iff_ne.mpr c19;have c19b1:(Xg != a1)=true:=bne_iff_ne.mpr c19;by_cases c20:Xg=a2
   rotate_left
   ·rw[Yv c20] at H
    have c20b0:(Xg == a2)=false:=beq_eq_false_iff_ne.mpr c20;have c20b1:(Xg != a2)=true:=bne_iff_ne.mpr c20;simp only[Option.some.injEq,Prod.mk.injEq] at H;obtain⟨rfl,rfl⟩:=H;have p413:0≤(Xg:Int):=od;have q413:Xg<(t409.length:Int):=od;obtain⟨ad413,e413,hx413_0⟩:=Kd.at_int (Kd.R_reads' HO_29.out).2.2 Xg p413 q413;cases e413;replace p413:=eq_true p413;replace q413:=eq_true q413;go_wp2;go_ret2;exact⟨by first|rfl|(simp[errW_none,errW_some]<;>rfl)|(simp[*,errW_none,errW_some]<;>rfl),HB.out⟩
   rw[Yu c20] at H;have c20b0:(Xg == a2)=true:=beq_iff_eq.mpr c20;have c20b1:(Xg != a2)=false:=bne_eq_false_iff_eq.mpr c20;clear c20;have H':=Ya H;clear H;have p413:0≤(Xg:Int):=od;have q413:Xg<(t409.length:Int):=od;obtain⟨ad413,e413,hx413_0⟩:=Kd.at_int (Kd.R_reads' HO_29.out).2.2 Xg p413 q413;cases e413;replace p413:=eq_true p413;replace q413:=eq_true q413;go_wp2;go_roundg k1
   case measure=>have:=HK1.out;omega
   case rel=>exact⟨(wrap64 (Xg+1)),(by first|rfl|(simp;done)|(simp[*];done)),H',⟨by have:=HK1.out;omega⟩,⟨HO_10.out⟩,⟨HO_29.out⟩,⟨Zy.out⟩,⟨HB.out⟩⟩
end P
namespace P
attribute [local go_sem] max2_int min2_int max_two min_two max_three min_three max_four min_four
def api_Arc.f (l0:List (S50)):Option ((List (S50))):=(some (([]:List (S50)):List (S50))).bind fun y447=>(if y447.length+l0.length<4398046511104 then(some (y447 ++ l0)) else(none))
set_option maxHeartbeats 8000000 in
set_option maxRecDepth 100000 in
theorem api_Arc.calls (A0:Option Addr) (c0:Nat) (l0:List (S50)) (r:List (S50)) (w:World) (hr0:Kd.C k50 w A0 l0.length l0) (hc0:l0.length≤c0) (h:api_Arc.f l0=some r):
  Calls Try.prog 74 #[.slice A0 l0.length c0] w fun e w'=> ∃ v0_:Value,e= .returned (v0_)∧Kd.R k50 50 w' w.heap.size (fun _=>True) v0_ r∧Below w.heap.size w w':=by
 have HR0:=Ya hr0;have HC0:=Ya hc0;clear hr0 hc0;have HB:=Ya (Yo w.heap.size w);have H:=h;unfold api_Arc.f at H;clear h;obtain⟨y447,hy447⟩: ∃ y_:List (S50),y_=(([]:List (S50))):=⟨_,rfl⟩;rw[Option.bind_some, ← hy447] at H;have Ny447:=Ya hy447;clear hy447;by_cases c2:y447.length+l0.length<4398046511104
 rotate_left
 ·rw[Yv c2] at H
  exact absurd H (by simp)
 rw[Yu c2] at H;have LMc2:=Ya c2;clear c2;obtain⟨y450,hy450⟩: ∃ y_:List (S50),y_=(y447 ++ l0):=⟨_,rfl⟩;rw[← hy450] at H;have Ny450:=Ya hy450;clear hy450;obtain rfl:=Option.some.inj H;have hl0:=HC0.out;rcases A0 with _|ad0
 ·have hz:l0=[]:=by
   rcases Nat.eq_zero_or_pos l0.length with h0|h0
   ·exact List.eq_nil_of_length_eq_zero h0
   ·obtain⟨ad,he,_⟩:=HR0.out.2.2 h0
    cases he
  subst hz;have hrun: ∀ W:World,(Go.binOp .eql 22 (.slice none 0 c0) (.slice none 0 0)).run Try.prog W= .ok (.bool true) W:=fun W=>Go.run_eql_slice_nil W 22 50 none 0 c0 Try.underlying22
  have Hy:y450=[]:=by rw[Ny450.out,Ny447.out];rfl
  have NHy:=Ya Hy;clear Hy;have HR0':=HR0;clear HR0 HC0 hl0;go_enter Try.func74,Try.ntmps74;go_wp2;go_ret;exact⟨_,rfl,by rw[NHy.out];exact Kd.R_nil _ _ _ _ _,HB.out⟩
 have hrun: ∀ W:World,(Go.binOp .eql 22 (.slice (some ad0) l0.length c0) (.slice none 0 0)).run Try.prog W= .ok (.bool false) W:=fun W=>Go.run_eql_slice_nil W 22 50 (some ad0) l0.length c0 Try.underlying22
 clear hl0;go_enter Try.func74,Try.ntmps74;go_wp2_with (first|((with_reducible refine gate_dst (N:=5) rfl ?_);refine Kd.R_lit k50 _ 50 ?hg (N:=5) ?hd (xs:=([]:List (S50))) (inner:=[]) (ok:=fun _=>True) (okp:=fun _=>True) ?hr ?hp (fun _ hk=>hk) trivial (Yo _ _) (Nat.le_refl _) (by simp) ?_;(case hd=>rfl);(case hg=>rfl);(case hr=>first|(go_simp;done)|(go_simp;rfl));(case hp=>exact(Reps.none _ _));intro v448 w3 ho4 hb hg_ hnew_;clear hg_ hnew_;(first|rw[← Ny447.out] at ho4|(simp only[Int.reduceToNat] at ho4;rw[← Ny447.out] at ho4));have HO449:=Ya (Kd.R_lower ho4 (Yi bl));replace HB:=Ya (Yk bl hb);clear hb ho4)|((with_reducible refine gate_builtin (b:= .append) (xs:= #[.tmp 5, .tmp 6]) rfl ?_);at_builtin;refine Kd.R_append_rows k50 (w0:=w) w.heap.size rfl (.tmp 5) (.tmp 6) 22 50 (.agg #[(.int .i64 0),(.int .i64 0),(.int .i64 0),(.int .i64 0)]) 32 rfl Try.underlying22 info50 rfl (by decide) (by omega) v448 y447 l0 _ _ _ (fun _=>True) (fun _=>False) rfl rfl ?aO ?aR (fun _ _ h=>h) (fun _ h=>h.elim) ?aF ?aB ?aS ?aL ?_;(case aR=>repeat(first|exact(Yq HR0.out HB.out)|(with_reducible refine Kd.C_alloc ?_ _)|(with_reducible refine Kd.C_drewN ?_ _)|(with_reducible refine Kd.C_drew ?_)));(case aB=>exact bl);(case aF=>exact(fun _ _=>trivial));(case aO=>exact(kR HO449));(case aS=>exact(Yi bl));(case aL=>have:=LMc2.out;omega);intro v451 w5 ho hb hg hat;rw[← Ny450.out] at ho;replace HB:=Ya (hb);have HO452:=Ya (ho);clear HO449;clear ho hb hg hat));go_ret;exact⟨_,by first|rfl|(simp[errW_none,errW_some]<;>rfl)|(simp[*,errW_none,errW_some]<;>rfl),by(with_reducible repeat(first|apply Kd.R_alloc|apply Kd.R_drewN|apply Kd.R_drew));exact HO452.out,bl⟩
end P
namespace H
theorem pigeonN (n:Nat): ∀ L:List Nat,L.Nodup→(∀ x,x∈L→x<n)→L.length≤n:=by
 induction n with
 |zero=>
  intro L _ h;cases L with
  |nil=>simp
  |cons x L=>exact absurd (h x List.mem_cons_self) (Nat.not_lt_zero _)
 |succ n ih=>
  intro L hn h;by_cases hm:n∈L
  ·have h1:=ih (L.erase n) (hn.erase n) (fun x hx=>by
    have h2:=(hn.mem_erase_iff).1 hx;have:=h x h2.2;have:=h2.1;omega)
   rw[List.length_erase_of_mem hm] at h1;omega
  ·have:=ih L hn (fun x hx=>by
    have h1:=h x hx;have:x≠n:=fun e=>hm (e▸hx)
    omega)
   omega
section
variable {α:Type}
structure Fd (α:Type) where
 v:Nat
 by_:α
 lv:Nat
def nodes (st:List (Fd α)):List Nat:=st.map Fd.v
def vis (to_:α→Nat) (lv:Nat) (st:List (Fd α)) (e:α):List (Fd α):=if to_ e∈nodes st then st else st ++ [⟨to_ e,e,lv+1⟩]
def proc (to_:α→Nat) (es:Nat→List α) (st:List (Fd α)) (x:Fd α):List (Fd α):=(es x.v).foldl (vis to_ x.lv) st
def bfs (to_:α→Nat) (es:Nat→List α):Nat→Nat→List (Fd α)→List (Fd α)
 |0,_,st=>st
 |n+1,i,st=>match st[i]? with
  |none=>st
  |some x=>bfs to_ es n (i+1) (proc to_ es st x)
theorem vis_pre (to_:α→Nat) (lv:Nat) (st:List (Fd α)) (e:α): ∃ r,vis to_ lv st e=st ++ r:=by
 unfold vis;split
 ·exact⟨[],(List.append_nil _).symm⟩
 ·exact⟨_,rfl⟩
theorem fold_pre (to_:α→Nat) (lv:Nat) (l:List α) (st:List (Fd α)): ∃ r,l.foldl (vis to_ lv) st=st ++ r:=by
 induction l generalizing st with
 |nil=>exact⟨[],(List.append_nil _).symm⟩
 |cons e l ih=>
  obtain⟨r,hr⟩:=vis_pre to_ lv st e;obtain⟨q,hq⟩:=ih (vis to_ lv st e);exact⟨r ++ q,by rw[List.foldl_cons,hq,hr,List.append_assoc]⟩
theorem bfs_pre (to_:α→Nat) (es:Nat→List α) (n i:Nat) (st:List (Fd α)): ∃ r,bfs to_ es n i st=st ++ r:=by
 induction n generalizing i st with
 |zero=>exact⟨[],(List.append_nil _).symm⟩
 |succ n ih=>
  unfold bfs;cases st[i]? with
  |none=>exact⟨[],(List.append_nil _).symm⟩
  |some x=>
   obtain⟨r,hr⟩:=fold_pre to_ x.lv (es x.v) st;obtain⟨q,hq⟩:=ih (i+1) (proc to_ es st x);exact⟨r ++ q,by show bfs to_ es n (i+1) (proc to_ es st x)=_;rw[hq];unfold proc;rw[hr,List.append_assoc]⟩
structure Fds (from_ to_:α→Nat) (es:Nat→List α) (s:Nat) (st:List (Fd α)):Prop where
 nodup:(nodes st).Nodup
 head: ∃ x r,st=x::r∧x.v=s∧x.lv=0
 by_ok: ∀ (j:Nat) (x:Fd α),st[j+1]? =some x→to_ x.by_=x.v∧ ∃ (k:Nat) (y:Fd α),k≤j∧st[k]? =some y∧x.by_∈es y.v∧x.lv=y.lv+1
 up: ∀ (j:Nat) (x y:Fd α),st[j]? =some x→st[j+1]? =some y→x.lv≤y.lv
theorem mem_nodes {st:List (Fd α)} {v:Nat} :v∈nodes st↔ ∃ (j:Nat) (x:Fd α),st[j]? =some x∧x.v=v:=by
 unfold nodes;rw[List.mem_map];constructor
 ·rintro⟨x,hx,rfl⟩
  obtain⟨j,hj⟩:=List.getElem?_of_mem hx;exact⟨j,x,hj,rfl⟩
 ·rintro⟨j,x,hj,rfl⟩
  exact⟨x,List.mem_of_getElem? hj,rfl⟩
theorem Fds.vis {from_ to_:α→Nat} {es:Nat→List α} {s:Nat} {st:List (Fd α)} (h:Fds from_ to_ es s st) {i:Nat} {x:Fd α} (hx:st[i]? =some x) (hm: ∀ y,y∈st→y.lv≤x.lv+1) {e:α} (he:e∈es x.v):
  Fds from_ to_ es s (vis to_ x.lv st e)∧ ∀ y,y∈H.vis to_ x.lv st e→y.lv≤x.lv+1:=by
 unfold H.vis;split
 ·exact⟨h,hm⟩
 ·rename_i hn
  have hil:=(List.getElem?_eq_some_iff.1 hx).1;have hsm: ∀ (j:Nat) (y:Fd α),(st ++ [⟨to_ e,e,x.lv+1⟩])[j]? =some y→(j<st.length∧st[j]? =some y)∨(j=st.length∧y=⟨to_ e,e,x.lv+1⟩):=by
   intro j y hy;rcases Nat.lt_or_ge j st.length with hj|hj
   ·rw[List.getElem?_append_left hj] at hy;exact .inl ⟨hj,hy⟩
   ·rw[List.getElem?_append_right hj] at hy
    have hj0:j - st.length=0:=by
     have:=(List.getElem?_eq_some_iff.1 hy).1;simp at this;omega
    rw[hj0] at hy;injection hy with hy
    exact .inr ⟨by omega,hy.symm⟩
  refine⟨⟨?_,?_,?_,?_⟩,?_⟩
  ·show (nodes (st ++ [_])).Nodup
   unfold nodes;rw[List.map_append];refine List.nodup_append.2 ⟨h.nodup,by simp,?_⟩;intro a ha b hb;simp at hb;subst hb;intro e';subst e';exact hn ha
  ·obtain⟨y,r,hr,h1,h2⟩:=h.head
   exact⟨y,r ++ [_],by rw[hr];rfl,h1,h2⟩
  ·intro j y hy
   rcases hsm _ _ hy with ⟨hj,hy⟩|⟨hj,rfl⟩
   ·obtain⟨h1,k,z,hk,hz,h2,h3⟩:=h.by_ok j y hy
    exact⟨h1,k,z,hk,by rw[List.getElem?_append_left (by omega)];exact hz,h2,h3⟩
   ·exact⟨rfl,i,x,by omega,by rw[List.getElem?_append_left hil];exact hx,he,rfl⟩
  ·intro j y z hy hz
   rcases hsm _ _ hz with ⟨hj,hz⟩|⟨hj,rfl⟩
   ·rw[List.getElem?_append_left (by omega)] at hy
    exact h.up j y z hy hz
   ·rw[List.getElem?_append_left (by omega)] at hy
    exact hm y (List.mem_of_getElem? hy)
  ·intro y hy
   rcases List.mem_append.1 hy with hy|hy
   ·exact hm y hy
   ·rw[List.mem_singleton.1 hy]
    exact Nat.le_refl _
theorem Fds.fold {from_ to_:α→Nat} {es:Nat→List α} {s:Nat} {x:Fd α} (l:List α): ∀ {st:List (Fd α)} (h:Fds from_ to_ es s st) {i:Nat} (hx:st[i]? =some x) (hm: ∀ y,y∈st→y.lv≤x.lv+1) (he: ∀ e,e∈l→e∈es x.v),
  Fds from_ to_ es s (l.foldl (H.vis to_ x.lv) st)∧ ∀ y,y∈l.foldl (H.vis to_ x.lv) st→y.lv≤x.lv+1:=by
 induction l with
 |nil=>intro st h i hx hm he;exact⟨h,hm⟩
 |cons e l ih=>
  intro st h i hx hm he;obtain⟨h1,h2⟩:=h.vis hx hm (he e List.mem_cons_self);obtain⟨r,hr⟩:=vis_pre to_ x.lv st e;have hx':(H.vis to_ x.lv st e)[i]? =some x:=by rw[hr,List.getElem?_append_left (List.getElem?_eq_some_iff.1 hx).1];exact hx
  exact ih h1 hx' h2 (fun e he'=>he e (List.mem_cons_of_mem _ he'))
theorem fold_mem (to_:α→Nat) (lv:Nat) (l:List α) (st:List (Fd α)) {e:α} (he:e∈l):to_ e∈nodes (l.foldl (vis to_ lv) st):=by
 induction l generalizing st with
 |nil=>cases he
 |cons f l ih=>
  rcases List.mem_cons.1 he with rfl|he
  ·obtain⟨r,hr⟩:=fold_pre to_ lv l (vis to_ lv st e)
   rw[List.foldl_cons,hr];have:to_ e∈nodes (vis to_ lv st e):=by
    unfold vis;split
    ·assumption
    ·unfold nodes;rw[List.map_append];exact List.mem_append_right _ (by simp)
   unfold nodes at this ⊢;rw[List.map_append];exact List.mem_append_left _ this
  ·exact ih _ he
structure Upto (from_ to_:α→Nat) (es:Nat→List α) (s i:Nat) (st:List (Fd α)):Prop where
 fds:Fds from_ to_ es s st
 most: ∀ (x:Fd α),st[i]? =some x→ ∀ y,y∈st→y.lv≤x.lv+1
 seen: ∀ (j:Nat) (x:Fd α),j<i→st[j]? =some x→ ∀ e,e∈es x.v→ ∃ (k:Nat) (y:Fd α),st[k]? =some y∧y.v=to_ e∧y.lv≤x.lv+1
theorem upto_start (from_ to_:α→Nat) (es:Nat→List α) (s:Nat) (e0:α):Upto from_ to_ es s 0 [⟨s,e0,0⟩]:=by
 refine⟨⟨by simp[nodes],⟨_,[],rfl,rfl,rfl⟩,?_,?_⟩,?_,?_⟩
 ·intro j x h;simp at h
 ·intro j x y h1 h2;simp at h2
 ·intro x h y hy
  rw[List.mem_singleton.1 hy];exact Nat.zero_le _
 ·intro j x h;exact absurd h (Nat.not_lt_zero _)
theorem Upto.next {from_ to_:α→Nat} {es:Nat→List α} {s i:Nat} {st:List (Fd α)} (h:Upto from_ to_ es s i st) {x:Fd α} (hx:st[i]? =some x):Upto from_ to_ es s (i+1) (proc to_ es st x):=by
 obtain⟨h1,h2⟩:=Fds.fold (es x.v) h.fds hx (h.most x hx) (fun e he=>he);obtain⟨r,hr⟩:=fold_pre to_ x.lv (es x.v) st;have hil:=(List.getElem?_eq_some_iff.1 hx).1;have hx':(proc to_ es st x)[i]? =some x:=by unfold proc;rw[hr,List.getElem?_append_left hil];exact hx
 refine⟨h1,?_,?_⟩
 ·intro y hy z hz
  have h3:=h1.up i x y hx' hy;have h4:=h2 z hz;omega
 ·intro j y hj hy e he
  rcases Nat.lt_or_ge j i with hji|hji
  ·unfold proc at hy ⊢
   rw[hr,List.getElem?_append_left (by omega)] at hy;obtain⟨k,z,hk,hv,hl⟩:=h.seen j y hji hy e he;exact⟨k,z,by rw[hr,List.getElem?_append_left (List.getElem?_eq_some_iff.1 hk).1];exact hk,hv,hl⟩
  ·have hji':j=i:=by omega
   subst hji';rw[hx'] at hy;injection hy with hy
   subst hy;obtain⟨k,z,hk,hv⟩:=mem_nodes.1 (fold_mem to_ x.lv (es x.v) st he);exact⟨k,z,hk,hv,h2 z (List.mem_of_getElem? hk)⟩
theorem bfs_done {from_ to_:α→Nat} {es:Nat→List α} {s N:Nat} (hN: ∀ (u:Nat) (e:α),e∈es u→to_ e<N) (hs:s<N) (n:Nat): ∀ (i:Nat) (st:List (Fd α)),Upto from_ to_ es s i st→N≤i+n→Upto from_ to_ es s (bfs to_ es n i st).length (bfs to_ es n i st):=by
 have hlen: ∀ (st:List (Fd α)),Fds from_ to_ es s st→st.length≤N:=by
  intro st h;have:(nodes st).length≤N:=by
   refine pigeonN N _ h.nodup ?_;intro v hv;obtain⟨j,x,hj,rfl⟩:=mem_nodes.1 hv;cases j with
   |zero=>
    obtain⟨y,r,hr,h1,_⟩:=h.head;rw[hr] at hj;injection hj with hj
    rw[← hj,h1];exact hs
   |succ j=>
    obtain⟨h1,k,y,_,_,h2,_⟩:=h.by_ok j x hj;rw[← h1];exact hN _ _ h2
  unfold nodes at this;rw[List.length_map] at this;exact this
 induction n with
 |zero=>
  intro i st h hi;have hl:=hlen st h.fds;show Upto from_ to_ es s st.length st;exact⟨h.fds,fun x hx=>by have:=(List.getElem?_eq_some_iff.1 hx).1;omega,fun j x hj hx=>h.seen j x (by omega) hx⟩
 |succ n ih=>
  intro i st h hi;unfold bfs;cases hx:st[i]? with
  |none=>
   have hl:=List.getElem?_eq_none_iff.1 hx;show Upto from_ to_ es s st.length st;exact⟨h.fds,fun x hx=>by have:=(List.getElem?_eq_some_iff.1 hx).1;omega,fun j x hj hx=>h.seen j x (by omega) hx⟩
  |some x=>exact ih (i+1) _ (h.next hx) (by omega)
end
end H
namespace H
section
variable {α:Type}
def fnd (st:List (Fd α)) (v:Nat):Option (Fd α):=st.find? fun x=>x.v == v
theorem fnd_some {st:List (Fd α)} {v:Nat} {x:Fd α} (h:fnd st v=some x):x∈st∧x.v=v:=by
 have h1:=List.find?_some h;exact⟨List.mem_of_find?_eq_some h,by simpa using h1⟩
theorem fnd_none {st:List (Fd α)} {v:Nat} :fnd st v=none↔v ∉ nodes st:=by
 unfold fnd nodes;rw[List.find?_eq_none];constructor
 ·intro h hm
  obtain⟨x,hx,rfl⟩:=List.mem_map.1 hm;exact h x hx (by simp)
 ·intro h x hx e
  exact h (List.mem_map.2 ⟨x,hx,by simpa using e⟩)
theorem nodup_inj {st:List (Fd α)} (h:(nodes st).Nodup) {x y:Fd α} (hx:x∈st) (hy:y∈st) (e:x.v=y.v):x=y:=by
 induction st with
 |nil=>cases hx
 |cons z st ih=>
  have h':z.v ∉ nodes st∧(nodes st).Nodup:=List.nodup_cons.1 h;rcases List.mem_cons.1 hx with h1|h1<;>rcases List.mem_cons.1 hy with h2|h2
  ·rw[h1,h2]
  ·exact(h'.1 (List.mem_map.2 ⟨y,h2,by rw[← e,h1]⟩)).elim
  ·exact(h'.1 (List.mem_map.2 ⟨x,h1,by rw[e,h2]⟩)).elim
  ·exact ih h'.2 h1 h2
theorem fnd_of {st:List (Fd α)} (h:(nodes st).Nodup) {x:Fd α} (hx:x∈st):fnd st x.v=some x:=by
 cases hf:fnd st x.v with
 |none=>exact absurd (List.mem_map.2 ⟨x,hx,rfl⟩) (fnd_none.1 hf)
 |some y=>
  obtain⟨h1,h2⟩:=fnd_some hf;rw[nodup_inj h h1 hx h2]
theorem fnd_app {st r:List (Fd α)} {v:Nat} (h:v∈nodes st):fnd (st ++ r) v=fnd st v:=by
 unfold fnd;rw[List.find?_append];cases hf:fnd st v with
 |none=>exact absurd h (fnd_none.1 hf)
 |some x=>unfold fnd at hf;rw[hf];rfl
theorem nodes_app (st r:List (Fd α)):nodes (st ++ r)=nodes st ++ nodes r:=List.map_append
def backL (fr:α→Nat) (st:List (Fd α)) (s:Nat):Nat→Nat→List α
 |0,_=>[]
 |k+1,v=>if v=s then [] else match fnd st v with
  |none=>[]
  |some x=>x.by_::backL fr st s k (fr x.by_)
def wayL (fr:α→Nat) (st:List (Fd α)) (s v:Nat):List α:=(backL fr st s st.length v).reverse
def Leads (to_:α→Nat) (es:Nat→List α):Nat→List α→Nat→Prop
 |u,[],t=>u=t
 |u,e::L,t=>e∈es u∧Leads to_ es (to_ e) L t
theorem Leads.snoc {to_:α→Nat} {es:Nat→List α} {L:List α} {e:α} : ∀ {u v:Nat},Leads to_ es u L v→e∈es v→Leads to_ es u (L ++ [e]) (to_ e):=by
 induction L with
 |nil=>intro u v h he;cases h;exact⟨he,rfl⟩
 |cons f L ih=>intro u v h he;exact⟨h.1,ih h.2 he⟩
theorem Fds.mem_lv {fr to_:α→Nat} {es:Nat→List α} {s:Nat} {st:List (Fd α)} (h:Fds fr to_ es s st) {x:Fd α} (hx:x∈st):
  (x.v=s∧x.lv=0)∨(x.v≠s∧to_ x.by_=x.v∧ ∃ y,y∈st∧x.by_∈es y.v∧x.lv=y.lv+1):=by
 obtain⟨j,hj⟩:=List.getElem?_of_mem hx;obtain⟨z,r,hr,h1,h2⟩:=h.head;have hz:z∈st:=by rw[hr];exact List.mem_cons_self
 cases j with
 |zero=>
  rw[hr] at hj;injection hj with hj
  rw[← hj];exact .inl ⟨h1,h2⟩
 |succ j=>
  obtain⟨h3,k,y,_,hy,h4,h5⟩:=h.by_ok j x hj;refine .inr ⟨?_,h3,y,List.mem_of_getElem? hy,h4,h5⟩;intro e;have:=nodup_inj h.nodup hx hz (by rw[e,h1]);rw[this,h2] at h5;omega
theorem lv_lt {fr to_:α→Nat} {es:Nat→List α} {s:Nat} {st:List (Fd α)} (h:Fds fr to_ es s st) {x:Fd α} (hx:x∈st):x.lv<st.length:=by
 obtain⟨z,r,hr,h1,h2⟩:=h.head;have aux: ∀ (j:Nat) (y:Fd α),st[j]? =some y→y.lv≤j:=by
  intro j
  induction j using Nat.strongRecOn with
  |_ j ih=>
   intro y hy;cases j with
   |zero=>
    rw[hr] at hy;injection hy with hy
    rw[← hy,h2];exact Nat.le_refl _
   |succ j=>
    obtain⟨_,k,w,hk,hw,_,h5⟩:=h.by_ok j y hy;have:=ih k (by omega) w hw;omega
 obtain⟨j,hj⟩:=List.getElem?_of_mem hx;have:=aux j x hj;have:=(List.getElem?_eq_some_iff.1 hj).1;omega
theorem backL_spec {fr to_:α→Nat} {es:Nat→List α} {s:Nat} {st:List (Fd α)} (h:Fds fr to_ es s st) (hes: ∀ u e,e∈es u→fr e=u) (k:Nat): ∀ {x:Fd α},x∈st→x.lv≤k→
  (backL fr st s k x.v).length=x.lv∧Leads to_ es s (backL fr st s k x.v).reverse x.v:=by
 induction k with
 |zero=>
  intro x hx hk;rcases h.mem_lv hx with ⟨h1,h2⟩|⟨_,_,y,_,_,h5⟩
  ·exact⟨by rw[h2];rfl,h1.symm⟩
  ·omega
 |succ k ih=>
  intro x hx hk;unfold backL;rcases h.mem_lv hx with ⟨h1,h2⟩|⟨h1,h3,y,hy,h4,h5⟩
  ·rw[Yu h1,h2]
   exact⟨rfl,h1.symm⟩
  ·rw[Yv h1,fnd_of h.nodup hx]
   show (_::_).length=_∧Leads to_ es s (_::_).reverse _;rw[hes _ _ h4];obtain⟨i1,i2⟩:=ih hy (by omega);refine⟨by rw[List.length_cons,i1,h5],?_⟩;rw[List.reverse_cons, ← h3];exact i2.snoc h4
theorem backL_more {fr to_:α→Nat} {es:Nat→List α} {s:Nat} {st:List (Fd α)} (h:Fds fr to_ es s st) (hes: ∀ u e,e∈es u→fr e=u) (r:List (Fd α)) (k:Nat): ∀ {k':Nat} {x:Fd α},x∈st→x.lv≤k→x.lv≤k'→
  backL fr (st ++ r) s k' x.v=backL fr st s k x.v:=by
 induction k with
 |zero=>
  intro k' x hx hk hk';rcases h.mem_lv hx with ⟨h1,h2⟩|⟨_,_,y,_,_,h5⟩
  ·cases k' with
   |zero=>rfl
   |succ k'=>unfold backL;rw[Yu h1]
  ·omega
 |succ k ih=>
  intro k' x hx hk hk';rcases h.mem_lv hx with ⟨h1,h2⟩|⟨h1,h3,y,hy,h4,h5⟩
  ·cases k' with
   |zero=>unfold backL;rw[Yu h1]
   |succ k'=>unfold backL;rw[Yu h1,Yu h1]
  ·cases k' with
   |zero=>omega
   |succ k'=>
    unfold backL;rw[Yv h1,Yv h1,fnd_app (List.mem_map.2 ⟨x,hx,rfl⟩),fnd_of h.nodup hx];show _::_=_::_;rw[hes _ _ h4,ih hy (by omega) (by omega)]
def dOf (n:Nat) (st:List (Fd α)):List Int:=(List.range n).map fun v=>match fnd st v with
 |some x=>(x.lv:Int)
 |none=> -1
def bOf (z:α) (n:Nat) (st:List (Fd α)):List α:=(List.range n).map fun v=>match fnd st v with
 |some x=>x.by_
 |none=>z
theorem dOf_len (n:Nat) (st:List (Fd α)):(dOf n st).length=n:=by simp[dOf]
theorem bOf_len (z:α) (n:Nat) (st:List (Fd α)):(bOf z n st).length=n:=by simp[bOf]
theorem dOf_get {n v:Nat} (st:List (Fd α)) (d:Int) (hv:v<n):(dOf n st).getD v d=match fnd st v with
  |some x=>(x.lv:Int)
  |none=> -1:=by
 unfold dOf;rw[List.getD_eq_getElem?_getD,List.getElem?_map,List.getElem?_range hv];rfl
theorem bOf_get {n v:Nat} (z:α) (st:List (Fd α)) (d:α) (hv:v<n):(bOf z n st).getD v d=match fnd st v with
  |some x=>x.by_
  |none=>z:=by
 unfold bOf;rw[List.getD_eq_getElem?_getD,List.getElem?_map,List.getElem?_range hv];rfl
theorem dOf_neg {n v:Nat} (st:List (Fd α)) (d:Int) (hv:v<n):(dOf n st).getD v d<0↔v ∉ nodes st:=by
 rw[dOf_get st d hv, ← fnd_none];cases fnd st v with
 |none=>simp
 |some x=>simp
theorem dOf_mem {n:Nat} {st:List (Fd α)} (h:(nodes st).Nodup) {x:Fd α} (hx:x∈st) (d:Int) (hv:x.v<n):(dOf n st).getD x.v d=x.lv:=by
 rw[dOf_get st d hv,fnd_of h hx]
theorem set_map_range {β:Type} (n w:Nat) (f:Nat→β) (b:β):((List.range n).map f).set w b=(List.range n).map fun v=>if v=w then b else f v:=by
 apply List.ext_getElem?;intro i;rw[List.getElem?_set];simp only[List.length_map,List.length_range,List.getElem?_map];by_cases e:w=i
 ·subst e
  by_cases hw:w<n
  ·rw[Yu rfl,Yu hw,List.getElem?_range hw]
   simp
  ·rw[Yu rfl,Yv hw,List.getElem?_eq_none (by simp;omega)]
   rfl
 ·rw[Yv e]
  by_cases hi:i<n
  ·rw[List.getElem?_range hi]
   simp[Ne.symm e]
  ·rw[List.getElem?_eq_none (by simp;omega)]
   rfl
theorem dOf_snoc (n:Nat) {st:List (Fd α)} {x:Fd α} (h:x.v ∉ nodes st):dOf n (st ++ [x])=(dOf n st).set x.v (x.lv:Int):=by
 unfold dOf;rw[set_map_range];apply List.map_congr_left;intro v hv;by_cases e:v=x.v
 ·subst e
  rw[Yu rfl];have h1:=fnd_none.2 h;unfold fnd at h1 ⊢;rw[List.find?_append,h1];simp
 ·rw[Yv e]
  unfold fnd;rw[List.find?_append];cases hf:st.find? (fun y=>y.v == v) with
  |some y=>rfl
  |none=>simp[Ne.symm e]
theorem bOf_snoc (z:α) (n:Nat) {st:List (Fd α)} {x:Fd α} (h:x.v ∉ nodes st):bOf z n (st ++ [x])=(bOf z n st).set x.v x.by_:=by
 unfold bOf;rw[set_map_range];apply List.map_congr_left;intro v hv;by_cases e:v=x.v
 ·subst e
  rw[Yu rfl];have h1:=fnd_none.2 h;unfold fnd at h1 ⊢;rw[List.find?_append,h1];simp
 ·rw[Yv e]
  unfold fnd;rw[List.find?_append];cases hf:st.find? (fun y=>y.v == v) with
  |some y=>rfl
  |none=>simp[Ne.symm e]
theorem dOf_one (n s:Nat) (z:α):dOf n [⟨s,z,0⟩]=(List.replicate n (-1:Int)).set s 0:=by
 have h1:(List.replicate n (-1:Int))=dOf n ([]:List (Fd α)):=by
  unfold dOf;apply List.ext_getElem (by simp);intro i h1 h2;simp[fnd]
 rw[h1,show ([⟨s,z,0⟩]:List (Fd α))=[] ++ [⟨s,z,0⟩] from rfl,dOf_snoc n (by simp[nodes])];rfl
theorem bOf_one (n s:Nat) (z:α):bOf z n [⟨s,z,0⟩]=List.replicate n z:=by
 unfold bOf;apply List.ext_getElem (by simp);intro i h1 h2;simp only[List.getElem_map,List.getElem_range,List.getElem_replicate];unfold fnd;rw[List.find?_cons];cases (s == i)<;>rfl
def bfsN (to_:α→Nat) (es:Nat→List α) (z:α) (n s:Nat):List (Fd α):=bfs to_ es n 0 [⟨s,z,0⟩]
theorem bfsN_upto {fr to_:α→Nat} {es:Nat→List α} {z:α} {n s:Nat} (hN: ∀ (u:Nat) (e:α),e∈es u→to_ e<n) (hs:s<n):Upto fr to_ es s (bfsN to_ es z n s).length (bfsN to_ es z n s):=
 bfs_done hN hs n 0 _ (upto_start fr to_ es s z) (by omega)
theorem bfsN_closed {to_:α→Nat} {es:Nat→List α} {z:α} {n s:Nat} (hN: ∀ (u:Nat) (e:α),e∈es u→to_ e<n) (hs:s<n) {x:Fd α} (hx:x∈bfsN to_ es z n s) {e:α} (he:e∈es x.v):
  ∃ y,y∈bfsN to_ es z n s∧y.v=to_ e∧y.lv≤x.lv+1:=by
 obtain⟨j,hj⟩:=List.getElem?_of_mem hx;obtain⟨k,y,hk,h1,h2⟩:=(bfsN_upto (fr:=fun _=>0) (z:=z) hN hs).seen j x (List.getElem?_eq_some_iff.1 hj).1 hj e he;exact⟨y,List.mem_of_getElem? hk,h1,h2⟩
theorem fds_lt {fr to_:α→Nat} {es:Nat→List α} {n s:Nat} {st:List (Fd α)} (h:Fds fr to_ es s st) (hN: ∀ (u:Nat) (e:α),e∈es u→to_ e<n) (hs:s<n): ∀ v,v∈nodes st→v<n:=by
 intro v hv;obtain⟨x,hx,rfl⟩:=List.mem_map.1 hv;rcases h.mem_lv hx with ⟨h1,_⟩|⟨_,h3,y,_,h4,_⟩
 ·rw[h1];exact hs
 ·rw[← h3];exact hN _ _ h4
theorem fds_len {fr to_:α→Nat} {es:Nat→List α} {n s:Nat} {st:List (Fd α)} (h:Fds fr to_ es s st) (hN: ∀ (u:Nat) (e:α),e∈es u→to_ e<n) (hs:s<n):st.length≤n:=by
 have:=pigeonN n (nodes st) h.nodup (fds_lt h hN hs);unfold nodes at this
 rwa [List.length_map] at this
end
end H
namespace H
section
variable {α:Type}
structure Net_ (α:Type) where
 rows:Nat→List α
 to_:α→Nat
 fr:α→Nat
 D:Nat→Int
 ok:α→Bool
def Net_.adm (g:Net_ α) (u:Nat) (e:α):Bool:=decide (g.D (g.to_ e)=g.D u+1) && g.ok e
theorem adm_lv {g:Net_ α} {u:Nat} {e:α} (h:g.adm u e=true):g.D (g.to_ e)=g.D u+1∧g.ok e=true:=by
 unfold Net_.adm at h;rw[Bool.and_eq_true,decide_eq_true_eq] at h;exact h
end
end H
namespace P
attribute [local go_sem] max2_int min2_int max_two min_two max_three min_three max_four min_four
def static_Flowing_From.f (Zb:Int) (Zc:Bool) (Za:List (S50)) (Xm:List Int) (Zh:Int) (Zp:Bool):Option (Int):=if Zp=true then(if 0≤Zh then(if Zh<(Za.length:Int) then(some ((rd_T50 Za Zh).f1)) else(none)) else(none)) else(if 0≤Zh then(if Zh<(Za.length:Int) then(some ((rd_T50 Za Zh).f0)) else(none)) else(none))
set_option maxHeartbeats 8000000 in
set_option maxRecDepth 100000 in
theorem static_Flowing_From.calls (Zb:Int) (Zc:Bool) (Zf:Option Addr) (Ze:Nat) (Za:List (S50)) (Ws:Option Addr) (Wt:Nat) (Xm:List Int) (Zh:Int) (Zp:Bool) (r:Int) (w:World) (Zq:Kd.C k50 w Zf Za.length Za) (Zr:Za.length≤Ze) (hr0_3:Kd.C (Kd.int .i64) w Ws Xm.length Xm) (hc0_3:Xm.length≤Wt) (h:static_Flowing_From.f Zb Zc Za Xm Zh Zp=some r):
  Calls Try.prog 87 #[.agg #[.int .i64 Zb, .bool Zc, .slice Zf Za.length Ze, .slice Ws Xm.length Wt], .agg #[.int .i64 Zh, .bool Zp]] w fun e w'=>e= .returned (.int .i64 r)∧Below w.heap.size w w':=by
 have hu104:=Try.underlying104;have hu79:=Try.underlying79;have Zo:=Ya Zq;have Xo:=Ya Zr;clear Zq Zr;have Ji:=Ya hr0_3;have HC0_3:=Ya hc0_3;clear hr0_3 hc0_3;have HB:=Ya (Yo w.heap.size w);have H:=h;unfold static_Flowing_From.f at H;clear h;by_cases c3:Zp=true
 ·subst c3
  first|rw[Yu rfl] at H|rw[Yu trivial] at H
  by_cases c4:0≤Zh
  rotate_left
  ·rw[Yv c4] at H
   exact absurd H (by simp)
  rw[Yu c4] at H;have c4b0:decide (0≤Zh)=true:=Ys c4;clear c4;by_cases c5:Zh<(Za.length:Int)
  rotate_left
  ·rw[Yv c5] at H
   exact absurd H (by simp)
  rw[Yu c5] at H;have c5b0:decide (Zh<(Za.length:Int))=true:=Ys c5;clear c5;obtain rfl:=Option.some.inj H;go_enter Try.func87,Try.ntmps87;go_wp2_with (first|(refine bx 2 104 #[.int .i64 Zb, .bool Zc, .slice Zf Za.length Ze, .slice Ws Xm.length Wt] ?_;intro Ua hg w6 Zg hb;have Wa:=Ya (Zg);have GW719:=Ya ((sz hg));have GE719:=Ya ((sz hg));replace HB:=Ya (Yk bl hb);clear hb Zg hg)|(refine bx 3 79 #[.int .i64 Zh, .bool true] ?_;intro Jj hg w7 Zg hb;have Jk:=Ya (Zg);have GW720:=Ya ((sz hg));have GE720:=Ya ((sz hg));replace HB:=Ya (Yk bl hb);have Jx:=Ya (by rw[hg];exact Nat.ne_of_lt (blk_lt (bk Wa)):Ua≠Jj);have Jy:=Ya (by rw[hg];exact Nat.ne_of_gt (blk_lt (bk Wa)):Jj≠Ua);replace Wa:=Ya (Yn (bk Wa) hb);clear hb Zg hg;have hnb8:=Jy.out;have hnc8:=Jx.out;have Ul:w7.cell? ⟨Jj,0,none⟩=some (.int .i64 Zh):=bc Jk 0;have Um:w7.cell? ⟨Jj,1,none⟩=some (.bool true):=bc Jk 1;have Un:=Yf Jk.out 0;have Uo:=Yf Jk.out 1;have Ww:w7.cell? ⟨Ua,0,none⟩=some (.int .i64 Zb):=bc Wa 0;have Wx:w7.cell? ⟨Ua,1,none⟩=some (.bool Zc):=bc Wa 1;have Wy:w7.cell? ⟨Ua,2,none⟩=some (.slice Zf Za.length Ze):=bc Wa 2;have Jl:w7.cell? ⟨Ua,3,none⟩=some (.slice Ws Xm.length Wt):=bc Wa 3;have Wz:=Yf Wa.out 0;have Va:=Yf Wa.out 1;have Vb:=Yf Wa.out 2;have Jm:=Yf Wa.out 3;have p721:0≤(Zh:Int):=od;have q721:Zh<(Za.length:Int):=od;obtain⟨ad721,e721,hx721_0,hx721_1,hx721_2,hx721_3⟩:=at_T50 Zo.out Zh p721 q721;cases e721;replace hx721_0:=hc HB hx721_0;replace hx721_1:=hc HB hx721_1;replace hx721_2:=hc HB hx721_2;replace hx721_3:=hc HB hx721_3;replace p721:=eq_true p721;replace q721:=eq_true q721));go_ret;exact⟨by first|rfl|(simp[errW_none,errW_some]<;>rfl)|(simp[*,errW_none,errW_some]<;>rfl),HB.out⟩
 replace c3:=Bool.eq_false_iff.mpr c3;subst c3;rw[Yv (show ¬ (false=true) by decide)] at H;by_cases c11:0≤Zh
 rotate_left
 ·rw[Yv c11] at H
  exact absurd H (by simp)
 rw[Yu c11] at H;have c11b0:decide (0≤Zh)=true:=Ys c11;clear c11;by_cases c12:Zh<(Za.length:Int)
 rotate_left
 ·rw[Yv c12] at H
  exact absurd H (by simp)
 rw[Yu c12] at H;have c12b0:decide (Zh<(Za.length:Int))=true:=Ys c12;clear c12;obtain rfl:=Option.some.inj H;go_enter Try.func87,Try.ntmps87;go_wp2_with (first|(refine bx 2 104 #[.int .i64 Zb, .bool Zc, .slice Zf Za.length Ze, .slice Ws Xm.length Wt] ?_;intro Ua hg w13 Zg hb;have Wa:=Ya (Zg);have GW719:=Ya ((sz hg));have GE719:=Ya ((sz hg));replace HB:=Ya (Yk bl hb);clear hb Zg hg)|(refine bx 3 79 #[.int .i64 Zh, .bool false] ?_;intro Jj hg w14 Zg hb;have Jk:=Ya (Zg);have GW720:=Ya ((sz hg));have GE720:=Ya ((sz hg));replace HB:=Ya (Yk bl hb);have Jx:=Ya (by rw[hg];exact Nat.ne_of_lt (blk_lt (bk Wa)):Ua≠Jj);have Jy:=Ya (by rw[hg];exact Nat.ne_of_gt (blk_lt (bk Wa)):Jj≠Ua);replace Wa:=Ya (Yn (bk Wa) hb);clear hb Zg hg;have hnb15:=Jy.out;have hnc15:=Jx.out;have Uv:w14.cell? ⟨Jj,0,none⟩=some (.int .i64 Zh):=bc Jk 0;have Uw:w14.cell? ⟨Jj,1,none⟩=some (.bool false):=bc Jk 1;have Ux:=Yf Jk.out 0;have Uy:=Yf Jk.out 1;have Vm:w14.cell? ⟨Ua,0,none⟩=some (.int .i64 Zb):=bc Wa 0;have Vn:w14.cell? ⟨Ua,1,none⟩=some (.bool Zc):=bc Wa 1;have hcz17_2:w14.cell? ⟨Ua,2,none⟩=some (.slice Zf Za.length Ze):=bc Wa 2;have hcz17_3:w14.cell? ⟨Ua,3,none⟩=some (.slice Ws Xm.length Wt):=bc Wa 3;have Vo:=Yf Wa.out 0;have Vp:=Yf Wa.out 1;have hfz17_2:=Yf Wa.out 2;have hfz17_3:=Yf Wa.out 3;have p722:0≤(Zh:Int):=od;have q722:Zh<(Za.length:Int):=od;obtain⟨ad722,e722,hx722_0,hx722_1,hx722_2,hx722_3⟩:=at_T50 Zo.out Zh p722 q722;cases e722;replace hx722_0:=hc HB hx722_0;replace hx722_1:=hc HB hx722_1;replace hx722_2:=hc HB hx722_2;replace hx722_3:=hc HB hx722_3;replace p722:=eq_true p722;replace q722:=eq_true q722));go_ret;exact⟨by first|rfl|(simp[errW_none,errW_some]<;>rfl)|(simp[*,errW_none,errW_some]<;>rfl),HB.out⟩
end P
namespace P
attribute [local go_sem] max2_int min2_int max_two min_two max_three min_three max_four min_four
def static_Flowing_To.f (Zb:Int) (Zc:Bool) (Za:List (S50)) (Xm:List Int) (Zh:Int) (Zp:Bool):Option (Int):=(static_Flowing_From.f Zb Zc Za Xm Zh (!Zp)).bind fun t725=>(some t725)
set_option maxHeartbeats 8000000 in
set_option maxRecDepth 100000 in
theorem static_Flowing_To.calls (Zb:Int) (Zc:Bool) (Zf:Option Addr) (Ze:Nat) (Za:List (S50)) (Ws:Option Addr) (Wt:Nat) (Xm:List Int) (Zh:Int) (Zp:Bool) (r:Int) (w:World) (Zq:Kd.C k50 w Zf Za.length Za) (Zr:Za.length≤Ze) (hr0_3:Kd.C (Kd.int .i64) w Ws Xm.length Xm) (hc0_3:Xm.length≤Wt) (h:static_Flowing_To.f Zb Zc Za Xm Zh Zp=some r):
  Calls Try.prog 93 #[.agg #[.int .i64 Zb, .bool Zc, .slice Zf Za.length Ze, .slice Ws Xm.length Wt], .agg #[.int .i64 Zh, .bool Zp]] w fun e w'=>e= .returned (.int .i64 r)∧Below w.heap.size w w':=by
 have hu104:=Try.underlying104;have hu79:=Try.underlying79;have Zo:=Ya Zq;have Xo:=Ya Zr;clear Zq Zr;have Ji:=Ya hr0_3;have HC0_3:=Ya hc0_3;clear hr0_3 hc0_3;have HB:=Ya (Yo w.heap.size w);have H:=h;unfold static_Flowing_To.f at H;clear h;replace H:=Option.bind_eq_some_iff.mp H;obtain⟨t725,A30,H⟩:=H;try dsimp only at H
 have A3:=Ya A30;clear A30;obtain rfl:=Option.some.inj H;go_enter Try.func93,Try.ntmps93;go_wp2_with (first|(refine bx 2 104 #[.int .i64 Zb, .bool Zc, .slice Zf Za.length Ze, .slice Ws Xm.length Wt] ?_;intro gb723 hg w4 Zg hb;have Vr:=Ya (Zg);have GW723:=Ya ((sz hg));have GE723:=Ya ((sz hg));replace HB:=Ya (Yk bl hb);clear hb Zg hg)|(refine bx 3 79 #[.int .i64 Zh, .bool Zp] ?_;intro gb724 hg w5 Zg hb;have BK724:=Ya (Zg);have GW724:=Ya ((sz hg));have GE724:=Ya ((sz hg));replace HB:=Ya (Yk bl hb);have NB723_724:=Ya (by rw[hg];exact Nat.ne_of_lt (blk_lt (bk Vr)):gb723≠gb724);have NB724_723:=Ya (by rw[hg];exact Nat.ne_of_gt (blk_lt (bk Vr)):gb724≠gb723);replace Vr:=Ya (Yn (bk Vr) hb);clear hb Zg hg;have hnb6:=NB724_723.out;have hnc6:=NB723_724.out;have hcz7_0:w5.cell? ⟨gb724,0,none⟩=some (.int .i64 Zh):=bc BK724 0;have hcz7_1:w5.cell? ⟨gb724,1,none⟩=some (.bool Zp):=bc BK724 1;have hfz7_0:=Yf BK724.out 0;have hfz7_1:=Yf BK724.out 1;have Wi:w5.cell? ⟨gb723,0,none⟩=some (.int .i64 Zb):=bc Vr 0;have Wj:w5.cell? ⟨gb723,1,none⟩=some (.bool Zc):=bc Vr 1;have Wk:w5.cell? ⟨gb723,2,none⟩=some (.slice Zf Za.length Ze):=bc Vr 2;have hcz8_3:w5.cell? ⟨gb723,3,none⟩=some (.slice Ws Xm.length Wt):=bc Vr 3;have Wl:=Yf Vr.out 0;have Wm:=Yf Vr.out 1;have Wn:=Yf Vr.out 2;have hfz8_3:=Yf Vr.out 3)|((with_reducible refine gate_callee (f:=87) rfl ?_);refine gl (some 11) Try.func87 #[.agg #[.int .i64 Zb, .bool Zc, .slice Zf Za.length Ze, .slice Ws Xm.length Wt], .agg #[.int .i64 Zh, .bool (!Zp)]] ?_;(with_reducible refine(static_Flowing_From.calls Zb Zc _ _ Za _ _ Xm Zh (!Zp) t725 _ ?side1 ?side2 ?side3 ?side4 A3.out).mono ?_);(case side1=>exact Yq Zo.out bl);(case side2=>exact Xo.out);(case side3=>exact Yq Ji.out bl);(case side4=>exact HC0_3.out);rintro e w9 ⟨rfl,hb⟩;refine⟨_,rfl,?_⟩;replace Vr:=Ya (Yn (g:=gb723) (o:= .cells #[.int .i64 Zb, .bool Zc, .slice Zf Za.length Ze, .slice Ws Xm.length Wt] 104 (0,0)) (by(with_reducible repeat(first|refine Yl ?_ _|refine Ym ?_|refine Yj ?_ _));refine blk_far ?_ NB723_724.out _;(with_reducible repeat(first|refine Yl ?_ _|refine Ym ?_|refine Yj ?_ _));exact Vr.out) hb);replace BK724:=Ya (Yn (g:=gb724) (o:= .cells #[.int .i64 Zh, .bool (!Zp)] 79 (0,0)) (by(with_reducible repeat(first|refine Yl ?_ _|refine Ym ?_|refine Yj ?_ _));refine Yx (cs:= #[.int .i64 Zh, .bool Zp]) ?_ 1 _ rfl;(with_reducible repeat(first|refine Yl ?_ _|refine Ym ?_|refine Yj ?_ _));exact BK724.out) hb);replace HB:=Ya (Yk bl hb);(try clear hb)));go_ret;exact⟨by first|rfl|(simp[errW_none,errW_some]<;>rfl)|(simp[*,errW_none,errW_some]<;>rfl),HB.out⟩
end P
namespace P
attribute [local go_sem] max2_int min2_int max_two min_two max_three min_three max_four min_four
def static_Flowing_Room.f (Zb:Int) (Zc:Bool) (Za:List (S50)) (Xm:List Int) (Zh:Int) (Zp:Bool):Option (Int):=if Zp=true then(if 0≤Zh then(if Zh<(Xm.length:Int) then(some (rd Xm Zh)) else(none)) else(none)) else(if 0≤Zh then(if Zh<(Za.length:Int) then(if Zh<(Xm.length:Int) then(some (wrap64 (((rd_T50 Za Zh).f2) - (rd Xm Zh)))) else(none)) else(none)) else(none))
set_option maxHeartbeats 8000000 in
set_option maxRecDepth 100000 in
theorem static_Flowing_Room.calls (Zb:Int) (Zc:Bool) (Zf:Option Addr) (Ze:Nat) (Za:List (S50)) (Ws:Option Addr) (Wt:Nat) (Xm:List Int) (Zh:Int) (Zp:Bool) (r:Int) (w:World) (Zq:Kd.C k50 w Zf Za.length Za) (Zr:Za.length≤Ze) (hr0_3:Kd.C (Kd.int .i64) w Ws Xm.length Xm) (hc0_3:Xm.length≤Wt) (h:static_Flowing_Room.f Zb Zc Za Xm Zh Zp=some r):
  Calls Try.prog 89 #[.agg #[.int .i64 Zb, .bool Zc, .slice Zf Za.length Ze, .slice Ws Xm.length Wt], .agg #[.int .i64 Zh, .bool Zp]] w fun e w'=>e= .returned (.int .i64 r)∧Below w.heap.size w w':=by
 have hu104:=Try.underlying104;have hu79:=Try.underlying79;have Zo:=Ya Zq;have Xo:=Ya Zr;clear Zq Zr;have Ji:=Ya hr0_3;have HC0_3:=Ya hc0_3;clear hr0_3 hc0_3;have HB:=Ya (Yo w.heap.size w);have H:=h;unfold static_Flowing_Room.f at H;clear h;by_cases c3:Zp=true
 ·subst c3
  first|rw[Yu rfl] at H|rw[Yu trivial] at H
  by_cases c4:0≤Zh
  rotate_left
  ·rw[Yv c4] at H
   exact absurd H (by simp)
  rw[Yu c4] at H;have c4b0:decide (0≤Zh)=true:=Ys c4;clear c4;by_cases c5:Zh<(Xm.length:Int)
  rotate_left
  ·rw[Yv c5] at H
   exact absurd H (by simp)
  rw[Yu c5] at H;have c5b0:decide (Zh<(Xm.length:Int))=true:=Ys c5;clear c5;obtain rfl:=Option.some.inj H;go_enter Try.func89,Try.ntmps89;go_wp2_with (first|(refine bx 2 104 #[.int .i64 Zb, .bool Zc, .slice Zf Za.length Ze, .slice Ws Xm.length Wt] ?_;intro Zu hg w6 Zg hb;have Zl:=Ya (Zg);have GW730:=Ya (by rw[hg];exact(Yi HB.out):w.heap.size≤Zu);have GE730:=Ya (by rw[hg];exact(Yi HB.out):w.heap.size≤Zu);replace HB:=Ya (Yk HB.out hb);clear hb Zg hg)|(refine bx 3 79 #[.int .i64 Zh, .bool true] ?_;intro Xe hg w7 Zg hb;have Xu:=Ya (Zg);have GW731:=Ya (by rw[hg];exact(Yi HB.out):w.heap.size≤Xe);have GE731:=Ya (by rw[hg];exact(Yi HB.out):w.heap.size≤Xe);replace HB:=Ya (Yk HB.out hb);have Xw:=Ya (by rw[hg];exact Nat.ne_of_lt (blk_lt Zl.out):Zu≠Xe);have Xx:=Ya (by rw[hg];exact Nat.ne_of_gt (blk_lt Zl.out):Xe≠Zu);replace Zl:=Ya (Yn Zl.out hb);clear hb Zg hg;have hnb8:=Xx.out;have hnc8:=Xw.out;have Ul:w7.cell? ⟨Xe,0,none⟩=some (.int .i64 Zh):=bc Xu 0;have Um:w7.cell? ⟨Xe,1,none⟩=some (.bool true):=bc Xu 1;have Un:=Yf Xu.out 0;have Uo:=Yf Xu.out 1;have Ww:w7.cell? ⟨Zu,0,none⟩=some (.int .i64 Zb):=bc Zl 0;have Wx:w7.cell? ⟨Zu,1,none⟩=some (.bool Zc):=bc Zl 1;have Wy:w7.cell? ⟨Zu,2,none⟩=some (.slice Zf Za.length Ze):=bc Zl 2;have Jl:w7.cell? ⟨Zu,3,none⟩=some (.slice Ws Xm.length Wt):=bc Zl 3;have Wz:=Yf Zl.out 0;have Va:=Yf Zl.out 1;have Vb:=Yf Zl.out 2;have Jm:=Yf Zl.out 3;have p732:0≤(Zh:Int):=od;have q732:Zh<(Xm.length:Int):=od;obtain⟨ad732,e732,Vs⟩:=Kd.at_int Ji.out Zh p732 q732;cases e732;replace Vs:=hc HB Vs;replace p732:=eq_true p732;replace q732:=eq_true q732));repeat(go_quiet (first|(refine bx 2 104 #[.int .i64 Zb, .bool Zc, .slice Zf Za.length Ze, .slice Ws Xm.length Wt] ?_;intro Zu hg w6 Zg hb;have Zl:=Ya (Zg);have GW730:=Ya (by rw[hg];exact(Yi HB.out):w.heap.size≤Zu);have GE730:=Ya (by rw[hg];exact(Yi HB.out):w.heap.size≤Zu);replace HB:=Ya (Yk HB.out hb);clear hb Zg hg)|(refine bx 3 79 #[.int .i64 Zh, .bool true] ?_;intro Xe hg w7 Zg hb;have Xu:=Ya (Zg);have GW731:=Ya (by rw[hg];exact(Yi HB.out):w.heap.size≤Xe);have GE731:=Ya (by rw[hg];exact(Yi HB.out):w.heap.size≤Xe);replace HB:=Ya (Yk HB.out hb);have Xw:=Ya (by rw[hg];exact Nat.ne_of_lt (blk_lt Zl.out):Zu≠Xe);have Xx:=Ya (by rw[hg];exact Nat.ne_of_gt (blk_lt Zl.out):Xe≠Zu);replace Zl:=Ya (Yn Zl.out hb);clear hb Zg hg;have hnb8:=Xx.out;have hnc8:=Xw.out;have Ul:w7.cell? ⟨Xe,0,none⟩=some (.int .i64 Zh):=bc Xu 0;have Um:w7.cell? ⟨Xe,1,none⟩=some (.bool true):=bc Xu 1;have Un:=Yf Xu.out 0;have Uo:=Yf Xu.out 1;have Ww:w7.cell? ⟨Zu,0,none⟩=some (.int .i64 Zb):=bc Zl 0;have Wx:w7.cell? ⟨Zu,1,none⟩=some (.bool Zc):=bc Zl 1;have Wy:w7.cell? ⟨Zu,2,none⟩=some (.slice Zf Za.length Ze):=bc Zl 2;have Jl:w7.cell? ⟨Zu,3,none⟩=some (.slice Ws Xm.length Wt):=bc Zl 3;have Wz:=Yf Zl.out 0;have Va:=Yf Zl.out 1;have Vb:=Yf Zl.out 2;have Jm:=Yf Zl.out 3;have p732:0≤(Zh:Int):=od;have q732:Zh<(Xm.length:Int):=od;obtain⟨ad732,e732,Vs⟩:=Kd.at_int Ji.out Zh p732 q732;cases e732;replace Vs:=hc HB Vs;replace p732:=eq_true p732;replace q732:=eq_true q732));try go_wp2_with (first|(refine bx 2 104 #[.int .i64 Zb, .bool Zc, .slice Zf Za.length Ze, .slice Ws Xm.length Wt] ?_;intro Zu hg w6 Zg hb;have Zl:=Ya (Zg);have GW730:=Ya (by rw[hg];exact(Yi HB.out):w.heap.size≤Zu);have GE730:=Ya (by rw[hg];exact(Yi HB.out):w.heap.size≤Zu);replace HB:=Ya (Yk HB.out hb);clear hb Zg hg)|(refine bx 3 79 #[.int .i64 Zh, .bool true] ?_;intro Xe hg w7 Zg hb;have Xu:=Ya (Zg);have GW731:=Ya (by rw[hg];exact(Yi HB.out):w.heap.size≤Xe);have GE731:=Ya (by rw[hg];exact(Yi HB.out):w.heap.size≤Xe);replace HB:=Ya (Yk HB.out hb);have Xw:=Ya (by rw[hg];exact Nat.ne_of_lt (blk_lt Zl.out):Zu≠Xe);have Xx:=Ya (by rw[hg];exact Nat.ne_of_gt (blk_lt Zl.out):Xe≠Zu);replace Zl:=Ya (Yn Zl.out hb);clear hb Zg hg;have hnb8:=Xx.out;have hnc8:=Xw.out;have Ul:w7.cell? ⟨Xe,0,none⟩=some (.int .i64 Zh):=bc Xu 0;have Um:w7.cell? ⟨Xe,1,none⟩=some (.bool true):=bc Xu 1;have Un:=Yf Xu.out 0;have Uo:=Yf Xu.out 1;have Ww:w7.cell? ⟨Zu,0,none⟩=some (.int .i64 Zb):=bc Zl 0;have Wx:w7.cell? ⟨Zu,1,none⟩=some (.bool Zc):=bc Zl 1;have Wy:w7.cell? ⟨Zu,2,none⟩=some (.slice Zf Za.length Ze):=bc Zl 2;have Jl:w7.cell? ⟨Zu,3,none⟩=some (.slice Ws Xm.length Wt):=bc Zl 3;have Wz:=Yf Zl.out 0;have Va:=Yf Zl.out 1;have Vb:=Yf Zl.out 2;have Jm:=Yf Zl.out 3;have p732:0≤(Zh:Int):=od;have q732:Zh<(Xm.length:Int):=od;obtain⟨ad732,e732,Vs⟩:=Kd.at_int Ji.out Zh p732 q732;cases e732;replace Vs:=hc HB Vs;replace p732:=eq_true p732;replace q732:=eq_true q732)))
  go_ret;exact⟨by first|rfl|(simp[errW_none,errW_some]<;>rfl)|(simp[*,errW_none,errW_some]<;>rfl),HB.out⟩
 replace c3:=Bool.eq_false_iff.mpr c3;subst c3;rw[Yv (show ¬ (false=true) by decide)] at H;by_cases c11:0≤Zh
 rotate_left
 ·rw[Yv c11] at H
  exact absurd H (by simp)
 rw[Yu c11] at H;have c11b0:decide (0≤Zh)=true:=Ys c11;clear c11;by_cases c12:Zh<(Za.length:Int)
 rotate_left
 ·rw[Yv c12] at H
  exact absurd H (by simp)
 rw[Yu c12] at H;have c12b0:decide (Zh<(Za.length:Int))=true:=Ys c12;clear c12;by_cases c13:Zh<(Xm.length:Int)
 rotate_left
 ·rw[Yv c13] at H
  exact absurd H (by simp)
 rw[Yu c13] at H;have c13b0:decide (Zh<(Xm.length:Int))=true:=Ys c13;clear c13;obtain rfl:=Option.some.inj H;go_enter Try.func89,Try.ntmps89;go_wp2_with (first|(refine bx 2 104 #[.int .i64 Zb, .bool Zc, .slice Zf Za.length Ze, .slice Ws Xm.length Wt] ?_;intro Zu hg w14 Zg hb;have Zl:=Ya (Zg);have GW730:=Ya (by rw[hg];exact(Yi HB.out):w.heap.size≤Zu);have GE730:=Ya (by rw[hg];exact(Yi HB.out):w.heap.size≤Zu);replace HB:=Ya (Yk HB.out hb);clear hb Zg hg)|(refine bx 3 79 #[.int .i64 Zh, .bool false] ?_;intro Xe hg w15 Zg hb;have Xu:=Ya (Zg);have GW731:=Ya (by rw[hg];exact(Yi HB.out):w.heap.size≤Xe);have GE731:=Ya (by rw[hg];exact(Yi HB.out):w.heap.size≤Xe);replace HB:=Ya (Yk HB.out hb);have Xw:=Ya (by rw[hg];exact Nat.ne_of_lt (blk_lt Zl.out):Zu≠Xe);have Xx:=Ya (by rw[hg];exact Nat.ne_of_gt (blk_lt Zl.out):Xe≠Zu);replace Zl:=Ya (Yn Zl.out hb);clear hb Zg hg;have hnb16:=Xx.out;have hnc16:=Xw.out;have Vm:w15.cell? ⟨Xe,0,none⟩=some (.int .i64 Zh):=bc Xu 0;have Vn:w15.cell? ⟨Xe,1,none⟩=some (.bool false):=bc Xu 1;have Vo:=Yf Xu.out 0;have Vp:=Yf Xu.out 1;have Jn:w15.cell? ⟨Zu,0,none⟩=some (.int .i64 Zb):=bc Zl 0;have Jo:w15.cell? ⟨Zu,1,none⟩=some (.bool Zc):=bc Zl 1;have Jp:w15.cell? ⟨Zu,2,none⟩=some (.slice Zf Za.length Ze):=bc Zl 2;have Jq:w15.cell? ⟨Zu,3,none⟩=some (.slice Ws Xm.length Wt):=bc Zl 3;have Jr:=Yf Zl.out 0;have Js:=Yf Zl.out 1;have Jt:=Yf Zl.out 2;have Ju:=Yf Zl.out 3;have p733:0≤(Zh:Int):=od;have q733:Zh<(Za.length:Int):=od;obtain⟨ad733,e733,Vt,Vu,Vv,Vw⟩:=at_T50 Zo.out Zh p733 q733;cases e733;replace Vt:=hc HB Vt;replace Vu:=hc HB Vu;replace Vv:=hc HB Vv;replace Vw:=hc HB Vw;replace p733:=eq_true p733;replace q733:=eq_true q733;have p734:0≤(Zh:Int):=od;have q734:Zh<(Xm.length:Int):=od;obtain⟨ad734,e734,Vx⟩:=Kd.at_int Ji.out Zh p734 q734;cases e734;replace Vx:=hc HB Vx;replace p734:=eq_true p734;replace q734:=eq_true q734));repeat(go_quiet (first|(refine bx 2 104 #[.int .i64 Zb, .bool Zc, .slice Zf Za.length Ze, .slice Ws Xm.length Wt] ?_;intro Zu hg w14 Zg hb;have Zl:=Ya (Zg);have GW730:=Ya (by rw[hg];exact(Yi HB.out):w.heap.size≤Zu);have GE730:=Ya (by rw[hg];exact(Yi HB.out):w.heap.size≤Zu);replace HB:=Ya (Yk HB.out hb);clear hb Zg hg)|(refine bx 3 79 #[.int .i64 Zh, .bool false] ?_;intro Xe hg w15 Zg hb;have Xu:=Ya (Zg);have GW731:=Ya (by rw[hg];exact(Yi HB.out):w.heap.size≤Xe);have GE731:=Ya (by rw[hg];exact(Yi HB.out):w.heap.size≤Xe);replace HB:=Ya (Yk HB.out hb);have Xw:=Ya (by rw[hg];exact Nat.ne_of_lt (blk_lt Zl.out):Zu≠Xe);have Xx:=Ya (by rw[hg];exact Nat.ne_of_gt (blk_lt Zl.out):Xe≠Zu);replace Zl:=Ya (Yn Zl.out hb);clear hb Zg hg;have hnb16:=Xx.out;have hnc16:=Xw.out;have Vm:w15.cell? ⟨Xe,0,none⟩=some (.int .i64 Zh):=bc Xu 0;have Vn:w15.cell? ⟨Xe,1,none⟩=some (.bool false):=bc Xu 1;have Vo:=Yf Xu.out 0;have Vp:=Yf Xu.out 1;have Jn:w15.cell? ⟨Zu,0,none⟩=some (.int .i64 Zb):=bc Zl 0;have Jo:w15.cell? ⟨Zu,1,none⟩=some (.bool Zc):=bc Zl 1;have Jp:w15.cell? ⟨Zu,2,none⟩=some (.slice Zf Za.length Ze):=bc Zl 2;have Jq:w15.cell? ⟨Zu,3,none⟩=some (.slice Ws Xm.length Wt):=bc Zl 3;have Jr:=Yf Zl.out 0;have Js:=Yf Zl.out 1;have Jt:=Yf Zl.out 2;have Ju:=Yf Zl.out 3;have p733:0≤(Zh:Int):=od;have q733:Zh<(Za.length:Int):=od;obtain⟨ad733,e733,Vt,Vu,Vv,Vw⟩:=at_T50 Zo.out Zh p733 q733;cases e733;replace Vt:=hc HB Vt;replace Vu:=hc HB Vu;replace Vv:=hc HB Vv;replace Vw:=hc HB Vw;replace p733:=eq_true p733;replace q733:=eq_true q733;have p734:0≤(Zh:Int):=od;have q734:Zh<(Xm.length:Int):=od;obtain⟨ad734,e734,Vx⟩:=Kd.at_int Ji.out Zh p734 q734;cases e734;replace Vx:=hc HB Vx;replace p734:=eq_true p734;replace q734:=eq_true q734));try go_wp2_with (first|(refine bx 2 104 #[.int .i64 Zb, .bool Zc, .slice Zf Za.length Ze, .slice Ws Xm.length Wt] ?_;intro Zu hg w14 Zg hb;have Zl:=Ya (Zg);have GW730:=Ya (by rw[hg];exact(Yi HB.out):w.heap.size≤Zu);have GE730:=Ya (by rw[hg];exact(Yi HB.out):w.heap.size≤Zu);replace HB:=Ya (Yk HB.out hb);clear hb Zg hg)|(refine bx 3 79 #[.int .i64 Zh, .bool false] ?_;intro Xe hg w15 Zg hb;have Xu:=Ya (Zg);have GW731:=Ya (by rw[hg];exact(Yi HB.out):w.heap.size≤Xe);have GE731:=Ya (by rw[hg];exact(Yi HB.out):w.heap.size≤Xe);replace HB:=Ya (Yk HB.out hb);have Xw:=Ya (by rw[hg];exact Nat.ne_of_lt (blk_lt Zl.out):Zu≠Xe);have Xx:=Ya (by rw[hg];exact Nat.ne_of_gt (blk_lt Zl.out):Xe≠Zu);replace Zl:=Ya (Yn Zl.out hb);clear hb Zg hg;have hnb16:=Xx.out;have hnc16:=Xw.out;have Vm:w15.cell? ⟨Xe,0,none⟩=some (.int .i64 Zh):=bc Xu 0;have Vn:w15.cell? ⟨Xe,1,none⟩=some (.bool false):=bc Xu 1;have Vo:=Yf Xu.out 0;have Vp:=Yf Xu.out 1;have Jn:w15.cell? ⟨Zu,0,none⟩=some (.int .i64 Zb):=bc Zl 0;have Jo:w15.cell? ⟨Zu,1,none⟩=some (.bool Zc):=bc Zl 1;have Jp:w15.cell? ⟨Zu,2,none⟩=some (.slice Zf Za.length Ze):=bc Zl 2;have Jq:w15.cell? ⟨Zu,3,none⟩=some (.slice Ws Xm.length Wt):=bc Zl 3;have Jr:=Yf Zl.out 0;have Js:=Yf Zl.out 1;have Jt:=Yf Zl.out 2;have Ju:=Yf Zl.out 3;have p733:0≤(Zh:Int):=od;have q733:Zh<(Za.length:Int):=od;obtain⟨ad733,e733,Vt,Vu,Vv,Vw⟩:=at_T50 Zo.out Zh p733 q733;cases e733;replace Vt:=hc HB Vt;replace Vu:=hc HB Vu;replace Vv:=hc HB Vv;replace Vw:=hc HB Vw;replace p733:=eq_true p733;replace q733:=eq_true q733;have p734:0≤(Zh:Int):=od;have q734:Zh<(Xm.length:Int):=od;obtain⟨ad734,e734,Vx⟩:=Kd.at_int Ji.out Zh p734 q734;cases e734;replace Vx:=hc HB Vx;replace p734:=eq_true p734;replace q734:=eq_true q734)))
 go_ret;exact⟨by first|rfl|(simp[errW_none,errW_some]<;>rfl)|(simp[*,errW_none,errW_some]<;>rfl),bl⟩
end P
namespace H
abbrev Ed:=Nat × Nat × Int
abbrev Tm:=Nat→Option Int
def trig (σ:Tm) (e:Ed):Bool:=
 match σ e.1 with
 |none=>false
 |some x=>match σ e.2.1 with
  |none=>true
  |some y=>decide (x+e.2.2<y)
def relax (σ:Tm) (e:Ed):Tm:=if trig σ e then(fun v=>if v=e.2.1 then some ((σ e.1).getD 0+e.2.2) else σ v) else σ
def Bet (σ τ:Tm):Prop:= ∀ v y,τ v=some y→ ∃ x,σ v=some x∧x≤y
theorem Bet.refl (σ:Tm):Bet σ σ:=fun _ y h=>⟨y,h,Int.le_refl _⟩
theorem Bet.trans {a b c:Tm} (h1:Bet a b) (h2:Bet b c):Bet a c:=fun v y h=>by
 obtain⟨x,hx,hl⟩:=h2 v y h;obtain⟨z,hz,hm⟩:=h1 v x hx;exact⟨z,hz,Int.le_trans hm hl⟩
theorem relax_off {σ:Tm} {e:Ed} (h:trig σ e=false):relax σ e=σ:=by unfold relax;rw[h];rfl
theorem trig_some {σ:Tm} {e:Ed} (h:trig σ e=true): ∃ x,σ e.1=some x∧ ∀ y,σ e.2.1=some y→x+e.2.2<y:=by
 unfold trig at h;cases h1:σ e.1 with
 |none=>rw[h1] at h;cases h
 |some x=>
  rw[h1] at h;refine⟨x,rfl,fun y hy=> ?_⟩;rw[hy] at h;exact Yr h
theorem trig_off {σ:Tm} {e:Ed} (h:trig σ e=false) {x:Int} (hx:σ e.1=some x): ∃ y,σ e.2.1=some y∧y≤x+e.2.2:=by
 unfold trig at h;rw[hx] at h;cases h2:σ e.2.1 with
 |none=>rw[h2] at h;cases h
 |some y=>
  rw[h2] at h;have:=of_decide_eq_false h;exact⟨y,rfl,by omega⟩
theorem relax_on {σ:Tm} {e:Ed} (h:trig σ e=true) {x:Int} (hx:σ e.1=some x) (v:Nat):relax σ e v=if v=e.2.1 then some (x+e.2.2) else σ v:=by
 unfold relax;rw[Yu h,hx];rfl
theorem relax_bet (σ:Tm) (e:Ed):Bet (relax σ e) σ:=by
 cases h:trig σ e with
 |false=>rw[relax_off h];exact Bet.refl _
 |true=>
  obtain⟨x,hx,hl⟩:=trig_some h;intro v y hy;rw[relax_on h hx];by_cases hv:v=e.2.1
  ·subst hv
   rw[Yu rfl];have:=hl y hy;exact⟨_,rfl,by omega⟩
  ·rw[Yv hv]
   exact⟨y,hy,Int.le_refl _⟩
theorem relax_hits {σ:Tm} {e:Ed} {x:Int} (hx:σ e.1=some x): ∃ y,relax σ e e.2.1=some y∧y≤x+e.2.2:=by
 cases h:trig σ e with
 |false=>rw[relax_off h];exact trig_off h hx
 |true=>rw[relax_on h hx,Yu rfl];exact⟨_,rfl,Int.le_refl _⟩
def pass (E:List Ed) (σ:Tm):Tm:=E.foldl relax σ
theorem pass_bet (E:List Ed) (σ:Tm):Bet (pass E σ) σ:=by
 induction E generalizing σ with
 |nil=>exact Bet.refl _
 |cons e E ih=>exact(ih (relax σ e)).trans (relax_bet σ e)
theorem pass_hits {E:List Ed} {e:Ed} (he:e∈E) {σ:Tm} {x:Int} (hx:σ e.1=some x): ∃ y,pass E σ e.2.1=some y∧y≤x+e.2.2:=by
 induction E generalizing σ x with
 |nil=>cases he
 |cons h E ih=>
  rcases List.mem_cons.1 he with rfl|he
  ·obtain⟨y,hy,hl⟩:=relax_hits hx
   obtain⟨z,hz,hm⟩:=pass_bet E (relax σ e) _ y hy;exact⟨z,hz,by omega⟩
  ·obtain⟨x',hx',hl⟩:=relax_bet σ h _ x hx
   obtain⟨y,hy,hm⟩:=ih he hx';exact⟨y,hy,by omega⟩
def Path (E:List Ed):Nat→List Ed→Nat→Prop
 |a,[],b=>a=b
 |a,e::l,b=>e∈E∧e.1=a∧Path E e.2.1 l b
def long:List Ed→Int
 |[]=>0
 |e::l=>e.2.2+long l
theorem long_app (l m:List Ed):long (l ++ m)=long l+long m:=by
 induction l with
 |nil=>simp[long]
 |cons e l ih=>simp only[List.cons_append,long,ih];omega
def its (E:List Ed):Nat→Tm→Tm
 |0,σ=>σ
 |k+1,σ=>its E k (pass E σ)
structure NoGain (E:List Ed) (r:Nat→Prop):Prop where
 on: ∀ e,e∈E→r e.1→r e.2.1
 cyc: ∀ (a:Nat) (l:List Ed),r a→Path E a l a→0≤long l
def visits (a:Nat) (l:List Ed):List Nat:=a::l.map (fun e=>e.2.1)
theorem path_split {E:List Ed} {a b x:Nat} {l:List Ed} (h:Path E a l b) (hx:x∈visits a l): ∃ l1 l2,l=l1 ++ l2∧Path E a l1 x∧Path E x l2 b:=by
 induction l generalizing a with
 |nil=>
  rcases List.mem_cons.1 hx with rfl|hx
  ·exact⟨[],[],rfl,rfl,h⟩
  ·cases hx
 |cons e l ih=>
  rcases List.mem_cons.1 hx with rfl|hx
  ·exact⟨[],e::l,rfl,rfl,h⟩
  ·obtain⟨he,hu,hp⟩:=h
   have hx':x∈visits e.2.1 l:=by simpa [visits] using hx
   obtain⟨l1,l2,e1,h1,h2⟩:=ih hp hx';exact⟨e::l1,l2,by rw[e1];rfl,⟨he,hu,h1⟩,h2⟩
theorem cut_or {E:List Ed} {r:Nat→Prop} (ht:NoGain E r) {a b:Nat} {l:List Ed} (h:Path E a l b) (ha:r a):
  (∃ l',l'.length<l.length∧Path E a l' b∧long l'≤long l)∨(visits a l).Nodup:=by
 induction l generalizing a with
 |nil=>right;simp[visits]
 |cons e l ih=>
  obtain⟨he,hu,hp⟩:=h;have hr:=ht.on e he (hu▸ha);by_cases hm:a∈visits e.2.1 l
  ·left
   obtain⟨l1,l2,e1,h1,h2⟩:=path_split hp hm;refine⟨l2,by rw[e1];simp;omega,h2,?_⟩;have hc:=ht.cyc a (e::l1) ha ⟨he,hu,h1⟩;rw[e1];simp only[long,long_app] at hc ⊢;omega
  ·rcases ih hp hr with ⟨l',h1,h2,h3⟩|hn
   ·left
    refine⟨e::l',by simp;omega,⟨he,hu,h2⟩,?_⟩;simp only[long];omega
   ·right
    show (a::visits e.2.1 l).Nodup;exact List.nodup_cons.2 ⟨hm,hn⟩
theorem pigeon (n:Nat): ∀ L:List Nat,L.Nodup→(∀ x,x∈L→x<n)→L.length≤n:=by
 induction n with
 |zero=>
  intro L _ h;cases L with
  |nil=>simp
  |cons x L=>exact absurd (h x List.mem_cons_self) (Nat.not_lt_zero _)
 |succ n ih=>
  intro L hn h;by_cases hm:n∈L
  ·have h1:=ih (L.erase n) (hn.erase n) (fun x hx=>by
    have h2:=(hn.mem_erase_iff).1 hx;have:=h x h2.2;have:=h2.1;omega)
   rw[List.length_erase_of_mem hm] at h1;omega
  ·have:=ih L hn (fun x hx=>by
    have h1:=h x hx;have:x≠n:=fun e=>hm (e▸hx)
    omega)
   omega
theorem path_nodes {E:List Ed} {n:Nat} (hE: ∀ e,e∈E→e.1<n∧e.2.1<n) {a b:Nat} {l:List Ed} (h:Path E a l b) (ha:a<n): ∀ x,x∈visits a l→x<n:=by
 induction l generalizing a with
 |nil=>intro x hx;rcases List.mem_cons.1 hx with rfl|hx;exact ha;cases hx
 |cons e l ih=>
  intro x hx;obtain⟨he,hu,hp⟩:=h;rcases List.mem_cons.1 hx with rfl|hx
  ·exact ha
  ·exact ih hp (hE e he).2 x (by simpa [visits] using hx)
theorem short {E:List Ed} {n:Nat} (hE: ∀ e,e∈E→e.1<n∧e.2.1<n) {r:Nat→Prop} (ht:NoGain E r) {a b:Nat} (ha:r a) (han:a<n):
  ∀ (m:Nat) (l:List Ed),l.length≤m→Path E a l b→ ∃ l',l'.length<n∧Path E a l' b∧long l'≤long l:=by
 intro m
 induction m with
 |zero=>
  intro l hl h;exact⟨l,by omega,h,Int.le_refl _⟩
 |succ m ih=>
  intro l hl h;rcases cut_or ht h ha with ⟨l',h1,h2,h3⟩|hn
  ·obtain⟨l2,h4,h5,h6⟩:=ih l' (by omega) h2
   exact⟨l2,h4,h5,Int.le_trans h6 h3⟩
  ·refine⟨l,?_,h,Int.le_refl _⟩
   have:=pigeon n _ hn (path_nodes hE h han);simp[visits] at this;omega
def passT (E:List Ed) (σ:Tm) (b:Bool):Tm × Bool:=E.foldl (fun s e=>(relax s.1 e,s.2 || trig s.1 e)) (σ,b)
theorem passT_fst (E:List Ed) (σ:Tm) (b:Bool):(passT E σ b).1=pass E σ:=by
 induction E generalizing σ b with
 |nil=>rfl
 |cons e E ih=>exact ih (relax σ e) (b || trig σ e)
theorem passT_true (E:List Ed) (σ:Tm):(passT E σ true).2=true:=by
 induction E generalizing σ with
 |nil=>rfl
 |cons e E ih=>show (passT E (relax σ e) (true || trig σ e)).2=true;rw[Bool.true_or];exact ih _
theorem passT_false {E:List Ed} {σ:Tm} (h:(passT E σ false).2=false): ∀ e,e∈E→trig σ e=false:=by
 induction E with
 |nil=>intro e he;cases he
 |cons e E ih=>
  have h':(passT E (relax σ e) (false || trig σ e)).2=false:=h;rw[Bool.false_or] at h';cases ht:trig σ e with
  |true=>rw[ht,passT_true] at h';cases h'
  |false=>
   rw[ht,relax_off ht] at h';intro x hx;rcases List.mem_cons.1 hx with rfl|hx
   ·exact ht
   ·exact ih h' x hx
theorem passT_still {E:List Ed} {σ:Tm} (h: ∀ e,e∈E→trig σ e=false):passT E σ false=(σ,false):=by
 induction E with
 |nil=>rfl
 |cons e E ih=>
  have h1:=h e List.mem_cons_self;show passT E (relax σ e) (false || trig σ e)=_;rw[h1,relax_off h1];exact ih (fun e he=>h e (List.mem_cons_of_mem _ he))
theorem pass_fix {E:List Ed} {σ:Tm} (h:pass E σ=σ): ∀ e,e∈E→trig σ e=false:=by
 intro e he;cases ht:trig σ e with
 |false=>rfl
 |true=>
  obtain⟨x,hx,hl⟩:=trig_some ht;obtain⟨y,hy,hm⟩:=pass_hits he hx;rw[h] at hy;have:=hl y hy;omega
end H
namespace H
open P
def Arr (w:World) (g N:Nat) (M:Nat→S79):Prop:=
 ∃ cells:Array Value,w.heap[g]? =some (.cells cells 79 (0,0))∧ ∀ x,x<N→cells[x * 2]? =some (.int .i64 (M x).f0)∧cells[x * 2+1]? =some (.bool (M x).f1)
theorem Arr.cell0 {w:World} {g N:Nat} {M:Nat→S79} (h:Arr w g N M) {x:Nat} (hx:x<N):w.cell? ⟨g,x * 2,none⟩=some (.int .i64 (M x).f0):=by
 obtain⟨cells,hb,hc⟩:=h;simp[World.cell?,hb,(hc x hx).1]
theorem Arr.cell1 {w:World} {g N:Nat} {M:Nat→S79} (h:Arr w g N M) {x:Nat} (hx:x<N):w.cell? ⟨g,x * 2+1,none⟩=some (.bool (M x).f1):=by
 obtain⟨cells,hb,hc⟩:=h;simp[World.cell?,hb,(hc x hx).2]
theorem Arr.free {w:World} {g N:Nat} {M:Nat→S79} (h:Arr w g N M) (j:Nat):w.frozen? ⟨g,j,none⟩=false:=by
 obtain⟨cells,hb,_⟩:=h;simp[World.frozen?,hb]
theorem Arr.lt {w:World} {g N:Nat} {M:Nat→S79} (h:Arr w g N M):g<w.heap.size:=by
 obtain⟨cells,hb,_⟩:=h;exact(Array.getElem?_eq_some_iff.1 hb).1
theorem Arr.congr {w:World} {g N:Nat} {M M':Nat→S79} (h:Arr w g N M) (e: ∀ x,x<N→M' x=M x):Arr w g N M':=by
 obtain⟨cells,hb,hc⟩:=h;exact⟨cells,hb,fun x hx=>by rw[e x hx];exact hc x hx⟩
theorem Arr.same {w w':World} {g N:Nat} {M:Nat→S79} (h:Arr w g N M) (e:w'.heap[g]? =w.heap[g]?):Arr w' g N M:=by
 obtain⟨cells,hb,hc⟩:=h;exact⟨cells,e.trans hb,hc⟩
theorem Arr.below {w w':World} {g N:Nat} {M:Nat→S79} (h:Arr w g N M) (hb:Below w.heap.size w w'):Arr w' g N M:=h.same (hb.block g h.lt)
def upd (M:Nat→S79) (x:Nat) (s:S79) (y:Nat):S79:=if y=x then s else M y
theorem Arr.put {w:World} {g N:Nat} {M:Nat→S79} (h:Arr w g N M) {x:Nat} (hx:x<N) (s:S79):Arr ((w.setCell ⟨g,x * 2,none⟩ (.int .i64 s.f0)).setCell ⟨g,x * 2+1,none⟩ (.bool s.f1)) g N (upd M x s):=by
 obtain⟨cells,hb,hc⟩:=h;refine⟨_,blk_set (blk_set hb _ _) _ _,fun y hy=> ?_⟩;have hs0:=(Array.getElem?_eq_some_iff.1 (hc x hx).1).1;have hs1:=(Array.getElem?_eq_some_iff.1 (hc x hx).2).1;simp only[Array.getElem?_setIfInBounds,Array.size_setIfInBounds];unfold upd;by_cases e:y=x
 ·subst e
  constructor
  ·rw[Yv (by omega),Yu rfl,Yu hs0,Yu rfl]
  ·rw[Yu rfl,Yu hs1,Yu rfl]
 ·rw[Yv e]
  constructor
  ·rw[Yv (by omega),Yv (by omega)];exact(hc y hy).1
  ·rw[Yv (by omega),Yv (by omega)];exact(hc y hy).2
theorem Arr.drew {w:World} {g N:Nat} {M:Nat→S79} (h:Arr w g N M):Arr w.drew g N M:=h.same rfl
def Fr (w w':World) (g:Nat):Prop:=w.grownBy w' (some g)∧ ∀ cells t ro,w.heap[g]? =some (.cells cells t ro)→ ∃ cells',w'.heap[g]? =some (.cells cells' t ro)∧cells'.size=cells.size
theorem grow_set {w w':World} {g:Nat} (h:Fr w w' g) (j:Nat) (u:Value):Fr w (w'.setCell ⟨g,j,none⟩ u) g:=
 ⟨⟨h.1.os,h.1.tape,h.1.output,by simpa [World.setCell] using h.1.size,fun k hk hne=>(Below.heap_setCell w' ⟨g,j,none⟩ u k (fun e=>hne (by rw[e]))).trans (h.1.block k hk hne)⟩,
  fun cells t ro hb=>by
  obtain⟨c',h1,h2⟩:=h.2 cells t ro hb;refine⟨c'.setIfInBounds j u,?_,by simpa using h2⟩;simp[World.setCell,Array.getElem?_modify,h1]⟩
theorem grow_drew {w w':World} {g:Nat} (h:Fr w w' g):Fr w w'.drew g:=⟨⟨h.1.os,h.1.tape,h.1.output,h.1.size,h.1.block⟩,h.2⟩
theorem grow_refl (w:World) (g:Nat):Fr w w g:=⟨⟨rfl,rfl,rfl,Nat.le_refl _,fun _ _ _=>rfl⟩,fun cells t ro hb=>⟨cells,hb,rfl⟩⟩
theorem grow_trans {w w' w'':World} {g:Nat} (h:Fr w w' g) (k:Fr w' w'' g):Fr w w'' g:=
 ⟨⟨k.1.os.trans h.1.os,k.1.tape.trans h.1.tape,k.1.output.trans h.1.output,Nat.le_trans h.1.size k.1.size,fun i hi hne=>(k.1.block i (Nat.lt_of_lt_of_le hi h.1.size) hne).trans (h.1.block i hi hne)⟩,
  fun cells t ro hb=>by
  obtain⟨c',h1,h2⟩:=h.2 cells t ro hb;obtain⟨c2,h3,h4⟩:=k.2 c' t ro h1;exact⟨c2,h3,h4.trans h2⟩⟩
theorem grow_below {w w':World} {g:Nat} (h:Below w.heap.size w w'):Fr w w' g:=
 ⟨grown_of_below h _,fun cells t ro hb=>⟨cells,(h.block g (Array.getElem?_eq_some_iff.1 hb).1).trans hb,rfl⟩⟩
def swapM (M:Nat→S79) (a b n:Nat) (x:Nat):S79:=if a≤x∧x<a+n then M (x - a+b) else if b≤x∧x<b+n then M (x - b+a) else M x
set_option maxHeartbeats 2000000 in
set_option maxRecDepth 100000 in
theorem swapRange_calls (g N cap:Nat) (M:Nat→S79) (a b n:Nat) (f:Value) (w:World) (h:Arr w g N M) (hN:N≤1000000) (ha:a+n≤b) (hb:b+n≤N):
  Calls Try.prog 112 #[.slice (some ⟨g,0,none⟩) N cap, .int .i64 (a:Int), .int .i64 (b:Int), .int .i64 (n:Int),f] w fun e w'=>e= .returned (.tuple #[])∧Arr w' g N (swapM M a b n)∧Fr w w' g:=by
 have HA:=Ya h;clear h;go_enter Try.func112,Try.ntmps112;go_wp2;go_loopw [10] (fun i wr=> ∃ k:Nat,k≤n∧i= .int .i64 k∧Aside0 (Arr wr g N (swapM M a b k))∧Aside0 (Fr w wr g)) (fun i _=>n - (intOf i).toNat)
 case atStart=>exact⟨0,Nat.zero_le _,rfl,⟨HA.out.congr fun x _=>by unfold swapM;rw[Yv (by omega),Yv (by omega)]⟩,⟨grow_refl _ _⟩⟩
 case round=>
  obtain⟨k,hk,rfl,HA1,HG⟩:=hrel;by_cases hlt:k<n
  ·have c0:=HA1.out.cell0 (x:=b+k) (by omega)
   have c1:=HA1.out.cell1 (x:=b+k) (by omega);have d0:=HA1.out.cell0 (x:=a+k) (by omega);have d1:=HA1.out.cell1 (x:=a+k) (by omega);have f0:=HA1.out.free;obtain⟨s1,hs1⟩: ∃ s,swapM M a b k (b+k)=s:=⟨_,rfl⟩;obtain⟨s2,hs2⟩: ∃ s,swapM M a b k (a+k)=s:=⟨_,rfl⟩;rw[hs1] at c0 c1;rw[hs2] at d0 d1;have HE:Aside0 (∀ x,upd (upd (swapM M a b k) (a+k) s1) (b+k) s2 x=swapM M a b (k+1) x):=⟨fun x=>by
    rw[← hs1, ← hs2];unfold upd swapM;by_cases e1:x=b+k
    ·subst e1
     rw[Yu rfl,Yv (by omega),Yv (by omega),Yv (by omega),Yu (by omega)];congr 1;omega
    ·rw[Yv e1]
     by_cases e2:x=a+k
     ·subst e2
      rw[Yu rfl,Yv (by omega),Yv (by omega),Yu (by omega)];congr 1;omega
     ·rw[Yv e2]
      by_cases e3:a≤x∧x<a+k
      ·rw[Yu e3,Yu (by omega)]
      ·rw[Yv e3,Yv (show ¬ (a≤x∧x<a+(k+1)) by omega)]
       by_cases e4:b≤x∧x<b+k
       ·rw[Yu e4,Yu (by omega)]
       ·rw[Yv e4,Yv (by omega)]⟩
   clear hs1 hs2;go_wp2;go_region;have HA2:Aside0 (Arr (((((wr.setCell ⟨g,(a+k) * 2,none⟩ (.int .i64 s1.f0)).setCell ⟨g,(a+k) * 2+1,none⟩ (.bool s1.f1)).setCell ⟨g,(b+k) * 2,none⟩ (.int .i64 s2.f0)).setCell ⟨g,(b+k) * 2+1,none⟩ (.bool s2.f1)).drew) g N (swapM M a b (k+1))):=
    ⟨(((HA1.out.put (by omega) s1).put (by omega) s2).drew).congr fun x _=>(HE.out x).symm⟩
   have HG2:=Ya (grow_drew (grow_set (grow_set (grow_set (grow_set HG.out ((a+k) * 2) (.int .i64 s1.f0)) ((a+k) * 2+1) (.bool s1.f1)) ((b+k) * 2) (.int .i64 s2.f0)) ((b+k) * 2+1) (.bool s2.f1)));clear c0 c1 d0 d1 f0 HA1 HG HE;go_wp2;go_roundw
   case rel=>exact⟨k+1,by omega,by go_num,HA2,HG2⟩
   case measure=>simp[intOf];omega
  ·have e:k=n:=by omega
   subst e;go_wp2;go_end0;exact⟨rfl,HA1.out,HG.out⟩
def rotM (M:Nat→S79) (a m b:Nat) (x:Nat):S79:=if a≤x∧x<b then(if x<a+(b - m) then M (x+(m - a)) else M (x - (b - m))) else M x
def RotAt (M K:Nat→S79) (a m b i j:Nat):Prop:=
 (∀ x, ¬ (m - i≤x∧x<m+j)→K x=rotM M a m b x)∧(∀ x,m - i≤x→x<m - i+j→rotM M a m b x=K (x+i))∧(∀ x,m - i+j≤x→x<m+j→rotM M a m b x=K (x - j))
theorem rot_start (M:Nat→S79) {a m b:Nat} (h1:a≤m) (h2:m≤b):RotAt M M a m b (m - a) (b - m):=by
 refine⟨fun x hx=> ?_,fun x h3 h4=> ?_,fun x h3 h4=> ?_⟩
 ·unfold rotM;rw[Yv (by omega)]
 ·unfold rotM;rw[Yu (by omega),Yu (by omega)]
 ·unfold rotM;rw[Yu (by omega),Yv (by omega)]
theorem rot_left {M K:Nat→S79} {a m b i j:Nat} (h:RotAt M K a m b i j) (hj:0<j) (hij:j<i) (him:i≤m):RotAt M (swapM K (m - i) m j) a m b (i - j) j:=by
 obtain⟨h1,h2,h3⟩:=h;refine⟨fun x hx=> ?_,fun x h4 h5=> ?_,fun x h4 h5=> ?_⟩
 ·unfold swapM
  by_cases e:m - i≤x∧x<m - i+j
  ·rw[Yu e,h2 x e.1 e.2]
   congr 1;omega
  ·rw[Yv e,Yv (by omega)]
   exact h1 x (by omega)
 ·rw[h3 x (by omega) (by omega)]
  unfold swapM;rw[Yv (by omega),Yu (by omega)];congr 1;omega
 ·rw[h3 x (by omega) (by omega)]
  unfold swapM;rw[Yv (by omega),Yv (by omega)]
theorem rot_right {M K:Nat→S79} {a m b i j:Nat} (h:RotAt M K a m b i j) (hi:0<i) (hij:i<j) (him:i≤m):RotAt M (swapM K (m - i) (m+j - i) i) a m b i (j - i):=by
 obtain⟨h1,h2,h3⟩:=h;refine⟨fun x hx=> ?_,fun x h4 h5=> ?_,fun x h4 h5=> ?_⟩
 ·unfold swapM
  rw[Yv (by omega)];by_cases e:m+j - i≤x∧x<m+j - i+i
  ·rw[Yu e,h3 x (by omega) (by omega)]
   congr 1;omega
  ·rw[Yv e]
   exact h1 x (by omega)
 ·rw[h2 x (by omega) (by omega)]
  unfold swapM;rw[Yv (by omega),Yv (by omega)]
 ·rw[h2 x (by omega) (by omega)]
  unfold swapM;rw[Yu (by omega)];congr 1;omega
theorem rot_last {M K:Nat→S79} {a m b i:Nat} (h:RotAt M K a m b i i) (him:i≤m) (x:Nat):swapM K (m - i) m i x=rotM M a m b x:=by
 obtain⟨h1,h2,h3⟩:=h;unfold swapM;by_cases e:m - i≤x∧x<m - i+i
 ·rw[Yu e,h2 x e.1 e.2]
  congr 1;omega
 ·rw[Yv e]
  by_cases e2:m≤x∧x<m+i
  ·rw[Yu e2,h3 x (by omega) (by omega)]
   congr 1;omega
  ·rw[Yv e2]
   exact h1 x (by omega)
set_option maxHeartbeats 2000000 in
set_option maxRecDepth 100000 in
theorem rotate_calls (g N cap:Nat) (M:Nat→S79) (a m b:Nat) (f:Value) (w:World) (h:Arr w g N M) (hN:N≤1000000) (ham:a<m) (hmb:m<b) (hb:b≤N):
  Calls Try.prog 109 #[.slice (some ⟨g,0,none⟩) N cap, .int .i64 (a:Int), .int .i64 (m:Int), .int .i64 (b:Int),f] w fun e w'=>e= .returned (.tuple #[])∧Arr w' g N (rotM M a m b)∧Fr w w' g:=by
 have HA:=Ya h;clear h;go_enter Try.func109,Try.ntmps109;go_wp2;go_loopw [10,11] (fun vi vj wr=> ∃ i j:Nat,0<i∧0<j∧i≤m - a∧j≤b - m∧vi= .int .i64 i∧vj= .int .i64 j∧(∃ K,Aside0 (RotAt M K a m b i j)∧Aside0 (Arr wr g N K))∧Aside0 (Fr w wr g)) (fun vi vj _=>(intOf vi).toNat+(intOf vj).toNat)
 case atStart=>exact⟨m - a,b - m,by omega,by omega,Nat.le_refl _,Nat.le_refl _,by rw[Int.natCast_sub (by omega)],by rw[Int.natCast_sub (by omega)],⟨M,⟨rot_start M (by omega) (by omega)⟩,HA⟩,⟨grow_refl _ _⟩⟩
 case round=>
  obtain⟨i,j,hi,hj,him,hjb,rfl,rfl,⟨K,HK,HA1⟩,HG⟩:=hrel;have e0:(m:Int) - (i:Int)=((m - i:Nat):Int):=by omega
  have E0:=Ya e0;by_cases hij:i=j
  ·subst hij
   have hne:((i:Int) != (i:Int))=false:=by simp
   clear e0;go_wp2_with fail;rw[E0.out];refine(swapRange_calls g N cap K (m - i) m i f _ HA1.out hN (by omega) (by omega)).mono ?_;rintro e w1 ⟨rfl,ha1,hg1⟩;have HA2:=Ya ha1;have HG2:=Ya (grow_trans HG.out hg1);clear ha1 hg1;go_wp2_with fail;go_end0;exact⟨rfl,HA2.out.congr fun x _=>(rot_last HK.out (by omega) x).symm,HG2.out⟩
  ·have hne:((i:Int) != (j:Int))=true:=by rw[bne_iff_ne];omega
   by_cases hlt:j<i
   ·have e1:(i:Int) - (j:Int)=((i - j:Nat):Int):=by omega
    have E1:=Ya e1;clear e0 e1;go_wp2_with fail;rw[E0.out];refine(swapRange_calls g N cap K (m - i) m j f _ HA1.out hN (by omega) (by omega)).mono ?_;rintro e w1 ⟨rfl,ha1,hg1⟩;have HA2:=Ya ha1;have HG2:=Ya (grow_trans HG.out hg1);clear ha1 hg1;go_wp2_with fail;go_roundw
    case rel=>exact⟨i - j,j,by omega,hj,by omega,hjb,by rw[E1.out],rfl,⟨_,⟨rot_left HK.out hj hlt (by omega)⟩,HA2⟩,HG2⟩
    case measure=>simp[intOf];omega
   ·have e1:(j:Int) - (i:Int)=((j - i:Nat):Int):=by omega
    have E1:=Ya e1;have e2:(m:Int)+(j:Int) - (i:Int)=((m+j - i:Nat):Int):=by omega
    have E2:=Ya e2;clear e0 e1 e2;go_wp2_with fail;rw[E0.out,E2.out];refine(swapRange_calls g N cap K (m - i) (m+j - i) i f _ HA1.out hN (by omega) (by omega)).mono ?_;rintro e w1 ⟨rfl,ha1,hg1⟩;have HA2:=Ya ha1;have HG2:=Ya (grow_trans HG.out hg1);clear ha1 hg1;go_wp2_with fail;go_roundw
    case rel=>exact⟨i,j - i,hi,by omega,him,by omega,rfl,by rw[E1.out],⟨_,⟨rot_right HK.out hi (by omega) (by omega)⟩,HA2⟩,HG2⟩
    case measure=>simp[intOf];omega
end H
namespace H
open P
def Le (K:Nat→S79) (a b:Nat):Prop:= ∀ i j,a≤i→i<j→j<b→(K i).f0≤(K j).f0
def Stab (M:Nat→S79) (N:Nat):Prop:= ∀ i j,i<j→j<N→(M i).f0=(M j).f0→(M i).f1=false∧(M j).f1=true
def Small (M:Nat→S79) (N:Nat):Prop:= ∀ i,i<N→0≤(M i).f0∧(M i).f0≤1000000
def Mix (M K:Nat→S79) (a b:Nat):Prop:=
 (∀ x, ¬ (a≤x∧x<b)→K x=M x)∧(∀ x,a≤x→x<b→ ∃ y,a≤y∧y<b∧K x=M y)∧(∀ y,a≤y→y<b→ ∃ x,a≤x∧x<b∧K x=M y)
theorem mix_refl (M:Nat→S79) (a b:Nat):Mix M M a b:=⟨fun _ _=>rfl,fun x h1 h2=>⟨x,h1,h2,rfl⟩,fun x h1 h2=>⟨x,h1,h2,rfl⟩⟩
theorem mix_trans {M K L:Nat→S79} {a b:Nat} (h:Mix M K a b) (k:Mix K L a b):Mix M L a b:=by
 refine⟨fun x hx=>(k.1 x hx).trans (h.1 x hx),fun x h1 h2=> ?_,fun y h1 h2=> ?_⟩
 ·obtain⟨y,h3,h4,e⟩:=k.2.1 x h1 h2
  obtain⟨z,h5,h6,e2⟩:=h.2.1 y h3 h4;exact⟨z,h5,h6,e.trans e2⟩
 ·obtain⟨x,h3,h4,e⟩:=h.2.2 y h1 h2
  obtain⟨z,h5,h6,e2⟩:=k.2.2 x h3 h4;exact⟨z,h5,h6,e2.trans e⟩
theorem mix_wide {M K:Nat→S79} {a b a' b':Nat} (h:Mix M K a b) (ha:a'≤a) (hb:b≤b'):Mix M K a' b':=by
 refine⟨fun x hx=>h.1 x (by omega),fun x h1 h2=> ?_,fun y h1 h2=> ?_⟩
 ·by_cases e:a≤x∧x<b
  ·obtain⟨y,h3,h4,e⟩:=h.2.1 x e.1 e.2
   exact⟨y,by omega,by omega,e⟩
  ·exact⟨x,h1,h2,h.1 x e⟩
 ·by_cases e:a≤y∧y<b
  ·obtain⟨x,h3,h4,e⟩:=h.2.2 y e.1 e.2
   exact⟨x,by omega,by omega,e⟩
  ·exact⟨y,h1,h2,h.1 y e⟩
theorem mix_small {M K:Nat→S79} {a b N:Nat} (h:Mix M K a b) (hb:b≤N) (hs:Small M N):Small K N:=fun x hx=>by
 by_cases e:a≤x∧x<b
 ·obtain⟨y,h3,h4,e⟩:=h.2.1 x e.1 e.2
  rw[e];exact hs y (by omega)
 ·rw[h.1 x e];exact hs x hx
def sw (K:Nat→S79) (p x:Nat):S79:=if x=p then K (p+1) else if x=p+1 then K p else K x
theorem sw_put1 (K:Nat→S79) (p x:Nat):upd (upd K (p+1) (K p)) p (K (p+1)) x=sw K p x:=by
 unfold upd sw;rfl
theorem sw_put2 (K:Nat→S79) (p x:Nat):upd (upd K p (K (p+1))) (p+1) (K p) x=sw K p x:=by
 unfold upd sw;by_cases e:x=p
 ·subst e;rw[Yv (by omega),Yu rfl,Yu rfl]
 ·by_cases e2:x=p+1
  ·rw[Yu e2,Yv e,Yu e2]
  ·rw[Yv e2,Yv e,Yv e,Yv e2]
theorem sw_at (K:Nat→S79) (p:Nat):sw K p p=K (p+1):=Yu rfl
theorem sw_at1 (K:Nat→S79) (p:Nat):sw K p (p+1)=K p:=by unfold sw;rw[Yv (by omega),Yu rfl]
theorem sw_off (K:Nat→S79) (p x:Nat) (h:x≠p) (h1:x≠p+1):sw K p x=K x:=by unfold sw;rw[Yv h,Yv h1]
theorem sw_mix (K:Nat→S79) (p a b:Nat) (ha:a≤p) (hb:p+1<b):Mix K (sw K p) a b:=by
 refine⟨fun x hx=>sw_off K p x (by omega) (by omega),fun x h1 h2=> ?_,fun x h1 h2=> ?_⟩
 ·by_cases e:x=p
  ·subst e;exact⟨x+1,by omega,by omega,sw_at K x⟩
  ·by_cases e2:x=p+1
   ·subst e2;exact⟨p,by omega,by omega,sw_at1 K p⟩
   ·exact⟨x,h1,h2,sw_off K p x e e2⟩
 ·by_cases e:x=p
  ·subst e;exact⟨x+1,by omega,by omega,sw_at1 K x⟩
  ·by_cases e2:x=p+1
   ·subst e2;exact⟨p,by omega,by omega,sw_at K p⟩
   ·exact⟨x,h1,h2,sw_off K p x e e2⟩
theorem sw_stab {K:Nat→S79} {p N:Nat} (h:Stab K N) (hp:p+1<N) (hlt:(K (p+1)).f0<(K p).f0):Stab (sw K p) N:=by
 intro i j hij hj he;have h0: ∀ x,x=p∨x=p+1∨(x≠p∧x≠p+1):=fun x=>by omega
 rcases h0 i with rfl|rfl|⟨i1,i2⟩<;>rcases h0 j with e|e|⟨j1,j2⟩
 ·omega
 ·subst e;rw[sw_at,sw_at1] at he;omega
 ·rw[sw_at,sw_off _ _ _ j1 j2] at he ⊢;exact h _ _ (by omega) hj he
 ·omega
 ·omega
 ·rw[sw_at1,sw_off _ _ _ j1 j2] at he ⊢;exact h _ _ (by omega) hj he
 ·subst e;rw[sw_at,sw_off _ _ _ i1 i2] at he ⊢;exact h _ _ (by omega) (by omega) he
 ·subst e;rw[sw_at1,sw_off _ _ _ i1 i2] at he ⊢;exact h _ _ (by omega) (by omega) he
 ·rw[sw_off _ _ _ i1 i2,sw_off _ _ _ j1 j2] at he ⊢;exact h _ _ hij hj he
def Hole (K:Nat→S79) (a k j:Nat):Prop:=
 (∀ x y,a≤x→x<y→y≤k→x≠j→y≠j→(K x).f0≤(K y).f0)∧(∀ y,j<y→y≤k→(K j).f0≤(K y).f0)
theorem hole_start {K:Nat→S79} {a k:Nat} (h:Le K a k):Hole K a k k:=⟨fun x y h1 h2 h3 h4 h5=>h x y h1 h2 (by omega),fun y h1 h2=>by omega⟩
theorem hole_stop {K:Nat→S79} {a k j:Nat} (h:Hole K a k j) (hj:j=a∨(a<j∧(K (j - 1)).f0≤(K j).f0)):Le K a (k+1):=by
 intro x y h1 h2 h3;by_cases e1:x=j
 ·subst e1;exact h.2 y h2 (by omega)
 ·by_cases e2:y=j
  ·subst e2
   rcases hj with hj|⟨hj,hle⟩
   ·omega
   ·by_cases e3:x=y - 1
    ·subst e3;exact hle
    ·exact Int.le_trans (h.1 x (y - 1) h1 (by omega) (by omega) e1 (by omega)) hle
  ·exact h.1 x y h1 h2 (by omega) e1 e2
theorem hole_swap {K:Nat→S79} {a k p:Nat} (h:Hole K a k (p+1)) (ha:a≤p) (hk:p+1≤k) (hlt:(K (p+1)).f0<(K p).f0):Hole (sw K p) a k p:=by
 refine⟨fun x y h1 h2 h3 h4 h5=> ?_,fun y h1 h2=> ?_⟩
 ·by_cases e1:x=p+1
  ·subst e1;rw[sw_at1,sw_off _ _ _ h5 (by omega)];exact h.1 p y (by omega) (by omega) h3 (by omega) (by omega)
  ·by_cases e2:y=p+1
   ·subst e2;rw[sw_at1,sw_off _ _ _ h4 e1];exact h.1 x p h1 (by omega) (by omega) e1 (by omega)
   ·rw[sw_off _ _ _ h4 e1,sw_off _ _ _ h5 e2];exact h.1 x y h1 h2 h3 e1 e2
 ·rw[sw_at]
  by_cases e2:y=p+1
  ·subst e2;rw[sw_at1];omega
  ·rw[sw_off _ _ _ (by omega) e2];exact h.2 y (by omega) h2
def Sorted (M K:Nat→S79) (N a b:Nat):Prop:=Mix M K a b∧Stab K N∧Small K N∧Le K a b
theorem le_one (K:Nat→S79) (a b:Nat) (h:b≤a+1):Le K a b:=fun i j h1 h2 h3=>by omega
theorem rot_lo (M:Nat→S79) {s m e x:Nat} (h1:s≤x) (h2:x<s+(e - m)) (h3:m≤e) (h4:s≤m):rotM M s m e x=M (x+(m - s)):=by
 unfold rotM;rw[Yu (by omega),Yu h2]
theorem rot_hi (M:Nat→S79) {s m e x:Nat} (h1:s+(e - m)≤x) (h2:x<e) (h4:s≤m):rotM M s m e x=M (x - (e - m)):=by
 unfold rotM;rw[Yu (by omega),Yv (by omega)]
theorem rot_off (M:Nat→S79) {s m e x:Nat} (h: ¬ (s≤x∧x<e)):rotM M s m e x=M x:=by
 unfold rotM;rw[Yv h]
theorem rot_mix (M:Nat→S79) {s m e:Nat} (h1:s≤m) (h2:m≤e):Mix M (rotM M s m e) s e:=by
 refine⟨fun x hx=>rot_off M hx,fun x h3 h4=> ?_,fun x h3 h4=> ?_⟩
 ·by_cases c:x<s+(e - m)
  ·exact⟨x+(m - s),by omega,by omega,rot_lo M h3 c h2 h1⟩
  ·exact⟨x - (e - m),by omega,by omega,rot_hi M (by omega) h4 h1⟩
 ·by_cases c:x<m
  ·refine⟨x+(e - m),by omega,by omega,?_⟩
   rw[rot_hi M (by omega) (by omega) h1];congr 1;omega
  ·refine⟨x - (m - s),by omega,by omega,?_⟩
   rw[rot_lo M (by omega) (by omega) h2 h1];congr 1;omega
theorem rot_stab {M:Nat→S79} {N s m e:Nat} (h:Stab M N) (h1:s≤m) (h2:m≤e) (he:e≤N) (hc: ∀ x y,s≤x→x<m→m≤y→y<e→(M y).f0<(M x).f0):Stab (rotM M s m e) N:=by
 intro i j hij hj heq;have h0: ∀ x, ¬ (s≤x∧x<e)∨(s≤x∧x<s+(e - m))∨(s+(e - m)≤x∧x<e):=fun x=>by omega
 rcases h0 i with a1|⟨a1,a2⟩|⟨a1,a2⟩<;>rcases h0 j with b1|⟨b1,b2⟩|⟨b1,b2⟩
 ·rw[rot_off M a1,rot_off M b1] at heq ⊢;exact h _ _ hij hj heq
 ·rw[rot_off M a1,rot_lo M b1 b2 h2 h1] at heq ⊢;exact h _ _ (by omega) (by omega) heq
 ·rw[rot_off M a1,rot_hi M b1 b2 h1] at heq ⊢;exact h _ _ (by omega) (by omega) heq
 ·rw[rot_lo M a1 a2 h2 h1,rot_off M b1] at heq ⊢;exact h _ _ (by omega) (by omega) heq
 ·rw[rot_lo M a1 a2 h2 h1,rot_lo M b1 b2 h2 h1] at heq ⊢;exact h _ _ (by omega) (by omega) heq
 ·rw[rot_lo M a1 a2 h2 h1,rot_hi M b1 b2 h1] at heq;have:=hc (j - (e - m)) (i+(m - s)) (by omega) (by omega) (by omega) (by omega);omega
 ·rw[rot_hi M a1 a2 h1,rot_off M b1] at heq ⊢;exact h _ _ (by omega) (by omega) heq
 ·omega
 ·rw[rot_hi M a1 a2 h1,rot_hi M b1 b2 h1] at heq ⊢;exact h _ _ (by omega) (by omega) heq
theorem rot_none (M:Nat→S79) {s m e:Nat} (h1:s≤m) (h2:m≤e) (h:s=m∨m=e) (x:Nat):rotM M s m e x=M x:=by
 by_cases c:s≤x∧x<e
 ·rcases h with h|h
  ·subst h;rw[rot_lo M c.1 (by omega) h2 h1];congr 1;omega
  ·subst h;rw[rot_hi M (by omega) c.2 h1];congr 1;omega
 ·exact rot_off M c
theorem le_le {K:Nat→S79} {a b x y:Nat} (h:Le K a b) (h1:a≤x) (h2:x≤y) (h3:y<b):(K x).f0≤(K y).f0:=by
 by_cases e:x=y
 ·subst e;exact Int.le_refl _
 ·exact h x y h1 (by omega) h3
theorem le_join {K:Nat→S79} {a m b:Nat} (h1:Le K a m) (h2:Le K m b) (hc: ∀ x y,a≤x→x<m→m≤y→y<b→(K x).f0≤(K y).f0):Le K a b:=by
 intro i j hi hij hj;by_cases e:j<m
 ·exact h1 i j hi hij e
 ·by_cases e2:i<m
  ·exact hc i j hi e2 (by omega) hj
  ·exact h2 i j (by omega) hij hj
theorem rot_one_lo {M:Nat→S79} {a b i:Nat} (h:Le M (a+1) b) (h1:a+1≤i) (h2:i≤b) (hlt: ∀ y,a+1≤y→y<i→(M y).f0<(M a).f0) (hge: ∀ y,i≤y→y<b→(M a).f0≤(M y).f0):Le (rotM M a (a+1) i) a b:=by
 have lo: ∀ x,a≤x→x+1<i→rotM M a (a+1) i x=M (x+1):=fun x h3 h4=>by rw[rot_lo M h3 (by omega) h1 (by omega)];congr 1;omega
 have at_:rotM M a (a+1) i (i - 1)=M a:=by rw[rot_hi M (by omega) (by omega) (by omega)];congr 1;omega
 have hi: ∀ x,i≤x→rotM M a (a+1) i x=M x:=fun x h3=>rot_off M (by omega)
 intro x y h3 h4 h5;by_cases c1:x+1<i
 ·rw[lo x h3 c1]
  by_cases c2:y+1<i
  ·rw[lo y (by omega) c2];exact h _ _ (by omega) (by omega) (by omega)
  ·by_cases c3:y=i - 1
   ·subst c3;rw[at_];have:=hlt (x+1) (by omega) c1;omega
   ·rw[hi y (by omega)];exact h _ _ (by omega) (by omega) (by omega)
 ·by_cases c2:x=i - 1
  ·subst c2;rw[at_,hi y (by omega)];exact hge y (by omega) h5
  ·rw[hi x (by omega),hi y (by omega)];exact h _ _ (by omega) h4 h5
theorem rot_one_hi {M:Nat→S79} {a m i:Nat} (h:Le M a m) (h1:a≤i) (h2:i≤m) (hle: ∀ y,a≤y→y<i→(M y).f0≤(M m).f0) (hgt: ∀ y,i≤y→y<m→(M m).f0<(M y).f0):Le (rotM M i m (m+1)) a (m+1):=by
 have lo: ∀ x,x<i→rotM M i m (m+1) x=M x:=fun x h3=>rot_off M (by omega)
 have at_:rotM M i m (m+1) i=M m:=by rw[rot_lo M (Nat.le_refl _) (by omega) (by omega) h2];congr 1;omega
 have hi: ∀ x,i<x→x<m+1→rotM M i m (m+1) x=M (x - 1):=fun x h3 h4=>by rw[rot_hi M (by omega) h4 h2];congr 1;omega
 intro x y h3 h4 h5;by_cases c1:x<i
 ·rw[lo x c1]
  by_cases c2:y<i
  ·rw[lo y c2];exact h _ _ h3 h4 (by omega)
  ·by_cases c3:y=i
   ·subst c3;rw[at_];exact hle x h3 c1
   ·rw[hi y (by omega) h5];exact h _ _ h3 (by omega) (by omega)
 ·by_cases c2:x=i
  ·subst c2;rw[at_,hi y h4 h5];have:=hgt (y - 1) (by omega) (by omega);omega
  ·rw[hi x (by omega) (by omega),hi y (by omega) h5];exact h _ _ (by omega) (by omega) (by omega)
theorem sym_rot {M:Nat→S79} {a m b mid s e N:Nat} (h1:Le M a m) (h2:Le M m b) (has:a≤s) (hsm:s≤m) (hme:m≤e) (heb:e≤b) (hsum:s+e=mid+m) (hsmid:s≤mid) (hmide:mid≤e)
  (hge:a<s→e<b→(M (s - 1)).f0≤(M e).f0) (hlt:s<m→m<e→(M (e - 1)).f0<(M s).f0) (hst:Stab M N) (hb:b≤N):
  Stab (rotM M s m e) N∧Le (rotM M s m e) a s∧Le (rotM M s m e) s mid∧Le (rotM M s m e) mid e∧Le (rotM M s m e) e b∧ ∀ x y,a≤x→x<mid→mid≤y→y<b→(rotM M s m e x).f0≤(rotM M s m e y).f0:=by
 have hx: ∀ x y,s≤x→x<m→m≤y→y<e→(M y).f0<(M x).f0:=fun x y h3 h4 h5 h6=>by
  have k1:=hlt (by omega) (by omega);have k2:(M y).f0≤(M (e - 1)).f0:=le_le h2 h5 (by omega) (by omega);have k3:(M s).f0≤(M x).f0:=le_le h1 has h3 h4;omega
 have hy: ∀ x y,a≤x→x<s→e≤y→y<b→(M x).f0≤(M y).f0:=fun x y h3 h4 h5 h6=>by
  have k1:=hge (by omega) (by omega);have k2:(M x).f0≤(M (s - 1)).f0:=le_le h1 h3 (by omega) (by omega);have k3:(M e).f0≤(M y).f0:=le_le h2 hme h5 h6;omega
 have p1: ∀ x,x<s→rotM M s m e x=M x:=fun x h=>rot_off M (by omega)
 have p2: ∀ x,s≤x→x<mid→rotM M s m e x=M (x+(m - s)):=fun x h3 h4=>rot_lo M h3 (by omega) hme hsm
 have p3: ∀ x,mid≤x→x<e→rotM M s m e x=M (x - (e - m)):=fun x h3 h4=>rot_hi M (by omega) h4 hsm
 have p4: ∀ x,e≤x→rotM M s m e x=M x:=fun x h=>rot_off M (by omega)
 refine⟨rot_stab hst hsm hme (by omega) hx,?_,?_,?_,?_,?_⟩
 ·intro x y h3 h4 h5;rw[p1 x (by omega),p1 y h5];exact h1 _ _ h3 h4 (by omega)
 ·intro x y h3 h4 h5;rw[p2 x h3 (by omega),p2 y (by omega) h5];exact h2 _ _ (by omega) (by omega) (by omega)
 ·intro x y h3 h4 h5;rw[p3 x h3 (by omega),p3 y (by omega) h5];exact h1 _ _ (by omega) (by omega) (by omega)
 ·intro x y h3 h4 h5;rw[p4 x h3,p4 y (by omega)];exact h2 _ _ (by omega) h4 h5
 ·intro x y h3 h4 h5 h6
  by_cases c1:x<s
  ·rw[p1 x c1]
   by_cases c2:y<e
   ·rw[p3 y h5 c2];exact le_le h1 h3 (by omega) (by omega)
   ·rw[p4 y (by omega)];exact hy x y h3 c1 (by omega) h6
  ·rw[p2 x (by omega) h4]
   by_cases c2:y<e
   ·rw[p3 y h5 c2];exact Int.le_of_lt (hx _ _ (by omega) (by omega) (by omega) (by omega))
   ·rw[p4 y (by omega)];exact le_le h2 (by omega) (by omega) h6
theorem mix_cross {K L:Nat→S79} {a m b:Nat} (hc: ∀ x y,a≤x→x<m→m≤y→y<b→(K x).f0≤(K y).f0) (h:Mix K L a m∨Mix K L m b):
  ∀ x y,a≤x→x<m→m≤y→y<b→(L x).f0≤(L y).f0:=by
 intro x y h1 h2 h3 h4;rcases h with h|h
 ·obtain⟨z,h5,h6,e⟩:=h.2.1 x h1 h2
  rw[e,h.1 y (by omega)];exact hc z y h5 h6 h3 h4
 ·obtain⟨z,h5,h6,e⟩:=h.2.1 y h3 h4
  rw[e,h.1 x (by omega)];exact hc x z h1 h2 h5 h6
theorem mix_le {K L:Nat→S79} {a b c d:Nat} (h:Mix K L c d) (hd:b≤c∨d≤a) (hl:Le K a b):Le L a b:=fun i j h1 h2 h3=>by
 rw[h.1 i (by omega),h.1 j (by omega)];exact hl i j h1 h2 h3
theorem sw_rot_lo (M:Nat→S79) {a k:Nat} (h:a≤k) (x:Nat):sw (rotM M a (a+1) (k+1)) k x=rotM M a (a+1) (k+2) x:=by
 unfold sw rotM;by_cases e1:x=k
 ·subst e1;rw[Yu rfl,Yv (by omega),Yu (by omega),Yu (by omega)];congr 1;omega
 ·rw[Yv e1]
  by_cases e2:x=k+1
  ·subst e2;rw[Yu rfl,Yu (by omega),Yv (by omega),Yu (by omega),Yv (by omega)];congr 1;omega
  ·rw[Yv e2]
   by_cases e3:a≤x∧x<k
   ·rw[Yu (by omega),Yu (by omega),Yu (by omega),Yu (by omega)]
   ·rw[Yv (by omega),Yv (by omega)]
theorem sw_rot_hi (M:Nat→S79) {k m:Nat} (h:k<m) (x:Nat):sw (rotM M (k+1) m (m+1)) k x=rotM M k m (m+1) x:=by
 unfold sw rotM;by_cases e1:x=k
 ·subst e1;rw[Yu rfl,Yu (by omega),Yu (by omega),Yu (by omega),Yu (by omega)];congr 1;omega
 ·rw[Yv e1]
  by_cases e2:x=k+1
  ·subst e2;rw[Yu rfl,Yv (by omega),Yu (by omega),Yv (by omega)];congr 1;omega
  ·rw[Yv e2]
   by_cases e3:k≤x∧x<m+1
   ·rw[Yu (by omega),Yv (by omega),Yu (by omega),Yv (by omega)]
   ·rw[Yv (by omega),Yv (by omega)]
end H
namespace P
attribute [local go_sem] max2_int min2_int max_two min_two max_three min_three max_four min_four
def adj_from.f (Zb:Int) (Zc:Int) (a0_2:Int) (a0_3:Int):Option (Int):=some Zb
set_option maxHeartbeats 8000000 in
set_option maxRecDepth 100000 in
theorem adj_from.calls (Zb:Int) (Zc:Int) (a0_2:Int) (a0_3:Int) (r:Int) (w:World) (h:adj_from.f Zb Zc a0_2 a0_3=some r):
  Calls Try.prog 96 #[.agg #[.int .i64 Zb, .int .i64 Zc, .int .i64 a0_2, .int .i64 a0_3]] w fun e w'=>e= .returned (.int .i64 r)∧Below w.heap.size w w':=by
 have hu50:=Try.underlying50;have HB:=Ya (Yo w.heap.size w);have H:=h;unfold adj_from.f at H;clear h;obtain rfl:=Option.some.inj H;go_enter Try.func96,Try.ntmps96;go_wp2_with (first|(refine bx 1 50 #[.int .i64 Zb, .int .i64 Zc, .int .i64 a0_2, .int .i64 a0_3] ?_;intro gb120 hg w2 Zg hb;have BK120:=Ya (Zg);have GW120:=Ya ((sz hg));have GE120:=Ya ((sz hg));replace HB:=Ya (Yk bl hb);clear hb Zg hg;have hcz3_0:w2.cell? ⟨gb120,0,none⟩=some (.int .i64 Zb):=bc BK120 0;have hcz3_1:w2.cell? ⟨gb120,1,none⟩=some (.int .i64 Zc):=bc BK120 1;have hcz3_2:w2.cell? ⟨gb120,2,none⟩=some (.int .i64 a0_2):=bc BK120 2;have hcz3_3:w2.cell? ⟨gb120,3,none⟩=some (.int .i64 a0_3):=bc BK120 3;have hfz3_0:=Yf BK120.out 0;have hfz3_1:=Yf BK120.out 1;have hfz3_2:=Yf BK120.out 2;have hfz3_3:=Yf BK120.out 3));go_ret;exact⟨by first|rfl|(simp[errW_none,errW_some]<;>rfl)|(simp[*,errW_none,errW_some]<;>rfl),HB.out⟩
end P
namespace P
attribute [local go_sem] max2_int min2_int max_two min_two max_three min_three max_four min_four
def adj_to.f (Zb:Int) (Zc:Int) (a0_2:Int) (a0_3:Int):Option (Int):=some Zc
set_option maxHeartbeats 8000000 in
set_option maxRecDepth 100000 in
theorem adj_to.calls (Zb:Int) (Zc:Int) (a0_2:Int) (a0_3:Int) (r:Int) (w:World) (h:adj_to.f Zb Zc a0_2 a0_3=some r):
  Calls Try.prog 97 #[.agg #[.int .i64 Zb, .int .i64 Zc, .int .i64 a0_2, .int .i64 a0_3]] w fun e w'=>e= .returned (.int .i64 r)∧Below w.heap.size w w':=by
 have hu50:=Try.underlying50;have HB:=Ya (Yo w.heap.size w);have H:=h;unfold adj_to.f at H;clear h;obtain rfl:=Option.some.inj H;go_enter Try.func97,Try.ntmps97;go_wp2_with (first|(refine bx 1 50 #[.int .i64 Zb, .int .i64 Zc, .int .i64 a0_2, .int .i64 a0_3] ?_;intro gb122 hg w2 Zg hb;have BK122:=Ya (Zg);have GW122:=Ya ((sz hg));have GE122:=Ya ((sz hg));replace HB:=Ya (Yk bl hb);clear hb Zg hg;have hcz3_0:w2.cell? ⟨gb122,0,none⟩=some (.int .i64 Zb):=bc BK122 0;have hcz3_1:w2.cell? ⟨gb122,1,none⟩=some (.int .i64 Zc):=bc BK122 1;have hcz3_2:w2.cell? ⟨gb122,2,none⟩=some (.int .i64 a0_2):=bc BK122 2;have hcz3_3:w2.cell? ⟨gb122,3,none⟩=some (.int .i64 a0_3):=bc BK122 3;have hfz3_0:=Yf BK122.out 0;have hfz3_1:=Yf BK122.out 1;have hfz3_2:=Yf BK122.out 2;have hfz3_3:=Yf BK122.out 3));go_ret;exact⟨by first|rfl|(simp[errW_none,errW_some]<;>rfl)|(simp[*,errW_none,errW_some]<;>rfl),HB.out⟩
end P
namespace H
open P
theorem infoRow:(Try.prog.info? 31).map (fun i=>(i.zero,i.size,i.bytes))=some (some (.slice none 0 0),1,24):=by kernel_rfl
def eFrom (x:S50):Int:=x.f0
def eTo (x:S50):Int:=x.f1
def lsAt (E:S50→Int) (l:List S50) (n:Nat):Nat→List (List Int)
 |0=>List.replicate n []
 |k+1=>(lsAt E l n k).set (E (rd_T50 l k)).toNat (rd_L5 (lsAt E l n k) (E (rd_T50 l k)) ++ [(k:Int)])
theorem lsAt_len (E:S50→Int) (l:List S50) (n k:Nat):(lsAt E l n k).length=n:=by
 induction k with
 |zero=>exact List.length_replicate
 |succ k ih=>show (List.set _ _ _).length=n;rw[List.length_set,ih]
theorem lsAt_row (E:S50→Int) (l:List S50) (n k:Nat) (i:Int):(rd_L5 (lsAt E l n k) i).length≤k:=by
 induction k generalizing i with
 |zero=>
  unfold rd_L5 lsAt;rw[List.getD_eq_getElem?_getD,List.getElem?_replicate];split<;>simp
 |succ k ih=>
  unfold rd_L5;show ((List.set _ _ _).getD i.toNat []).length≤k+1;rw[List.getD_eq_getElem?_getD,List.getElem?_set];have hi:=ih i;unfold rd_L5 at hi;rw[List.getD_eq_getElem?_getD] at hi;split
  ·split
   ·have:=ih (E (rd_T50 l k))
    simp only[Option.getD_some,List.length_append,List.length_cons,List.length_nil];omega
   ·simp
  ·omega
set_option maxHeartbeats 4000000 in
set_option maxRecDepth 100000 in
theorem listsFrom_calls (Zb:Int) (Zc:Bool) (Zf:Option Addr) (Ze:Nat) (Za:List S50) (w:World) (Zq:Kd.C k50 w Zf Za.length Za) (Zr:Za.length≤Ze) (h0:0≤Zb) (h1:Zb≤1000000) (hl:Za.length≤1000000) (hE: ∀ k:Nat,k<Za.length→0≤eFrom (rd_T50 Za k)∧eFrom (rd_T50 Za k)<Zb):
  Calls Try.prog 95 #[.agg #[.int .i64 Zb, .bool Zc, .slice Zf Za.length Ze], .func (.func 96) #[] #[]] w fun e w'=> ∃ v0_:Value,e= .returned v0_∧Kd.S (Kd.slice 3 (Kd.int .i64)) 31 w' w.heap.size (fun _=>True) v0_ (lsAt eFrom Za Zb.toNat Za.length)∧Below w.heap.size w w':=by
 have hu24:=Try.underlying24;have hu74:=Try.underlying50;have Zo:=Ya Zq;have Xo:=Ya Zr;have HE:=Ya hE;clear Zq Zr hE;have HB:=Ya (Yo w.heap.size w);have c2b1:decide (0≤Zb)=true:=Ys h0;have c3b1:decide ((Zb:Int).toNat≤11728124029610)=true:=Ys (by omega);have c2b0:=eq_true h0;have c3b0:((Zb:Int).toNat≤11728124029610)=True:=eq_true (by omega);have HH0:=Ya h0;have HH1:=Ya h1;clear h0 h1;go_enter Try.func95,Try.ntmps95;go_wp2_with (first|((with_reducible refine gate_dst (N:=2) rfl ?_);refine Yw ?hg (N:=2) ?hd (cs:= #[.int .i64 Zb, .bool Zc, .slice Zf Za.length Ze]) (t:=24) ?hr ?_;(case hd=>rfl);(case hg=>rfl);(case hr=>first|(go_simp;done)|(go_simp;rfl));intro Xa hg w4 Zg hb;have n0_:=Ya (Yk (by repeat(first|(with_reducible first|exact HB.out|apply Ye|apply Yd|apply Yg)|exact HB.out)) hb);have n1_:=Ya (Zg);have n3_:=Ya ((by rw[hg];exact(Yi (by repeat(first|(with_reducible first|exact HB.out|apply Ye|apply Yd|apply Yg)|exact HB.out))):w.heap.size≤Xa));clear HB;have HB:=n0_;have Zi:=n1_;have Wf:=n3_;clear n0_ n1_ n3_;clear hb Zg hg;have Up:w4.cell? ⟨Xa,0,none⟩=some (.int .i64 Zb):=(Yc Zi.out 0).trans rfl;have Uq:w4.cell? ⟨Xa,1,none⟩=some (.bool Zc):=(Yc Zi.out 1).trans rfl;have Ur:w4.cell? ⟨Xa,2,none⟩=some (.slice Zf Za.length Ze):=(Yc Zi.out 2).trans rfl;have hfz5_0:=Yf Zi.out 0;have hfz5_1:=Yf Zi.out 1;have hfz5_2:=Yf Zi.out 2)|((with_reducible refine gate_dst (N:=11) rfl ?_);refine Kd.S_make (Kd.slice 3 (Kd.int .i64)) _ 31 rfl (N:=11) rfl 124 _ _ rfl Zb rfl rfl Try.underlying124 (.slice none 0 0) 24 infoRow rfl (by decide) (by omega) [] (ok:=fun _=>True) (okp:=fun _=>True) ⟨_,rfl,Kd.R_nil _ _ _ _ _⟩ (fun _ hk=>hk) trivial (Yr (by first|(with_reducible assumption)|assumption)) (Nat.le_trans (Nat.mul_le_mul_right _ (Yr (by first|(with_reducible assumption)|assumption):Zb.toNat≤11728124029610)) (by omega)) (Yo _ _) (Nat.le_refl _) ?_;intro v113 w6 ho7 hb hg_ hnew_;clear hg_ hnew_;have n0_:=Ya (Kd.S_lower ho7 (Yi (by repeat(first|(with_reducible first|exact HB.out|apply Ye|apply Yd|apply Yg|refine Yh ?_ Wf.out)|exact HB.out))));have n1_:=Ya (Yn (g:=Xa) (o:= .cells #[.int .i64 Zb, .bool Zc, .slice Zf Za.length Ze] 24 (0,0)) (by(with_reducible repeat(first|refine Yl ?_ _|refine Ym ?_|refine Yj ?_ _));exact Zi.out) hb);have n2_:=Ya (Yk (by repeat(first|(with_reducible first|exact HB.out|apply Ye|apply Yd|apply Yg|refine Yh ?_ Wf.out)|exact HB.out)) hb);clear Zi;clear HB;have HO114:=n0_;have Zi:=n1_;have HB:=n2_;clear n0_ n1_ n2_;clear hb ho7;have Wi:w6.cell? ⟨Xa,0,none⟩=some (.int .i64 Zb):=(Yc Zi.out 0).trans rfl;have Wj:w6.cell? ⟨Xa,1,none⟩=some (.bool Zc):=(Yc Zi.out 1).trans rfl;have Wk:w6.cell? ⟨Xa,2,none⟩=some (.slice Zf Za.length Ze):=(Yc Zi.out 2).trans rfl;have Wl:=Yf Zi.out 0;have Wm:=Yf Zi.out 1;have Wn:=Yf Zi.out 2));go_loopw [15] (fun v15 w'=> ∃ k:Nat,k≤Za.length∧v15= .int .i64 k∧Aside0 (Kd.S (Kd.slice 3 (Kd.int .i64)) 31 w' w.heap.size (fun _=>True) v113 (lsAt eFrom Za Zb.toNat k))∧Aside0 (w'.heap[Xa]? =some (.cells #[.int .i64 Zb, .bool Zc,(.slice Zf Za.length Ze)] 24 (0,0)))∧Aside0 (Below w.heap.size w w')) (fun v15 _=>Za.length - (intOf v15).toNat)
 case atStart=>exact⟨0,Nat.zero_le _,rfl,⟨by(with_reducible repeat(first|apply Kd.S_alloc|apply Kd.S_drewN|apply Kd.S_drew));exact HO114.out⟩,⟨by(with_reducible repeat(first|refine Yl ?_ _|refine Ym ?_|refine Yj ?_ _));exact Zi.out⟩,⟨(by repeat(first|(with_reducible first|exact HB.out|apply Ye|apply Yd|apply Yg|refine Yh ?_ Wf.out)|exact HB.out))⟩⟩
 case round=>
  try clear c2b0
  try clear c2b1
  try clear c3b0
  try clear c3b1
  try clear Up Uq Ur Wi Wj Wk hfz5_0 hfz5_1 hfz5_2 Wl Wm Wn
  clear HO114 Zi HB;obtain⟨k,hk,rfl,HO_3,Zi,HB⟩:=hrel;by_cases hlt:k<Za.length
  ·have hEk:=HE.out k hlt
   obtain⟨ex,hex0⟩: ∃ ex,eFrom (rd_T50 Za (k:Int))=ex:=⟨_,rfl⟩;have hex:=Ya hex0;have LSN:Aside0 (lsAt eFrom Za Zb.toNat (k+1)=(lsAt eFrom Za Zb.toNat k).set (ex:Int).toNat (rd_L5 (lsAt eFrom Za Zb.toNat k) ex ++ [(k:Int)])):=⟨by rw[← hex0];rfl⟩;rw[hex0] at hEk;clear hex0;have hlen:=lsAt_len eFrom Za Zb.toNat k;have c12b0:decide (0≤ex)=true:=Ys hEk.1;have c13b0:decide (ex<((lsAt eFrom Za Zb.toNat k).length:Int))=true:=Ys (by rw[hlen];have:=HH0.out;omega);have LMc14:Aside0 ((rd_L5 (lsAt eFrom Za Zb.toNat k) ex).length<17592186044416):=⟨by have:=lsAt_row eFrom Za Zb.toNat k ex;omega⟩;clear hEk hlen;have p115:0≤((k:Nat):Int):=by omega
   have q115:((k:Nat):Int)<(Za.length:Int):=by omega
   obtain⟨Vl,e115,Vc,Vd,Ve,Vf⟩:=at_T50 Zo.out (k:Int) p115 q115;simp only[Int.toNat_natCast] at Vc Vd Ve Vf;cases e115;replace Vc:=(HB.out.cell (Yb w _ Vc)).trans Vc;replace Vd:=(HB.out.cell (Yb w _ Vd)).trans Vd;replace Ve:=(HB.out.cell (Yb w _ Ve)).trans Ve;replace Vf:=(HB.out.cell (Yb w _ Vf)).trans Vf;have c9b0:decide ((k:Int)<(Za.length:Int))=true:=Ys q115;go_wp2_with (first|((with_reducible refine gate_dst (N:=7) rfl ?_);refine Yw ?hg (N:=7) ?hd (cs:= #[.int .i64 0, .int .i64 0, .int .i64 0, .int .i64 0]) (t:=50) ?hr ?_;(case hd=>rfl);(case hg=>rfl);(case hr=>first|(go_simp;done)|(go_simp;rfl));intro Xf hg w16 Zg hb;have n0_:=Ya (Kd.S_below (by(with_reducible repeat(first|apply Kd.S_alloc|apply Kd.S_drewN|apply Kd.S_drew));exact HO_3.out) hb);have n1_:=Ya (Yn (g:=Xa) (o:=(.cells #[.int .i64 Zb, .bool Zc, .slice (some Vl) Za.length Ze] 24 (0,0))) (by(with_reducible repeat(first|refine Yl ?_ _|refine Ym ?_|refine Yj ?_ _));exact Zi.out) hb);have n2_:=Ya (Yk (by repeat(first|(with_reducible first|exact HB.out|apply Ye|apply Yd|apply Yg|refine Yh ?_ Wf.out)|exact HB.out)) hb);have n3_:=Ya (Zg);have n5_:=Ya ((by rw[hg];exact(Yi (by repeat(first|(with_reducible first|exact HB.out|apply Ye|apply Yd|apply Yg|refine Yh ?_ Wf.out)|exact HB.out))):w.heap.size≤Xf));have n6_:=Ya ((by rw[hg];exact Nat.ne_of_lt (blk_lt (g:=Xa) (o:=(.cells #[.int .i64 Zb, .bool Zc, .slice (some Vl) Za.length Ze] 24 (0,0))) (by(with_reducible repeat(first|refine Yl ?_ _|refine Ym ?_|refine Yj ?_ _));exact Zi.out)):Xa≠Xf));have n7_:=Ya ((by rw[hg];exact Nat.ne_of_gt (blk_lt (g:=Xa) (o:=(.cells #[.int .i64 Zb, .bool Zc, .slice (some Vl) Za.length Ze] 24 (0,0))) (by(with_reducible repeat(first|refine Yl ?_ _|refine Ym ?_|refine Yj ?_ _));exact Zi.out)):Xf≠Xa));clear HO_3;clear Zi;clear HB;have HO_3:=n0_;have Zi:=n1_;have HB:=n2_;have Xc:=n3_;have GE116:=n5_;have Xy:=n6_;have Jz:=n7_;clear n0_ n1_ n2_ n3_ n5_ n6_ n7_;clear hb Zg hg;have hnb17:=Jz.out;have hnc17:=Xy.out;have Jn:w16.cell? ⟨Xf,0,none⟩=some (.int .i64 0):=(Yc Xc.out 0).trans rfl;have Jo:w16.cell? ⟨Xf,1,none⟩=some (.int .i64 0):=(Yc Xc.out 1).trans rfl;have Jp:w16.cell? ⟨Xf,2,none⟩=some (.int .i64 0):=(Yc Xc.out 2).trans rfl;have Jq:w16.cell? ⟨Xf,3,none⟩=some (.int .i64 0):=(Yc Xc.out 3).trans rfl;have Jr:=Yf Xc.out 0;have Js:=Yf Xc.out 1;have Jt:=Yf Xc.out 2;have Ju:=Yf Xc.out 3)|((with_reducible refine gate_store (t:=50) (p:=7) rfl ?_);refine store_event (t:=50) (p:=7) (v:= ?vo_w19) (w1:=((((w16.setCell ⟨Xf,0,none⟩ (.int .i64 (rd_T50 Za (k:Int)).f0)).setCell ⟨Xf,1,none⟩ (.int .i64 (rd_T50 Za (k:Int)).f1)).setCell ⟨Xf,2,none⟩ (.int .i64 (rd_T50 Za (k:Int)).f2)).setCell ⟨Xf,3,none⟩ (.int .i64 (rd_T50 Za (k:Int)).f3))) ?hg ?ho ?hn ?hr ?_;(case ho=>rfl);(case hg=>rfl);(case hn=>rfl);(case hr=>first|(go_simp;done)|(go_simp;rfl));intro w19 hw;have n0_:Aside0 (Kd.S (Kd.slice 3 (Kd.int .i64)) 31 w19 w.heap.size (fun _=>True) v113 (lsAt eFrom Za Zb.toNat k)):=⟨(by rw[hw];exact(by(with_reducible repeat(first|apply Kd.S_alloc|apply Kd.S_drewN|apply Kd.S_drew));exact Kd.S_mono (Kd.S_far (p:=⟨Xf,3,none⟩) (Kd.S_far (p:=⟨Xf,2,none⟩) (Kd.S_far (p:=⟨Xf,1,none⟩) (Kd.S_far (p:=⟨Xf,0,none⟩) (Kd.S_types HO_3.out Xc.out (by decide)) (fun _ hk=>hk.2) (.int .i64 (rd_T50 Za (k:Int)).f0)) (fun _ hk=>hk.2) (.int .i64 (rd_T50 Za (k:Int)).f1)) (fun _ hk=>hk.2) (.int .i64 (rd_T50 Za (k:Int)).f2)) (fun _ hk=>hk.2) (.int .i64 (rd_T50 Za (k:Int)).f3)) (fun _ hk=>trivial)))⟩;have n1_:Aside0 (w19.heap[Xa]? =some (.cells #[.int .i64 Zb, .bool Zc, .slice (some Vl) Za.length Ze] 24 (0,0))):=⟨(by rw[hw];exact(by(with_reducible repeat(first|refine Yl ?_ _|refine Ym ?_|refine Yj ?_ _));refine blk_far ?_ Xy.out _;(with_reducible repeat(first|refine Yl ?_ _|refine Ym ?_|refine Yj ?_ _));refine blk_far ?_ Xy.out _;(with_reducible repeat(first|refine Yl ?_ _|refine Ym ?_|refine Yj ?_ _));refine blk_far ?_ Xy.out _;(with_reducible repeat(first|refine Yl ?_ _|refine Ym ?_|refine Yj ?_ _));refine blk_far ?_ Xy.out _;(with_reducible repeat(first|refine Yl ?_ _|refine Ym ?_|refine Yj ?_ _));exact Zi.out))⟩;have n2_:Aside0 (w19.heap[Xf]? =some (.cells #[.int .i64 (rd_T50 Za (k:Int)).f0, .int .i64 (rd_T50 Za (k:Int)).f1, .int .i64 (rd_T50 Za (k:Int)).f2, .int .i64 (rd_T50 Za (k:Int)).f3] 50 (0,0))):=⟨(by rw[hw];exact(by(with_reducible repeat(first|refine Yl ?_ _|refine Ym ?_|refine Yj ?_ _));refine Yx (cs:= #[.int .i64 (rd_T50 Za (k:Int)).f0, .int .i64 (rd_T50 Za (k:Int)).f1, .int .i64 (rd_T50 Za (k:Int)).f2, .int .i64 0]) ?_ 3 _ rfl;(with_reducible repeat(first|refine Yl ?_ _|refine Ym ?_|refine Yj ?_ _));refine Yx (cs:= #[.int .i64 (rd_T50 Za (k:Int)).f0, .int .i64 (rd_T50 Za (k:Int)).f1, .int .i64 0, .int .i64 0]) ?_ 2 _ rfl;(with_reducible repeat(first|refine Yl ?_ _|refine Ym ?_|refine Yj ?_ _));refine Yx (cs:= #[.int .i64 (rd_T50 Za (k:Int)).f0, .int .i64 0, .int .i64 0, .int .i64 0]) ?_ 1 _ rfl;(with_reducible repeat(first|refine Yl ?_ _|refine Ym ?_|refine Yj ?_ _));refine Yx (cs:= #[.int .i64 0, .int .i64 0, .int .i64 0, .int .i64 0]) ?_ 0 _ rfl;(with_reducible repeat(first|refine Yl ?_ _|refine Ym ?_|refine Yj ?_ _));exact Xc.out))⟩;have n3_:Aside0 (Below w.heap.size w w19):=⟨(by rw[hw];exact(by repeat(first|(with_reducible first|exact HB.out|apply Ye|apply Yd|apply Yg|refine Yh ?_ Wf.out|refine Yh ?_ GE116.out)|exact HB.out)))⟩;clear hw;clear HO_3;clear Zi;clear Xc;clear HB;have HO_3:=n0_;have Zi:=n1_;have Xc:=n2_;have HB:=n3_;clear n0_ n1_ n2_ n3_;have hcz20_0:w19.cell? ⟨Xf,0,none⟩=some (.int .i64 (rd_T50 Za (k:Int)).f0):=(Yc Xc.out 0).trans rfl;have hcz20_1:w19.cell? ⟨Xf,1,none⟩=some (.int .i64 (rd_T50 Za (k:Int)).f1):=(Yc Xc.out 1).trans rfl;have hcz20_2:w19.cell? ⟨Xf,2,none⟩=some (.int .i64 (rd_T50 Za (k:Int)).f2):=(Yc Xc.out 2).trans rfl;have hcz20_3:w19.cell? ⟨Xf,3,none⟩=some (.int .i64 (rd_T50 Za (k:Int)).f3):=(Yc Xc.out 3).trans rfl;have hfz20_0:=Yf Xc.out 0;have hfz20_1:=Yf Xc.out 1;have hfz20_2:=Yf Xc.out 2;have hfz20_3:=Yf Xc.out 3)|(go_at_call 96;refine(adj_from.calls (rd_T50 Za (k:Int)).f0 (rd_T50 Za (k:Int)).f1 (rd_T50 Za (k:Int)).f2 (rd_T50 Za (k:Int)).f3 _ _ rfl).mono ?_;rintro e_ w20 ⟨rfl,hb⟩;rw[show (rd_T50 Za (k:Int)).f0=ex from hex.out];have n0_:=Ya (Kd.S_below (by(with_reducible repeat(first|apply Kd.S_alloc|apply Kd.S_drewN|apply Kd.S_drew));exact HO_3.out) hb);have n1_:=Ya (Yn (g:=Xa) (o:=(.cells #[.int .i64 Zb, .bool Zc, .slice (some Vl) Za.length Ze] 24 (0,0))) (by(with_reducible repeat(first|refine Yl ?_ _|refine Ym ?_|refine Yj ?_ _));exact Zi.out) hb);have n2_:=Ya (Yk (by repeat(first|(with_reducible first|exact HB.out|apply Ye|apply Yd|apply Yg|refine Yh ?_ Wf.out|refine Yh ?_ GE116.out)|exact HB.out)) hb);clear HO_3 Zi HB Xc hcz20_0 hcz20_1 hcz20_2 hcz20_3 hfz20_0 hfz20_1 hfz20_2 hfz20_3 hb;have HO_3:=n0_;have Zi:=n1_;have HB:=n2_;clear n0_ n1_ n2_;obtain⟨Ao21,co21,eo21⟩:=Kd.S_slice HO_3.out;subst eo21;have p117:0≤(ex:Int):=(Yr (by first|(with_reducible assumption)|assumption));have q117:ex<((lsAt eFrom Za Zb.toNat k).length:Int):=(Yr (by first|(with_reducible assumption)|assumption));obtain⟨ad117,A117_0,c117_0,e117,Ud,hl117_0,hi117_0⟩:=at_L5 (Kd.S_reads' HO_3.out).2.2 ex p117 q117;cases e117;obtain⟨ce117,hce117,hMe117,hcc117⟩:=Kd.S_get HO_3.out [] ex p117 (by first|exact q117|(have e_:=(Kd.S_reads' HO_3.out).1;omega));obtain⟨ve117_0,rfl,ge117_0⟩:=hMe117;have hv117_0:=hcc117 0 _ rfl;rw[Nat.add_zero,show ((Kd.slice 3 (Kd.int .i64))).sz=1 from rfl,Nat.mul_one] at hv117_0;replace hv117_0:=Option.some.inj (hv117_0.symm.trans Ud);rw[hv117_0] at ge117_0;have HL117_0:=Ya (show Kd.R (Kd.int .i64) 3 _ _ _ _ (rd_L5 (lsAt eFrom Za Zb.toNat k) ex) from ge117_0);clear hv117_0 ge117_0;have HX117_0:=Ya Ud;clear hcc117 hce117;have HR117_0:=Ya hi117_0;have HC117_0:=Ya hl117_0;clear hi117_0 hl117_0;replace p117:=eq_true p117;replace q117:=eq_true q117;obtain⟨go22,co22,eo22,gb22,gl22,cl22,HG22⟩:=Kd.S_form HO_3.out (by have h_:(ex:Int)<((lsAt eFrom Za Zb.toNat k).length:Int):=(Yr (by first|(with_reducible assumption)|assumption));have h2_:0≤(ex:Int):=(Yr (by first|(with_reducible assumption)|assumption));omega);(first|cases eo22|(injection eo22 with ea_ en_ ec_;(first|subst ea_|(injection ea_ with ea_;subst ea_));subst ec_;clear en_));have GB22:=Ya gb22;have GG22:=Ya HG22;clear gb22 gl22 HG22;(first|simp only[add_plain] at Ud|skip);obtain⟨oki22,ce22,hcl22,hM22,hcc22,_,_,hH22⟩:=Kd.S_elem HO_3.out [] (ex:Int) (Yr (by first|(with_reducible assumption)|assumption)) (by have h_:(ex:Int)<((lsAt eFrom Za Zb.toNat k).length:Int):=Yr (by first|(with_reducible assumption)|assumption);first|exact h_|(have e_:=(Kd.S_reads' HO_3.out).1;omega)|simpa using h_);obtain⟨ve22_0,rfl,ge22_0⟩:=hM22;have hv22:=hcc22 0 _ rfl;have hX22:=HX117_0.out;(try simp only[add_plain] at hX22);(try simp only[Nat.add_zero] at hv22);(try rw[show ((Kd.slice 3 (Kd.int .i64))).sz=1 from rfl,Nat.mul_one] at hv22);replace hv22:=Option.some.inj (hv22.symm.trans hX22);subst hv22;clear hX22 hcc22 hcl22;have UU22:=Ya (show Kd.R (Kd.int .i64) 3 _ w.heap.size oki22 (.slice A117_0 (rd_L5 (lsAt eFrom Za Zb.toNat k) ex).length c117_0) (rd_L5 (lsAt eFrom Za Zb.toNat k) ex) from ge22_0);have HH22:=Ya hH22;have HN22:=Ya (Kd.S_reads' HO_3.out).1;clear hH22 ge22_0)|((with_reducible refine gate_builtin (b:= .append) (xs:= #[.tmp 28, .tmp 30]) rfl ?_);at_builtin;refine Kd.R_append (Kd.int .i64) (w0:=w) w.heap.size rfl (.tmp 28) (.tmp 30) 31 3 (.int .i64 0) 8 rfl Try.underlying31 info3 rfl (by decide) (by omega) (.slice A117_0 (rd_L5 (lsAt eFrom Za Zb.toNat k) ex).length c117_0) (rd_L5 (lsAt eFrom Za Zb.toNat k) ex) (k:Int) [.int .i64 (k:Int)] (fun k_=>oki22 k_∨((fun _=>True)) k_∧w20.heap.size≤k_) (fun _=>False) rfl rfl ?aP (fun _ hk=>hk.elim) ?aF ?aO ?aB ?aS ?aL ?_;(case aP=>exact rfl);(case aB=>exact(by repeat(first|(with_reducible first|exact HB.out|apply Ye|apply Yd|apply Yg|refine Yh ?_ Wf.out)|exact HB.out)));(case aF=>exact(fun k_ hk=> .inr ⟨trivial,hk⟩));(case aO=>exact(by(with_reducible repeat(first|apply Kd.R_alloc|apply Kd.R_drewN|apply Kd.R_drew));exact Kd.R_mono UU22.out (fun _ hk=> .inl hk)));(case aS=>exact(Yi (by repeat(first|(with_reducible first|exact HB.out|apply Ye|apply Yd|apply Yg|refine Yh ?_ Wf.out)|exact HB.out))));(case aL=>have:=LMc14.out;omega);intro v119 w23 ho hb hg hat;have n0_:=Ya (blk_grown (g:=Xa) (o:=(.cells #[.int .i64 Zb, .bool Zc, .slice (some Vl) Za.length Ze] 24 (0,0))) (by(with_reducible repeat(first|refine Yl ?_ _|refine Ym ?_|refine Yj ?_ _));exact Zi.out) hg (Kd.R_ne HL117_0.out Zi.out (by decide)));have n2_:=Ya (hb);have n3_:=Ya (Kd.H_grown (Kd.H_widen (by repeat(first|exact HH22.out|refine Kd.H_alloc ?_ _|refine Kd.H_drewN ?_ _|refine Kd.H_drew ?_))) hg (fun k_ e_=> .inl (UU22.out.1 k_ e_)));have n4_:=Ya (ho);clear Zi;clear HB;clear HH22;clear HO_3;clear UU22;clear HL117_0;have Zi:=n0_;have HB:=n2_;have HH22:=n3_;have HO120:=n4_;clear n0_ n2_ n3_ n4_;clear ho hb hg hat;have p15:0≤(ex:Int):=(Yr (by first|(with_reducible assumption)|assumption));have q15:(ex:Int)<((lsAt eFrom Za Zb.toNat k).length:Int):=(Yr (by first|(with_reducible assumption)|assumption));replace p15:=eq_true p15;replace q15:=eq_true q15;obtain⟨Ao26,co26,eo26⟩:=Kd.R_slice HO120.out;subst eo26;obtain⟨_,_,hraw24,_,_,hcc24,_⟩:=Kd.H_raw HH22.out (Yr (by first|(with_reducible assumption)|assumption)) (by have h_:(ex:Int)<((lsAt eFrom Za Zb.toNat k).length:Int):=Yr (by first|(with_reducible assumption)|assumption);first|exact h_|(have e_:=(HN22.out);omega)|simpa using h_);obtain⟨_,hfr24⟩:=Kd.H_at HH22.out (Yr (by first|(with_reducible assumption)|assumption)) (by have h_:(ex:Int)<((lsAt eFrom Za Zb.toNat k).length:Int):=Yr (by first|(with_reducible assumption)|assumption);first|exact h_|(have e_:=(HN22.out);omega)|simpa using h_);have hx24_0:=hcc24 0 _ rfl;have hf24_0:=hfr24 0;(try simp only[Nat.add_zero] at hx24_0 hf24_0);(try rw[show ((Kd.slice 3 (Kd.int .i64))).sz=1 from rfl,Nat.mul_one] at hx24_0);(try rw[show ((Kd.slice 3 (Kd.int .i64))).sz=1 from rfl,Nat.mul_one] at hf24_0);have HP24:=Kd.S_seg0 HH22.out (Yr (by first|(with_reducible assumption)|assumption)) (by have h_:(ex:Int)<((lsAt eFrom Za Zb.toNat k).length:Int):=Yr (by first|(with_reducible assumption)|assumption);first|exact h_|(have e_:=(HN22.out);omega)|simpa using h_) (seg:=[.slice Ao26 (rd_L5 (lsAt eFrom Za Zb.toNat k) ex ++ [(k:Int)]).length co26]) (j:=0) (show 1≤1 from by decide) (x':=rd_L5 (lsAt eFrom Za Zb.toNat k) ex ++ [(k:Int)]) (Kd.M_row HO120.out) (fun _ hk=>hk);(try simp only[show ((Kd.slice 3 (Kd.int .i64))).sz=1 from rfl,Nat.mul_one,Nat.add_zero] at HP24);clear hcc24 hfr24)|((with_reducible refine gate_store (t:=31) (p:=32) rfl ?_);refine store_event (t:=31) (p:=32) (v:= ?vo_w25) (w1:=(w23.setCell ⟨go22,(ex:Int).toNat,none⟩ (.slice Ao26 (rd_L5 (lsAt eFrom Za Zb.toNat k) ex ++ [(k:Int)]).length co26))) ?hg ?ho ?hn ?hr ?_;(case ho=>rfl);(case hg=>rfl);(case hn=>rfl);(case hr=>first|(go_simp;done)|(go_simp;rfl));intro w25 hw;have hg:w23.grownBy w25 (some go22):=(by rw[hw];exact HP24.2);have hp_:Kd.S (Kd.slice 3 (Kd.int .i64)) 31 w25 w.heap.size (fun _=>True) (.slice (some ⟨go22,0,none⟩) (lsAt eFrom Za Zb.toNat k).length co21) (lsAt eFrom Za Zb.toNat (k+1)):=(by rw[hw,LSN.out];exact HP24.1);clear HP24;have n0_:=Ya (blk_grown (g:=Xa) (o:=(.cells #[.int .i64 Zb, .bool Zc, .slice (some Vl) Za.length Ze] 24 (0,0))) (by(with_reducible repeat(first|refine Yl ?_ _|refine Ym ?_|refine Yj ?_ _));exact Zi.out) hg (Kd.R_ne hraw24 Zi.out (by decide)));have n2_:=Ya ((by rw[hw];exact Yh HB.out GB22.out:Below w.heap.size w w25));have n3_:=Ya (hp_);clear Zi;clear HB;clear HO120;clear HH22;have Zi:=n0_;have HB:=n2_;have HO_3:=n3_;clear n0_ n2_ n3_;clear hg hw hp_ hraw24));go_roundw
   case rel=>exact⟨k+1,by omega,by first|rfl|go_num,⟨by(with_reducible repeat(first|apply Kd.S_alloc|apply Kd.S_drewN|apply Kd.S_drew));exact HO_3.out⟩,⟨by(with_reducible repeat(first|refine Yl ?_ _|refine Ym ?_|refine Yj ?_ _));exact Zi.out⟩,⟨(by repeat(first|(with_reducible first|exact HB.out|apply Ye|apply Yd|apply Yg|refine Yh ?_ Wf.out)|exact HB.out))⟩⟩
   case measure=>simp[intOf]<;>omega
  ·have ek:k=Za.length:=by omega
   subst ek;have c9b0:decide ((Za.length:Int)<(Za.length:Int))=false:=Yt (by omega);go_wp2;go_ret;exact⟨_,rfl,by(with_reducible repeat(first|apply Kd.S_alloc|apply Kd.S_drewN|apply Kd.S_drew));exact HO_3.out,(by repeat(first|(with_reducible first|exact HB.out|apply Ye|apply Yd|apply Yg|refine Yh ?_ Wf.out)|exact HB.out))⟩
set_option maxHeartbeats 4000000 in
set_option maxRecDepth 100000 in
theorem listsTo_calls (Zb:Int) (Zc:Bool) (Zf:Option Addr) (Ze:Nat) (Za:List S50) (w:World) (Zq:Kd.C k50 w Zf Za.length Za) (Zr:Za.length≤Ze) (h0:0≤Zb) (h1:Zb≤1000000) (hl:Za.length≤1000000) (hE: ∀ k:Nat,k<Za.length→0≤eTo (rd_T50 Za k)∧eTo (rd_T50 Za k)<Zb):
  Calls Try.prog 95 #[.agg #[.int .i64 Zb, .bool Zc, .slice Zf Za.length Ze], .func (.func 97) #[] #[]] w fun e w'=> ∃ v0_:Value,e= .returned v0_∧Kd.S (Kd.slice 3 (Kd.int .i64)) 31 w' w.heap.size (fun _=>True) v0_ (lsAt eTo Za Zb.toNat Za.length)∧Below w.heap.size w w':=by
 have hu24:=Try.underlying24;have hu74:=Try.underlying50;have Zo:=Ya Zq;have Xo:=Ya Zr;have HE:=Ya hE;clear Zq Zr hE;have HB:=Ya (Yo w.heap.size w);have c2b1:decide (0≤Zb)=true:=Ys h0;have c3b1:decide ((Zb:Int).toNat≤11728124029610)=true:=Ys (by omega);have c2b0:=eq_true h0;have c3b0:((Zb:Int).toNat≤11728124029610)=True:=eq_true (by omega);have HH0:=Ya h0;have HH1:=Ya h1;clear h0 h1;go_enter Try.func95,Try.ntmps95;go_wp2_with (first|((with_reducible refine gate_dst (N:=2) rfl ?_);refine Yw ?hg (N:=2) ?hd (cs:= #[.int .i64 Zb, .bool Zc, .slice Zf Za.length Ze]) (t:=24) ?hr ?_;(case hd=>rfl);(case hg=>rfl);(case hr=>first|(go_simp;done)|(go_simp;rfl));intro Xa hg w4 Zg hb;have n0_:=Ya (Yk (by repeat(first|(with_reducible first|exact HB.out|apply Ye|apply Yd|apply Yg)|exact HB.out)) hb);have n1_:=Ya (Zg);have n3_:=Ya ((by rw[hg];exact(Yi (by repeat(first|(with_reducible first|exact HB.out|apply Ye|apply Yd|apply Yg)|exact HB.out))):w.heap.size≤Xa));clear HB;have HB:=n0_;have Zi:=n1_;have Wf:=n3_;clear n0_ n1_ n3_;clear hb Zg hg;have Up:w4.cell? ⟨Xa,0,none⟩=some (.int .i64 Zb):=(Yc Zi.out 0).trans rfl;have Uq:w4.cell? ⟨Xa,1,none⟩=some (.bool Zc):=(Yc Zi.out 1).trans rfl;have Ur:w4.cell? ⟨Xa,2,none⟩=some (.slice Zf Za.length Ze):=(Yc Zi.out 2).trans rfl;have hfz5_0:=Yf Zi.out 0;have hfz5_1:=Yf Zi.out 1;have hfz5_2:=Yf Zi.out 2)|((with_reducible refine gate_dst (N:=11) rfl ?_);refine Kd.S_make (Kd.slice 3 (Kd.int .i64)) _ 31 rfl (N:=11) rfl 124 _ _ rfl Zb rfl rfl Try.underlying124 (.slice none 0 0) 24 infoRow rfl (by decide) (by omega) [] (ok:=fun _=>True) (okp:=fun _=>True) ⟨_,rfl,Kd.R_nil _ _ _ _ _⟩ (fun _ hk=>hk) trivial (Yr (by first|(with_reducible assumption)|assumption)) (Nat.le_trans (Nat.mul_le_mul_right _ (Yr (by first|(with_reducible assumption)|assumption):Zb.toNat≤11728124029610)) (by omega)) (Yo _ _) (Nat.le_refl _) ?_;intro v113 w6 ho7 hb hg_ hnew_;clear hg_ hnew_;have n0_:=Ya (Kd.S_lower ho7 (Yi (by repeat(first|(with_reducible first|exact HB.out|apply Ye|apply Yd|apply Yg|refine Yh ?_ Wf.out)|exact HB.out))));have n1_:=Ya (Yn (g:=Xa) (o:= .cells #[.int .i64 Zb, .bool Zc, .slice Zf Za.length Ze] 24 (0,0)) (by(with_reducible repeat(first|refine Yl ?_ _|refine Ym ?_|refine Yj ?_ _));exact Zi.out) hb);have n2_:=Ya (Yk (by repeat(first|(with_reducible first|exact HB.out|apply Ye|apply Yd|apply Yg|refine Yh ?_ Wf.out)|exact HB.out)) hb);clear Zi;clear HB;have HO114:=n0_;have Zi:=n1_;have HB:=n2_;clear n0_ n1_ n2_;clear hb ho7;have Wi:w6.cell? ⟨Xa,0,none⟩=some (.int .i64 Zb):=(Yc Zi.out 0).trans rfl;have Wj:w6.cell? ⟨Xa,1,none⟩=some (.bool Zc):=(Yc Zi.out 1).trans rfl;have Wk:w6.cell? ⟨Xa,2,none⟩=some (.slice Zf Za.length Ze):=(Yc Zi.out 2).trans rfl;have Wl:=Yf Zi.out 0;have Wm:=Yf Zi.out 1;have Wn:=Yf Zi.out 2));go_loopw [15] (fun v15 w'=> ∃ k:Nat,k≤Za.length∧v15= .int .i64 k∧Aside0 (Kd.S (Kd.slice 3 (Kd.int .i64)) 31 w' w.heap.size (fun _=>True) v113 (lsAt eTo Za Zb.toNat k))∧Aside0 (w'.heap[Xa]? =some (.cells #[.int .i64 Zb, .bool Zc,(.slice Zf Za.length Ze)] 24 (0,0)))∧Aside0 (Below w.heap.size w w')) (fun v15 _=>Za.length - (intOf v15).toNat)
 case atStart=>exact⟨0,Nat.zero_le _,rfl,⟨by(with_reducible repeat(first|apply Kd.S_alloc|apply Kd.S_drewN|apply Kd.S_drew));exact HO114.out⟩,⟨by(with_reducible repeat(first|refine Yl ?_ _|refine Ym ?_|refine Yj ?_ _));exact Zi.out⟩,⟨(by repeat(first|(with_reducible first|exact HB.out|apply Ye|apply Yd|apply Yg|refine Yh ?_ Wf.out)|exact HB.out))⟩⟩
 case round=>
  try clear c2b0
  try clear c2b1
  try clear c3b0
  try clear c3b1
  try clear Up Uq Ur Wi Wj Wk hfz5_0 hfz5_1 hfz5_2 Wl Wm Wn
  clear HO114 Zi HB;obtain⟨k,hk,rfl,HO_3,Zi,HB⟩:=hrel;by_cases hlt:k<Za.length
  ·have hEk:=HE.out k hlt
   obtain⟨ex,hex0⟩: ∃ ex,eTo (rd_T50 Za (k:Int))=ex:=⟨_,rfl⟩;have hex:=Ya hex0;have LSN:Aside0 (lsAt eTo Za Zb.toNat (k+1)=(lsAt eTo Za Zb.toNat k).set (ex:Int).toNat (rd_L5 (lsAt eTo Za Zb.toNat k) ex ++ [(k:Int)])):=⟨by rw[← hex0];rfl⟩;rw[hex0] at hEk;clear hex0;have hlen:=lsAt_len eTo Za Zb.toNat k;have c12b0:decide (0≤ex)=true:=Ys hEk.1;have c13b0:decide (ex<((lsAt eTo Za Zb.toNat k).length:Int))=true:=Ys (by rw[hlen];have:=HH0.out;omega);have LMc14:Aside0 ((rd_L5 (lsAt eTo Za Zb.toNat k) ex).length<17592186044416):=⟨by have:=lsAt_row eTo Za Zb.toNat k ex;omega⟩;clear hEk hlen;have p115:0≤((k:Nat):Int):=by omega
   have q115:((k:Nat):Int)<(Za.length:Int):=by omega
   obtain⟨Vl,e115,Vc,Vd,Ve,Vf⟩:=at_T50 Zo.out (k:Int) p115 q115;simp only[Int.toNat_natCast] at Vc Vd Ve Vf;cases e115;replace Vc:=(HB.out.cell (Yb w _ Vc)).trans Vc;replace Vd:=(HB.out.cell (Yb w _ Vd)).trans Vd;replace Ve:=(HB.out.cell (Yb w _ Ve)).trans Ve;replace Vf:=(HB.out.cell (Yb w _ Vf)).trans Vf;have c9b0:decide ((k:Int)<(Za.length:Int))=true:=Ys q115;go_wp2_with (first|((with_reducible refine gate_dst (N:=7) rfl ?_);refine Yw ?hg (N:=7) ?hd (cs:= #[.int .i64 0, .int .i64 0, .int .i64 0, .int .i64 0]) (t:=50) ?hr ?_;(case hd=>rfl);(case hg=>rfl);(case hr=>first|(go_simp;done)|(go_simp;rfl));intro Xf hg w16 Zg hb;have n0_:=Ya (Kd.S_below (by(with_reducible repeat(first|apply Kd.S_alloc|apply Kd.S_drewN|apply Kd.S_drew));exact HO_3.out) hb);have n1_:=Ya (Yn (g:=Xa) (o:=(.cells #[.int .i64 Zb, .bool Zc, .slice (some Vl) Za.length Ze] 24 (0,0))) (by(with_reducible repeat(first|refine Yl ?_ _|refine Ym ?_|refine Yj ?_ _));exact Zi.out) hb);have n2_:=Ya (Yk (by repeat(first|(with_reducible first|exact HB.out|apply Ye|apply Yd|apply Yg|refine Yh ?_ Wf.out)|exact HB.out)) hb);have n3_:=Ya (Zg);have n5_:=Ya ((by rw[hg];exact(Yi (by repeat(first|(with_reducible first|exact HB.out|apply Ye|apply Yd|apply Yg|refine Yh ?_ Wf.out)|exact HB.out))):w.heap.size≤Xf));have n6_:=Ya ((by rw[hg];exact Nat.ne_of_lt (blk_lt (g:=Xa) (o:=(.cells #[.int .i64 Zb, .bool Zc, .slice (some Vl) Za.length Ze] 24 (0,0))) (by(with_reducible repeat(first|refine Yl ?_ _|refine Ym ?_|refine Yj ?_ _));exact Zi.out)):Xa≠Xf));have n7_:=Ya ((by rw[hg];exact Nat.ne_of_gt (blk_lt (g:=Xa) (o:=(.cells #[.int .i64 Zb, .bool Zc, .slice (some Vl) Za.length Ze] 24 (0,0))) (by(with_reducible repeat(first|refine Yl ?_ _|refine Ym ?_|refine Yj ?_ _));exact Zi.out)):Xf≠Xa));clear HO_3;clear Zi;clear HB;have HO_3:=n0_;have Zi:=n1_;have HB:=n2_;have Xc:=n3_;have GE116:=n5_;have Xy:=n6_;have Jz:=n7_;clear n0_ n1_ n2_ n3_ n5_ n6_ n7_;clear hb Zg hg;have hnb17:=Jz.out;have hnc17:=Xy.out;have Jn:w16.cell? ⟨Xf,0,none⟩=some (.int .i64 0):=(Yc Xc.out 0).trans rfl;have Jo:w16.cell? ⟨Xf,1,none⟩=some (.int .i64 0):=(Yc Xc.out 1).trans rfl;have Jp:w16.cell? ⟨Xf,2,none⟩=some (.int .i64 0):=(Yc Xc.out 2).trans rfl;have Jq:w16.cell? ⟨Xf,3,none⟩=some (.int .i64 0):=(Yc Xc.out 3).trans rfl;have Jr:=Yf Xc.out 0;have Js:=Yf Xc.out 1;have Jt:=Yf Xc.out 2;have Ju:=Yf Xc.out 3)|((with_reducible refine gate_store (t:=50) (p:=7) rfl ?_);refine store_event (t:=50) (p:=7) (v:= ?vo_w19) (w1:=((((w16.setCell ⟨Xf,0,none⟩ (.int .i64 (rd_T50 Za (k:Int)).f0)).setCell ⟨Xf,1,none⟩ (.int .i64 (rd_T50 Za (k:Int)).f1)).setCell ⟨Xf,2,none⟩ (.int .i64 (rd_T50 Za (k:Int)).f2)).setCell ⟨Xf,3,none⟩ (.int .i64 (rd_T50 Za (k:Int)).f3))) ?hg ?ho ?hn ?hr ?_;(case ho=>rfl);(case hg=>rfl);(case hn=>rfl);(case hr=>first|(go_simp;done)|(go_simp;rfl));intro w19 hw;have n0_:Aside0 (Kd.S (Kd.slice 3 (Kd.int .i64)) 31 w19 w.heap.size (fun _=>True) v113 (lsAt eTo Za Zb.toNat k)):=⟨(by rw[hw];exact(by(with_reducible repeat(first|apply Kd.S_alloc|apply Kd.S_drewN|apply Kd.S_drew));exact Kd.S_mono (Kd.S_far (p:=⟨Xf,3,none⟩) (Kd.S_far (p:=⟨Xf,2,none⟩) (Kd.S_far (p:=⟨Xf,1,none⟩) (Kd.S_far (p:=⟨Xf,0,none⟩) (Kd.S_types HO_3.out Xc.out (by decide)) (fun _ hk=>hk.2) (.int .i64 (rd_T50 Za (k:Int)).f0)) (fun _ hk=>hk.2) (.int .i64 (rd_T50 Za (k:Int)).f1)) (fun _ hk=>hk.2) (.int .i64 (rd_T50 Za (k:Int)).f2)) (fun _ hk=>hk.2) (.int .i64 (rd_T50 Za (k:Int)).f3)) (fun _ hk=>trivial)))⟩;have n1_:Aside0 (w19.heap[Xa]? =some (.cells #[.int .i64 Zb, .bool Zc, .slice (some Vl) Za.length Ze] 24 (0,0))):=⟨(by rw[hw];exact(by(with_reducible repeat(first|refine Yl ?_ _|refine Ym ?_|refine Yj ?_ _));refine blk_far ?_ Xy.out _;(with_reducible repeat(first|refine Yl ?_ _|refine Ym ?_|refine Yj ?_ _));refine blk_far ?_ Xy.out _;(with_reducible repeat(first|refine Yl ?_ _|refine Ym ?_|refine Yj ?_ _));refine blk_far ?_ Xy.out _;(with_reducible repeat(first|refine Yl ?_ _|refine Ym ?_|refine Yj ?_ _));refine blk_far ?_ Xy.out _;(with_reducible repeat(first|refine Yl ?_ _|refine Ym ?_|refine Yj ?_ _));exact Zi.out))⟩;have n2_:Aside0 (w19.heap[Xf]? =some (.cells #[.int .i64 (rd_T50 Za (k:Int)).f0, .int .i64 (rd_T50 Za (k:Int)).f1, .int .i64 (rd_T50 Za (k:Int)).f2, .int .i64 (rd_T50 Za (k:Int)).f3] 50 (0,0))):=⟨(by rw[hw];exact(by(with_reducible repeat(first|refine Yl ?_ _|refine Ym ?_|refine Yj ?_ _));refine Yx (cs:= #[.int .i64 (rd_T50 Za (k:Int)).f0, .int .i64 (rd_T50 Za (k:Int)).f1, .int .i64 (rd_T50 Za (k:Int)).f2, .int .i64 0]) ?_ 3 _ rfl;(with_reducible repeat(first|refine Yl ?_ _|refine Ym ?_|refine Yj ?_ _));refine Yx (cs:= #[.int .i64 (rd_T50 Za (k:Int)).f0, .int .i64 (rd_T50 Za (k:Int)).f1, .int .i64 0, .int .i64 0]) ?_ 2 _ rfl;(with_reducible repeat(first|refine Yl ?_ _|refine Ym ?_|refine Yj ?_ _));refine Yx (cs:= #[.int .i64 (rd_T50 Za (k:Int)).f0, .int .i64 0, .int .i64 0, .int .i64 0]) ?_ 1 _ rfl;(with_reducible repeat(first|refine Yl ?_ _|refine Ym ?_|refine Yj ?_ _));refine Yx (cs:= #[.int .i64 0, .int .i64 0, .int .i64 0, .int .i64 0]) ?_ 0 _ rfl;(with_reducible repeat(first|refine Yl ?_ _|refine Ym ?_|refine Yj ?_ _));exact Xc.out))⟩;have n3_:Aside0 (Below w.heap.size w w19):=⟨(by rw[hw];exact(by repeat(first|(with_reducible first|exact HB.out|apply Ye|apply Yd|apply Yg|refine Yh ?_ Wf.out|refine Yh ?_ GE116.out)|exact HB.out)))⟩;clear hw;clear HO_3;clear Zi;clear Xc;clear HB;have HO_3:=n0_;have Zi:=n1_;have Xc:=n2_;have HB:=n3_;clear n0_ n1_ n2_ n3_;have hcz20_0:w19.cell? ⟨Xf,0,none⟩=some (.int .i64 (rd_T50 Za (k:Int)).f0):=(Yc Xc.out 0).trans rfl;have hcz20_1:w19.cell? ⟨Xf,1,none⟩=some (.int .i64 (rd_T50 Za (k:Int)).f1):=(Yc Xc.out 1).trans rfl;have hcz20_2:w19.cell? ⟨Xf,2,none⟩=some (.int .i64 (rd_T50 Za (k:Int)).f2):=(Yc Xc.out 2).trans rfl;have hcz20_3:w19.cell? ⟨Xf,3,none⟩=some (.int .i64 (rd_T50 Za (k:Int)).f3):=(Yc Xc.out 3).trans rfl;have hfz20_0:=Yf Xc.out 0;have hfz20_1:=Yf Xc.out 1;have hfz20_2:=Yf Xc.out 2;have hfz20_3:=Yf Xc.out 3)|(go_at_call 97;refine(adj_to.calls (rd_T50 Za (k:Int)).f0 (rd_T50 Za (k:Int)).f1 (rd_T50 Za (k:Int)).f2 (rd_T50 Za (k:Int)).f3 _ _ rfl).mono ?_;rintro e_ w20 ⟨rfl,hb⟩;rw[show (rd_T50 Za (k:Int)).f1=ex from hex.out];have n0_:=Ya (Kd.S_below (by(with_reducible repeat(first|apply Kd.S_alloc|apply Kd.S_drewN|apply Kd.S_drew));exact HO_3.out) hb);have n1_:=Ya (Yn (g:=Xa) (o:=(.cells #[.int .i64 Zb, .bool Zc, .slice (some Vl) Za.length Ze] 24 (0,0))) (by(with_reducible repeat(first|refine Yl ?_ _|refine Ym ?_|refine Yj ?_ _));exact Zi.out) hb);have n2_:=Ya (Yk (by repeat(first|(with_reducible first|exact HB.out|apply Ye|apply Yd|apply Yg|refine Yh ?_ Wf.out|refine Yh ?_ GE116.out)|exact HB.out)) hb);clear HO_3 Zi HB Xc hcz20_0 hcz20_1 hcz20_2 hcz20_3 hfz20_0 hfz20_1 hfz20_2 hfz20_3 hb;have HO_3:=n0_;have Zi:=n1_;have HB:=n2_;clear n0_ n1_ n2_;obtain⟨Ao21,co21,eo21⟩:=Kd.S_slice HO_3.out;subst eo21;have p117:0≤(ex:Int):=(Yr (by first|(with_reducible assumption)|assumption));have q117:ex<((lsAt eTo Za Zb.toNat k).length:Int):=(Yr (by first|(with_reducible assumption)|assumption));obtain⟨ad117,A117_0,c117_0,e117,Ud,hl117_0,hi117_0⟩:=at_L5 (Kd.S_reads' HO_3.out).2.2 ex p117 q117;cases e117;obtain⟨ce117,hce117,hMe117,hcc117⟩:=Kd.S_get HO_3.out [] ex p117 (by first|exact q117|(have e_:=(Kd.S_reads' HO_3.out).1;omega));obtain⟨ve117_0,rfl,ge117_0⟩:=hMe117;have hv117_0:=hcc117 0 _ rfl;rw[Nat.add_zero,show ((Kd.slice 3 (Kd.int .i64))).sz=1 from rfl,Nat.mul_one] at hv117_0;replace hv117_0:=Option.some.inj (hv117_0.symm.trans Ud);rw[hv117_0] at ge117_0;have HL117_0:=Ya (show Kd.R (Kd.int .i64) 3 _ _ _ _ (rd_L5 (lsAt eTo Za Zb.toNat k) ex) from ge117_0);clear hv117_0 ge117_0;have HX117_0:=Ya Ud;clear hcc117 hce117;have HR117_0:=Ya hi117_0;have HC117_0:=Ya hl117_0;clear hi117_0 hl117_0;replace p117:=eq_true p117;replace q117:=eq_true q117;obtain⟨go22,co22,eo22,gb22,gl22,cl22,HG22⟩:=Kd.S_form HO_3.out (by have h_:(ex:Int)<((lsAt eTo Za Zb.toNat k).length:Int):=(Yr (by first|(with_reducible assumption)|assumption));have h2_:0≤(ex:Int):=(Yr (by first|(with_reducible assumption)|assumption));omega);(first|cases eo22|(injection eo22 with ea_ en_ ec_;(first|subst ea_|(injection ea_ with ea_;subst ea_));subst ec_;clear en_));have GB22:=Ya gb22;have GG22:=Ya HG22;clear gb22 gl22 HG22;(first|simp only[add_plain] at Ud|skip);obtain⟨oki22,ce22,hcl22,hM22,hcc22,_,_,hH22⟩:=Kd.S_elem HO_3.out [] (ex:Int) (Yr (by first|(with_reducible assumption)|assumption)) (by have h_:(ex:Int)<((lsAt eTo Za Zb.toNat k).length:Int):=Yr (by first|(with_reducible assumption)|assumption);first|exact h_|(have e_:=(Kd.S_reads' HO_3.out).1;omega)|simpa using h_);obtain⟨ve22_0,rfl,ge22_0⟩:=hM22;have hv22:=hcc22 0 _ rfl;have hX22:=HX117_0.out;(try simp only[add_plain] at hX22);(try simp only[Nat.add_zero] at hv22);(try rw[show ((Kd.slice 3 (Kd.int .i64))).sz=1 from rfl,Nat.mul_one] at hv22);replace hv22:=Option.some.inj (hv22.symm.trans hX22);subst hv22;clear hX22 hcc22 hcl22;have UU22:=Ya (show Kd.R (Kd.int .i64) 3 _ w.heap.size oki22 (.slice A117_0 (rd_L5 (lsAt eTo Za Zb.toNat k) ex).length c117_0) (rd_L5 (lsAt eTo Za Zb.toNat k) ex) from ge22_0);have HH22:=Ya hH22;have HN22:=Ya (Kd.S_reads' HO_3.out).1;clear hH22 ge22_0)|((with_reducible refine gate_builtin (b:= .append) (xs:= #[.tmp 28, .tmp 30]) rfl ?_);at_builtin;refine Kd.R_append (Kd.int .i64) (w0:=w) w.heap.size rfl (.tmp 28) (.tmp 30) 31 3 (.int .i64 0) 8 rfl Try.underlying31 info3 rfl (by decide) (by omega) (.slice A117_0 (rd_L5 (lsAt eTo Za Zb.toNat k) ex).length c117_0) (rd_L5 (lsAt eTo Za Zb.toNat k) ex) (k:Int) [.int .i64 (k:Int)] (fun k_=>oki22 k_∨((fun _=>True)) k_∧w20.heap.size≤k_) (fun _=>False) rfl rfl ?aP (fun _ hk=>hk.elim) ?aF ?aO ?aB ?aS ?aL ?_;(case aP=>exact rfl);(case aB=>exact(by repeat(first|(with_reducible first|exact HB.out|apply Ye|apply Yd|apply Yg|refine Yh ?_ Wf.out)|exact HB.out)));(case aF=>exact(fun k_ hk=> .inr ⟨trivial,hk⟩));(case aO=>exact(by(with_reducible repeat(first|apply Kd.R_alloc|apply Kd.R_drewN|apply Kd.R_drew));exact Kd.R_mono UU22.out (fun _ hk=> .inl hk)));(case aS=>exact(Yi (by repeat(first|(with_reducible first|exact HB.out|apply Ye|apply Yd|apply Yg|refine Yh ?_ Wf.out)|exact HB.out))));(case aL=>have:=LMc14.out;omega);intro v119 w23 ho hb hg hat;have n0_:=Ya (blk_grown (g:=Xa) (o:=(.cells #[.int .i64 Zb, .bool Zc, .slice (some Vl) Za.length Ze] 24 (0,0))) (by(with_reducible repeat(first|refine Yl ?_ _|refine Ym ?_|refine Yj ?_ _));exact Zi.out) hg (Kd.R_ne HL117_0.out Zi.out (by decide)));have n2_:=Ya (hb);have n3_:=Ya (Kd.H_grown (Kd.H_widen (by repeat(first|exact HH22.out|refine Kd.H_alloc ?_ _|refine Kd.H_drewN ?_ _|refine Kd.H_drew ?_))) hg (fun k_ e_=> .inl (UU22.out.1 k_ e_)));have n4_:=Ya (ho);clear Zi;clear HB;clear HH22;clear HO_3;clear UU22;clear HL117_0;have Zi:=n0_;have HB:=n2_;have HH22:=n3_;have HO120:=n4_;clear n0_ n2_ n3_ n4_;clear ho hb hg hat;have p15:0≤(ex:Int):=(Yr (by first|(with_reducible assumption)|assumption));have q15:(ex:Int)<((lsAt eTo Za Zb.toNat k).length:Int):=(Yr (by first|(with_reducible assumption)|assumption));replace p15:=eq_true p15;replace q15:=eq_true q15;obtain⟨Ao26,co26,eo26⟩:=Kd.R_slice HO120.out;subst eo26;obtain⟨_,_,hraw24,_,_,hcc24,_⟩:=Kd.H_raw HH22.out (Yr (by first|(with_reducible assumption)|assumption)) (by have h_:(ex:Int)<((lsAt eTo Za Zb.toNat k).length:Int):=Yr (by first|(with_reducible assumption)|assumption);first|exact h_|(have e_:=(HN22.out);omega)|simpa using h_);obtain⟨_,hfr24⟩:=Kd.H_at HH22.out (Yr (by first|(with_reducible assumption)|assumption)) (by have h_:(ex:Int)<((lsAt eTo Za Zb.toNat k).length:Int):=Yr (by first|(with_reducible assumption)|assumption);first|exact h_|(have e_:=(HN22.out);omega)|simpa using h_);have hx24_0:=hcc24 0 _ rfl;have hf24_0:=hfr24 0;(try simp only[Nat.add_zero] at hx24_0 hf24_0);(try rw[show ((Kd.slice 3 (Kd.int .i64))).sz=1 from rfl,Nat.mul_one] at hx24_0);(try rw[show ((Kd.slice 3 (Kd.int .i64))).sz=1 from rfl,Nat.mul_one] at hf24_0);have HP24:=Kd.S_seg0 HH22.out (Yr (by first|(with_reducible assumption)|assumption)) (by have h_:(ex:Int)<((lsAt eTo Za Zb.toNat k).length:Int):=Yr (by first|(with_reducible assumption)|assumption);first|exact h_|(have e_:=(HN22.out);omega)|simpa using h_) (seg:=[.slice Ao26 (rd_L5 (lsAt eTo Za Zb.toNat k) ex ++ [(k:Int)]).length co26]) (j:=0) (show 1≤1 from by decide) (x':=rd_L5 (lsAt eTo Za Zb.toNat k) ex ++ [(k:Int)]) (Kd.M_row HO120.out) (fun _ hk=>hk);(try simp only[show ((Kd.slice 3 (Kd.int .i64))).sz=1 from rfl,Nat.mul_one,Nat.add_zero] at HP24);clear hcc24 hfr24)|((with_reducible refine gate_store (t:=31) (p:=32) rfl ?_);refine store_event (t:=31) (p:=32) (v:= ?vo_w25) (w1:=(w23.setCell ⟨go22,(ex:Int).toNat,none⟩ (.slice Ao26 (rd_L5 (lsAt eTo Za Zb.toNat k) ex ++ [(k:Int)]).length co26))) ?hg ?ho ?hn ?hr ?_;(case ho=>rfl);(case hg=>rfl);(case hn=>rfl);(case hr=>first|(go_simp;done)|(go_simp;rfl));intro w25 hw;have hg:w23.grownBy w25 (some go22):=(by rw[hw];exact HP24.2);have hp_:Kd.S (Kd.slice 3 (Kd.int .i64)) 31 w25 w.heap.size (fun _=>True) (.slice (some ⟨go22,0,none⟩) (lsAt eTo Za Zb.toNat k).length co21) (lsAt eTo Za Zb.toNat (k+1)):=(by rw[hw,LSN.out];exact HP24.1);clear HP24;have n0_:=Ya (blk_grown (g:=Xa) (o:=(.cells #[.int .i64 Zb, .bool Zc, .slice (some Vl) Za.length Ze] 24 (0,0))) (by(with_reducible repeat(first|refine Yl ?_ _|refine Ym ?_|refine Yj ?_ _));exact Zi.out) hg (Kd.R_ne hraw24 Zi.out (by decide)));have n2_:=Ya ((by rw[hw];exact Yh HB.out GB22.out:Below w.heap.size w w25));have n3_:=Ya (hp_);clear Zi;clear HB;clear HO120;clear HH22;have Zi:=n0_;have HB:=n2_;have HO_3:=n3_;clear n0_ n2_ n3_;clear hg hw hp_ hraw24));go_roundw
   case rel=>exact⟨k+1,by omega,by first|rfl|go_num,⟨by(with_reducible repeat(first|apply Kd.S_alloc|apply Kd.S_drewN|apply Kd.S_drew));exact HO_3.out⟩,⟨by(with_reducible repeat(first|refine Yl ?_ _|refine Ym ?_|refine Yj ?_ _));exact Zi.out⟩,⟨(by repeat(first|(with_reducible first|exact HB.out|apply Ye|apply Yd|apply Yg|refine Yh ?_ Wf.out)|exact HB.out))⟩⟩
   case measure=>simp[intOf]<;>omega
  ·have ek:k=Za.length:=by omega
   subst ek;have c9b0:decide ((Za.length:Int)<(Za.length:Int))=false:=Yt (by omega);go_wp2;go_ret;exact⟨_,rfl,by(with_reducible repeat(first|apply Kd.S_alloc|apply Kd.S_drewN|apply Kd.S_drew));exact HO_3.out,(by repeat(first|(with_reducible first|exact HB.out|apply Ye|apply Yd|apply Yg|refine Yh ?_ Wf.out)|exact HB.out))⟩
set_option maxHeartbeats 1000000 in
set_option maxRecDepth 100000 in
theorem leaving_calls (Zb:Int) (Zc:Bool) (Zf:Option Addr) (Ze:Nat) (Za:List S50) (w:World) (Zq:Kd.C k50 w Zf Za.length Za) (Zr:Za.length≤Ze) (h0:0≤Zb) (h1:Zb≤1000000) (hl:Za.length≤1000000) (hE: ∀ k:Nat,k<Za.length→0≤eFrom (rd_T50 Za k)∧eFrom (rd_T50 Za k)<Zb):
  Calls Try.prog 83 #[.agg #[.int .i64 Zb, .bool Zc, .slice Zf Za.length Ze]] w fun e w'=> ∃ v0_:Value,e= .returned v0_∧Kd.S (Kd.slice 3 (Kd.int .i64)) 31 w' w.heap.size (fun _=>True) v0_ (lsAt eFrom Za Zb.toNat Za.length)∧Below w.heap.size w w':=by
 have hu24:=Try.underlying24;have Zo:=Ya Zq;have Xo:=Ya Zr;have HE:=Ya hE;clear Zq Zr hE;have HB:=Ya (Yo w.heap.size w);go_enter Try.func83,Try.ntmps83;go_wp2_with (first|((with_reducible refine gate_dst (N:=1) rfl ?_);refine Yw ?hg (N:=1) ?hd (cs:= #[.int .i64 Zb, .bool Zc, .slice Zf Za.length Ze]) (t:=24) ?hr ?_;(case hd=>rfl);(case hg=>rfl);(case hr=>first|(go_simp;done)|(go_simp;rfl));intro Xa hg w4 Zg hb;have n0_:=Ya (Yk (by repeat(first|(with_reducible first|exact HB.out|apply Ye|apply Yd|apply Yg)|exact HB.out)) hb);have n1_:=Ya (Zg);have n2_:=Ya (Yq Zo.out hb);clear HB Zo;have HB:=n0_;have Zi:=n1_;have Zo:=n2_;clear n0_ n1_ n2_;clear hb Zg hg;have Up:w4.cell? ⟨Xa,0,none⟩=some (.int .i64 Zb):=(Yc Zi.out 0).trans rfl;have Uq:w4.cell? ⟨Xa,1,none⟩=some (.bool Zc):=(Yc Zi.out 1).trans rfl;have Ur:w4.cell? ⟨Xa,2,none⟩=some (.slice Zf Za.length Ze):=(Yc Zi.out 2).trans rfl)|fail);refine(listsFrom_calls Zb Zc Zf Ze Za _ Zo.out Xo.out h0 h1 hl HE.out).mono ?_;rintro e w5 ⟨v0,rfl,hS,hb⟩;have HS:=Ya (Kd.S_lower hS HB.out.size);have HB5:=Ya (Yk HB.out hb);clear hS hb Up Uq Ur Zi;go_wp2;go_ret;exact⟨_,rfl,HS.out,HB5.out⟩
set_option maxHeartbeats 1000000 in
set_option maxRecDepth 100000 in
theorem coming_calls (Zb:Int) (Zc:Bool) (Zf:Option Addr) (Ze:Nat) (Za:List S50) (w:World) (Zq:Kd.C k50 w Zf Za.length Za) (Zr:Za.length≤Ze) (h0:0≤Zb) (h1:Zb≤1000000) (hl:Za.length≤1000000) (hE: ∀ k:Nat,k<Za.length→0≤eTo (rd_T50 Za k)∧eTo (rd_T50 Za k)<Zb):
  Calls Try.prog 84 #[.agg #[.int .i64 Zb, .bool Zc, .slice Zf Za.length Ze]] w fun e w'=> ∃ v0_:Value,e= .returned v0_∧Kd.S (Kd.slice 3 (Kd.int .i64)) 31 w' w.heap.size (fun _=>True) v0_ (lsAt eTo Za Zb.toNat Za.length)∧Below w.heap.size w w':=by
 have hu24:=Try.underlying24;have Zo:=Ya Zq;have Xo:=Ya Zr;have HE:=Ya hE;clear Zq Zr hE;have HB:=Ya (Yo w.heap.size w);go_enter Try.func84,Try.ntmps84;go_wp2_with (first|((with_reducible refine gate_dst (N:=1) rfl ?_);refine Yw ?hg (N:=1) ?hd (cs:= #[.int .i64 Zb, .bool Zc, .slice Zf Za.length Ze]) (t:=24) ?hr ?_;(case hd=>rfl);(case hg=>rfl);(case hr=>first|(go_simp;done)|(go_simp;rfl));intro Xa hg w4 Zg hb;have n0_:=Ya (Yk (by repeat(first|(with_reducible first|exact HB.out|apply Ye|apply Yd|apply Yg)|exact HB.out)) hb);have n1_:=Ya (Zg);have n2_:=Ya (Yq Zo.out hb);clear HB Zo;have HB:=n0_;have Zi:=n1_;have Zo:=n2_;clear n0_ n1_ n2_;clear hb Zg hg;have Up:w4.cell? ⟨Xa,0,none⟩=some (.int .i64 Zb):=(Yc Zi.out 0).trans rfl;have Uq:w4.cell? ⟨Xa,1,none⟩=some (.bool Zc):=(Yc Zi.out 1).trans rfl;have Ur:w4.cell? ⟨Xa,2,none⟩=some (.slice Zf Za.length Ze):=(Yc Zi.out 2).trans rfl)|fail);refine(listsTo_calls Zb Zc Zf Ze Za _ Zo.out Xo.out h0 h1 hl HE.out).mono ?_;rintro e w5 ⟨v0,rfl,hS,hb⟩;have HS:=Ya (Kd.S_lower hS HB.out.size);have HB5:=Ya (Yk HB.out hb);clear hS hb Up Uq Ur Zi;go_wp2;go_ret;exact⟨_,rfl,HS.out,HB5.out⟩
end H
namespace H
open P
def stL (l:List S50) (v:Int):Nat→List S79
 |0=>[]
 |k+1=>stL l v k ++ (if eFrom (rd_T50 l k)=v then [⟨k,false⟩] else []) ++ (if eTo (rd_T50 l k)=v then [⟨k,true⟩] else [])
def ltS (x y:S79):Prop:=x.f0<y.f0∨x.f0=y.f0∧x.f1=false∧y.f1=true
def IsSt (l:List S50) (v:Int) (k:Nat) (s:S79):Prop:= ∃ i:Nat,i<k∧s.f0=i∧(s.f1=false∧eFrom (rd_T50 l i)=v∨s.f1=true∧eTo (rd_T50 l i)=v)
theorem mem_stL (l:List S50) (v:Int) (k:Nat) (s:S79):s∈stL l v k↔IsSt l v k s:=by
 induction k with
 |zero=>
  constructor
  ·intro h;cases h
  ·rintro⟨i,h,_⟩;omega
 |succ k ih=>
  unfold stL;rw[List.mem_append,List.mem_append,ih];constructor
  ·rintro((⟨i,h1,h2⟩|h)|h)
   ·exact⟨i,by omega,h2⟩
   ·split at h
    ·rename_i he
     rw[List.mem_singleton] at h;subst h;exact⟨k,by omega,rfl,Or.inl ⟨rfl,he⟩⟩
    ·cases h
   ·split at h
    ·rename_i he
     rw[List.mem_singleton] at h;subst h;exact⟨k,by omega,rfl,Or.inr ⟨rfl,he⟩⟩
    ·cases h
  ·rintro⟨i,h1,h2,h3⟩
   by_cases hi:i<k
   ·exact Or.inl (Or.inl ⟨i,hi,h2,h3⟩)
   ·have e:i=k:=by omega
    subst e;obtain⟨x,y⟩:=s;simp only at h2 h3;subst h2;rcases h3 with ⟨rfl,h4⟩|⟨rfl,h4⟩
    ·exact Or.inl (Or.inr (by rw[Yu h4];exact List.mem_singleton.2 rfl))
    ·exact Or.inr (by rw[Yu h4];exact List.mem_singleton.2 rfl)
theorem sorted_stL (l:List S50) (v:Int) (k:Nat):(stL l v k).Pairwise ltS:=by
 induction k with
 |zero=>exact List.Pairwise.nil
 |succ k ih=>
  unfold stL;rw[List.pairwise_append,List.pairwise_append];refine⟨⟨ih,by split<;>simp,fun a ha b hb=> ?_⟩,by split<;>simp,fun a ha b hb=> ?_⟩
  ·obtain⟨i,h1,h2,_⟩:=(mem_stL l v k a).1 ha
   split at hb
   ·rw[List.mem_singleton] at hb
    subst hb;exact Or.inl (by show a.f0<(k:Int);omega)
   ·cases hb
  ·split at hb
   ·rw[List.mem_singleton] at hb
    subst hb;rcases List.mem_append.1 ha with ha|ha
    ·obtain⟨i,h1,h2,_⟩:=(mem_stL l v k a).1 ha
     exact Or.inl (by show a.f0<(k:Int);omega)
    ·split at ha
     ·rw[List.mem_singleton] at ha
      subst ha;exact Or.inr ⟨rfl,rfl,rfl⟩
     ·cases ha
   ·cases hb
theorem ltS_irr (x:S79): ¬ ltS x x:=by
 rintro(h|⟨_,h1,h2⟩)
 ·omega
 ·rw[h1] at h2;cases h2
theorem ltS_trans {x y z:S79} (h:ltS x y) (k:ltS y z):ltS x z:=by
 rcases h with h|⟨h1,h2,h3⟩<;>rcases k with k|⟨k1,k2,k3⟩
 ·exact Or.inl (by omega)
 ·exact Or.inl (by omega)
 ·exact Or.inl (by omega)
 ·rw[h3] at k2;cases k2
theorem sorted_uniq: ∀ (a b:List S79),a.Pairwise ltS→b.Pairwise ltS→(∀ s,s∈a↔s∈b)→a=b
 |[],[],_,_,_=>rfl
 |[],y::b,_,_,h=>by have:=(h y).2 (List.mem_cons_self ..);cases this
 |x::a,[],_,_,h=>by have:=(h x).1 (List.mem_cons_self ..);cases this
 |x::a,y::b,ha,hb,h=>by
  rw[List.pairwise_cons] at ha hb;have e:x=y:=by
   rcases List.mem_cons.1 ((h x).1 (List.mem_cons_self ..)) with e|h1
   ·exact e
   ·rcases List.mem_cons.1 ((h y).2 (List.mem_cons_self ..)) with e|h2
    ·exact e.symm
    ·exact absurd (ltS_trans (ha.1 y h2) (hb.1 x h1)) (ltS_irr x)
  subst e;rw[sorted_uniq a b ha.2 hb.2 fun s=>⟨fun hs=> ?_,fun hs=> ?_⟩]
  ·rcases List.mem_cons.1 ((h s).1 (List.mem_cons_of_mem _ hs)) with e|h1
   ·subst e;exact absurd (ha.1 s hs) (ltS_irr s)
   ·exact h1
  ·rcases List.mem_cons.1 ((h s).2 (List.mem_cons_of_mem _ hs)) with e|h1
   ·subst e;exact absurd (hb.1 s hs) (ltS_irr s)
   ·exact h1
theorem lsAt_spec (E:S50→Int) (l:List S50) (n:Nat) (v:Int) (hv0:0≤v) (hv:v<n): ∀ k:Nat,(∀ i:Nat,i<k→0≤E (rd_T50 l i)∧E (rd_T50 l i)<n)→
  (∀ x,x∈rd_L5 (lsAt E l n k) v↔ ∃ i:Nat,i<k∧x=i∧E (rd_T50 l i)=v)∧(rd_L5 (lsAt E l n k) v).Pairwise (· < ·):=by
 intro k
 induction k with
 |zero=>
  intro _;have e:rd_L5 (lsAt E l n 0) v=[]:=by
   unfold rd_L5 lsAt;rw[List.getD_eq_getElem?_getD,List.getElem?_replicate];split<;>rfl
  rw[e];refine⟨fun x=>Iff.intro (fun h=>by cases h) ?_,List.Pairwise.nil⟩;rintro⟨i,h,_⟩;omega
 |succ k ih=>
  intro hE;obtain⟨h1,h2⟩:=ih fun i hi=>hE i (by omega)
  have hk:=hE k (by omega);by_cases c:E (rd_T50 l k)=v
  ·have e:rd_L5 (lsAt E l n (k+1)) v=rd_L5 (lsAt E l n k) v ++ [(k:Int)]:=by
    show (List.set _ _ _).getD v.toNat []=_;rw[c,List.getD_eq_getElem?_getD,List.getElem?_set_self (by rw[lsAt_len];omega)];rfl
   rw[e];refine⟨fun x=> ?_,?_⟩
   ·rw[List.mem_append,h1,List.mem_singleton]
    constructor
    ·rintro(⟨i,a,b,d⟩|rfl)
     ·exact⟨i,by omega,b,d⟩
     ·exact⟨k,by omega,rfl,c⟩
    ·rintro⟨i,a,b,d⟩
     by_cases hi:i<k
     ·exact Or.inl ⟨i,hi,b,d⟩
     ·exact Or.inr (by rw[b];congr 1;omega)
   ·rw[List.pairwise_append]
    refine⟨h2,List.pairwise_singleton _ _,fun a ha b hb=> ?_⟩;rw[List.mem_singleton] at hb;obtain⟨i,q1,q2,_⟩:=(h1 a).1 ha;omega
  ·have e:rd_L5 (lsAt E l n (k+1)) v=rd_L5 (lsAt E l n k) v:=by
    show (List.set _ _ _).getD v.toNat []=_;rw[List.getD_eq_getElem?_getD,List.getElem?_set_ne (by omega), ← List.getD_eq_getElem?_getD];rfl
   rw[e];refine⟨fun x=> ?_,h2⟩;rw[h1];constructor
   ·rintro⟨i,a,b,d⟩;exact⟨i,by omega,b,d⟩
   ·rintro⟨i,a,b,d⟩
    by_cases hi:i<k
    ·exact⟨i,hi,b,d⟩
    ·have e2:i=k:=by omega
     subst e2;exact absurd d c
def stepsU (l:List S50) (n:Nat) (v:Int):List S79:=
 (rd_L5 (lsAt eFrom l n l.length) v).map (fun i=>⟨i,false⟩) ++ (rd_L5 (lsAt eTo l n l.length) v).map (fun i=>⟨i,true⟩)
def ends (l:List S50) (n:Nat):Prop:= ∀ i:Nat,i<l.length→(0≤eFrom (rd_T50 l i)∧eFrom (rd_T50 l i)<n)∧(0≤eTo (rd_T50 l i)∧eTo (rd_T50 l i)<n)
theorem mem_stepsU (l:List S50) (n:Nat) (v:Int) (hv0:0≤v) (hv:v<n) (h:ends l n) (s:S79):s∈stepsU l n v↔IsSt l v l.length s:=by
 have hf:=(lsAt_spec eFrom l n v hv0 hv l.length fun i hi=>(h i hi).1).1;have ht:=(lsAt_spec eTo l n v hv0 hv l.length fun i hi=>(h i hi).2).1;unfold stepsU;rw[List.mem_append,List.mem_map,List.mem_map];constructor
 ·rintro(⟨x,hx,rfl⟩|⟨x,hx,rfl⟩)
  ·obtain⟨i,a,b,d⟩:=(hf x).1 hx
   exact⟨i,a,b,Or.inl ⟨rfl,d⟩⟩
  ·obtain⟨i,a,b,d⟩:=(ht x).1 hx
   exact⟨i,a,b,Or.inr ⟨rfl,d⟩⟩
 ·rintro⟨i,a,b,⟨c,d⟩|⟨c,d⟩⟩
  ·exact Or.inl ⟨s.f0,(hf _).2 ⟨i,a,b,d⟩,by obtain⟨x,y⟩:=s;simp only at c;subst c;rfl⟩
  ·exact Or.inr ⟨s.f0,(ht _).2 ⟨i,a,b,d⟩,by obtain⟨x,y⟩:=s;simp only at c;subst c;rfl⟩
theorem stab_stepsU (l:List S50) (n:Nat) (v:Int) (hv0:0≤v) (hv:v<n) (h:ends l n):(stepsU l n v).Pairwise fun x y=>x.f0=y.f0→x.f1=false∧y.f1=true:=by
 have hf:=(lsAt_spec eFrom l n v hv0 hv l.length fun i hi=>(h i hi).1).2;have ht:=(lsAt_spec eTo l n v hv0 hv l.length fun i hi=>(h i hi).2).2;unfold stepsU;rw[List.pairwise_append,List.pairwise_map,List.pairwise_map];refine⟨hf.imp fun {a b} hab e=> ?_,ht.imp fun {a b} hab e=> ?_,fun a ha b hb e=> ?_⟩
 ·simp only at e;omega
 ·simp only at e;omega
 ·obtain⟨x,_,rfl⟩:=List.mem_map.1 ha
  obtain⟨y,_,rfl⟩:=List.mem_map.1 hb;exact⟨rfl,rfl⟩
end H
namespace H
open P
def stFrom (l:List S50) (s:S79):Int:=if s.f1 then eTo (rd_T50 l s.f0) else eFrom (rd_T50 l s.f0)
def stTo (l:List S50) (s:S79):Int:=if s.f1 then eFrom (rd_T50 l s.f0) else eTo (rd_T50 l s.f0)
def stTime (l:List S50) (s:S79):Int:=if s.f1 then -(rd_T50 l s.f0).f3 else(rd_T50 l s.f0).f3
def stRoom (l:List S50) (F:List Int) (s:S79):Int:=if s.f1 then F.getD s.f0.toNat 0 else(rd_T50 l s.f0).f2 - F.getD s.f0.toNat 0
structure Rch where
 D:List Int
 I:List Bool
 B:List S79
 still:Bool
def visC (l:List S50) (F:List Int) (v:Nat) (x:Rch) (s:S79):Bool:=
 decide (0<stRoom l F s) && (!x.I.getD (stTo l s).toNat false || decide (x.D.getD v 0+stTime l s<x.D.getD (stTo l s).toNat 0))
def visR (l:List S50) (F:List Int) (v:Nat) (x:Rch) (s:S79):Rch:=
 if visC l F v x s then⟨x.D.set (stTo l s).toNat (x.D.getD v 0+stTime l s),x.I.set (stTo l s).toNat true,x.B.set (stTo l s).toNat s,false⟩ else x
def rowR (l:List S50) (F:List Int) (x:Rch) (v:Nat):Rch:=if x.I.getD v false then(stL l v l.length).foldl (visR l F v) x else x
def roundR (l:List S50) (F:List Int) (n:Nat) (x:Rch):Rch:=(List.range n).foldl (rowR l F) { x with still:=true }
def goesR (l:List S50) (F:List Int) (n:Nat):Nat→Rch→Rch × Bool
 |0,x=>(x,false)
 |k+1,x=>if (roundR l F n x).still then(roundR l F n x,true) else goesR l F n k (roundR l F n x)
def absR (x:Rch):Tm:=fun v=>if x.I.getD v false then some (x.D.getD v 0) else none
structure Rch.Ok (n:Nat) (x:Rch):Prop where
 hD:x.D.length=n
 hI:x.I.length=n
 hB:x.B.length=n
theorem visR_ok {l:List S50} {F:List Int} {n v:Nat} {x:Rch} (h:x.Ok n) (s:S79):(visR l F v x s).Ok n:=by
 unfold visR;split
 ·exact⟨by simp[h.hD],by simp[h.hI],by simp[h.hB]⟩
 ·exact h
theorem foldR_ok {l:List S50} {F:List Int} {n v:Nat} (r:List S79) {x:Rch} (h:x.Ok n):(r.foldl (visR l F v) x).Ok n:=by
 induction r generalizing x with
 |nil=>exact h
 |cons s r ih=>exact ih (visR_ok h s)
theorem rowR_ok {l:List S50} {F:List Int} {n v:Nat} {x:Rch} (h:x.Ok n):(rowR l F x v).Ok n:=by
 unfold rowR;split
 ·exact foldR_ok _ h
 ·exact h
def edgeS (l:List S50) (v:Nat) (s:S79):Ed:=(v,(stTo l s).toNat,stTime l s)
theorem getD_set_ne {β:Type} (L:List β) (i j:Nat) (x d:β) (h:i≠j):(L.set i x).getD j d=L.getD j d:=by
 rw[List.getD_eq_getElem?_getD,List.getElem?_set_ne h,List.getD_eq_getElem?_getD]
theorem getD_set_eq {β:Type} (L:List β) (i:Nat) (x d:β) (h:i<L.length):(L.set i x).getD i d=x:=by
 rw[List.getD_eq_getElem?_getD,List.getElem?_set_self h];rfl
theorem visR_abs {l:List S50} {F:List Int} {n v:Nat} {x:Rch} (h:x.Ok n) (s:S79) (hv:x.I.getD v false=true) (hw:(stTo l s).toNat<n):
  absR (visR l F v x s)=(if 0<stRoom l F s then relax (absR x) (edgeS l v s) else absR x)∧(visR l F v x s).still=(x.still && !(decide (0<stRoom l F s) && trig (absR x) (edgeS l v s)))∧(visR l F v x s).I.getD v false=true:=by
 have hσ:absR x v=some (x.D.getD v 0):=by unfold absR;rw[Yu hv]
 have htr:trig (absR x) (edgeS l v s)=(!x.I.getD (stTo l s).toNat false || decide (x.D.getD v 0+stTime l s<x.D.getD (stTo l s).toNat 0)):=by
  unfold trig edgeS;simp only[hσ];cases hi:x.I.getD (stTo l s).toNat false with
  |false=>
   have h2:absR x (stTo l s).toNat=none:=by unfold absR;rw[hi];rfl
   rw[h2];rfl
  |true=>
   have h2:absR x (stTo l s).toNat=some (x.D.getD (stTo l s).toNat 0):=by unfold absR;rw[hi];rfl
   rw[h2];rfl
 have hc:visC l F v x s=(decide (0<stRoom l F s) && trig (absR x) (edgeS l v s)):=by rw[htr];rfl
 unfold visR;rw[hc];by_cases hr:0<stRoom l F s
 ·rw[Yu hr,Ys hr,Bool.true_and]
  cases ht:trig (absR x) (edgeS l v s) with
  |false=>
   rw[relax_off ht];refine⟨rfl,?_,hv⟩;simp
  |true=>
   refine⟨?_,by simp,?_⟩
   ·funext u
    rw[relax_on ht (show absR x (edgeS l v s).1=_ from hσ)];show (if (x.I.set (stTo l s).toNat true).getD u false=true then some ((x.D.set (stTo l s).toNat (x.D.getD v 0+stTime l s)).getD u 0) else none)=if u=(stTo l s).toNat then _ else absR x u
    by_cases hu:u=(stTo l s).toNat
    ·subst hu
     rw[Yu rfl,getD_set_eq _ _ _ _ (by rw[h.hI];exact hw),getD_set_eq _ _ _ _ (by rw[h.hD];exact hw),Yu rfl];rfl
    ·rw[Yv hu,getD_set_ne _ _ _ _ _ (Ne.symm hu),getD_set_ne _ _ _ _ _ (Ne.symm hu)]
     rfl
   ·show (x.I.set (stTo l s).toNat true).getD v false=true
    by_cases hu:(stTo l s).toNat=v
    ·rw[hu,getD_set_eq _ _ _ _ (by rw[h.hI, ← hu];exact hw)]
    ·rw[getD_set_ne _ _ _ _ _ hu];exact hv
 ·rw[Yv hr,Yt hr,Bool.false_and]
  refine⟨rfl,by simp,hv⟩
def liveS (l:List S50) (F:List Int) (v:Nat):List Ed:=((stL l v l.length).filter (fun s=>decide (0<stRoom l F s))).map (edgeS l v)
theorem passT_app (E G:List Ed) (σ:Tm) (b:Bool):passT (E ++ G) σ b=passT G (passT E σ b).1 (passT E σ b).2:=by
 unfold passT;rw[List.foldl_append]
theorem passT_or (E:List Ed) (σ:Tm) (b:Bool):(passT E σ b).2=(b || (passT E σ false).2):=by
 cases b with
 |false=>rw[Bool.false_or]
 |true=>rw[passT_true];rfl
theorem foldR_abs {l:List S50} {F:List Int} {n v:Nat} (r:List S79) (hw: ∀ s,s∈r→(stTo l s).toNat<n) {x:Rch} (h:x.Ok n) (hv:x.I.getD v false=true):
  absR (r.foldl (visR l F v) x)=pass ((r.filter (fun s=>decide (0<stRoom l F s))).map (edgeS l v)) (absR x)∧
  (r.foldl (visR l F v) x).still=(x.still && !(passT ((r.filter (fun s=>decide (0<stRoom l F s))).map (edgeS l v)) (absR x) false).2):=by
 induction r generalizing x with
 |nil=>exact⟨rfl,by simp[passT]⟩
 |cons s r ih=>
  obtain⟨h1,h2,h3⟩:=visR_abs (F:=F) h s hv (hw s List.mem_cons_self);obtain⟨h4,h5⟩:=ih (fun s hs=>hw s (List.mem_cons_of_mem _ hs)) (visR_ok h s) h3;rw[List.foldl_cons];rw[h1] at h4 h5;rw[h2] at h5;rw[h4,h5];by_cases hr:0<stRoom l F s
  ·rw[List.filter_cons_of_pos (p:=fun s=>decide (0<stRoom l F s)) (Ys hr),List.map_cons,Yu hr,Ys hr,Bool.true_and]
   refine⟨rfl,?_⟩;show _=(x.still && !(passT _ (relax (absR x) (edgeS l v s)) (false || trig (absR x) (edgeS l v s))).2);rw[passT_or _ _ (false || _),Bool.false_or];cases x.still<;>cases trig (absR x) (edgeS l v s)<;>simp
  ·rw[List.filter_cons_of_neg (p:=fun s=>decide (0<stRoom l F s)) (by simpa using hr),Yv hr,Yt hr,Bool.false_and]
   exact⟨rfl,by simp⟩
theorem rowR_abs {l:List S50} {F:List Int} {n v:Nat} (hw: ∀ s,s∈stL l v l.length→(stTo l s).toNat<n) {x:Rch} (h:x.Ok n):
  absR (rowR l F x v)=pass (liveS l F v) (absR x)∧(rowR l F x v).still=(x.still && !(passT (liveS l F v) (absR x) false).2):=by
 unfold rowR;by_cases hv:x.I.getD v false=true
 ·rw[Yu hv]
  exact foldR_abs _ hw h hv
 ·rw[Yv hv]
  have h0:absR x v=none:=by unfold absR;rw[Yv hv]
  have h1: ∀ e,e∈liveS l F v→trig (absR x) e=false:=by
   intro e he;obtain⟨s,_,rfl⟩:=List.mem_map.1 he;unfold trig edgeS;simp only[h0]
  have h2:=passT_still h1;refine⟨?_,by rw[h2];simp⟩;rw[← passT_fst _ _ false,h2]
def liveE (l:List S50) (F:List Int) (n:Nat):List Ed:=(List.range n).flatMap (liveS l F)
theorem rows_abs {l:List S50} {F:List Int} {n:Nat} (hw: ∀ (v:Nat) (s:S79),s∈stL l v l.length→(stTo l s).toNat<n) (vs:List Nat) {x:Rch} (h:x.Ok n):
  (vs.foldl (rowR l F) x).Ok n∧absR (vs.foldl (rowR l F) x)=pass (vs.flatMap (liveS l F)) (absR x)∧(vs.foldl (rowR l F) x).still=(x.still && !(passT (vs.flatMap (liveS l F)) (absR x) false).2):=by
 induction vs generalizing x with
 |nil=>exact⟨h,rfl,by simp[passT]⟩
 |cons v vs ih=>
  obtain⟨h1,h2⟩:=rowR_abs (F:=F) (hw v) h;obtain⟨h3,h4,h5⟩:=ih (rowR_ok (l:=l) (F:=F) (v:=v) h);rw[List.foldl_cons,List.flatMap_cons];refine⟨h3,?_,?_⟩
  ·rw[h4,h1]
   unfold pass;rw[List.foldl_append]
  ·rw[h5,h2,h1,passT_app,passT_or _ _ (passT (liveS l F v) (absR x) false).2,passT_fst]
   cases x.still<;>simp
theorem roundR_abs {l:List S50} {F:List Int} {n:Nat} (hw: ∀ (v:Nat) (s:S79),s∈stL l v l.length→(stTo l s).toNat<n) {x:Rch} (h:x.Ok n):
  (roundR l F n x).Ok n∧absR (roundR l F n x)=pass (liveE l F n) (absR x)∧(roundR l F n x).still= !(passT (liveE l F n) (absR x) false).2:=by
 obtain⟨h1,h2,h3⟩:=rows_abs (F:=F) hw (List.range n) (x:= { x with still:=true }) ⟨h.hD,h.hI,h.hB⟩;refine⟨h1,h2,?_⟩;unfold roundR;rw[h3];simp[liveE];rfl
theorem goesR_spec {l:List S50} {F:List Int} {n:Nat} (hw: ∀ (v:Nat) (s:S79),s∈stL l v l.length→(stTo l s).toNat<n) (k:Nat) {x:Rch} (h:x.Ok n):
  (goesR l F n k x).1.Ok n∧(∃ m,m≤k∧absR (goesR l F n k x).1=its (liveE l F n) m (absR x))∧((goesR l F n k x).2=true→ ∀ e,e∈liveE l F n→trig (absR (goesR l F n k x).1) e=false)∧
  ((goesR l F n k x).2=false→ ∀ m,m<k→pass (liveE l F n) (its (liveE l F n) m (absR x))≠its (liveE l F n) m (absR x)):=by
 induction k generalizing x with
 |zero=>exact⟨h,⟨0,Nat.le_refl _,rfl⟩,fun h=>(by cases h),fun _ m hm=>absurd hm (Nat.not_lt_zero _)⟩
 |succ k ih=>
  obtain⟨h1,h2,h3⟩:=roundR_abs (F:=F) hw h;unfold goesR;cases hs:(roundR l F n x).still with
  |true=>
   rw[Yu rfl];have hq:(passT (liveE l F n) (absR x) false).2=false:=by rw[hs] at h3;simpa using h3.symm
   have hq2:=passT_still (passT_false hq);have hq3:pass (liveE l F n) (absR x)=absR x:=by rw[← passT_fst _ _ false,hq2]
   refine⟨h1,⟨0,Nat.zero_le _,by show absR (roundR l F n x)=absR x;rw[h2,hq3]⟩,fun _=> ?_,fun h=>(by cases h)⟩;show ∀ e,e∈liveE l F n→trig (absR (roundR l F n x)) e=false;rw[h2,hq3];exact passT_false hq
  |false=>
   rw[Yv (by simp)];obtain⟨g1,⟨m,hm,g2⟩,g3,g4⟩:=ih h1;refine⟨g1,⟨m+1,by omega,?_⟩,g3,fun hf m hm=> ?_⟩
   ·rw[g2,h2];rfl
   ·cases m with
    |zero=>
     show pass (liveE l F n) (absR x)≠absR x;intro he;have:=passT_still (pass_fix he);rw[this,hs] at h3;cases h3
    |succ m=>
     have:=g4 hf m (by omega);rw[h2] at this;exact this
end H
end Go.Proofs.Ytoedkglggapggaa
