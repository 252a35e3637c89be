/- What the law's row needs of these texts, taken out of them by wip/tool/mini.py: P0 QPress P2 P3 P4 P5 P58 P59 P60 P66 QBfsLaw QWayLaw QDownLaw P44 P45 P46 P104 P105 P107 QBfLaw QSortArr QSortLaw P9 P11. -/
import Derived.Test.YtoedkglggapggaaProg
import Derived.Below
import Derived.Deep.Draws
import Derived.Deep.AppendLies
import Derived.Maps.AppendAt
import Derived.OwnWalk
import Derived.Laws.BytesArg
import Derived.Laws.MakeOwn
import Derived.Laws.OwnMore
import Derived.Deep.OwnRows
import Derived.Tactics
import Derived.Lib.ConvBytes
import Derived.Laws.Slices
import Derived.WalkKit
import Derived.KernelRfl
import Derived.RowKit3
import Derived.Deep.LoopGhost
import Derived.Deep.QuietTactic
import Derived.BigQuiet
import Derived.WideLaws
import Derived.Deep.DeepCutAuto
import Derived.Deep.CutBlock
import Derived.Deep.RegionHeld3
import Derived.Laws.Rows
import Derived.Lib.AppendStr
import Derived.ArgAppend
import Derived.Laws.IdiomCopy
import Derived.OrdersHeld
import Derived.Laws.BitsLemmas
import Derived.RowKit
import Derived.Test.YtoedkglggapggaaVnllcin
import Derived.Laws.StructEq
import Derived.Deep.MidRow
import Derived.Lib.LazyBuf
import Derived.RegionTactic
import Derived.ChangeAlike
import Derived.BigRegion
import Derived.LoopTactic
import Derived.Laws.AppendOwn
set_option linter.unusedVariables false
set_option linter.unusedSimpArgs false
open Go.RowKit Go.Proofs.YtoedkglggapggaaW.PrintWords Go.Proofs.YtoedkglggapggaaW.PrintLast Go.Proofs.YtoedkglggapggaaW.PrintMore
namespace Go.Proofs.Ytoedkglggapggaa
namespace P
attribute [local go_sem] max2_int min2_int max_two min_two max_three min_three max_four min_four
def errW:Option Int→Value
 |none=> .nilIface
 |some c=> .iface 0 (.int .i64 c)
theorem errW_none:errW none= .nilIface:=rfl
theorem errW_some (c:Int):errW (some c)= .iface 0 (.int .i64 c):=rfl
theorem info3:(Try.prog.info? 3).map (fun i=>(i.zero,i.size,i.bytes))=some (some (.int .i64 0),1,8):=by kernel_rfl
theorem info47:(Try.prog.info? 47).map (fun i=>(i.zero,i.size,i.bytes))=some (some (.agg #[(.slice none 0 0),(.int .i64 0)]),2,32):=by kernel_rfl
theorem info50:(Try.prog.info? 50).map (fun i=>(i.zero,i.size,i.bytes))=some (some (.agg #[(.int .i64 0),(.int .i64 0),(.int .i64 0),(.int .i64 0)]),4,32):=by kernel_rfl
theorem info79:(Try.prog.info? 79).map (fun i=>(i.zero,i.size,i.bytes))=some (some (.agg #[(.int .i64 0),(.bool false)]),2,16):=by kernel_rfl
structure S50 where
 f0:Int
 f1:Int
 f2:Int
 f3:Int
def z50:S50:=⟨(0:Int),(0:Int),(0:Int),(0:Int)⟩
def k50:Kd S50:=Kd.iso (Kd.pair (Kd.int .i64) (Kd.pair (Kd.int .i64) (Kd.pair (Kd.int .i64) (Kd.int .i64)))) (fun x:S50=>(x.f0,x.f1,x.f2,x.f3))
theorem k50_open {w:World} {x:S50} {cs:List Value} (h:k50.K w x cs):cs=[.int .i64 x.f0, .int .i64 x.f1, .int .i64 x.f2, .int .i64 x.f3]:=by
 obtain⟨_,_,rfl,rfl,⟨_,_,rfl,rfl,⟨_,_,rfl,rfl,rfl⟩⟩⟩:=h;exact rfl
theorem k50_openM {w:World} {base:Nat} {ok:Nat→Prop} {x:S50} {cs:List Value} (h:k50.M w base ok x cs):cs=[.int .i64 x.f0, .int .i64 x.f1, .int .i64 x.f2, .int .i64 x.f3]:=by
 obtain⟨_,_,rfl,rfl,⟨_,_,rfl,rfl,⟨_,_,rfl,rfl,rfl⟩⟩⟩:=h;exact rfl
theorem k50_mkM (w:World) (base:Nat) (ok:Nat→Prop) (x:S50)  :k50.M w base ok x [.int .i64 x.f0, .int .i64 x.f1, .int .i64 x.f2, .int .i64 x.f3]:=⟨[.int .i64 x.f0],[.int .i64 x.f1, .int .i64 x.f2, .int .i64 x.f3],rfl,rfl,⟨[.int .i64 x.f1],[.int .i64 x.f2, .int .i64 x.f3],rfl,rfl,⟨[.int .i64 x.f2],[.int .i64 x.f3],rfl,rfl,rfl⟩⟩⟩
def rd_T50 (xs:List S50) (i:Int):S50:=xs.getD i.toNat z50
theorem at_T50 {w:World} {A:Option Addr} {n:Nat} {xs:List S50} (h:Kd.C k50 w A n xs) (i:Int) (h0:0≤i) (h1:i<n): ∃ ad ,A=some ad∧w.cell? (ad.add (i.toNat * 4))=some (.int .i64 (rd_T50 xs i).f0)∧w.cell? ⟨(ad.add (i.toNat * 4)).block,(ad.add (i.toNat * 4)).off+1,none⟩=some (.int .i64 (rd_T50 xs i).f1)∧w.cell? ⟨(ad.add (i.toNat * 4)).block,(ad.add (i.toNat * 4)).off+2,none⟩=some (.int .i64 (rd_T50 xs i).f2)∧w.cell? ⟨(ad.add (i.toNat * 4)).block,(ad.add (i.toNat * 4)).off+3,none⟩=some (.int .i64 (rd_T50 xs i).f3):=by
 obtain⟨ad,c,e,_,hK,hc0⟩:=Kd.C_get h z50 i h0 h1;have hc: ∀ j u,c[j]? =some u→w.cell? (ad.add (i.toNat * 4+j))=some u:=hc0;obtain rfl:=k50_open hK;exact⟨ad,e,hc 0 _ rfl,by rw[← add_field _ _ 1 (by omega)];exact hc 1 _ rfl,by rw[← add_field _ _ 2 (by omega)];exact hc 2 _ rfl,by rw[← add_field _ _ 3 (by omega)];exact hc 3 _ rfl⟩
structure S79 where
 f0:Int
 f1:Bool
def z79:S79:=⟨(0:Int),false⟩
def k79:Kd S79:=Kd.iso (Kd.pair (Kd.int .i64) Kd.bool) (fun x:S79=>(x.f0,x.f1))
theorem k79_open {w:World} {x:S79} {cs:List Value} (h:k79.K w x cs):cs=[.int .i64 x.f0, .bool x.f1]:=by
 obtain⟨_,_,rfl,rfl,rfl⟩:=h;exact rfl
theorem k79_openM {w:World} {base:Nat} {ok:Nat→Prop} {x:S79} {cs:List Value} (h:k79.M w base ok x cs):cs=[.int .i64 x.f0, .bool x.f1]:=by
 obtain⟨_,_,rfl,rfl,rfl⟩:=h;exact rfl
theorem k79_mkM (w:World) (base:Nat) (ok:Nat→Prop) (x:S79)  :k79.M w base ok x [.int .i64 x.f0, .bool x.f1]:=⟨[.int .i64 x.f0],[.bool x.f1],rfl,rfl,rfl⟩
def rd_T79 (xs:List S79) (i:Int):S79:=xs.getD i.toNat z79
theorem at_T79 {w:World} {A:Option Addr} {n:Nat} {xs:List S79} (h:Kd.C k79 w A n xs) (i:Int) (h0:0≤i) (h1:i<n): ∃ ad ,A=some ad∧w.cell? (ad.add (i.toNat * 2))=some (.int .i64 (rd_T79 xs i).f0)∧w.cell? ⟨(ad.add (i.toNat * 2)).block,(ad.add (i.toNat * 2)).off+1,none⟩=some (.bool (rd_T79 xs i).f1):=by
 obtain⟨ad,c,e,_,hK,hc0⟩:=Kd.C_get h z79 i h0 h1;have hc: ∀ j u,c[j]? =some u→w.cell? (ad.add (i.toNat * 2+j))=some u:=hc0;obtain rfl:=k79_open hK;exact⟨ad,e,hc 0 _ rfl,by rw[← add_field _ _ 1 (by omega)];exact hc 1 _ rfl⟩
def rd_L4 (xs:List (List S79)) (i:Int):(List S79):=xs.getD i.toNat ([]:List S79)
def rd_L5 (xs:List (List Int)) (i:Int):(List Int):=xs.getD i.toNat ([]:List Int)
theorem at_L5 {w:World} {A:Option Addr} {n:Nat} {xs:List (List Int)} (h:Kd.C (Kd.slice 3 (Kd.int .i64)) w A n xs) (i:Int) (h0:0≤i) (h1:i<n): ∃ ad A0 c0,A=some ad∧w.cell? (ad.add i.toNat)=some (.slice A0 (rd_L5 xs i).length c0)∧(rd_L5 xs i).length≤c0∧(Kd.int .i64).C w A0 (rd_L5 xs i).length (rd_L5 xs i):=by
 obtain⟨ad,c,e,_,hK,hc0⟩:=Kd.C_get h ([]:List Int) i h0 h1;have hc: ∀ j u,c[j]? =some u→w.cell? (ad.add (i.toNat * 1+j))=some u:=hc0;obtain⟨A0,c0,rfl,l0,g0⟩:=hK;exact⟨ad,A0,c0,e,by have hq:=hc 0 _ rfl;rwa [Nat.mul_one,Nat.add_zero] at hq,l0,g0⟩
structure S47 where
 f0:(List Int)
 f1:Int
def z47:S47:=⟨([]:List Int),(0:Int)⟩
def k47:Kd S47:=Kd.iso (Kd.pair (Kd.slice 3 (Kd.int .i64)) (Kd.int .i64)) (fun x:S47=>(x.f0,x.f1))
theorem k47_open {w:World} {x:S47} {cs:List Value} (h:k47.K w x cs): ∃ A0 c0,cs=[.slice A0 x.f0.length c0, .int .i64 x.f1]∧x.f0.length≤c0∧(Kd.int .i64).C w A0 x.f0.length x.f0:=by
 obtain⟨_,_,rfl,⟨A0,c0,rfl,l0,g0⟩,rfl⟩:=h;exact⟨A0,c0,rfl,l0,g0⟩
theorem k47_mk (w:World) (x:S47) {A0:Option Addr} {c0:Nat} (l0:x.f0.length≤c0) (g0:(Kd.int .i64).C w A0 x.f0.length x.f0):k47.K w x [.slice A0 x.f0.length c0, .int .i64 x.f1]:=⟨[.slice A0 x.f0.length c0],[.int .i64 x.f1],rfl,⟨A0,c0,rfl,l0,g0⟩,rfl⟩
theorem k47_mkM (w:World) (base:Nat) (ok:Nat→Prop) (x:S47) {v0:Value} (g0:(Kd.int .i64).R 3 w base ok v0 x.f0):k47.M w base ok x [v0, .int .i64 x.f1]:=⟨[v0],[.int .i64 x.f1],rfl,⟨v0,rfl,g0⟩,rfl⟩
theorem k47_mkF (W:World) (ok:Nat→Prop) (x:S47) {A0:Option Addr} {c0:Nat} (l0:x.f0.length≤c0) (g0:Kd.F (Kd.int .i64) W ok A0 x.f0.length x.f0):Kd.FK k47 W ok x [.slice A0 x.f0.length c0, .int .i64 x.f1]:=fun W2 hW=>k47_mk W2 x l0 (g0 W2 hW)
def rd_T47 (xs:List S47) (i:Int):S47:=xs.getD i.toNat z47
theorem at_T47 {w:World} {A:Option Addr} {n:Nat} {xs:List S47} (h:Kd.C k47 w A n xs) (i:Int) (h0:0≤i) (h1:i<n): ∃ ad A0 c0,A=some ad∧w.cell? (ad.add (i.toNat * 2))=some (.slice A0 (rd_T47 xs i).f0.length c0)∧w.cell? ⟨(ad.add (i.toNat * 2)).block,(ad.add (i.toNat * 2)).off+1,none⟩=some (.int .i64 (rd_T47 xs i).f1)∧(rd_T47 xs i).f0.length≤c0∧(Kd.int .i64).C w A0 (rd_T47 xs i).f0.length (rd_T47 xs i).f0:=by
 obtain⟨ad,c,e,_,hK,hc0⟩:=Kd.C_get h z47 i h0 h1;have hc: ∀ j u,c[j]? =some u→w.cell? (ad.add (i.toNat * 2+j))=some u:=hc0;obtain⟨A0,c0,rfl,l0,g0⟩:=k47_open hK;exact⟨ad,A0,c0,e,hc 0 _ rfl,by rw[← add_field _ _ 1 (by omega)];exact hc 1 _ rfl,l0,g0⟩
end P
namespace P
open Go 
theorem bl {n:Nat} {w w':World} (h:Below n w w':=by repeat(first|(with_reducible first|exact HB.out|apply Ye|apply Yd|apply Yg|refine Yh ?_ (Aside0.out (by assumption)))|exact HB.out)):Below n w w':=h
theorem sz {w w':World} {g:Nat} (hg:g=w'.heap.size) (h:Below w.heap.size w w':=by repeat(first|(with_reducible first|exact HB.out|apply Ye|apply Yd|apply Yg|refine Yh ?_ (Aside0.out (by assumption)))|exact HB.out)):w.heap.size≤g:=by rw[hg];exact Yi h
theorem od {p:Prop} [Decidable p] (h:decide p=true:=by first|(with_reducible assumption)|assumption):p:=Yu h
theorem bk {w w':World} {g:Nat} {o:Obj} (B:Aside0 (w.heap[g]? =some o)) (h:w.heap[g]? =some o→w'.heap[g]? =some o:=by intro h_;(with_reducible repeat(first|refine Yl ?_ _|refine Ym ?_|refine Yj ?_ _));exact h_):w'.heap[g]? =some o:=h B.out
theorem kR {α:Type} {d:Kd α} {e b:Nat} {ok:Nat→Prop} {v:Value} {xs:List α} {w w':World} (B:Aside0 (Kd.R d e w b ok v xs)) (h:Kd.R d e w b ok v xs→Kd.R d e w' b ok v xs:=by intro h_;(with_reducible repeat(first|apply Yr|apply Yq|apply Yp));exact h_):Kd.R d e w' b ok v xs:=h B.out
theorem kS {α:Type} {d:Kd α} {e b:Nat} {ok:Nat→Prop} {v:Value} {xs:List α} {w w':World} (B:Aside0 (Kd.S d e w b ok v xs)) (h:Kd.S d e w b ok v xs→Kd.S d e w' b ok v xs:=by intro h_;(with_reducible repeat(first|apply Kd.S_alloc|apply Kd.S_drewN|apply Kd.S_drew));exact h_):Kd.S d e w' b ok v xs:=h B.out
theorem kN {α:Type} {d:Kd α} {e b:Nat} {ok:Nat→Prop} {v:Value} {xs:List α} {w w':World} (B:Aside0 (Kd.N d e w b ok v xs)) (h:Kd.N d e w b ok v xs→Kd.N d e w' b ok v xs:=by intro h_;(with_reducible repeat(first|apply Kd.N_alloc|apply Kd.N_drewN|apply Kd.N_drew));exact h_):Kd.N d e w' b ok v xs:=h B.out
theorem kV {α:Type} {d:Kd α} {e b:Nat} {ok:Nat→Prop} {v:Value} {xs:List α} {w w':World} (B:Aside0 (Kd.V d e w b ok v xs)) (h:Kd.V d e w b ok v xs→Kd.V d e w' b ok v xs:=by intro h_;(with_reducible repeat(first|apply Kd.V_alloc|apply Kd.V_drewN|apply Kd.V_drew));exact h_):Kd.V d e w' b ok v xs:=h B.out
theorem bc {w:World} {g:Nat} {t:TypeId} {cs:Array Value} {v:Value} (B:Aside0 (w.heap[g]? =some (.cells cs t (0,0)))) (i:Nat) (h:cs[i]? =some v:=by rfl):w.cell? ⟨g,i,none⟩=some v:=(Yc B.out i).trans h
theorem hc {w w':World} {p:Addr} {v:Value} (B:Aside0 (Below w.heap.size w w')) (h:w.cell? p=some v):w'.cell? p=some v:=(B.out.cell (Yb w _ h)).trans h
theorem kC {α:Type} {d:Kd α} {A:Option Addr} {n:Nat} {xs:List α} {w w':World} (B:Kd.C d w A n xs) (h:Kd.C d w A n xs→Kd.C d w' A n xs:=by intro h_;(with_reducible repeat(first|exact h_|refine Kd.C_alloc ?_ _|refine Kd.C_drewN ?_ _|refine Kd.C_drew ?_))):Kd.C d w' A n xs:=h B
section
variable {P:Program} {ops:Array Oper} {o:Oper} {rest:List Oper} {a:Act} {Q:Exit→Act→World→Prop} {K:Act→World→Prop}
theorem bx {W:World} (N:Tmp) (t:TypeId) (cs:Array Value) (h: ∀ g,g=W.heap.size→ ∀ w1,w1.heap[g]? =some (.cells cs t (0,0))→Below W.heap.size W w1→wpList P ops Q rest (a.put o.dst (.pointer (some ⟨g,0,none⟩))) w1) (hd:o.dst=some N:=by with_reducible rfl) (hg:o.guard=none:=by rfl)
  (hr:(execOp a.eval o).run P W= .ok (.value (.pointer (some ⟨W.heap.size,0,none⟩))) (W.alloc (.cells cs t (0,0))):=by first|(go_simp;done)|(go_simp;rfl)):wpList P ops Q (o::rest) a W:=Yz hg hd hr h
theorem gl {w : World} (N : Option Tmp) {f : FuncId} {fn : Func} {ars : Array Operand} {ts : Array TypeId} (hf : P.funcs[f]? = some fn) (args : Array Value) (h : Calls P f args w fun e w' => ∃ v, e = .returned v ∧ wpList P ops Q rest (a.put N v) w') (hd : o.dst = N := by rfl) (hg : o.guard = none := by rfl) (hname : (fn.name == "runtime.NumGoroutine") = false := by kernel_rfl) (hb : fn.body.isSome = true := by rfl)
  (hop:o.op= .call { callee:= .value (.func f),args:=ars,argTypes:=ts } :=by rfl) (hargs:ars.map a.eval=args:=by(try simp only[List.map_toArray,List.map_cons,List.map_nil]);first|done|rfl|(simp only[List.length_drop,List.length_take];rfl)):wpList P ops Q (o::rest) a w:=goesL_ N hd hg hf hname hb args hop hargs h
theorem gs {w : World} {N : Option Tmp} {f : FuncId} {fn : Func} {ars : Array Operand} {ts : Array TypeId} (hf : P.funcs[f]? = some fn) (args : Array Value) (h : Calls P f args w fun e w' => ∃ v, e = .returned v ∧ K (a.put N v) w') (hname : (fn.name == "runtime.NumGoroutine") = false := by kernel_rfl) (hb : fn.body.isSome = true := by rfl) (hw : Region.wanted o (yielded ops a.tmps) = true := by rfl) (hN : o.dst = N := by rfl)
  (hop:o.op= .call { callee:= .value (.func f),args:=ars,argTypes:=ts } :=by rfl) (hargs:ars.map a.eval=args:=by(try simp only[List.map_toArray,List.map_cons,List.map_nil]);first|done|rfl|(simp only[List.length_drop,List.length_take];rfl)):if Region.wanted o (yielded ops a.tmps)=true then Oper.wp P o a w K Q else K (a.put N undef) w:=goes_ hf hname hb args hw hN hop hargs h
end
def bm (n k:Nat):Array Bool:=((List.range n).map fun i=>k.testBit i).toArray
section
variable {P:Program} {md:Region.Mode} {ops:Array Oper} {Q:Exit→Act→World→Prop} {S:World→Prop} {ds:List Nat} {oi:Oper} {v:Value} {fuel:Nat} {l:Array Bool} {a a':Act} {w:World}
theorem pu (i N:Nat) (l':Array Bool) (h:wpAnyLast P md ops Q S ds fuel l' a' w) (hi:ops[i]? =some oi:=by rfl) (hN:oi.dst=some N:=by rfl) (hc:anyB md ops l l' i=true:=by exact any_of HT_.out (by kernel_rfl)) (hQ: ∀ c a w,Q (.panic c) (a.put oi.dst v) w→Q (.panic c) a w:=by exact fun _ _ _ h=>h) (hy:Yields P ops oi v a:=by refine Or.inl ⟨by rfl,?_⟩;intro w';go_simp;with_reducible rfl) (ha:a.put (some N) v=a':=by simp only[Act.put,List.setIfInBounds_toArray,List.set_cons_zero,List.set_cons_succ,i64_w,i32_w];rfl):wpAnyLast P md ops Q S ds (fuel+1) l a w:=pure_ l' hi hN hc hQ hy ha h
theorem ta (i N:Nat) (l':Array Bool) (hS:S w) (h:wpAnyLast P md ops Q S ds fuel l' a' w) (hi:ops[i]? =some oi:=by rfl) (hN:oi.dst=some N:=by rfl) (hc:takeB md ops ds l l' i=true:=by exact take_ofW HT_.out HW_.out (by kernel_rfl)) (hQ: ∀ c a w,Q (.panic c) (a.put oi.dst v) w→Q (.panic c) a w:=by exact fun _ _ _ h=>h) (hy:YieldsIf P ops S oi v a:=by refine Or.inl ⟨by rfl,?_⟩;intro w' hs_;(try dsimp only at hs_);go_split_ands;go_simp;with_reducible rfl) (ha:a.put (some N) v=a':=by simp only[Act.put,List.setIfInBounds_toArray,List.set_cons_zero,List.set_cons_succ,i64_w,i32_w];rfl):wpAnyLast P md ops Q S ds (fuel+1) l a w:=take_ l' hi hN hc hQ hy hS ha h
theorem on (i:Nat) (N:Option Tmp) (l':Array Bool) (h: ∀ K:Act→World→Prop,Shut (∀ a' w',S w'→(S w'→wpAnyLast P md ops Q S ds fuel l' a' w')→K a' w')→if Region.wanted oi (yielded ops a.tmps)=true then Oper.wp P oi a w K Q else K (a.put N undef) w)
  (hi:ops[i]? =some oi:=by rfl) (hN:oi.dst=N:=by rfl) (hc:readyB md ops l l' i=true:=by exact one_of HT_.out (by kernel_rfl)) (hd:i ∉ ds:=by decide):wpAnyLast P md ops Q S ds (fuel+1) l a w:=one_ l' hi hN hc hd h
theorem nm (h:wpAnyLast P md ops Q S ds fuel l a' w) (ha:a=a':=by show Act.put _ _ _=_;simp only[Act.put,List.setIfInBounds_toArray,List.set_cons_zero,List.set_cons_succ,i64_w,i32_w];rfl):wpAnyLast P md ops Q S ds fuel l a w:=norm_ ha h
end
end P
namespace P
attribute [local go_sem] max2_int min2_int max_two min_two max_three min_three max_four min_four
def netfmt_nodes.f (a0:Int):Option (Int):=if a0<1 then(some 51) else(if a0>50 then(some 2) else(some 0))
set_option maxHeartbeats 8000000 in
set_option maxRecDepth 100000 in
theorem netfmt_nodes.calls (a0:Int) (r:Int) (w:World) (h:netfmt_nodes.f a0=some r):
  Calls Try.prog 80 #[.int .i64 a0] w fun e w'=>e= .returned (.int .i64 r)∧Drawn0 w w':=by
 have H:=h;unfold netfmt_nodes.f at H;clear h;by_cases c2:a0<1
 ·rw[Yx c2] at H
  have c2b0:decide (a0<1)=true:=Yv c2;clear c2;obtain rfl:=Option.some.inj H;go_enter Try.func80,Try.ntmps80;go_wp2;go_ret;exact⟨by first|rfl|(simp;done)|(simp[*];done),by repeat(first|exact Drawn0.refl _|apply Drawn0.step)⟩
 rw[Yy c2] at H;have c2b0:decide (a0<1)=false:=Yw c2;clear c2;by_cases c3:a0>50
 rotate_left
 ·rw[Yy c3] at H
  have c3b0:decide (50<a0)=false:=Yw c3;clear c3;obtain rfl:=Option.some.inj H;go_enter Try.func80,Try.ntmps80;go_wp2;go_ret;exact⟨by first|rfl|(simp;done)|(simp[*];done),by repeat(first|exact Drawn0.refl _|apply Drawn0.step)⟩
 rw[Yx c3] at H;have c3b0:decide (50<a0)=true:=Yv c3;clear c3;obtain rfl:=Option.some.inj H;go_enter Try.func80,Try.ntmps80;go_wp2;go_ret;exact⟨by first|rfl|(simp;done)|(simp[*];done),by repeat(first|exact Drawn0.refl _|apply Drawn0.step)⟩
end P
namespace P
attribute [local go_sem] max2_int min2_int max_two min_two max_three min_three max_four min_four
def netfmt_arc.j0:Nat→Bool→Int→Int→Int→Int→Option (Int)
 |0,_,_,_,_,_=>none
 |k+1,x5,x110000,x110001,x110002,x110003=>if x5=true then(some 51) else(if x110002>1048576 then(some 2) else(if x110003>1048576 then(some 2) else(some 0)))
def netfmt_arc.f (k:Nat) (a0:Int) (Zk:Int) (Xf:Int) (Wp:Int) (Wq:Int):Option (Int):=if (mn (mn (mn Zk Xf) Wp) Wq)<0 then(netfmt_arc.j0 k true Zk Xf Wp Wq) else(netfmt_arc.j0 k (decide ((mx Zk Xf)≥a0)) Zk Xf Wp Wq)
theorem netfmt_arc.mono_l: ∀ k,(∀ y0 y1 y2 y3 y4,LeO (netfmt_arc.j0 k y0 y1 y2 y3 y4) (netfmt_arc.j0 (k+1) y0 y1 y2 y3 y4))
 |0=>fun _ _ _ _ _ r h=>by simp[netfmt_arc.j0] at h
 |k+1=>by
  have ih0:=netfmt_arc.mono_l k
  ·intro y0 y1 y2 y3 y4
   unfold netfmt_arc.j0;repeat' first
   |(with_reducible exact ih0 _ _ _ _ _)
   |(with_reducible exact LeO.refl _)
   |(with_reducible exact LeO.none _)
   |(with_reducible refine LeO.ite ?_ ?_)
   |(with_reducible refine LeO.bind ?_ (fun _=> ?_))
   |refine LeO.ite ?_ ?_
   |refine LeO.bind ?_ (fun _=> ?_)
theorem netfmt_arc.mono: ∀ a0 a1 a2 a3 a4 k,LeO (netfmt_arc.f k a0 a1 a2 a3 a4) (netfmt_arc.f (k+1) a0 a1 a2 a3 a4):=by
 intro a0 a1 a2 a3 a4 k;have ih0:=netfmt_arc.mono_l k;unfold netfmt_arc.f;repeat' first
   |(with_reducible exact ih0 _ _ _ _ _)
   |(with_reducible exact LeO.refl _)
   |(with_reducible exact LeO.none _)
   |(with_reducible refine LeO.ite ?_ ?_)
   |(with_reducible refine LeO.bind ?_ (fun _=> ?_))
   |refine LeO.ite ?_ ?_
   |refine LeO.bind ?_ (fun _=> ?_)
set_option maxHeartbeats 8000000 in
set_option maxRecDepth 100000 in
theorem netfmt_arc.calls (k:Nat) (a0:Int) (Zk:Int) (Xf:Int) (Wp:Int) (Wq:Int) (r:Int) (w:World) (h:netfmt_arc.f k a0 Zk Xf Wp Wq=some r):
  Calls Try.prog 81 #[.int .i64 a0, .agg #[.int .i64 Zk, .int .i64 Xf, .int .i64 Wp, .int .i64 Wq]] w fun e w'=>e= .returned (.int .i64 r)∧Below w.heap.size w w':=by
 have hu50:=Try.underlying50;have HB:=Ya (Yo w.heap.size w);have H:=h;unfold netfmt_arc.f at H;clear h;have HC3:=Ya H;clear H;go_enter Try.func81,Try.ntmps81;go_upto_region 1 with (first|((with_reducible refine gate_dst (N:=3) rfl ?_);(try (refine gate_guard (by rfl) ?_;dsimp only));refine Yz ?hg (N:=3) ?hd (cs:= #[.int .i64 Zk, .int .i64 Xf, .int .i64 Wp, .int .i64 Wq]) (t:=50) ?hr ?_;(case hd=>rfl);(case hg=>rfl);(case hr=>first|(go_simp;done)|(go_simp;rfl));intro Uz hg w4 Zf hb;have n0_:=Ya (Yk (by repeat(first|(with_reducible first|exact HB.out|apply Ye|apply Yd|apply Yg)|exact HB.out)) hb);have n1_:=Ya (Zf);have n2_:=Ya ((by rw[hg];exact(Yi (by repeat(first|(with_reducible first|exact HB.out|apply Ye|apply Yd|apply Yg)|exact HB.out))):w.heap.size≤Uz));have n3_:=Ya ((by rw[hg];exact(Yi (by repeat(first|(with_reducible first|exact HB.out|apply Ye|apply Yd|apply Yg)|exact HB.out))):w.heap.size≤Uz));clear HB;have HB:=n0_;have Wd:=n1_;have GW109:=n2_;have GE109:=n3_;clear n0_ n1_ n2_ n3_;clear hb Zf hg))
 (try simp only[Act.put,List.setIfInBounds_toArray,List.set_cons_zero,List.set_cons_succ])
 go_cut [5] (fun v5 wc=> ∃ (kq:Nat) (x5_2:Bool),v5= .bool x5_2∧Aside0 (netfmt_arc.j0 kq x5_2 Zk Xf Wp Wq=some r)∧Aside0 (kq≤k)∧Aside0 (wc.heap[Uz]? =some (.cells #[.int .i64 Zk, .int .i64 Xf, .int .i64 Wp, .int .i64 Wq] 50 (0,0)))∧Aside0 (Below w.heap.size w wc))
 case first=>
  have H:=HC3.out;clear HC3;obtain⟨ji5,hji5⟩: ∃ j_:Int,(mn Zk Xf)=j_:=⟨_,rfl⟩;replace H:(if (mn (mn (ji5) Wp) Wq)<0 then(netfmt_arc.j0 k true Zk Xf Wp Wq) else(netfmt_arc.j0 k (decide ((mx Zk Xf)≥a0)) Zk Xf Wp Wq))=some r:=by first|(rw[hji5] at H;exact H)|(simp only[hji5] at H ⊢;exact H)
  have hji5_:(if Xf<Zk then Xf else Zk)=ji5:=hji5;obtain⟨ji6,hji6⟩: ∃ j_:Int,(mn (ji5) Wp)=j_:=⟨_,rfl⟩;replace H:(if (mn (ji6) Wq)<0 then(netfmt_arc.j0 k true Zk Xf Wp Wq) else(netfmt_arc.j0 k (decide ((mx Zk Xf)≥a0)) Zk Xf Wp Wq))=some r:=by first|(rw[hji6] at H;exact H)|(simp only[hji6] at H ⊢;exact H)
  have hji6_:(if Wp<(ji5) then Wp else(ji5))=ji6:=hji6;obtain⟨ji7,hji7⟩: ∃ j_:Int,(mn (ji6) Wq)=j_:=⟨_,rfl⟩;replace H:(if (ji7)<0 then(netfmt_arc.j0 k true Zk Xf Wp Wq) else(netfmt_arc.j0 k (decide ((mx Zk Xf)≥a0)) Zk Xf Wp Wq))=some r:=by first|(rw[hji7] at H;exact H)|(simp only[hji7] at H ⊢;exact H)
  have hji7_:(if Wq<(ji6) then Wq else(ji6))=ji7:=hji7;by_cases c8:(ji7)<0
  ·rw[Yx c8] at H
   have c8b0:decide ((ji7)<0)=true:=Yv c8;clear c8
   (first|rw[c8b0]|(simp only[i64_w,i32_w];rw[c8b0])|skip)
   have H':=Ya H;clear H;have hcz9_0:w4.cell? ⟨Uz,0,none⟩=some (.int .i64 Zk):=bc Wd 0;have hcz9_1:w4.cell? ⟨Uz,1,none⟩=some (.int .i64 Xf):=bc Wd 1;have hcz9_2:w4.cell? ⟨Uz,2,none⟩=some (.int .i64 Wp):=bc Wd 2;have hcz9_3:w4.cell? ⟨Uz,3,none⟩=some (.int .i64 Wq):=bc Wd 3;have hfz9_0:=Yf Wd.out 0;have hfz9_1:=Yf Wd.out 1;have hfz9_2:=Yf Wd.out 2;have hfz9_3:=Yf Wd.out 3;go_wp2;go_meet
   case rel=>exact⟨_,(true),(by first|rfl|(simp;done)|(simp[*];done)),H',⟨by first|omega|exact Nat.le_refl _⟩,⟨Wd.out⟩,⟨HB.out⟩⟩
  rw[Yy c8] at H;have c8b0:decide ((ji7)<0)=false:=Yw c8;clear c8
  (first|rw[c8b0]|(simp only[i64_w,i32_w];rw[c8b0])|skip)
  obtain⟨ji10,hji10⟩: ∃ j_:Int,(mx Zk Xf)=j_:=⟨_,rfl⟩;replace H:(netfmt_arc.j0 k (decide ((ji10)≥a0)) Zk Xf Wp Wq)=some r:=by first|(rw[hji10] at H;exact H)|(simp only[hji10] at H ⊢;exact H)
  have hji10_:(if Zk<Xf then Xf else Zk)=ji10:=hji10;have H':=Ya H;clear H;have hcz11_0:w4.cell? ⟨Uz,0,none⟩=some (.int .i64 Zk):=bc Wd 0;have hcz11_1:w4.cell? ⟨Uz,1,none⟩=some (.int .i64 Xf):=bc Wd 1;have hcz11_2:w4.cell? ⟨Uz,2,none⟩=some (.int .i64 Wp):=bc Wd 2;have hcz11_3:w4.cell? ⟨Uz,3,none⟩=some (.int .i64 Wq):=bc Wd 3;have hfz11_0:=Yf Wd.out 0;have hfz11_1:=Yf Wd.out 1;have hfz11_2:=Yf Wd.out 2;have hfz11_3:=Yf Wd.out 3;go_wp2;go_meet
  case rel=>exact⟨_,(decide ((ji10)≥a0)),(by first|rfl|(simp;done)|(simp only[← hji10]<;>(first|rfl|simp))|(simp[*];done)),H',⟨by first|omega|exact Nat.le_refl _⟩,⟨Wd.out⟩,⟨HB.out⟩⟩
 case rest=>
  clear HC3;try clear c8
  try clear c8b0
  try clear hcz11_0
  try clear hcz11_1
  try clear hcz11_2
  try clear hcz11_3
  try clear hcz9_0
  try clear hcz9_1
  try clear hcz9_2
  try clear hcz9_3
  try clear hfz11_0
  try clear hfz11_1
  try clear hfz11_2
  try clear hfz11_3
  try clear hfz9_0
  try clear hfz9_1
  try clear hfz9_2
  try clear hfz9_3
  obtain⟨kq,x5_2,rfl,HA,HJ2,Wd,HB⟩:=hcut;cases kq with
  |zero=>exact absurd HA.out (by simp[netfmt_arc.j0])
  |succ kj2=>
   have H:=HA.out;clear HA;simp only[netfmt_arc.j0] at H;by_cases c12:x5_2=true
   ·subst c12
    first|rw[Yx rfl] at H|rw[Yx trivial] at H
    obtain rfl:=Option.some.inj H;go_wp2;go_ret;exact⟨by first|rfl|(simp[errW_none,errW_some]<;>rfl)|(simp[*,errW_none,errW_some]<;>rfl),HB.out⟩
   replace c12:=Bool.eq_false_iff.mpr c12;subst c12;rw[Yy (show ¬ (false=true) by decide)] at H;by_cases c13:Wp>1048576
   ·rw[Yx c13] at H
    have c13b0:decide (1048576<Wp)=true:=Yv c13;clear c13;obtain rfl:=Option.some.inj H;have Jp:wc.cell? ⟨Uz,0,none⟩=some (.int .i64 Zk):=bc Wd 0;have Jq:wc.cell? ⟨Uz,1,none⟩=some (.int .i64 Xf):=bc Wd 1;have hcz14_2:wc.cell? ⟨Uz,2,none⟩=some (.int .i64 Wp):=bc Wd 2;have hcz14_3:wc.cell? ⟨Uz,3,none⟩=some (.int .i64 Wq):=bc Wd 3;have Jr:=Yf Wd.out 0;have Js:=Yf Wd.out 1;have hfz14_2:=Yf Wd.out 2;have hfz14_3:=Yf Wd.out 3;go_wp2;go_ret;exact⟨by first|rfl|(simp[errW_none,errW_some]<;>rfl)|(simp[*,errW_none,errW_some]<;>rfl),HB.out⟩
   rw[Yy c13] at H;have c13b0:decide (1048576<Wp)=false:=Yw c13;clear c13;by_cases c15:Wq>1048576
   rotate_left
   ·rw[Yy c15] at H
    have c15b0:decide (1048576<Wq)=false:=Yw c15;clear c15;obtain rfl:=Option.some.inj H;have Ww:wc.cell? ⟨Uz,0,none⟩=some (.int .i64 Zk):=bc Wd 0;have Wx:wc.cell? ⟨Uz,1,none⟩=some (.int .i64 Xf):=bc Wd 1;have hcz17_2:wc.cell? ⟨Uz,2,none⟩=some (.int .i64 Wp):=bc Wd 2;have hcz17_3:wc.cell? ⟨Uz,3,none⟩=some (.int .i64 Wq):=bc Wd 3;have Wy:=Yf Wd.out 0;have Wz:=Yf Wd.out 1;have hfz17_2:=Yf Wd.out 2;have hfz17_3:=Yf Wd.out 3;go_wp2;go_ret;exact⟨by first|rfl|(simp[errW_none,errW_some]<;>rfl)|(simp[*,errW_none,errW_some]<;>rfl),HB.out⟩
   rw[Yx c15] at H;have c15b0:decide (1048576<Wq)=true:=Yv c15;clear c15;obtain rfl:=Option.some.inj H;have Jt:wc.cell? ⟨Uz,0,none⟩=some (.int .i64 Zk):=bc Wd 0;have Ju:wc.cell? ⟨Uz,1,none⟩=some (.int .i64 Xf):=bc Wd 1;have hcz16_2:wc.cell? ⟨Uz,2,none⟩=some (.int .i64 Wp):=bc Wd 2;have hcz16_3:wc.cell? ⟨Uz,3,none⟩=some (.int .i64 Wq):=bc Wd 3;have Jv:=Yf Wd.out 0;have Jw:=Yf Wd.out 1;have hfz16_2:=Yf Wd.out 2;have hfz16_3:=Yf Wd.out 3;go_wp2;go_ret;exact⟨by first|rfl|(simp[errW_none,errW_some]<;>rfl)|(simp[*,errW_none,errW_some]<;>rfl),HB.out⟩
end P
namespace P
attribute [local go_sem] max2_int min2_int max_two min_two max_three min_three max_four min_four
def netfmt_Check.l0:Nat→List (S50)→Int→Int→Int→Bool→List (S50)→Option (Int)
 |0,_,_,_,_,_,_=>none
 |k+1,x18,x19,x20,x111000,x111001,x111002=>if x20<x19 then(if 0≤x20 then(if x20<(x18.length:Int) then((netfmt_arc.f k x111000 ((rd_T50 x18 x20).f0) ((rd_T50 x18 x20).f1) ((rd_T50 x18 x20).f2) ((rd_T50 x18 x20).f3)).bind fun t114=>(if t114=0 then(netfmt_Check.l0 k x18 x19 (wrap64 (x20+1)) x111000 x111001 x111002) else(some t114))) else(none)) else(none)) else(some 0)
def netfmt_Check.f (k:Nat) (Zc:Int) (Zb:Bool) (Za:List (S50)):Option (Int):=(netfmt_nodes.f Zc).bind fun t111=>(if t111=0 then(if (Za.length:Int)>200 then(some 2) else(netfmt_Check.l0 k Za (Za.length:Int) 0 Zc Zb Za)) else(some t111))
theorem netfmt_Check.mono_l: ∀ k,(∀ y0 y1 y2 y3 y4 y5,LeO (netfmt_Check.l0 k y0 y1 y2 y3 y4 y5) (netfmt_Check.l0 (k+1) y0 y1 y2 y3 y4 y5))
 |0=>fun _ _ _ _ _ _ r h=>by simp[netfmt_Check.l0] at h
 |k+1=>by
  have ih0:=netfmt_Check.mono_l k
  ·intro y0 y1 y2 y3 y4 y5
   unfold netfmt_Check.l0;repeat' first
   |(with_reducible exact ih0 _ _ _ _ _ _)
   |(with_reducible exact netfmt_arc.mono _ _ _ _ _ _)
   |(with_reducible exact LeO.refl _)
   |(with_reducible exact LeO.none _)
   |(with_reducible refine LeO.ite ?_ ?_)
   |(with_reducible refine LeO.bind ?_ (fun _=> ?_))
   |refine LeO.ite ?_ ?_
   |refine LeO.bind ?_ (fun _=> ?_)
theorem netfmt_Check.mono: ∀ a0 a1 a2 k,LeO (netfmt_Check.f k a0 a1 a2) (netfmt_Check.f (k+1) a0 a1 a2):=by
 intro a0 a1 a2 k;have ih0:=netfmt_Check.mono_l k;unfold netfmt_Check.f;repeat' first
   |(with_reducible exact ih0 _ _ _ _ _ _)
   |(with_reducible exact netfmt_arc.mono _ _ _ _ _ _)
   |(with_reducible exact LeO.refl _)
   |(with_reducible exact LeO.none _)
   |(with_reducible refine LeO.ite ?_ ?_)
   |(with_reducible refine LeO.bind ?_ (fun _=> ?_))
   |refine LeO.ite ?_ ?_
   |refine LeO.bind ?_ (fun _=> ?_)
set_option maxHeartbeats 8000000 in
set_option maxRecDepth 100000 in
theorem netfmt_Check.calls (k:Nat) (Zc:Int) (Zb:Bool) (Ze:Option Addr) (Zd:Nat) (Za:List (S50)) (r:Int) (w:World) (Zp:Kd.C k50 w Ze Za.length Za) (Zq:Za.length≤Zd) (h:netfmt_Check.f k Zc Zb Za=some r):
  Calls Try.prog 61 #[.agg #[.int .i64 Zc, .bool Zb, .slice Ze Za.length Zd]] w fun e w'=>e= .returned (.int .i64 r)∧Below w.heap.size w w':=by
 have hu24:=Try.underlying24;have hu50:=Try.underlying50;have Zj:=Ya Zp;have Zs:=Ya Zq;clear Zp Zq;have HB:=Ya (Yo w.heap.size w);have H:=h;unfold netfmt_Check.f at H;clear h;replace H:=Option.bind_eq_some_iff.mp H;obtain⟨t111,A20,H⟩:=H;try dsimp only at H
 have A2:=Ya A20;clear A20;by_cases c3:t111=0
 rotate_left
 ·rw[Yy c3] at H
  have c3b0:(t111 == 0)=false:=beq_eq_false_iff_ne.mpr c3;have c3b1:(t111 != 0)=true:=bne_iff_ne.mpr c3;obtain rfl:=Option.some.inj H;go_enter Try.func61,Try.ntmps61;go_wp2_with (first|(refine bx 1 24 #[.int .i64 Zc, .bool Zb, .slice Ze Za.length Zd] ?_;intro Vg hg w24 Zf hb;have Xx:=Ya (Zf);have GW110:=Ya (by rw[hg];exact(Yi HB.out):w.heap.size≤Vg);have GE110:=Ya (by rw[hg];exact(Yi HB.out):w.heap.size≤Vg);replace HB:=Ya (Yk HB.out hb);clear hb Zf hg;have hcz25_0:w24.cell? ⟨Vg,0,none⟩=some (.int .i64 Zc):=bc Xx 0;have hcz25_1:w24.cell? ⟨Vg,1,none⟩=some (.bool Zb):=bc Xx 1;have hcz25_2:w24.cell? ⟨Vg,2,none⟩=some (.slice Ze Za.length Zd):=bc Xx 2;have hfz25_0:=Yf Xx.out 0;have hfz25_1:=Yf Xx.out 1;have hfz25_2:=Yf Xx.out 2)|((with_reducible refine gate_callee (f:=80) rfl ?_);refine gl (some 9) Try.func80 #[.int .i64 Zc] ?_;(with_reducible refine(netfmt_nodes.calls Zc t111 _ A2.out).mono ?_);rintro e w' ⟨rfl,⟨nd,rfl⟩⟩;refine⟨_,rfl,?_⟩));go_ret;exact⟨by first|rfl|(simp[errW_none,errW_some]<;>rfl)|(simp[*,errW_none,errW_some]<;>rfl),bl⟩
 rw[Yx c3] at H;have c3b0:(t111 == 0)=true:=beq_iff_eq.mpr c3;have c3b1:(t111 != 0)=false:=bne_eq_false_iff_eq.mpr c3;clear c3;by_cases c4:(Za.length:Int)>200
 ·rw[Yx c4] at H
  have c4b0:decide (200<(Za.length:Int))=true:=Yv c4;have c4b1:decide (200<Za.length)=true:=Yv (by omega);clear c4;obtain rfl:=Option.some.inj H;go_enter Try.func61,Try.ntmps61;go_wp2_with (first|(refine bx 1 24 #[.int .i64 Zc, .bool Zb, .slice Ze Za.length Zd] ?_;intro Vg hg w5 Zf hb;have Xx:=Ya (Zf);have GW110:=Ya (by rw[hg];exact(Yi HB.out):w.heap.size≤Vg);have GE110:=Ya (by rw[hg];exact(Yi HB.out):w.heap.size≤Vg);replace HB:=Ya (Yk HB.out hb);clear hb Zf hg;have hcz6_0:w5.cell? ⟨Vg,0,none⟩=some (.int .i64 Zc):=bc Xx 0;have hcz6_1:w5.cell? ⟨Vg,1,none⟩=some (.bool Zb):=bc Xx 1;have hcz6_2:w5.cell? ⟨Vg,2,none⟩=some (.slice Ze Za.length Zd):=bc Xx 2;have hfz6_0:=Yf Xx.out 0;have hfz6_1:=Yf Xx.out 1;have hfz6_2:=Yf Xx.out 2)|((with_reducible refine gate_callee (f:=80) rfl ?_);refine gl (some 9) Try.func80 #[.int .i64 Zc] ?_;(with_reducible refine(netfmt_nodes.calls Zc t111 _ A2.out).mono ?_);rintro e w' ⟨rfl,⟨nd,rfl⟩⟩;refine⟨_,rfl,?_⟩));go_ret;exact⟨by first|rfl|(simp[errW_none,errW_some]<;>rfl)|(simp[*,errW_none,errW_some]<;>rfl),bl⟩
 rw[Yy c4] at H;have c4b0:decide (200<(Za.length:Int))=false:=Yw c4;have c4b1:decide (200<Za.length)=false:=Yw (by omega);clear c4;have H':=Ya H;clear H;go_enter Try.func61,Try.ntmps61;go_wp2_with (first|(refine bx 1 24 #[.int .i64 Zc, .bool Zb, .slice Ze Za.length Zd] ?_;intro Vg hg w7 Zf hb;have Xx:=Ya (Zf);have GW110:=Ya (by rw[hg];exact(Yi HB.out):w.heap.size≤Vg);have GE110:=Ya (by rw[hg];exact(Yi HB.out):w.heap.size≤Vg);replace HB:=Ya (Yk HB.out hb);clear hb Zf hg;have Uj:w7.cell? ⟨Vg,0,none⟩=some (.int .i64 Zc):=bc Xx 0;have Uk:w7.cell? ⟨Vg,1,none⟩=some (.bool Zb):=bc Xx 1;have Ja:w7.cell? ⟨Vg,2,none⟩=some (.slice Ze Za.length Zd):=bc Xx 2;have Ul:=Yf Xx.out 0;have Um:=Yf Xx.out 1;have Jb:=Yf Xx.out 2)|((with_reducible refine gate_callee (f:=80) rfl ?_);refine gl (some 9) Try.func80 #[.int .i64 Zc] ?_;(with_reducible refine(netfmt_nodes.calls Zc t111 _ A2.out).mono ?_);rintro e w' ⟨rfl,⟨nd,rfl⟩⟩;refine⟨_,rfl,?_⟩));go_loopg [20] k (fun kq v20 w'=> ∃ (Xp:Int),v20= .int .i64 Xp∧Aside0 (netfmt_Check.l0 kq Za (Za.length:Int) Xp Zc Zb Za=some r)∧Aside0 (kq≤k)∧Aside0 (w'.heap[Vg]? =some (.cells #[.int .i64 Zc, .bool Zb,(.slice Ze Za.length Zd)] 24 (0,0)))∧Aside0 (Below w.heap.size w w'))
 case atStart=>exact⟨(0),(by first|rfl|(simp;done)|(simp[*];done)),H',⟨Nat.le_refl _⟩,⟨bk Xx⟩,⟨bl⟩⟩
 case round=>
  clear H';try clear c3
  try clear c3b0
  try clear c3b1
  try clear c4
  try clear c4b0
  try clear c4b1
  try clear hcz6_0
  try clear hcz6_1
  try clear hcz6_2
  try clear Uj
  try clear Uk
  try clear Ja
  try clear hfz6_0
  try clear hfz6_1
  try clear hfz6_2
  try clear Ul
  try clear Um
  try clear Jb
  obtain⟨Xp,rfl,HA,HK1,Xx,HB⟩:=hrel;cases gk with
  |zero=>exact absurd HA.out (by simp[netfmt_Check.l0])
  |succ k1=>
   have H:=HA.out;clear HA;simp only[netfmt_Check.l0] at H;by_cases c9:Xp<(Za.length:Int)
   rotate_left
   ·rw[Yy c9] at H
    have c9b0:decide (Xp<(Za.length:Int))=false:=Yw c9;clear c9;obtain rfl:=Option.some.inj H;go_wp2;go_ret;exact⟨by first|rfl|(simp[errW_none,errW_some]<;>rfl)|(simp[*,errW_none,errW_some]<;>rfl),HB.out⟩
   rw[Yx c9] at H;have c9b0:decide (Xp<(Za.length:Int))=true:=Yv c9;clear c9;by_cases c10:0≤Xp
   rotate_left
   ·rw[Yy c10] at H
    exact absurd H (by simp)
   rw[Yx c10] at H;have c10b0:decide (0≤Xp)=true:=Yv c10;clear c10;by_cases c11:Xp<(Za.length:Int)
   rotate_left
   ·rw[Yy c11] at H
    exact absurd H (by simp)
   rw[Yx c11] at H;have c11b0:decide (Xp<(Za.length:Int))=true:=Yv c11;clear c11;replace H:=Option.bind_eq_some_iff.mp H;obtain⟨t114,A120,H⟩:=H;try dsimp only at H
   have A12:=Ya A120;clear A120;by_cases c13:t114=0
   rotate_left
   ·rw[Yy c13] at H
    have c13b0:(t114 == 0)=false:=beq_eq_false_iff_ne.mpr c13;have c13b1:(t114 != 0)=true:=bne_iff_ne.mpr c13;obtain rfl:=Option.some.inj H;have p112:0≤(Xp:Int):=od;have q112:Xp<(Za.length:Int):=od;obtain⟨ad112,e112,hx112_0,hx112_1,hx112_2,hx112_3⟩:=at_T50 Zj.out Xp p112 q112;cases e112;replace hx112_0:=hc HB hx112_0;replace hx112_1:=hc HB hx112_1;replace hx112_2:=hc HB hx112_2;replace hx112_3:=hc HB hx112_3;replace p112:=eq_true p112;replace q112:=eq_true q112;go_wp2_with (first|(refine bx 5 50 #[.int .i64 0, .int .i64 0, .int .i64 0, .int .i64 0] ?_;intro gb113 hg w19 Zf hb;have Jl:=Ya (Zf);have GW113:=Ya ((sz hg));have GE113:=Ya ((sz hg));replace HB:=Ya (Yk bl hb);have Vt:=Ya (by rw[hg];exact Nat.ne_of_lt (blk_lt (bk Xx)):Vg≠gb113);have NB113_110:=Ya (by rw[hg];exact Nat.ne_of_gt (blk_lt (bk Xx)):gb113≠Vg);replace Xx:=Ya (Yn (bk Xx) hb);clear hb Zf hg;have hnb20:=NB113_110.out;have hnc20:=Vt.out;have hcz21_0:w19.cell? ⟨gb113,0,none⟩=some (.int .i64 0):=bc Jl 0;have hcz21_1:w19.cell? ⟨gb113,1,none⟩=some (.int .i64 0):=bc Jl 1;have hcz21_2:w19.cell? ⟨gb113,2,none⟩=some (.int .i64 0):=bc Jl 2;have hcz21_3:w19.cell? ⟨gb113,3,none⟩=some (.int .i64 0):=bc Jl 3;have hfz21_0:=Yf Jl.out 0;have hfz21_1:=Yf Jl.out 1;have hfz21_2:=Yf Jl.out 2;have hfz21_3:=Yf Jl.out 3;have hcz22_0:w19.cell? ⟨Vg,0,none⟩=some (.int .i64 Zc):=bc Xx 0;have hcz22_1:w19.cell? ⟨Vg,1,none⟩=some (.bool Zb):=bc Xx 1;have hcz22_2:w19.cell? ⟨Vg,2,none⟩=some (.slice (some ad112) Za.length Zd):=bc Xx 2;have hfz22_0:=Yf Xx.out 0;have hfz22_1:=Yf Xx.out 1;have hfz22_2:=Yf Xx.out 2)|((with_reducible refine gate_callee (f:=81) rfl ?_);refine gl (some 27) Try.func81 #[.int .i64 Zc, .agg #[.int .i64 ((rd_T50 Za Xp).f0), .int .i64 ((rd_T50 Za Xp).f1), .int .i64 ((rd_T50 Za Xp).f2), .int .i64 ((rd_T50 Za Xp).f3)]] ?_;(with_reducible refine(netfmt_arc.calls k1 Zc ((rd_T50 Za Xp).f0) ((rd_T50 Za Xp).f1) ((rd_T50 Za Xp).f2) ((rd_T50 Za Xp).f3) t114 _ A12.out).mono ?_);rintro e w23 ⟨rfl,hb⟩;refine⟨_,rfl,?_⟩;replace Xx:=Ya (Yn (g:=Vg) (o:= .cells #[.int .i64 Zc, .bool Zb, .slice (some ad112) Za.length Zd] 24 (0,0)) (by(with_reducible repeat(first|refine Yl ?_ _|refine Ym ?_|refine Yj ?_ _));refine blk_far ?_ Vt.out _;(with_reducible repeat(first|refine Yl ?_ _|refine Ym ?_|refine Yj ?_ _));refine blk_far ?_ Vt.out _;(with_reducible repeat(first|refine Yl ?_ _|refine Ym ?_|refine Yj ?_ _));refine blk_far ?_ Vt.out _;(with_reducible repeat(first|refine Yl ?_ _|refine Ym ?_|refine Yj ?_ _));refine blk_far ?_ Vt.out _;(with_reducible repeat(first|refine Yl ?_ _|refine Ym ?_|refine Yj ?_ _));exact Xx.out) hb);replace Jl:=Ya (Yn (g:=gb113) (o:= .cells #[.int .i64 ((rd_T50 Za Xp).f0), .int .i64 ((rd_T50 Za Xp).f1), .int .i64 ((rd_T50 Za Xp).f2), .int .i64 ((rd_T50 Za Xp).f3)] 50 (0,0)) (by(with_reducible repeat(first|refine Yl ?_ _|refine Ym ?_|refine Yj ?_ _));refine YA (cs:= #[.int .i64 ((rd_T50 Za Xp).f0), .int .i64 ((rd_T50 Za Xp).f1), .int .i64 ((rd_T50 Za Xp).f2), .int .i64 0]) ?_ 3 _ rfl;(with_reducible repeat(first|refine Yl ?_ _|refine Ym ?_|refine Yj ?_ _));refine YA (cs:= #[.int .i64 ((rd_T50 Za Xp).f0), .int .i64 ((rd_T50 Za Xp).f1), .int .i64 0, .int .i64 0]) ?_ 2 _ rfl;(with_reducible repeat(first|refine Yl ?_ _|refine Ym ?_|refine Yj ?_ _));refine YA (cs:= #[.int .i64 ((rd_T50 Za Xp).f0), .int .i64 0, .int .i64 0, .int .i64 0]) ?_ 1 _ rfl;(with_reducible repeat(first|refine Yl ?_ _|refine Ym ?_|refine Yj ?_ _));refine YA (cs:= #[.int .i64 0, .int .i64 0, .int .i64 0, .int .i64 0]) ?_ 0 _ rfl;(with_reducible repeat(first|refine Yl ?_ _|refine Ym ?_|refine Yj ?_ _));exact Jl.out) hb);replace HB:=Ya (Yk bl hb);(try clear hb)));go_ret;exact⟨by first|rfl|(simp[errW_none,errW_some]<;>rfl)|(simp[*,errW_none,errW_some]<;>rfl),HB.out⟩
   rw[Yx c13] at H;have c13b0:(t114 == 0)=true:=beq_iff_eq.mpr c13;have c13b1:(t114 != 0)=false:=bne_eq_false_iff_eq.mpr c13;clear c13;have H':=Ya H;clear H;have p112:0≤(Xp:Int):=od;have q112:Xp<(Za.length:Int):=od;obtain⟨ad112,e112,hx112_0,hx112_1,hx112_2,hx112_3⟩:=at_T50 Zj.out Xp p112 q112;cases e112;replace hx112_0:=hc HB hx112_0;replace hx112_1:=hc HB hx112_1;replace hx112_2:=hc HB hx112_2;replace hx112_3:=hc HB hx112_3;replace p112:=eq_true p112;replace q112:=eq_true q112;go_wp2_with (first|(refine bx 5 50 #[.int .i64 0, .int .i64 0, .int .i64 0, .int .i64 0] ?_;intro gb113 hg w14 Zf hb;have Jl:=Ya (Zf);have GW113:=Ya ((sz hg));have GE113:=Ya ((sz hg));replace HB:=Ya (Yk bl hb);have Vt:=Ya (by rw[hg];exact Nat.ne_of_lt (blk_lt (bk Xx)):Vg≠gb113);have NB113_110:=Ya (by rw[hg];exact Nat.ne_of_gt (blk_lt (bk Xx)):gb113≠Vg);replace Xx:=Ya (Yn (bk Xx) hb);clear hb Zf hg;have hnb15:=NB113_110.out;have hnc15:=Vt.out;have Jt:w14.cell? ⟨gb113,0,none⟩=some (.int .i64 0):=bc Jl 0;have Ju:w14.cell? ⟨gb113,1,none⟩=some (.int .i64 0):=bc Jl 1;have hcz16_2:w14.cell? ⟨gb113,2,none⟩=some (.int .i64 0):=bc Jl 2;have hcz16_3:w14.cell? ⟨gb113,3,none⟩=some (.int .i64 0):=bc Jl 3;have Jv:=Yf Jl.out 0;have Jw:=Yf Jl.out 1;have hfz16_2:=Yf Jl.out 2;have hfz16_3:=Yf Jl.out 3;have Ww:w14.cell? ⟨Vg,0,none⟩=some (.int .i64 Zc):=bc Xx 0;have Wx:w14.cell? ⟨Vg,1,none⟩=some (.bool Zb):=bc Xx 1;have hcz17_2:w14.cell? ⟨Vg,2,none⟩=some (.slice (some ad112) Za.length Zd):=bc Xx 2;have Wy:=Yf Xx.out 0;have Wz:=Yf Xx.out 1;have hfz17_2:=Yf Xx.out 2)|((with_reducible refine gate_callee (f:=81) rfl ?_);refine gl (some 27) Try.func81 #[.int .i64 Zc, .agg #[.int .i64 ((rd_T50 Za Xp).f0), .int .i64 ((rd_T50 Za Xp).f1), .int .i64 ((rd_T50 Za Xp).f2), .int .i64 ((rd_T50 Za Xp).f3)]] ?_;(with_reducible refine(netfmt_arc.calls k1 Zc ((rd_T50 Za Xp).f0) ((rd_T50 Za Xp).f1) ((rd_T50 Za Xp).f2) ((rd_T50 Za Xp).f3) t114 _ A12.out).mono ?_);rintro e w18 ⟨rfl,hb⟩;refine⟨_,rfl,?_⟩;replace Xx:=Ya (Yn (g:=Vg) (o:= .cells #[.int .i64 Zc, .bool Zb, .slice (some ad112) Za.length Zd] 24 (0,0)) (by(with_reducible repeat(first|refine Yl ?_ _|refine Ym ?_|refine Yj ?_ _));refine blk_far ?_ Vt.out _;(with_reducible repeat(first|refine Yl ?_ _|refine Ym ?_|refine Yj ?_ _));refine blk_far ?_ Vt.out _;(with_reducible repeat(first|refine Yl ?_ _|refine Ym ?_|refine Yj ?_ _));refine blk_far ?_ Vt.out _;(with_reducible repeat(first|refine Yl ?_ _|refine Ym ?_|refine Yj ?_ _));refine blk_far ?_ Vt.out _;(with_reducible repeat(first|refine Yl ?_ _|refine Ym ?_|refine Yj ?_ _));exact Xx.out) hb);replace Jl:=Ya (Yn (g:=gb113) (o:= .cells #[.int .i64 ((rd_T50 Za Xp).f0), .int .i64 ((rd_T50 Za Xp).f1), .int .i64 ((rd_T50 Za Xp).f2), .int .i64 ((rd_T50 Za Xp).f3)] 50 (0,0)) (by(with_reducible repeat(first|refine Yl ?_ _|refine Ym ?_|refine Yj ?_ _));refine YA (cs:= #[.int .i64 ((rd_T50 Za Xp).f0), .int .i64 ((rd_T50 Za Xp).f1), .int .i64 ((rd_T50 Za Xp).f2), .int .i64 0]) ?_ 3 _ rfl;(with_reducible repeat(first|refine Yl ?_ _|refine Ym ?_|refine Yj ?_ _));refine YA (cs:= #[.int .i64 ((rd_T50 Za Xp).f0), .int .i64 ((rd_T50 Za Xp).f1), .int .i64 0, .int .i64 0]) ?_ 2 _ rfl;(with_reducible repeat(first|refine Yl ?_ _|refine Ym ?_|refine Yj ?_ _));refine YA (cs:= #[.int .i64 ((rd_T50 Za Xp).f0), .int .i64 0, .int .i64 0, .int .i64 0]) ?_ 1 _ rfl;(with_reducible repeat(first|refine Yl ?_ _|refine Ym ?_|refine Yj ?_ _));refine YA (cs:= #[.int .i64 0, .int .i64 0, .int .i64 0, .int .i64 0]) ?_ 0 _ rfl;(with_reducible repeat(first|refine Yl ?_ _|refine Ym ?_|refine Yj ?_ _));exact Jl.out) hb);replace HB:=Ya (Yk bl hb);(try clear hb)));go_roundg k1
   case measure=>have:=HK1.out;omega
   case rel=>exact⟨(wrap64 (Xp+1)),(by first|rfl|(simp;done)|(simp[*];done)),H',⟨by have:=HK1.out;omega⟩,⟨Xx.out⟩,⟨HB.out⟩⟩
end P
namespace P
attribute [local go_sem] max2_int min2_int max_two min_two max_three min_three max_four min_four
def static_Ends.f (k:Nat) (Zc:Int) (Zb:Bool) (Za:List (S50)) (a1:Int) (a2:Int):Option (Int):=(netfmt_Check.f k Zc Zb Za).bind fun t116=>(if t116=0 then(if (mn a1 a2)<0 then(some 70) else(if (mx a1 a2)≥Zc then(some 70) else(if a1=a2 then(some 70) else(some 0)))) else(some t116))
set_option maxHeartbeats 8000000 in
set_option maxRecDepth 100000 in
theorem static_Ends.calls (k:Nat) (Zc:Int) (Zb:Bool) (Ze:Option Addr) (Zd:Nat) (Za:List (S50)) (a1:Int) (a2:Int) (r:Int) (w:World) (Zp:Kd.C k50 w Ze Za.length Za) (Zq:Za.length≤Zd) (h:static_Ends.f k Zc Zb Za a1 a2=some r):
  Calls Try.prog 65 #[.agg #[.int .i64 Zc, .bool Zb, .slice Ze Za.length Zd], .int .i64 a1, .int .i64 a2] w fun e w'=>e= .returned (.int .i64 r)∧Below w.heap.size w w':=by
 have hu24:=Try.underlying24;have Zj:=Ya Zp;have Zs:=Ya Zq;clear Zp Zq;have HB:=Ya (Yo w.heap.size w);have H:=h;unfold static_Ends.f at H;clear h;replace H:=Option.bind_eq_some_iff.mp H;obtain⟨t116,A40,H⟩:=H;try dsimp only at H
 have A4:=Ya A40;clear A40;by_cases c5:t116=0
 rotate_left
 ·rw[Yy c5] at H
  have c5b0:(t116 == 0)=false:=beq_eq_false_iff_ne.mpr c5;have c5b1:(t116 != 0)=true:=bne_iff_ne.mpr c5;obtain rfl:=Option.some.inj H;go_enter Try.func65,Try.ntmps65;go_wp2_with (first|((with_reducible refine gate_dst (N:=3) rfl ?_);(try (refine gate_guard (by rfl) ?_;dsimp only));refine Yz ?hg (N:=3) ?hd (cs:= #[.int .i64 Zc, .bool Zb, .slice Ze Za.length Zd]) (t:=24) ?hr ?_;(case hd=>rfl);(case hg=>rfl);(case hr=>first|(go_simp;done)|(go_simp;rfl));intro Wo hg w26 Zf hb;have Xi:=Ya (Zf);have GW115:=Ya (by rw[hg];exact(Yi HB.out):w.heap.size≤Wo);have GE115:=Ya (by rw[hg];exact(Yi HB.out):w.heap.size≤Wo);replace HB:=Ya (Yk HB.out hb);clear hb Zf hg;have hcz27_0:w26.cell? ⟨Wo,0,none⟩=some (.int .i64 Zc):=bc Xi 0;have hcz27_1:w26.cell? ⟨Wo,1,none⟩=some (.bool Zb):=bc Xi 1;have hcz27_2:w26.cell? ⟨Wo,2,none⟩=some (.slice Ze Za.length Zd):=bc Xi 2;have hfz27_0:=Yf Xi.out 0;have hfz27_1:=Yf Xi.out 1;have hfz27_2:=Yf Xi.out 2)|((with_reducible refine gate_callee (f:=61) rfl ?_);refine gl (some 9) Try.func61 #[.agg #[.int .i64 Zc, .bool Zb, .slice Ze Za.length Zd]] ?_;(with_reducible refine(netfmt_Check.calls k Zc Zb _ _ Za t116 _ ?side1 ?side2 A4.out).mono ?_);(case side1=>exact kC (Yt Zj.out HB.out));(case side2=>exact Zs.out);rintro e w28 ⟨rfl,hb⟩;refine⟨_,rfl,?_⟩;replace Xi:=Ya (Yn Xi.out hb);replace HB:=Ya (Yk HB.out hb);(try clear hb)));go_ret;exact⟨by first|rfl|(simp[errW_none,errW_some]<;>rfl)|(simp[*,errW_none,errW_some]<;>rfl),HB.out⟩
 rw[Yx c5] at H;have c5b0:(t116 == 0)=true:=beq_iff_eq.mpr c5;have c5b1:(t116 != 0)=false:=bne_eq_false_iff_eq.mpr c5;clear c5;obtain⟨ji6,hji6⟩: ∃ j_:Int,(mn a1 a2)=j_:=⟨_,rfl⟩;replace H:(if (ji6)<0 then(some 70) else(if (mx a1 a2)≥Zc then(some 70) else(if a1=a2 then(some 70) else(some 0))))=some r:=by first|(rw[hji6] at H;exact H)|(simp only[hji6] at H ⊢;exact H)
 (try rw[hji6] at A4)
 have hji6_:(if a2<a1 then a2 else a1)=ji6:=hji6;by_cases c7:(ji6)<0
 ·rw[Yx c7] at H
  have c7b0:decide ((ji6)<0)=true:=Yv c7;clear c7;obtain rfl:=Option.some.inj H;go_enter Try.func65,Try.ntmps65;go_wp2_with (first|((with_reducible refine gate_dst (N:=3) rfl ?_);(try (refine gate_guard (by rfl) ?_;dsimp only));refine Yz ?hg (N:=3) ?hd (cs:= #[.int .i64 Zc, .bool Zb, .slice Ze Za.length Zd]) (t:=24) ?hr ?_;(case hd=>rfl);(case hg=>rfl);(case hr=>first|(go_simp;done)|(go_simp;rfl));intro Wo hg w8 Zf hb;have Xi:=Ya (Zf);have GW115:=Ya (by rw[hg];exact(Yi HB.out):w.heap.size≤Wo);have GE115:=Ya (by rw[hg];exact(Yi HB.out):w.heap.size≤Wo);replace HB:=Ya (Yk HB.out hb);clear hb Zf hg;have hcz9_0:w8.cell? ⟨Wo,0,none⟩=some (.int .i64 Zc):=bc Xi 0;have hcz9_1:w8.cell? ⟨Wo,1,none⟩=some (.bool Zb):=bc Xi 1;have hcz9_2:w8.cell? ⟨Wo,2,none⟩=some (.slice Ze Za.length Zd):=bc Xi 2;have hfz9_0:=Yf Xi.out 0;have hfz9_1:=Yf Xi.out 1;have hfz9_2:=Yf Xi.out 2)|((with_reducible refine gate_callee (f:=61) rfl ?_);refine gl (some 9) Try.func61 #[.agg #[.int .i64 Zc, .bool Zb, .slice Ze Za.length Zd]] ?_;(with_reducible refine(netfmt_Check.calls k Zc Zb _ _ Za t116 _ ?side1 ?side2 A4.out).mono ?_);(case side1=>exact kC (Yt Zj.out HB.out));(case side2=>exact Zs.out);rintro e w10 ⟨rfl,hb⟩;refine⟨_,rfl,?_⟩;replace Xi:=Ya (Yn Xi.out hb);replace HB:=Ya (Yk HB.out hb);(try clear hb)));go_ret;exact⟨by first|rfl|(simp[errW_none,errW_some]<;>rfl)|(simp only[← hji6];first|rfl|(simp[errW_none,errW_some]<;>rfl))|(simp[*,errW_none,errW_some]<;>rfl),HB.out⟩
 rw[Yy c7] at H;have c7b0:decide ((ji6)<0)=false:=Yw c7;clear c7;obtain⟨ji11,hji11⟩: ∃ j_:Int,(mx a1 a2)=j_:=⟨_,rfl⟩;replace H:(if (ji11)≥Zc then(some 70) else(if a1=a2 then(some 70) else(some 0)))=some r:=by first|(rw[hji11] at H;exact H)|(simp only[hji11] at H ⊢;exact H)
 (try rw[hji11] at A4)
 have hji11_:(if a1<a2 then a2 else a1)=ji11:=hji11;by_cases c12:(ji11)≥Zc
 ·rw[Yx c12] at H
  have c12b0:decide (Zc≤(ji11))=true:=Yv c12;clear c12;obtain rfl:=Option.some.inj H;go_enter Try.func65,Try.ntmps65;go_wp2_with (first|((with_reducible refine gate_dst (N:=3) rfl ?_);(try (refine gate_guard (by rfl) ?_;dsimp only));refine Yz ?hg (N:=3) ?hd (cs:= #[.int .i64 Zc, .bool Zb, .slice Ze Za.length Zd]) (t:=24) ?hr ?_;(case hd=>rfl);(case hg=>rfl);(case hr=>first|(go_simp;done)|(go_simp;rfl));intro Wo hg w13 Zf hb;have Xi:=Ya (Zf);have GW115:=Ya (by rw[hg];exact(Yi HB.out):w.heap.size≤Wo);have GE115:=Ya (by rw[hg];exact(Yi HB.out):w.heap.size≤Wo);replace HB:=Ya (Yk HB.out hb);clear hb Zf hg;have Jp:w13.cell? ⟨Wo,0,none⟩=some (.int .i64 Zc):=bc Xi 0;have Jq:w13.cell? ⟨Wo,1,none⟩=some (.bool Zb):=bc Xi 1;have hcz14_2:w13.cell? ⟨Wo,2,none⟩=some (.slice Ze Za.length Zd):=bc Xi 2;have Jr:=Yf Xi.out 0;have Js:=Yf Xi.out 1;have hfz14_2:=Yf Xi.out 2)|((with_reducible refine gate_callee (f:=61) rfl ?_);refine gl (some 9) Try.func61 #[.agg #[.int .i64 Zc, .bool Zb, .slice Ze Za.length Zd]] ?_;(with_reducible refine(netfmt_Check.calls k Zc Zb _ _ Za t116 _ ?side1 ?side2 A4.out).mono ?_);(case side1=>exact kC (Yt Zj.out HB.out));(case side2=>exact Zs.out);rintro e w15 ⟨rfl,hb⟩;refine⟨_,rfl,?_⟩;replace Xi:=Ya (Yn Xi.out hb);replace HB:=Ya (Yk HB.out hb);(try clear hb);have Jt:w15.cell? ⟨Wo,0,none⟩=some (.int .i64 Zc):=bc Xi 0;have Ju:w15.cell? ⟨Wo,1,none⟩=some (.bool Zb):=bc Xi 1;have hcz16_2:w15.cell? ⟨Wo,2,none⟩=some (.slice Ze Za.length Zd):=bc Xi 2;have Jv:=Yf Xi.out 0;have Jw:=Yf Xi.out 1;have hfz16_2:=Yf Xi.out 2));go_ret;exact⟨by first|rfl|(simp[errW_none,errW_some]<;>rfl)|(simp only[← hji6, ← hji11];first|rfl|(simp[errW_none,errW_some]<;>rfl))|(simp[*,errW_none,errW_some]<;>rfl),HB.out⟩
 rw[Yy c12] at H;have c12b0:decide (Zc≤(ji11))=false:=Yw c12;clear c12;by_cases c17:a1=a2
 rotate_left
 ·rw[Yy c17] at H
  have c17b0:(a1 == a2)=false:=beq_eq_false_iff_ne.mpr c17;have c17b1:(a1 != a2)=true:=bne_iff_ne.mpr c17;obtain rfl:=Option.some.inj H;go_enter Try.func65,Try.ntmps65;go_wp2_with (first|((with_reducible refine gate_dst (N:=3) rfl ?_);(try (refine gate_guard (by rfl) ?_;dsimp only));refine Yz ?hg (N:=3) ?hd (cs:= #[.int .i64 Zc, .bool Zb, .slice Ze Za.length Zd]) (t:=24) ?hr ?_;(case hd=>rfl);(case hg=>rfl);(case hr=>first|(go_simp;done)|(go_simp;rfl));intro Wo hg w22 Zf hb;have Xi:=Ya (Zf);have GW115:=Ya (by rw[hg];exact(Yi HB.out):w.heap.size≤Wo);have GE115:=Ya (by rw[hg];exact(Yi HB.out):w.heap.size≤Wo);replace HB:=Ya (Yk HB.out hb);clear hb Zf hg;have hcz23_0:w22.cell? ⟨Wo,0,none⟩=some (.int .i64 Zc):=bc Xi 0;have hcz23_1:w22.cell? ⟨Wo,1,none⟩=some (.bool Zb):=bc Xi 1;have hcz23_2:w22.cell? ⟨Wo,2,none⟩=some (.slice Ze Za.length Zd):=bc Xi 2;have hfz23_0:=Yf Xi.out 0;have hfz23_1:=Yf Xi.out 1;have hfz23_2:=Yf Xi.out 2)|((with_reducible refine gate_callee (f:=61) rfl ?_);refine gl (some 9) Try.func61 #[.agg #[.int .i64 Zc, .bool Zb, .slice Ze Za.length Zd]] ?_;(with_reducible refine(netfmt_Check.calls k Zc Zb _ _ Za t116 _ ?side1 ?side2 A4.out).mono ?_);(case side1=>exact kC (Yt Zj.out HB.out));(case side2=>exact Zs.out);rintro e w24 ⟨rfl,hb⟩;refine⟨_,rfl,?_⟩;replace Xi:=Ya (Yn Xi.out hb);replace HB:=Ya (Yk HB.out hb);(try clear hb);have hcz25_0:w24.cell? ⟨Wo,0,none⟩=some (.int .i64 Zc):=bc Xi 0;have hcz25_1:w24.cell? ⟨Wo,1,none⟩=some (.bool Zb):=bc Xi 1;have hcz25_2:w24.cell? ⟨Wo,2,none⟩=some (.slice Ze Za.length Zd):=bc Xi 2;have hfz25_0:=Yf Xi.out 0;have hfz25_1:=Yf Xi.out 1;have hfz25_2:=Yf Xi.out 2));go_ret;exact⟨by first|rfl|(simp[errW_none,errW_some]<;>rfl)|(simp only[← hji6, ← hji11];first|rfl|(simp[errW_none,errW_some]<;>rfl))|(simp[*,errW_none,errW_some]<;>rfl),HB.out⟩
 rw[Yx c17] at H;have c17b0:(a1 == a2)=true:=beq_iff_eq.mpr c17;have c17b1:(a1 != a2)=false:=bne_eq_false_iff_eq.mpr c17;clear c17;obtain rfl:=Option.some.inj H;go_enter Try.func65,Try.ntmps65;go_wp2_with (first|((with_reducible refine gate_dst (N:=3) rfl ?_);(try (refine gate_guard (by rfl) ?_;dsimp only));refine Yz ?hg (N:=3) ?hd (cs:= #[.int .i64 Zc, .bool Zb, .slice Ze Za.length Zd]) (t:=24) ?hr ?_;(case hd=>rfl);(case hg=>rfl);(case hr=>first|(go_simp;done)|(go_simp;rfl));intro Wo hg w18 Zf hb;have Xi:=Ya (Zf);have GW115:=Ya (by rw[hg];exact(Yi HB.out):w.heap.size≤Wo);have GE115:=Ya (by rw[hg];exact(Yi HB.out):w.heap.size≤Wo);replace HB:=Ya (Yk HB.out hb);clear hb Zf hg;have hcz19_0:w18.cell? ⟨Wo,0,none⟩=some (.int .i64 Zc):=bc Xi 0;have hcz19_1:w18.cell? ⟨Wo,1,none⟩=some (.bool Zb):=bc Xi 1;have hcz19_2:w18.cell? ⟨Wo,2,none⟩=some (.slice Ze Za.length Zd):=bc Xi 2;have hfz19_0:=Yf Xi.out 0;have hfz19_1:=Yf Xi.out 1;have hfz19_2:=Yf Xi.out 2)|((with_reducible refine gate_callee (f:=61) rfl ?_);refine gl (some 9) Try.func61 #[.agg #[.int .i64 Zc, .bool Zb, .slice Ze Za.length Zd]] ?_;(with_reducible refine(netfmt_Check.calls k Zc Zb _ _ Za t116 _ ?side1 ?side2 A4.out).mono ?_);(case side1=>exact kC (Yt Zj.out HB.out));(case side2=>exact Zs.out);rintro e w20 ⟨rfl,hb⟩;refine⟨_,rfl,?_⟩;replace Xi:=Ya (Yn Xi.out hb);replace HB:=Ya (Yk HB.out hb);(try clear hb);have hcz21_0:w20.cell? ⟨Wo,0,none⟩=some (.int .i64 Zc):=bc Xi 0;have hcz21_1:w20.cell? ⟨Wo,1,none⟩=some (.bool Zb):=bc Xi 1;have hcz21_2:w20.cell? ⟨Wo,2,none⟩=some (.slice Ze Za.length Zd):=bc Xi 2;have hfz21_0:=Yf Xi.out 0;have hfz21_1:=Yf Xi.out 1;have hfz21_2:=Yf Xi.out 2));go_ret;exact⟨by first|rfl|(simp[errW_none,errW_some]<;>rfl)|(simp only[← hji6, ← hji11];first|rfl|(simp[errW_none,errW_some]<;>rfl))|(simp[*,errW_none,errW_some]<;>rfl),HB.out⟩
end P
namespace P
attribute [local go_sem] max2_int min2_int max_two min_two max_three min_three max_four min_four
def static_Asked.l0:Nat→List Int→Int→Int→Int→Bool→List (S50)→Option (Int)
 |0,_,_,_,_,_,_=>none
 |k+1,x19,x20,x21,x391000,x391001,x391002=>if x21<x20 then(if 0≤x21 then(if x21<(x19.length:Int) then(if (rd x19 x21)<0 then(some 71) else(if x21<(x391002.length:Int) then(if (rd x19 x21)>((rd_T50 x391002 x21).f2) then(some 71) else(static_Asked.l0 k x19 x20 (wrap64 (x21+1)) x391000 x391001 x391002)) else(none))) else(none)) else(none)) else(some 0)
def static_Asked.f (k:Nat) (Zc:Int) (Zb:Bool) (Za:List (S50)) (l1:List Int):Option (Int):=(netfmt_Check.f k Zc Zb Za).bind fun t391=>(if t391=0 then(if (l1.length:Int)=(Za.length:Int) then(static_Asked.l0 k l1 (l1.length:Int) 0 Zc Zb Za) else(some 71)) else(some t391))
set_option maxHeartbeats 8000000 in
set_option maxRecDepth 100000 in
theorem static_Asked.calls (k:Nat) (Zc:Int) (Zb:Bool) (Ze:Option Addr) (Zd:Nat) (Za:List (S50)) (A1:Option Addr) (c1:Nat) (l1:List Int) (r:Int) (w:World) (Zp:Kd.C k50 w Ze Za.length Za) (Zq:Za.length≤Zd) (hr1:Kd.C (Kd.int .i64) w A1 l1.length l1) (hc1:l1.length≤c1) (h:static_Asked.f k Zc Zb Za l1=some r):
  Calls Try.prog 90 #[.agg #[.int .i64 Zc, .bool Zb, .slice Ze Za.length Zd], .slice A1 l1.length c1] w fun e w'=>e= .returned (.int .i64 r)∧Below w.heap.size w w':=by
 have hu24:=Try.underlying24;have Zj:=Ya Zp;have Zs:=Ya Zq;clear Zp Zq;have HR1:=Ya hr1;have HC1:=Ya hc1;clear hr1 hc1;have HB:=Ya (Yo w.heap.size w);have H:=h;unfold static_Asked.f at H;clear h;replace H:=Option.bind_eq_some_iff.mp H;obtain⟨t391,A30,H⟩:=H;try dsimp only at H
 have A3:=Ya A30;clear A30;by_cases c4:t391=0
 rotate_left
 ·rw[Yy c4] at H
  have c4b0:(t391 == 0)=false:=beq_eq_false_iff_ne.mpr c4;have c4b1:(t391 != 0)=true:=bne_iff_ne.mpr c4;obtain rfl:=Option.some.inj H;go_enter Try.func90,Try.ntmps90;go_wp2_with (first|(refine bx 2 24 #[.int .i64 Zc, .bool Zb, .slice Ze Za.length Zd] ?_;intro Vh hg w22 Zf hb;have Xq:=Ya (Zf);have GW390:=Ya (by rw[hg];exact(Yi HB.out):w.heap.size≤Vh);have GE390:=Ya (by rw[hg];exact(Yi HB.out):w.heap.size≤Vh);replace HB:=Ya (Yk HB.out hb);clear hb Zf hg;have hcz23_0:w22.cell? ⟨Vh,0,none⟩=some (.int .i64 Zc):=bc Xq 0;have hcz23_1:w22.cell? ⟨Vh,1,none⟩=some (.bool Zb):=bc Xq 1;have hcz23_2:w22.cell? ⟨Vh,2,none⟩=some (.slice Ze Za.length Zd):=bc Xq 2;have hfz23_0:=Yf Xq.out 0;have hfz23_1:=Yf Xq.out 1;have hfz23_2:=Yf Xq.out 2)|((with_reducible refine gate_callee (f:=61) rfl ?_);refine gl (some 9) Try.func61 #[.agg #[.int .i64 Zc, .bool Zb, .slice Ze Za.length Zd]] ?_;(with_reducible refine(netfmt_Check.calls k Zc Zb _ _ Za t391 _ ?side1 ?side2 A3.out).mono ?_);(case side1=>exact kC (Yt Zj.out HB.out));(case side2=>exact Zs.out);rintro e w24 ⟨rfl,hb⟩;refine⟨_,rfl,?_⟩;replace Xq:=Ya (Yn Xq.out hb);replace HB:=Ya (Yk HB.out hb);(try clear hb)));go_ret;exact⟨by first|rfl|(simp[errW_none,errW_some]<;>rfl)|(simp[*,errW_none,errW_some]<;>rfl),HB.out⟩
 rw[Yx c4] at H;have c4b0:(t391 == 0)=true:=beq_iff_eq.mpr c4;have c4b1:(t391 != 0)=false:=bne_eq_false_iff_eq.mpr c4;clear c4;by_cases c5:(l1.length:Int)=(Za.length:Int)
 rotate_left
 ·rw[Yy c5] at H
  have c5b0:((l1.length:Int) == (Za.length:Int))=false:=beq_eq_false_iff_ne.mpr c5;have c5b1:((l1.length:Int) != (Za.length:Int))=true:=bne_iff_ne.mpr c5;have c5b2:(l1.length == Za.length)=false:=by first|simpa using c5|(simp at c5 ⊢;omega)
  obtain rfl:=Option.some.inj H;go_enter Try.func90,Try.ntmps90;go_wp2_with (first|(refine bx 2 24 #[.int .i64 Zc, .bool Zb, .slice Ze Za.length Zd] ?_;intro Vh hg w18 Zf hb;have Xq:=Ya (Zf);have GW390:=Ya (by rw[hg];exact(Yi HB.out):w.heap.size≤Vh);have GE390:=Ya (by rw[hg];exact(Yi HB.out):w.heap.size≤Vh);replace HB:=Ya (Yk HB.out hb);clear hb Zf hg;have hcz19_0:w18.cell? ⟨Vh,0,none⟩=some (.int .i64 Zc):=bc Xq 0;have hcz19_1:w18.cell? ⟨Vh,1,none⟩=some (.bool Zb):=bc Xq 1;have hcz19_2:w18.cell? ⟨Vh,2,none⟩=some (.slice Ze Za.length Zd):=bc Xq 2;have hfz19_0:=Yf Xq.out 0;have hfz19_1:=Yf Xq.out 1;have hfz19_2:=Yf Xq.out 2)|((with_reducible refine gate_callee (f:=61) rfl ?_);refine gl (some 9) Try.func61 #[.agg #[.int .i64 Zc, .bool Zb, .slice Ze Za.length Zd]] ?_;(with_reducible refine(netfmt_Check.calls k Zc Zb _ _ Za t391 _ ?side1 ?side2 A3.out).mono ?_);(case side1=>exact kC (Yt Zj.out HB.out));(case side2=>exact Zs.out);rintro e w20 ⟨rfl,hb⟩;refine⟨_,rfl,?_⟩;replace Xq:=Ya (Yn Xq.out hb);replace HB:=Ya (Yk HB.out hb);(try clear hb);have hcz21_0:w20.cell? ⟨Vh,0,none⟩=some (.int .i64 Zc):=bc Xq 0;have hcz21_1:w20.cell? ⟨Vh,1,none⟩=some (.bool Zb):=bc Xq 1;have hcz21_2:w20.cell? ⟨Vh,2,none⟩=some (.slice Ze Za.length Zd):=bc Xq 2;have hfz21_0:=Yf Xq.out 0;have hfz21_1:=Yf Xq.out 1;have hfz21_2:=Yf Xq.out 2));go_ret;exact⟨by first|rfl|(simp[errW_none,errW_some]<;>rfl)|(simp[*,errW_none,errW_some]<;>rfl),HB.out⟩
 rw[Yx c5] at H;have c5b0:((l1.length:Int) == (Za.length:Int))=true:=beq_iff_eq.mpr c5;have c5b1:((l1.length:Int) != (Za.length:Int))=false:=bne_eq_false_iff_eq.mpr c5;have c5b2:(l1.length == Za.length)=true:=by first|simpa using c5|(simp at c5 ⊢;omega)
 clear c5;have H':=Ya H;clear H;go_enter Try.func90,Try.ntmps90;go_wp2_with (first|(refine bx 2 24 #[.int .i64 Zc, .bool Zb, .slice Ze Za.length Zd] ?_;intro Vh hg w6 Zf hb;have Xq:=Ya (Zf);have GW390:=Ya (by rw[hg];exact(Yi HB.out):w.heap.size≤Vh);have GE390:=Ya (by rw[hg];exact(Yi HB.out):w.heap.size≤Vh);replace HB:=Ya (Yk HB.out hb);clear hb Zf hg;have hcz7_0:w6.cell? ⟨Vh,0,none⟩=some (.int .i64 Zc):=bc Xq 0;have hcz7_1:w6.cell? ⟨Vh,1,none⟩=some (.bool Zb):=bc Xq 1;have hcz7_2:w6.cell? ⟨Vh,2,none⟩=some (.slice Ze Za.length Zd):=bc Xq 2;have hfz7_0:=Yf Xq.out 0;have hfz7_1:=Yf Xq.out 1;have hfz7_2:=Yf Xq.out 2)|((with_reducible refine gate_callee (f:=61) rfl ?_);refine gl (some 9) Try.func61 #[.agg #[.int .i64 Zc, .bool Zb, .slice Ze Za.length Zd]] ?_;(with_reducible refine(netfmt_Check.calls k Zc Zb _ _ Za t391 _ ?side1 ?side2 A3.out).mono ?_);(case side1=>exact kC (Yt Zj.out HB.out));(case side2=>exact Zs.out);rintro e w8 ⟨rfl,hb⟩;refine⟨_,rfl,?_⟩;replace Xq:=Ya (Yn Xq.out hb);replace HB:=Ya (Yk HB.out hb);(try clear hb);have hcz9_0:w8.cell? ⟨Vh,0,none⟩=some (.int .i64 Zc):=bc Xq 0;have hcz9_1:w8.cell? ⟨Vh,1,none⟩=some (.bool Zb):=bc Xq 1;have hcz9_2:w8.cell? ⟨Vh,2,none⟩=some (.slice Ze Za.length Zd):=bc Xq 2;have hfz9_0:=Yf Xq.out 0;have hfz9_1:=Yf Xq.out 1;have hfz9_2:=Yf Xq.out 2));go_loopg [21] k (fun kq v21 w'=> ∃ (Wr:Int),v21= .int .i64 Wr∧Aside0 (static_Asked.l0 kq l1 (l1.length:Int) Wr Zc Zb Za=some r)∧Aside0 (kq≤k)∧Aside0 (w'.heap[Vh]? =some (.cells #[.int .i64 Zc, .bool Zb,(.slice Ze Za.length Zd)] 24 (0,0)))∧Aside0 (Below w.heap.size w w'))
 case atStart=>exact⟨(0),(by first|rfl|(simp;done)|(simp[*];done)),H',⟨Nat.le_refl _⟩,⟨Xq.out⟩,⟨HB.out⟩⟩
 case round=>
  clear H';try clear c1
  try clear c4
  try clear c4b0
  try clear c4b1
  try clear c5
  try clear c5b0
  try clear c5b1
  try clear c5b2
  try clear hcz7_0
  try clear hcz7_1
  try clear hcz7_2
  try clear hcz9_0
  try clear hcz9_1
  try clear hcz9_2
  try clear hfz7_0
  try clear hfz7_1
  try clear hfz7_2
  try clear hfz9_0
  try clear hfz9_1
  try clear hfz9_2
  obtain⟨Wr,rfl,HA,HK1,Xq,HB⟩:=hrel;cases gk with
  |zero=>exact absurd HA.out (by simp[static_Asked.l0])
  |succ k1=>
   have H:=HA.out;clear HA;simp only[static_Asked.l0] at H;by_cases c10:Wr<(l1.length:Int)
   rotate_left
   ·rw[Yy c10] at H
    have c10b0:decide (Wr<(l1.length:Int))=false:=Yw c10;clear c10;obtain rfl:=Option.some.inj H;go_wp2;go_ret;exact⟨by first|rfl|(simp[errW_none,errW_some]<;>rfl)|(simp[*,errW_none,errW_some]<;>rfl),HB.out⟩
   rw[Yx c10] at H;have c10b0:decide (Wr<(l1.length:Int))=true:=Yv c10;clear c10;by_cases c11:0≤Wr
   rotate_left
   ·rw[Yy c11] at H
    exact absurd H (by simp)
   rw[Yx c11] at H;have c11b0:decide (0≤Wr)=true:=Yv c11;clear c11;by_cases c12:Wr<(l1.length:Int)
   rotate_left
   ·rw[Yy c12] at H
    exact absurd H (by simp)
   rw[Yx c12] at H;have c12b0:decide (Wr<(l1.length:Int))=true:=Yv c12;clear c12;by_cases c13:(rd l1 Wr)<0
   ·rw[Yx c13] at H
    have c13b0:decide ((rd l1 Wr)<0)=true:=Yv c13;clear c13;obtain rfl:=Option.some.inj H;have p392:0≤(Wr:Int):=od;have q392:Wr<(l1.length:Int):=od;obtain⟨ad392,e392,hx392_0⟩:=Kd.at_int HR1.out Wr p392 q392;cases e392;replace hx392_0:=hc HB hx392_0;replace p392:=eq_true p392;replace q392:=eq_true q392;go_wp2;go_ret;exact⟨by first|rfl|(simp[errW_none,errW_some]<;>rfl)|(simp[*,errW_none,errW_some]<;>rfl),HB.out⟩
   rw[Yy c13] at H;have c13b0:decide ((rd l1 Wr)<0)=false:=Yw c13;clear c13;by_cases c14:Wr<(Za.length:Int)
   rotate_left
   ·rw[Yy c14] at H
    exact absurd H (by simp)
   rw[Yx c14] at H;have c14b0:decide (Wr<(Za.length:Int))=true:=Yv c14;clear c14;by_cases c15:(rd l1 Wr)>((rd_T50 Za Wr).f2)
   ·rw[Yx c15] at H
    have c15b0:decide (((rd_T50 Za Wr).f2)<(rd l1 Wr))=true:=Yv c15;clear c15;obtain rfl:=Option.some.inj H;have p392:0≤(Wr:Int):=od;have q392:Wr<(l1.length:Int):=od;obtain⟨ad392,e392,hx392_0⟩:=Kd.at_int HR1.out Wr p392 q392;cases e392;replace hx392_0:=hc HB hx392_0;replace p392:=eq_true p392;replace q392:=eq_true q392;have Jt:wr.cell? ⟨Vh,0,none⟩=some (.int .i64 Zc):=bc Xq 0;have Ju:wr.cell? ⟨Vh,1,none⟩=some (.bool Zb):=bc Xq 1;have hcz16_2:wr.cell? ⟨Vh,2,none⟩=some (.slice Ze Za.length Zd):=bc Xq 2;have Jv:=Yf Xq.out 0;have Jw:=Yf Xq.out 1;have hfz16_2:=Yf Xq.out 2;have p393:0≤(Wr:Int):=od;have q393:Wr<(Za.length:Int):=od;obtain⟨ad393,e393,hx393_0,hx393_1,hx393_2,hx393_3⟩:=at_T50 Zj.out Wr p393 q393;cases e393;replace hx393_0:=hc HB hx393_0;replace hx393_1:=hc HB hx393_1;replace hx393_2:=hc HB hx393_2;replace hx393_3:=hc HB hx393_3;replace p393:=eq_true p393;replace q393:=eq_true q393;go_wp2;go_ret;exact⟨by first|rfl|(simp[errW_none,errW_some]<;>rfl)|(simp[*,errW_none,errW_some]<;>rfl),HB.out⟩
   rw[Yy c15] at H;have c15b0:decide (((rd_T50 Za Wr).f2)<(rd l1 Wr))=false:=Yw c15;clear c15;have H':=Ya H;clear H;have p392:0≤(Wr:Int):=od;have q392:Wr<(l1.length:Int):=od;obtain⟨ad392,e392,hx392_0⟩:=Kd.at_int HR1.out Wr p392 q392;cases e392;replace hx392_0:=hc HB hx392_0;replace p392:=eq_true p392;replace q392:=eq_true q392;have Ww:wr.cell? ⟨Vh,0,none⟩=some (.int .i64 Zc):=bc Xq 0;have Wx:wr.cell? ⟨Vh,1,none⟩=some (.bool Zb):=bc Xq 1;have hcz17_2:wr.cell? ⟨Vh,2,none⟩=some (.slice Ze Za.length Zd):=bc Xq 2;have Wy:=Yf Xq.out 0;have Wz:=Yf Xq.out 1;have hfz17_2:=Yf Xq.out 2;have p393:0≤(Wr:Int):=od;have q393:Wr<(Za.length:Int):=od;obtain⟨ad393,e393,hx393_0,hx393_1,hx393_2,hx393_3⟩:=at_T50 Zj.out Wr p393 q393;cases e393;replace hx393_0:=hc HB hx393_0;replace hx393_1:=hc HB hx393_1;replace hx393_2:=hc HB hx393_2;replace hx393_3:=hc HB hx393_3;replace p393:=eq_true p393;replace q393:=eq_true q393;go_wp2;go_roundg k1
   case measure=>have:=HK1.out;omega
   case rel=>exact⟨(wrap64 (Wr+1)),(by first|rfl|(simp;done)|(simp[*];done)),H',⟨by have:=HK1.out;omega⟩,⟨Xq.out⟩,⟨HB.out⟩⟩
end P
namespace P
attribute [local go_sem] max2_int min2_int max_two min_two max_three min_three max_four min_four
def static_Balance.l0:Nat→List Int→List Int→List (S50)→Int→Int→Option (List Int × Int)
 |0,_,_,_,_,_=>none
 |k+1,x1,x7,x20,x21,x22=>if x22<x21 then(if 0≤x22 then(if x22<(x20.length:Int) then(if 0≤((rd_T50 x20 x22).f0) then(if ((rd_T50 x20 x22).f0)<(x7.length:Int) then(if x22<(x1.length:Int) then((some (x7.set (((rd_T50 x20 x22).f0):Int).toNat (wrap64 ((rd x7 ((rd_T50 x20 x22).f0))+(rd x1 x22))):List Int)).bind fun y403=>(if 0≤((rd_T50 x20 x22).f1) then(if ((rd_T50 x20 x22).f1)<(x7.length:Int) then(static_Balance.l0 k x1 (y403.set (((rd_T50 x20 x22).f1):Int).toNat (wrap64 ((rd y403 ((rd_T50 x20 x22).f1)) - (rd x1 x22)))) x20 x21 (wrap64 (x22+1))) else(none)) else(none))) else(none)) else(none)) else(none)) else(none)) else(none)) else(some (x7,0))
def static_Balance.f (k:Nat) (Zc:Int) (Zb:Bool) (Za:List (S50)) (l1:List Int):Option (List Int × Int):=(static_Asked.f k Zc Zb Za l1).bind fun t395=>(if t395=0 then(if 0≤Zc then(if (Zc:Int).toNat≤35184372088832 then(static_Balance.l0 k l1 (List.replicate (Zc:Int).toNat 0) Za (Za.length:Int) 0) else(none)) else(none)) else(some (([]:List Int),t395)))
def static_Balance.T8:Bool × List (List Nat × List Nat):=(true,[([],[]),([],[]),([1],[1]),([0,2],[0,2]),([3],[3]),([],[]),([],[]),([5,6],[5,6]),([7],[7]),([4,8],[4,8]),([0,2,0,1,2,3,4,5,6,7,8,9],[0,2]),([10,9,0,1,2,3,4,5,6,7,8,9],[9,10])])
def static_Balance.B8:List Nat:=[0,0,2,7,15,0,0,96,224,511,1023,2047]
theorem static_Balance.tab8:rtab .any (opsOf Try.f73 8)=static_Balance.T8:=by kernel_rfl
theorem static_Balance.bits8:waitsOk static_Balance.T8.2 static_Balance.B8=true:=by kernel_rfl
def static_Balance.T9:Bool × List (List Nat × List Nat):=(true,[([],[]),([],[]),([1],[1]),([0,2],[0,2]),([3],[3]),([],[]),([],[]),([5,6],[5,6]),([7],[7]),([4,8],[4,8]),([0,2,0,1,2,3,4,5,6,7,8,9],[0,2]),([10,9,0,1,2,3,4,5,6,7,8,9],[9,10])])
def static_Balance.B9:List Nat:=[0,0,2,7,15,0,0,96,224,511,1023,2047]
theorem static_Balance.tab9:rtab .any (opsOf Try.f73 9)=static_Balance.T9:=by kernel_rfl
theorem static_Balance.bits9:waitsOk static_Balance.T9.2 static_Balance.B9=true:=by kernel_rfl
set_option maxHeartbeats 8000000 in
set_option maxRecDepth 100000 in
theorem static_Balance.calls (k:Nat) (Zc:Int) (Zb:Bool) (Ze:Option Addr) (Zd:Nat) (Za:List (S50)) (A1:Option Addr) (c1:Nat) (l1:List Int) (r1:List Int) (r2:Int) (w:World) (Zp:Kd.C k50 w Ze Za.length Za) (Zq:Za.length≤Zd) (hr1:Kd.C (Kd.int .i64) w A1 l1.length l1) (hc1:l1.length≤c1) (h:static_Balance.f k Zc Zb Za l1=some (r1,r2)):
  Calls Try.prog 73 #[.agg #[.int .i64 Zc, .bool Zb, .slice Ze Za.length Zd], .slice A1 l1.length c1] w fun e w'=> ∃ v0_:Value,e= .returned (.tuple #[v0_, .int .i64 r2])∧Kd.R (Kd.int .i64) 3 w' w.heap.size (fun _=>True) v0_ r1∧Below w.heap.size w w':=by
 have hu24:=Try.underlying24;have hu50:=Try.underlying50;have Zj:=Ya Zp;have Zs:=Ya Zq;clear Zp Zq;have HR1:=Ya hr1;have HC1:=Ya hc1;clear hr1 hc1;have HB:=Ya (Yo w.heap.size w);have H:=h;unfold static_Balance.f at H;clear h;replace H:=Option.bind_eq_some_iff.mp H;obtain⟨t395,A30,H⟩:=H;try dsimp only at H
 have A3:=Ya A30;clear A30;by_cases c4:t395=0
 rotate_left
 ·rw[Yy c4] at H
  have c4b0:(t395 == 0)=false:=beq_eq_false_iff_ne.mpr c4;have c4b1:(t395 != 0)=true:=bne_iff_ne.mpr c4;simp only[Option.some.injEq,Prod.mk.injEq] at H;obtain⟨rfl,rfl⟩:=H;go_enter Try.func73,Try.ntmps73;go_wp2_with (first|(refine bx 2 24 #[.int .i64 Zc, .bool Zb, .slice Ze Za.length Zd] ?_;intro Jj hg w34 Zf hb;have Xt:=Ya (Zf);have GW394:=Ya (by rw[hg];exact(Yi HB.out):w.heap.size≤Jj);have GE394:=Ya (by rw[hg];exact(Yi HB.out):w.heap.size≤Jj);replace HB:=Ya (Yk HB.out hb);clear hb Zf hg;have hcz35_0:w34.cell? ⟨Jj,0,none⟩=some (.int .i64 Zc):=bc Xt 0;have hcz35_1:w34.cell? ⟨Jj,1,none⟩=some (.bool Zb):=bc Xt 1;have hcz35_2:w34.cell? ⟨Jj,2,none⟩=some (.slice Ze Za.length Zd):=bc Xt 2;have hfz35_0:=Yf Xt.out 0;have hfz35_1:=Yf Xt.out 1;have hfz35_2:=Yf Xt.out 2)|((with_reducible refine gate_callee (f:=90) rfl ?_);refine gl (some 12) Try.func90 #[.agg #[.int .i64 Zc, .bool Zb, .slice Ze Za.length Zd], .slice A1 l1.length c1] ?_;(with_reducible refine(static_Asked.calls k Zc Zb _ _ Za _ _ l1 t395 _ ?side1 ?side2 ?side3 ?side4 A3.out).mono ?_);(case side1=>exact kC (Yt Zj.out HB.out));(case side2=>exact Zs.out);(case side3=>exact kC (Yt HR1.out HB.out));(case side4=>exact HC1.out);rintro e w36 ⟨rfl,hb⟩;refine⟨_,rfl,?_⟩;replace Xt:=Ya (Yn Xt.out hb);replace HB:=Ya (Yk HB.out hb);(try clear hb)));go_ret2;exact⟨_,by first|rfl|(simp[errW_none,errW_some]<;>rfl)|(simp[*,errW_none,errW_some]<;>rfl),by first|exact Kd.R_nil _ _ _ _ _|exact Kd.N_nil _ _ _ _ _|exact Kd.V_nil _ _ _ _ _|exact Kd.Q_nil _ _ _ _ _|exact Kd.S_nil _ _ _ _ _,HB.out⟩
 rw[Yx c4] at H;have c4b0:(t395 == 0)=true:=beq_iff_eq.mpr c4;have c4b1:(t395 != 0)=false:=bne_eq_false_iff_eq.mpr c4;clear c4;by_cases c5:0≤Zc
 rotate_left
 ·rw[Yy c5] at H
  exact absurd H (by simp)
 rw[Yx c5] at H;have c5b0:=eq_true c5;have c5b1:decide (0≤Zc)=true:=Yv c5;clear c5;by_cases c6:(Zc:Int).toNat≤35184372088832
 rotate_left
 ·rw[Yy c6] at H
  exact absurd H (by simp)
 rw[Yx c6] at H;have c6b0:=eq_true c6;have c6b1:decide ((Zc:Int).toNat≤35184372088832)=true:=Yv c6;clear c6;obtain⟨y396,hy396⟩: ∃ y_:List Int,y_=(List.replicate (Zc:Int).toNat 0):=⟨_,rfl⟩;rw[← hy396] at H;have Ny396:=Ya hy396;clear hy396;have H':=Ya H;clear H;go_enter Try.func73,Try.ntmps73;go_wp2_with (first|(refine bx 2 24 #[.int .i64 Zc, .bool Zb, .slice Ze Za.length Zd] ?_;intro Jj hg w7 Zf hb;have Xt:=Ya (Zf);have GW394:=Ya (by rw[hg];exact(Yi HB.out):w.heap.size≤Jj);have GE394:=Ya (by rw[hg];exact(Yi HB.out):w.heap.size≤Jj);replace HB:=Ya (Yk HB.out hb);clear hb Zf hg;have Uj:w7.cell? ⟨Jj,0,none⟩=some (.int .i64 Zc):=bc Xt 0;have Uk:w7.cell? ⟨Jj,1,none⟩=some (.bool Zb):=bc Xt 1;have Ja:w7.cell? ⟨Jj,2,none⟩=some (.slice Ze Za.length Zd):=bc Xt 2;have Ul:=Yf Xt.out 0;have Um:=Yf Xt.out 1;have Jb:=Yf Xt.out 2)|((with_reducible refine gate_callee (f:=90) rfl ?_);refine gl (some 12) Try.func90 #[.agg #[.int .i64 Zc, .bool Zb, .slice Ze Za.length Zd], .slice A1 l1.length c1] ?_;(with_reducible refine(static_Asked.calls k Zc Zb _ _ Za _ _ l1 t395 _ ?side1 ?side2 ?side3 ?side4 A3.out).mono ?_);(case side1=>exact kC (Yt Zj.out HB.out));(case side2=>exact Zs.out);(case side3=>exact kC (Yt HR1.out HB.out));(case side4=>exact HC1.out);rintro e w9 ⟨rfl,hb⟩;refine⟨_,rfl,?_⟩;replace Xt:=Ya (Yn Xt.out hb);replace HB:=Ya (Yk HB.out hb);(try clear hb);have Va:w9.cell? ⟨Jj,0,none⟩=some (.int .i64 Zc):=bc Xt 0;have Vb:w9.cell? ⟨Jj,1,none⟩=some (.bool Zb):=bc Xt 1;have Vr:w9.cell? ⟨Jj,2,none⟩=some (.slice Ze Za.length Zd):=bc Xt 2;have Vc:=Yf Xt.out 0;have Vd:=Yf Xt.out 1;have Vs:=Yf Xt.out 2)|((with_reducible refine gate_dst (N:=18) rfl ?_);refine Kd.R_make (Kd.int .i64) _ 3 rfl (N:=18) rfl 31 _ _ rfl Zc rfl rfl Try.underlying31 (.int .i64 0) 8 info3 rfl (by decide) (by omega) 0 (ok:=fun _=>True) (okp:=fun _=>True) rfl (fun _ hk=>hk) trivial (Yu (by first|(with_reducible assumption)|assumption)) (Nat.le_trans (Nat.mul_le_mul_right _ (Yu (by first|(with_reducible assumption)|assumption):Zc.toNat≤35184372088832)) (by omega)) (Yo _ _) (Nat.le_refl _) ?_;intro v397 w11 ho12 hb hg_ hnew_;clear hg_ hnew_;(first|rw[← Ny396.out] at ho12|(simp only[Int.reduceToNat] at ho12;rw[← Ny396.out] at ho12));have HO398:=Ya (Kd.R_lower ho12 (Yi HB.out));replace Xt:=Ya (Yn Xt.out hb);replace HB:=Ya (Yk HB.out hb);clear hb ho12;have hcz13_0:w11.cell? ⟨Jj,0,none⟩=some (.int .i64 Zc):=bc Xt 0;have hcz13_1:w11.cell? ⟨Jj,1,none⟩=some (.bool Zb):=bc Xt 1;have hcz13_2:w11.cell? ⟨Jj,2,none⟩=some (.slice Ze Za.length Zd):=bc Xt 2;have hfz13_0:=Yf Xt.out 0;have hfz13_1:=Yf Xt.out 1;have hfz13_2:=Yf Xt.out 2));go_loopg [22] k (fun kq v22 w'=> ∃ (Xc:List Int) (Zh:Int),v22= .int .i64 Zh∧Aside0 (static_Balance.l0 kq l1 Xc Za (Za.length:Int) Zh=some (r1,r2))∧Aside0 (kq≤k)∧Aside0 (Kd.R (Kd.int .i64) 3 w' w.heap.size (fun _=>True) v397 Xc)∧Aside0 (w'.heap[Jj]? =some (.cells #[.int .i64 Zc, .bool Zb,(.slice Ze Za.length Zd)] 24 (0,0)))∧Aside0 (Below w.heap.size w w'))
 case atStart=>exact⟨(y396),(0),(by first|rfl|(simp;done)|(simp[*];done)),H',⟨Nat.le_refl _⟩,⟨HO398.out⟩,⟨Xt.out⟩,⟨HB.out⟩⟩
 case round=>
  clear H';try clear c1
  try clear c4
  try clear c4b0
  try clear c4b1
  try clear c5
  try clear c5b0
  try clear c5b1
  try clear c6
  try clear c6b0
  try clear c6b1
  try clear Va
  try clear Vb
  try clear Vr
  try clear hcz13_0
  try clear hcz13_1
  try clear hcz13_2
  try clear Uj
  try clear Uk
  try clear Ja
  try clear Vc
  try clear Vd
  try clear Vs
  try clear hfz13_0
  try clear hfz13_1
  try clear hfz13_2
  try clear Ul
  try clear Um
  try clear Jb
  obtain⟨Xc,Zh,rfl,HA,HK1,HO_7,Xt,HB⟩:=hrel;cases gk with
  |zero=>exact absurd HA.out (by simp[static_Balance.l0])
  |succ k1=>
   have H:=HA.out;clear HA;simp only[static_Balance.l0] at H;by_cases c14:Zh<(Za.length:Int)
   rotate_left
   ·rw[Yy c14] at H
    have c14b0:decide (Zh<(Za.length:Int))=false:=Yw c14;clear c14;simp only[Option.some.injEq,Prod.mk.injEq] at H;obtain⟨rfl,rfl⟩:=H;go_wp2;go_ret2;exact⟨_,by first|rfl|(simp[errW_none,errW_some]<;>rfl)|(simp[*,errW_none,errW_some]<;>rfl),by(with_reducible repeat(first|apply Yr|apply Yq|apply Yp));exact HO_7.out,HB.out⟩
   rw[Yx c14] at H;have c14b0:decide (Zh<(Za.length:Int))=true:=Yv c14;clear c14;by_cases c15:0≤Zh
   rotate_left
   ·rw[Yy c15] at H
    exact absurd H (by simp)
   rw[Yx c15] at H;have c15b0:decide (0≤Zh)=true:=Yv c15;clear c15;by_cases c16:Zh<(Za.length:Int)
   rotate_left
   ·rw[Yy c16] at H
    exact absurd H (by simp)
   rw[Yx c16] at H;have c16b0:decide (Zh<(Za.length:Int))=true:=Yv c16;clear c16;by_cases c17:0≤((rd_T50 Za Zh).f0)
   rotate_left
   ·rw[Yy c17] at H
    exact absurd H (by simp)
   rw[Yx c17] at H;have c17b0:decide (0≤((rd_T50 Za Zh).f0))=true:=Yv c17;clear c17;by_cases c18:((rd_T50 Za Zh).f0)<(Xc.length:Int)
   rotate_left
   ·rw[Yy c18] at H
    exact absurd H (by simp)
   rw[Yx c18] at H;have c18b0:decide (((rd_T50 Za Zh).f0)<(Xc.length:Int))=true:=Yv c18;clear c18;by_cases c19:Zh<(l1.length:Int)
   rotate_left
   ·rw[Yy c19] at H
    exact absurd H (by simp)
   rw[Yx c19] at H;have c19b0:decide (Zh<(l1.length:Int))=true:=Yv c19;clear c19;obtain⟨y403,hy403⟩: ∃ y_:List Int,y_=(Xc.set (((rd_T50 Za Zh).f0):Int).toNat (wrap64 ((rd Xc ((rd_T50 Za Zh).f0))+(rd l1 Zh)))):=⟨_,rfl⟩;rw[Option.bind_some, ← hy403] at H;have Ny403:=Ya hy403;clear hy403;by_cases c21:0≤((rd_T50 Za Zh).f1)
   rotate_left
   ·rw[Yy c21] at H
    exact absurd H (by simp)
   rw[Yx c21] at H;have c21b0:decide (0≤((rd_T50 Za Zh).f1))=true:=Yv c21;clear c21;by_cases c22:((rd_T50 Za Zh).f1)<(Xc.length:Int)
   rotate_left
   ·rw[Yy c22] at H
    exact absurd H (by simp)
   rw[Yx c22] at H;have c22b0:decide (((rd_T50 Za Zh).f1)<(Xc.length:Int))=true:=Yv c22;clear c22;obtain⟨y406,hy406⟩: ∃ y_:List Int,y_=(y403.set (((rd_T50 Za Zh).f1):Int).toNat (wrap64 ((rd y403 ((rd_T50 Za Zh).f1)) - (rd l1 Zh)))):=⟨_,rfl⟩;rw[← hy406] at H;have Ny406:=Ya hy406;clear hy406;have H':=Ya H;clear H;have p399:0≤(Zh:Int):=od;have q399:Zh<(Za.length:Int):=od;obtain⟨ad399,e399,hx399_0,hx399_1,hx399_2,hx399_3⟩:=at_T50 Zj.out Zh p399 q399;cases e399;replace hx399_0:=hc HB hx399_0;replace hx399_1:=hc HB hx399_1;replace hx399_2:=hc HB hx399_2;replace hx399_3:=hc HB hx399_3;replace p399:=eq_true p399;replace q399:=eq_true q399;try go_wp2_with (first|(refine bx 9 50 #[.int .i64 0, .int .i64 0, .int .i64 0, .int .i64 0] ?_;intro Wf hg w24 Zf hb;replace HO_7:=Ya (Ys HO_7.out hb);have Vi:=Ya (Zf);have GW400:=Ya (by rw[hg];exact(Yi HB.out):w.heap.size≤Wf);have GE400:=Ya (by rw[hg];exact(Yi HB.out):w.heap.size≤Wf);replace HB:=Ya (Yk HB.out hb);have NB394_400:=Ya (by rw[hg];exact Nat.ne_of_lt (blk_lt Xt.out):Jj≠Wf);have NB400_394:=Ya (by rw[hg];exact Nat.ne_of_gt (blk_lt Xt.out):Wf≠Jj);replace Xt:=Ya (Yn Xt.out hb);clear hb Zf hg;have hnb25:=NB400_394.out;have hnc25:=NB394_400.out;have hcz26_0:w24.cell? ⟨Wf,0,none⟩=some (.int .i64 0):=bc Vi 0;have hcz26_1:w24.cell? ⟨Wf,1,none⟩=some (.int .i64 0):=bc Vi 1;have hcz26_2:w24.cell? ⟨Wf,2,none⟩=some (.int .i64 0):=bc Vi 2;have hcz26_3:w24.cell? ⟨Wf,3,none⟩=some (.int .i64 0):=bc Vi 3;have hfz26_0:=Yf Vi.out 0;have hfz26_1:=Yf Vi.out 1;have hfz26_2:=Yf Vi.out 2;have hfz26_3:=Yf Vi.out 3))
   have n0_:Aside0 (Kd.R (Kd.int .i64) 3 ((((w24.setCell ⟨Wf,0,none⟩ (.int .i64 ((rd_T50 Za Zh).f0))).setCell ⟨Wf,1,none⟩ (.int .i64 ((rd_T50 Za Zh).f1))).setCell ⟨Wf,2,none⟩ (.int .i64 ((rd_T50 Za Zh).f2))).setCell ⟨Wf,3,none⟩ (.int .i64 ((rd_T50 Za Zh).f3))) w.heap.size (fun _=>True) v397 Xc):=⟨by(with_reducible repeat(first|apply Yr|apply Yq|apply Yp));exact Kd.R_mono (Kd.R_far (p:=⟨Wf,3,none⟩) (Kd.R_far (p:=⟨Wf,2,none⟩) (Kd.R_far (p:=⟨Wf,1,none⟩) (Kd.R_far (p:=⟨Wf,0,none⟩) (Kd.R_types HO_7.out Vi.out (by decide)) (fun _ hk=>hk.2) (.int .i64 ((rd_T50 Za Zh).f0))) (fun _ hk=>hk.2) (.int .i64 ((rd_T50 Za Zh).f1))) (fun _ hk=>hk.2) (.int .i64 ((rd_T50 Za Zh).f2))) (fun _ hk=>hk.2) (.int .i64 ((rd_T50 Za Zh).f3))) (fun _ hk=>trivial)⟩;have n1_:Aside0 (((((w24.setCell ⟨Wf,0,none⟩ (.int .i64 ((rd_T50 Za Zh).f0))).setCell ⟨Wf,1,none⟩ (.int .i64 ((rd_T50 Za Zh).f1))).setCell ⟨Wf,2,none⟩ (.int .i64 ((rd_T50 Za Zh).f2))).setCell ⟨Wf,3,none⟩ (.int .i64 ((rd_T50 Za Zh).f3))).heap[Jj]? =some (.cells #[.int .i64 Zc, .bool Zb, .slice (some ad399) Za.length Zd] 24 (0,0))):=⟨by(with_reducible repeat(first|refine Yl ?_ _|refine Ym ?_|refine Yj ?_ _));refine blk_far ?_ NB394_400.out _;(with_reducible repeat(first|refine Yl ?_ _|refine Ym ?_|refine Yj ?_ _));refine blk_far ?_ NB394_400.out _;(with_reducible repeat(first|refine Yl ?_ _|refine Ym ?_|refine Yj ?_ _));refine blk_far ?_ NB394_400.out _;(with_reducible repeat(first|refine Yl ?_ _|refine Ym ?_|refine Yj ?_ _));refine blk_far ?_ NB394_400.out _;(with_reducible repeat(first|refine Yl ?_ _|refine Ym ?_|refine Yj ?_ _));exact Xt.out⟩;have n2_:Aside0 (((((w24.setCell ⟨Wf,0,none⟩ (.int .i64 ((rd_T50 Za Zh).f0))).setCell ⟨Wf,1,none⟩ (.int .i64 ((rd_T50 Za Zh).f1))).setCell ⟨Wf,2,none⟩ (.int .i64 ((rd_T50 Za Zh).f2))).setCell ⟨Wf,3,none⟩ (.int .i64 ((rd_T50 Za Zh).f3))).heap[Wf]? =some (.cells #[.int .i64 ((rd_T50 Za Zh).f0), .int .i64 ((rd_T50 Za Zh).f1), .int .i64 ((rd_T50 Za Zh).f2), .int .i64 ((rd_T50 Za Zh).f3)] 50 (0,0))):=⟨by(with_reducible repeat(first|refine Yl ?_ _|refine Ym ?_|refine Yj ?_ _));refine YA (cs:= #[.int .i64 ((rd_T50 Za Zh).f0), .int .i64 ((rd_T50 Za Zh).f1), .int .i64 ((rd_T50 Za Zh).f2), .int .i64 0]) ?_ 3 _ rfl;(with_reducible repeat(first|refine Yl ?_ _|refine Ym ?_|refine Yj ?_ _));refine YA (cs:= #[.int .i64 ((rd_T50 Za Zh).f0), .int .i64 ((rd_T50 Za Zh).f1), .int .i64 0, .int .i64 0]) ?_ 2 _ rfl;(with_reducible repeat(first|refine Yl ?_ _|refine Ym ?_|refine Yj ?_ _));refine YA (cs:= #[.int .i64 ((rd_T50 Za Zh).f0), .int .i64 0, .int .i64 0, .int .i64 0]) ?_ 1 _ rfl;(with_reducible repeat(first|refine Yl ?_ _|refine Ym ?_|refine Yj ?_ _));refine YA (cs:= #[.int .i64 0, .int .i64 0, .int .i64 0, .int .i64 0]) ?_ 0 _ rfl;(with_reducible repeat(first|refine Yl ?_ _|refine Ym ?_|refine Yj ?_ _));exact Vi.out⟩;have n3_:Aside0 (Below w.heap.size w ((((w24.setCell ⟨Wf,0,none⟩ (.int .i64 ((rd_T50 Za Zh).f0))).setCell ⟨Wf,1,none⟩ (.int .i64 ((rd_T50 Za Zh).f1))).setCell ⟨Wf,2,none⟩ (.int .i64 ((rd_T50 Za Zh).f2))).setCell ⟨Wf,3,none⟩ (.int .i64 ((rd_T50 Za Zh).f3)))):=⟨bl⟩
   (try clear HO_7)
   (try clear Xt)
   (try clear Vi)
   (try clear HB)
   generalize ((((w24.setCell ⟨Wf,0,none⟩ (.int .i64 ((rd_T50 Za Zh).f0))).setCell ⟨Wf,1,none⟩ (.int .i64 ((rd_T50 Za Zh).f1))).setCell ⟨Wf,2,none⟩ (.int .i64 ((rd_T50 Za Zh).f2))).setCell ⟨Wf,3,none⟩ (.int .i64 ((rd_T50 Za Zh).f3)))=w27 at n0_ n1_ n2_ n3_ ⊢;have HO_7:=n0_;have Xt:=n1_;have Vi:=n2_;have HB:=n3_;clear n0_ n1_ n2_ n3_;replace HO_7:=Ya (Yp HO_7.out);replace Xt:=Ya (Ym Xt.out);replace Vi:=Ya (Ym Vi.out);replace HB:=Ya (Yg HB.out);obtain⟨Ao29,co29,eo29⟩:=Kd.R_slice HO_7.out
   (first|subst eo29|(injection eo29 with f1_ f2_ f3_;have f4_:=f1_.symm;have f5_:=f3_.symm;clear f1_ f2_ f3_;subst f4_;subst f5_))
   have p401:0≤(((rd_T50 Za Zh).f0):Int):=od;have q401:((rd_T50 Za Zh).f0)<(Xc.length:Int):=od;obtain⟨ad401,e401,hx401_0⟩:=Kd.at_int (Kd.R_reads' HO_7.out).2.2 ((rd_T50 Za Zh).f0) p401 q401;cases e401;replace p401:=eq_true p401;replace q401:=eq_true q401;have p402:0≤(Zh:Int):=od;have q402:Zh<(l1.length:Int):=od;obtain⟨ad402,e402,hx402_0⟩:=Kd.at_int HR1.out Zh p402 q402;have hw402_0:=hx402_0;cases e402;replace hx402_0:=hc HB hx402_0;replace p402:=eq_true p402;replace q402:=eq_true q402;have p20:0≤(((rd_T50 Za Zh).f0):Int):=od;have q20:(((rd_T50 Za Zh).f0):Int)<((Xc.length:Int):Int):=od;obtain⟨go20,co20,eo20,gb20,gl20,cl20,HG20⟩:=Kd.R_form HO_7.out (by omega)
   (first|cases eo20|(injection eo20 with ea_ en_ ec_;(first|subst ea_|(injection ea_ with ea_;subst ea_));subst ec_;clear en_))
   have GB20:=Ya gb20;have GG20:=Ya HG20;clear gb20 gl20 HG20
   (first|simp only[add_plain] at hx401_0|skip)
   obtain⟨hx20_0,hf20_0⟩:=Kd.R_celln 0 HO_7.out (((rd_T50 Za Zh).f0):Int) p20 q20;replace p20:=eq_true p20;replace q20:=eq_true q20;have HP30:=Kd.R_putn HO_7.out (((rd_T50 Za Zh).f0):Int) (wrap64 ((rd Xc ((rd_T50 Za Zh).f0))+(rd l1 Zh)));rw[← Ny403.out] at HP30;have HQ30:=Ya HP30;clear HP30;refine start_ (n:=12) (S:=fun w'=>w'.cell? ⟨Wf,0,none⟩=some (.int .i64 ((rd_T50 Za Zh).f0))∧w'.cell? ⟨Wf,1,none⟩=some (.int .i64 ((rd_T50 Za Zh).f1))∧w'.cell? ⟨Wf,2,none⟩=some (.int .i64 ((rd_T50 Za Zh).f2))∧w'.cell? ⟨Wf,3,none⟩=some (.int .i64 ((rd_T50 Za Zh).f3))∧w'.cell? ⟨go20,(((rd_T50 Za Zh).f0)).toNat,none⟩=some (.int .i64 (rd Xc ((rd_T50 Za Zh).f0)))∧w'.cell? (ad402.add (Zh).toNat)=some (.int .i64 (rd l1 Zh))) (ds:=[11]) #[false,false,false,false,false,false,false,false,false,false,false,false] (by kernel_rfl) rfl rfl ⟨(Yc Vi.out 0).trans rfl,(Yc Vi.out 1).trans rfl,(Yc Vi.out 2).trans rfl,(Yc Vi.out 3).trans rfl,hx401_0,((HB.out.cell (Yb w _ hw402_0)).trans hw402_0)⟩ (fun hHeld=> ?_);refine with_tabW static_Balance.tab8 static_Balance.bits8 (fun HT_ HW_=> ?_);generalize w27.drew=w28 at HO_7 Xt Vi HB GG20 HQ30 hf20_0 hx20_0 hx401_0 hx402_0 hHeld ⊢;refine pu 0 27 (bm 12 1) ?_;refine pu 1 28 (bm 12 3) ?_;refine pu 5 32 (bm 12 35) ?_;refine pu 6 33 (bm 12 99) ?_;refine pu 7 34 (bm 12 227) ?_;refine ta 2 29 (bm 12 231) hHeld ?_;refine pu 3 30 (bm 12 239) ?_;refine ta 4 31 (bm 12 255) hHeld ?_;refine ta 8 35 (bm 12 511) hHeld ?_;refine pu 9 36 (bm 12 1023) ?_;refine pu 10 37 (bm 12 2047) ?_;refine last_ (i:=11) (N:=none) #[true,true,true,true,true,true,true,true,true,true,true,true] rfl rfl (one_of HT_.out (by kernel_rfl)) (by decide) (fun K hK=> ?_);refine skip_ (w1:= ?_) (by rfl) rfl ?_ ?_
   rotate_left
   ·go_simp
    rfl
   refine hK.out _ _ ?_;clear hK K;refine done_ (done_of HT_.out (by kernel_rfl)) ?_;try go_wp2
   have n0_:Aside0 (Kd.R (Kd.int .i64) 3 (w28.setCell ⟨go20,(((rd_T50 Za Zh).f0):Int).toNat,none⟩ (.int .i64 (wrap64 ((rd Xc ((rd_T50 Za Zh).f0))+(rd l1 Zh))))) w.heap.size (fun _=>True) (.slice (some ⟨go20,0,none⟩) Xc.length co29) y403):=⟨HQ30.out⟩;have n1_:Aside0 ((w28.setCell ⟨go20,(((rd_T50 Za Zh).f0):Int).toNat,none⟩ (.int .i64 (wrap64 ((rd Xc ((rd_T50 Za Zh).f0))+(rd l1 Zh))))).heap[Jj]? =some (.cells #[.int .i64 Zc, .bool Zb, .slice (some ad399) Za.length Zd] 24 (0,0))):=⟨by(with_reducible repeat(first|refine Yl ?_ _|refine Ym ?_|refine Yj ?_ _));refine blk_far ?_ (by have h_:=Kd.R_ne HO_7.out Xt.out (by decide);intro e_;exact h_ (by rw[e_];rfl)) _;(with_reducible repeat(first|refine Yl ?_ _|refine Ym ?_|refine Yj ?_ _));exact Xt.out⟩;have n2_:Aside0 ((w28.setCell ⟨go20,(((rd_T50 Za Zh).f0):Int).toNat,none⟩ (.int .i64 (wrap64 ((rd Xc ((rd_T50 Za Zh).f0))+(rd l1 Zh))))).heap[Wf]? =some (.cells #[.int .i64 ((rd_T50 Za Zh).f0), .int .i64 ((rd_T50 Za Zh).f1), .int .i64 ((rd_T50 Za Zh).f2), .int .i64 ((rd_T50 Za Zh).f3)] 50 (0,0))):=⟨by(with_reducible repeat(first|refine Yl ?_ _|refine Ym ?_|refine Yj ?_ _));refine blk_far ?_ (by have h_:=Kd.R_ne HO_7.out Vi.out (by decide);intro e_;exact h_ (by rw[e_];rfl)) _;(with_reducible repeat(first|refine Yl ?_ _|refine Ym ?_|refine Yj ?_ _));exact Vi.out⟩;have n3_:Aside0 (Below w.heap.size w (w28.setCell ⟨go20,(((rd_T50 Za Zh).f0):Int).toNat,none⟩ (.int .i64 (wrap64 ((rd Xc ((rd_T50 Za Zh).f0))+(rd l1 Zh)))))):=⟨bl⟩
   (try clear HO_7)
   (try clear Xt)
   (try clear Vi)
   (try clear HB)
   generalize (w28.setCell ⟨go20,(((rd_T50 Za Zh).f0):Int).toNat,none⟩ (.int .i64 (wrap64 ((rd Xc ((rd_T50 Za Zh).f0))+(rd l1 Zh)))))=w31 at n0_ n1_ n2_ n3_ ⊢;have HO_7:=n0_;have Xt:=n1_;have Vi:=n2_;have HB:=n3_;clear n0_ n1_ n2_ n3_;replace HO_7:=Ya (Yp HO_7.out);replace Xt:=Ya (Ym Xt.out);replace Vi:=Ya (Ym Vi.out);replace HB:=Ya (Yg HB.out);have p404:0≤(((rd_T50 Za Zh).f1):Int):=od;have q404:((rd_T50 Za Zh).f1)<(y403.length:Int):=(by have h_:(((rd_T50 Za Zh).f1):Int)<((Xc.length:Int):Int):=od;first|(have e_:=(Kd.R_reads' HO_7.out).1;omega)|simpa only[Ny403.out,List.length_set] using h_);have ql404:((((rd_T50 Za Zh).f1):Int)<((Xc.length:Int):Int))=True:=eq_true (Yu (by first|(with_reducible assumption)|assumption));obtain⟨ad404,e404,hx404_0⟩:=Kd.at_int (Kd.R_reads' HO_7.out).2.2 ((rd_T50 Za Zh).f1) p404 q404;obtain rfl:(⟨go20,0,none⟩:Addr)=ad404:=(by injection e404)
   (first|simp only[add_plain] at hx404_0|simp only[add_at] at hx404_0|simp only[Addr.add,Nat.zero_add] at hx404_0|skip)
   replace p404:=eq_true p404;replace q404:=eq_true q404;have p405:0≤(Zh:Int):=od;have q405:Zh<(l1.length:Int):=od;obtain⟨ad405,e405,hx405_0⟩:=Kd.at_int HR1.out Zh p405 q405;have hw405_0:=hx405_0;obtain rfl:ad402=ad405:=(by injection e405);replace hx405_0:=hc HB hx405_0;replace p405:=eq_true p405;replace q405:=eq_true q405;have p23:0≤(((rd_T50 Za Zh).f1):Int):=od;have q23:(((rd_T50 Za Zh).f1):Int)<((Xc.length:Int):Int):=od;obtain⟨hx23_0,hf23_0⟩:=Kd.R_celln 0 HO_7.out (((rd_T50 Za Zh).f1):Int) p23 q23;replace p23:=eq_true p23;replace q23:=eq_true q23;have HP33:=Kd.R_putn HO_7.out (((rd_T50 Za Zh).f1):Int) (wrap64 ((rd y403 ((rd_T50 Za Zh).f1)) - (rd l1 Zh)));rw[← Ny406.out] at HP33;have HQ33:=Ya HP33;clear HP33;refine start_ (n:=12) (S:=fun w'=>w'.cell? ⟨Wf,0,none⟩=some (.int .i64 ((rd_T50 Za Zh).f0))∧w'.cell? ⟨Wf,1,none⟩=some (.int .i64 ((rd_T50 Za Zh).f1))∧w'.cell? ⟨Wf,2,none⟩=some (.int .i64 ((rd_T50 Za Zh).f2))∧w'.cell? ⟨Wf,3,none⟩=some (.int .i64 ((rd_T50 Za Zh).f3))∧w'.cell? ⟨go20,(((rd_T50 Za Zh).f1)).toNat,none⟩=some (.int .i64 (rd y403 ((rd_T50 Za Zh).f1)))∧w'.cell? (ad402.add (Zh).toNat)=some (.int .i64 (rd l1 Zh))) (ds:=[11]) #[false,false,false,false,false,false,false,false,false,false,false,false] (by kernel_rfl) rfl rfl ⟨(Yc Vi.out 0).trans rfl,(Yc Vi.out 1).trans rfl,(Yc Vi.out 2).trans rfl,(Yc Vi.out 3).trans rfl,hx404_0,((HB.out.cell (Yb w _ hw405_0)).trans hw405_0)⟩ (fun hHeld=> ?_);refine with_tabW static_Balance.tab9 static_Balance.bits9 (fun HT_ HW_=> ?_);generalize w31.drew=w32 at HO_7 Xt Vi HB HQ30 HQ33 hf23_0 hx23_0 hx404_0 hx405_0 hHeld ⊢;refine pu 0 38 (bm 12 1) ?_;refine pu 1 39 (bm 12 3) ?_;refine pu 5 43 (bm 12 35) ?_;refine pu 6 44 (bm 12 99) ?_;refine pu 7 45 (bm 12 227) ?_;refine ta 2 40 (bm 12 231) hHeld ?_;refine pu 3 41 (bm 12 239) ?_;refine ta 4 42 (bm 12 255) hHeld ?_;refine ta 8 46 (bm 12 511) hHeld ?_;refine pu 9 47 (bm 12 1023) ?_;refine pu 10 48 (bm 12 2047) ?_;refine last_ (i:=11) (N:=none) #[true,true,true,true,true,true,true,true,true,true,true,true] rfl rfl (one_of HT_.out (by kernel_rfl)) (by decide) (fun K hK=> ?_);refine skip_ (w1:= ?_) (by rfl) rfl ?_ ?_
   rotate_left
   ·go_simp
    rfl
   refine hK.out _ _ ?_;clear hK K;refine done_ (done_of HT_.out (by kernel_rfl)) ?_;try go_wp2
   go_roundg k1
   case measure=>have:=HK1.out;omega
   case rel=>exact⟨(y406),(wrap64 (Zh+1)),(by first|rfl|(simp;done)|(simp[*];done)),H',⟨by have:=HK1.out;omega⟩,⟨kR HQ33⟩,⟨by(with_reducible repeat(first|refine Yl ?_ _|refine Ym ?_|refine Yj ?_ _));refine blk_far ?_ (by have h_:=Kd.R_ne HO_7.out Xt.out (by decide);intro e_;exact h_ (by rw[e_];rfl)) _;(with_reducible repeat(first|refine Yl ?_ _|refine Ym ?_|refine Yj ?_ _));exact Xt.out⟩,⟨bl⟩⟩
end P
namespace P
attribute [local go_sem] max2_int min2_int max_two min_two max_three min_three max_four min_four
def static_Check.l0:Nat→Int→Int→List Int→List Int→Int→Int→Option (Int × Int)
 |0,_,_,_,_,_,_=>none
 |k+1,x1,x2,x10,x29,x30,x31=>if x31<x30 then(if 0≤x31 then(if x31<(x29.length:Int) then(if (rd x29 x31)=0 then(static_Check.l0 k x1 x2 x10 x29 x30 (wrap64 (x31+1))) else(if x31=x1 then(static_Check.l0 k x1 x2 x10 x29 x30 (wrap64 (x31+1))) else(if x31=x2 then(static_Check.l0 k x1 x2 x10 x29 x30 (wrap64 (x31+1))) else(some (0,71))))) else(none)) else(none)) else(if 0≤x1 then(if x1<(x10.length:Int) then(some (rd x10 x1,0)) else(none)) else(none))
def static_Check.f (k:Nat) (Zc:Int) (Zb:Bool) (Za:List (S50)) (a1:Int) (a2:Int) (l3:List Int):Option (Int × Int):=(static_Ends.f k Zc Zb Za a1 a2).bind fun t408=>(if t408=0 then((static_Balance.f k Zc Zb Za l3).bind fun bt409=>(if bt409.2=0 then(static_Check.l0 k a1 a2 bt409.1 bt409.1 (bt409.1.length:Int) 0) else(some (0,bt409.2)))) else(some (0,t408)))
set_option maxHeartbeats 8000000 in
set_option maxRecDepth 100000 in
theorem static_Check.calls (k:Nat) (Zc:Int) (Zb:Bool) (Ze:Option Addr) (Zd:Nat) (Za:List (S50)) (a1:Int) (a2:Int) (A3:Option Addr) (c3:Nat) (l3:List Int) (r1:Int) (r2:Int) (w:World) (Zp:Kd.C k50 w Ze Za.length Za) (Zq:Za.length≤Zd) (hr3:Kd.C (Kd.int .i64) w A3 l3.length l3) (hc3:l3.length≤c3) (h:static_Check.f k Zc Zb Za a1 a2 l3=some (r1,r2)):
  Calls Try.prog 46 #[.agg #[.int .i64 Zc, .bool Zb, .slice Ze Za.length Zd], .int .i64 a1, .int .i64 a2, .slice A3 l3.length c3] w fun e w'=>e= .returned (.tuple #[.int .i64 r1, .int .i64 r2])∧Below w.heap.size w w':=by
 have hu24:=Try.underlying24;have Zj:=Ya Zp;have Zs:=Ya Zq;clear Zp Zq;have HR3:=Ya hr3;have HC3:=Ya hc3;clear hr3 hc3;have HB:=Ya (Yo w.heap.size w);have H:=h;unfold static_Check.f at H;clear h;replace H:=Option.bind_eq_some_iff.mp H;obtain⟨t408,A50,H⟩:=H;try dsimp only at H
 have A5:=Ya A50;clear A50;by_cases c6:t408=0
 rotate_left
 ·rw[Yy c6] at H
  have c6b0:(t408 == 0)=false:=beq_eq_false_iff_ne.mpr c6;have c6b1:(t408 != 0)=true:=bne_iff_ne.mpr c6;simp only[Option.some.injEq,Prod.mk.injEq] at H;obtain⟨rfl,rfl⟩:=H;go_enter Try.func46,Try.ntmps46;go_wp2_with (first|(refine bx 4 24 #[.int .i64 Zc, .bool Zb, .slice Ze Za.length Zd] ?_;intro Un hg w28 Zf hb;have Xy:=Ya (Zf);have GW407:=Ya (by rw[hg];exact(Yi HB.out):w.heap.size≤Un);have GE407:=Ya (by rw[hg];exact(Yi HB.out):w.heap.size≤Un);replace HB:=Ya (Yk HB.out hb);clear hb Zf hg;have hcz29_0:w28.cell? ⟨Un,0,none⟩=some (.int .i64 Zc):=bc Xy 0;have hcz29_1:w28.cell? ⟨Un,1,none⟩=some (.bool Zb):=bc Xy 1;have hcz29_2:w28.cell? ⟨Un,2,none⟩=some (.slice Ze Za.length Zd):=bc Xy 2;have hfz29_0:=Yf Xy.out 0;have hfz29_1:=Yf Xy.out 1;have hfz29_2:=Yf Xy.out 2)|((with_reducible refine gate_callee (f:=65) rfl ?_);refine gl (some 16) Try.func65 #[.agg #[.int .i64 Zc, .bool Zb, .slice Ze Za.length Zd], .int .i64 a1, .int .i64 a2] ?_;(with_reducible refine(static_Ends.calls k Zc Zb _ _ Za a1 a2 t408 _ ?side1 ?side2 A5.out).mono ?_);(case side1=>exact kC (Yt Zj.out HB.out));(case side2=>exact Zs.out);rintro e w30 ⟨rfl,hb⟩;refine⟨_,rfl,?_⟩;replace Xy:=Ya (Yn Xy.out hb);replace HB:=Ya (Yk HB.out hb);(try clear hb)));go_ret2;exact⟨by first|rfl|(simp[errW_none,errW_some]<;>rfl)|(simp[*,errW_none,errW_some]<;>rfl),HB.out⟩
 rw[Yx c6] at H;have c6b0:(t408 == 0)=true:=beq_iff_eq.mpr c6;have c6b1:(t408 != 0)=false:=bne_eq_false_iff_eq.mpr c6;clear c6;replace H:=Option.bind_eq_some_iff.mp H;obtain⟨⟨t409,t412⟩,A70,H⟩:=H;try dsimp only at H
 have A7:=Ya A70;clear A70;by_cases c8:t412=0
 rotate_left
 ·rw[Yy c8] at H
  have c8b0:(t412 == 0)=false:=beq_eq_false_iff_ne.mpr c8;have c8b1:(t412 != 0)=true:=bne_iff_ne.mpr c8;simp only[Option.some.injEq,Prod.mk.injEq] at H;obtain⟨rfl,rfl⟩:=H;go_enter Try.func46,Try.ntmps46;go_wp2_with (first|(refine bx 4 24 #[.int .i64 Zc, .bool Zb, .slice Ze Za.length Zd] ?_;intro Un hg w23 Zf hb;have Xy:=Ya (Zf);have GW407:=Ya (by rw[hg];exact(Yi HB.out):w.heap.size≤Un);have GE407:=Ya (by rw[hg];exact(Yi HB.out):w.heap.size≤Un);replace HB:=Ya (Yk HB.out hb);clear hb Zf hg;have hcz24_0:w23.cell? ⟨Un,0,none⟩=some (.int .i64 Zc):=bc Xy 0;have hcz24_1:w23.cell? ⟨Un,1,none⟩=some (.bool Zb):=bc Xy 1;have hcz24_2:w23.cell? ⟨Un,2,none⟩=some (.slice Ze Za.length Zd):=bc Xy 2;have hfz24_0:=Yf Xy.out 0;have hfz24_1:=Yf Xy.out 1;have hfz24_2:=Yf Xy.out 2)|((with_reducible refine gate_callee (f:=65) rfl ?_);refine gl (some 16) Try.func65 #[.agg #[.int .i64 Zc, .bool Zb, .slice Ze Za.length Zd], .int .i64 a1, .int .i64 a2] ?_;(with_reducible refine(static_Ends.calls k Zc Zb _ _ Za a1 a2 t408 _ ?side1 ?side2 A5.out).mono ?_);(case side1=>exact kC (Yt Zj.out HB.out));(case side2=>exact Zs.out);rintro e w25 ⟨rfl,hb⟩;refine⟨_,rfl,?_⟩;replace Xy:=Ya (Yn Xy.out hb);replace HB:=Ya (Yk HB.out hb);(try clear hb);have hcz26_0:w25.cell? ⟨Un,0,none⟩=some (.int .i64 Zc):=bc Xy 0;have hcz26_1:w25.cell? ⟨Un,1,none⟩=some (.bool Zb):=bc Xy 1;have hcz26_2:w25.cell? ⟨Un,2,none⟩=some (.slice Ze Za.length Zd):=bc Xy 2;have hfz26_0:=Yf Xy.out 0;have hfz26_1:=Yf Xy.out 1;have hfz26_2:=Yf Xy.out 2)|((with_reducible refine gate_callee (f:=73) rfl ?_);refine gl (some 23) Try.func73 #[.agg #[.int .i64 Zc, .bool Zb, .slice Ze Za.length Zd], .slice A3 l3.length c3] ?_;(with_reducible refine(static_Balance.calls k Zc Zb _ _ Za _ _ l3 t409 t412 _ ?side1 ?side2 ?side3 ?side4 A7.out).mono ?_);(case side1=>exact kC (Yt Zj.out HB.out));(case side2=>exact Zs.out);(case side3=>exact kC (Yt HR3.out HB.out));(case side4=>exact HC3.out);rintro e w27 ⟨v410,rfl,ho0,hb⟩;refine⟨_,rfl,?_⟩;have HO411:=Ya (Kd.R_lower ho0 (Yi HB.out));replace Xy:=Ya (Yn Xy.out hb);replace HB:=Ya (Yk HB.out hb);(try clear hb);(try clear hb2);(try clear hk);(try clear hi);(try clear ho0)));go_ret2;exact⟨by first|rfl|(simp[errW_none,errW_some]<;>rfl)|(simp[*,errW_none,errW_some]<;>rfl),HB.out⟩
 rw[Yx c8] at H;have c8b0:(t412 == 0)=true:=beq_iff_eq.mpr c8;have c8b1:(t412 != 0)=false:=bne_eq_false_iff_eq.mpr c8;clear c8;have H':=Ya H;clear H;go_enter Try.func46,Try.ntmps46;go_wp2_with (first|(refine bx 4 24 #[.int .i64 Zc, .bool Zb, .slice Ze Za.length Zd] ?_;intro Un hg w9 Zf hb;have Xy:=Ya (Zf);have GW407:=Ya (by rw[hg];exact(Yi HB.out):w.heap.size≤Un);have GE407:=Ya (by rw[hg];exact(Yi HB.out):w.heap.size≤Un);replace HB:=Ya (Yk HB.out hb);clear hb Zf hg;have Va:w9.cell? ⟨Un,0,none⟩=some (.int .i64 Zc):=bc Xy 0;have Vb:w9.cell? ⟨Un,1,none⟩=some (.bool Zb):=bc Xy 1;have Vr:w9.cell? ⟨Un,2,none⟩=some (.slice Ze Za.length Zd):=bc Xy 2;have Vc:=Yf Xy.out 0;have Vd:=Yf Xy.out 1;have Vs:=Yf Xy.out 2)|((with_reducible refine gate_callee (f:=65) rfl ?_);refine gl (some 16) Try.func65 #[.agg #[.int .i64 Zc, .bool Zb, .slice Ze Za.length Zd], .int .i64 a1, .int .i64 a2] ?_;(with_reducible refine(static_Ends.calls k Zc Zb _ _ Za a1 a2 t408 _ ?side1 ?side2 A5.out).mono ?_);(case side1=>exact kC (Yt Zj.out HB.out));(case side2=>exact Zs.out);rintro e w11 ⟨rfl,hb⟩;refine⟨_,rfl,?_⟩;replace Xy:=Ya (Yn Xy.out hb);replace HB:=Ya (Yk HB.out hb);(try clear hb);have hcz12_0:w11.cell? ⟨Un,0,none⟩=some (.int .i64 Zc):=bc Xy 0;have hcz12_1:w11.cell? ⟨Un,1,none⟩=some (.bool Zb):=bc Xy 1;have hcz12_2:w11.cell? ⟨Un,2,none⟩=some (.slice Ze Za.length Zd):=bc Xy 2;have hfz12_0:=Yf Xy.out 0;have hfz12_1:=Yf Xy.out 1;have hfz12_2:=Yf Xy.out 2)|((with_reducible refine gate_callee (f:=73) rfl ?_);refine gl (some 23) Try.func73 #[.agg #[.int .i64 Zc, .bool Zb, .slice Ze Za.length Zd], .slice A3 l3.length c3] ?_;(with_reducible refine(static_Balance.calls k Zc Zb _ _ Za _ _ l3 t409 t412 _ ?side1 ?side2 ?side3 ?side4 A7.out).mono ?_);(case side1=>exact kC (Yt Zj.out HB.out));(case side2=>exact Zs.out);(case side3=>exact kC (Yt HR3.out HB.out));(case side4=>exact HC3.out);rintro e w13 ⟨v410,rfl,ho0,hb⟩;refine⟨_,rfl,?_⟩;have HO411:=Ya (Kd.R_lower ho0 (Yi HB.out));replace Xy:=Ya (Yn Xy.out hb);replace HB:=Ya (Yk HB.out hb);(try clear hb);(try clear hb2);(try clear hk);(try clear hi);(try clear ho0);obtain⟨Ao14,co14,eo14⟩:=Kd.R_slice HO411.out;subst eo14));go_loopg [31] k (fun kq v31 w'=> ∃ (Wk:Int),v31= .int .i64 Wk∧Aside0 (static_Check.l0 kq a1 a2 t409 t409 (t409.length:Int) Wk=some (r1,r2))∧Aside0 (kq≤k)∧Aside0 (Kd.R (Kd.int .i64) 3 w' w.heap.size (fun _=>True) (.slice Ao14 t409.length co14) t409)∧Aside0 (Kd.R (Kd.int .i64) 3 w' w.heap.size (fun _=>True) (.slice Ao14 t409.length co14) t409)∧Aside0 (w'.heap[Un]? =some (.cells #[.int .i64 Zc, .bool Zb,(.slice Ze Za.length Zd)] 24 (0,0)))∧Aside0 (Below w.heap.size w w'))
 case atStart=>exact⟨(0),(by first|rfl|(simp;done)|(simp[*];done)),H',⟨Nat.le_refl _⟩,⟨HO411.out⟩,⟨HO411.out⟩,⟨Xy.out⟩,⟨HB.out⟩⟩
 case round=>
  clear H';try clear c3
  try clear c6
  try clear c6b0
  try clear c6b1
  try clear c8
  try clear c8b0
  try clear c8b1
  try clear Va
  try clear Vb
  try clear Vr
  try clear hcz12_0
  try clear hcz12_1
  try clear hcz12_2
  try clear Vc
  try clear Vd
  try clear Vs
  try clear hfz12_0
  try clear hfz12_1
  try clear hfz12_2
  obtain⟨Wk,rfl,HA,HK1,HO_10,HO_29,Xy,HB⟩:=hrel;cases gk with
  |zero=>exact absurd HA.out (by simp[static_Check.l0])
  |succ k1=>
   have H:=HA.out;clear HA;simp only[static_Check.l0] at H;by_cases c15:Wk<(t409.length:Int)
   rotate_left
   ·rw[Yy c15] at H
    have c15b0:decide (Wk<(t409.length:Int))=false:=Yw c15;clear c15;by_cases c21:0≤a1
    rotate_left
    ·rw[Yy c21] at H
     exact absurd H (by simp)
    rw[Yx c21] at H;have c21b0:decide (0≤a1)=true:=Yv c21;clear c21;by_cases c22:a1<(t409.length:Int)
    rotate_left
    ·rw[Yy c22] at H
     exact absurd H (by simp)
    rw[Yx c22] at H;have c22b0:decide (a1<(t409.length:Int))=true:=Yv c22;clear c22;simp only[Option.some.injEq,Prod.mk.injEq] at H;obtain⟨rfl,rfl⟩:=H;have p414:0≤(a1:Int):=od;have q414:a1<(t409.length:Int):=od;obtain⟨ad414,e414,hx414_0⟩:=Kd.at_int (Kd.R_reads' HO_10.out).2.2 a1 p414 q414;cases e414;replace p414:=eq_true p414;replace q414:=eq_true q414;go_wp2;go_ret2;exact⟨by first|rfl|(simp[errW_none,errW_some]<;>rfl)|(simp[*,errW_none,errW_some]<;>rfl),HB.out⟩
   rw[Yx c15] at H;have c15b0:decide (Wk<(t409.length:Int))=true:=Yv c15;clear c15;by_cases c16:0≤Wk
   rotate_left
   ·rw[Yy c16] at H
    exact absurd H (by simp)
   rw[Yx c16] at H;have c16b0:decide (0≤Wk)=true:=Yv c16;clear c16;by_cases c17:Wk<(t409.length:Int)
   rotate_left
   ·rw[Yy c17] at H
    exact absurd H (by simp)
   rw[Yx c17] at H;have c17b0:decide (Wk<(t409.length:Int))=true:=Yv c17;clear c17;by_cases c18:(rd t409 Wk)=0
   ·rw[Yx c18] at H
    have c18b0:((rd t409 Wk) == 0)=true:=beq_iff_eq.mpr c18;have c18b1:((rd t409 Wk) != 0)=false:=bne_eq_false_iff_eq.mpr c18;clear c18;have H':=Ya H;clear H;have p413:0≤(Wk:Int):=od;have q413:Wk<(t409.length:Int):=od;obtain⟨ad413,e413,hx413_0⟩:=Kd.at_int (Kd.R_reads' HO_29.out).2.2 Wk p413 q413;cases e413;replace p413:=eq_true p413;replace q413:=eq_true q413;go_wp2;go_roundg k1
    case measure=>have:=HK1.out;omega
    case rel=>exact⟨(wrap64 (Wk+1)),(by first|rfl|(simp;done)|(simp[*];done)),H',⟨by have:=HK1.out;omega⟩,⟨HO_10.out⟩,⟨HO_29.out⟩,⟨Xy.out⟩,⟨HB.out⟩⟩
   rw[Yy c18] at H;have c18b0:((rd t409 Wk) == 0)=false:=beq_eq_false_iff_ne.mpr c18;have c18b1:((rd t409 Wk) != 0)=true:=bne_iff_ne.mpr c18;by_cases c19:Wk=a1
   ·rw[Yx c19] at H
    have c19b0:(Wk == a1)=true:=beq_iff_eq.mpr c19;have c19b1:(Wk != a1)=false:=bne_eq_false_iff_eq.mpr c19;clear c19;have H':=Ya H;clear H;have p413:0≤(Wk:Int):=od;have q413:Wk<(t409.length:Int):=od;obtain⟨ad413,e413,hx413_0⟩:=Kd.at_int (Kd.R_reads' HO_29.out).2.2 Wk p413 q413;cases e413;replace p413:=eq_true p413;replace q413:=eq_true q413;go_wp2;go_roundg k1
    case measure=>have:=HK1.out;omega
    case rel=>exact⟨(wrap64 (Wk+1)),(by first|rfl|(simp;done)|(simp[*];done)),H',⟨by have:=HK1.out;omega⟩,⟨HO_10.out⟩,⟨HO_29.out⟩,⟨Xy.out⟩,⟨HB.out⟩⟩
   rw[Yy c19] at H;have c19b0:(Wk == a1)=false:=beq_eq_false_iff_ne.mpr c19;have c19b1:(Wk != a1)=true:=bne_iff_ne.mpr c19;by_cases c20:Wk=a2
   rotate_left
   ·rw[Yy c20] at H
    have c20b0:(Wk == a2)=false:=beq_eq_false_iff_ne.mpr c20;have c20b1:(Wk != a2)=true:=bne_iff_ne.mpr c20;simp only[Option.some.injEq,Prod.mk.injEq] at H;obtain⟨rfl,rfl⟩:=H;have p413:0≤(Wk:Int):=od;have q413:Wk<(t409.length:Int):=od;obtain⟨ad413,e413,hx413_0⟩:=Kd.at_int (Kd.R_reads' HO_29.out).2.2 Wk p413 q413;cases e413;replace p413:=eq_true p413;replace q413:=eq_true q413;go_wp2;go_ret2;exact⟨by first|rfl|(simp[errW_none,errW_some]<;>rfl)|(simp[*,errW_none,errW_some]<;>rfl),HB.out⟩
   rw[Yx c20] at H;have c20b0:(Wk == a2)=true:=beq_iff_eq.mpr c20;have c20b1:(Wk != a2)=false:=bne_eq_false_iff_eq.mpr c20;clear c20;have H':=Ya H;clear H;have p413:0≤(Wk:Int):=od;have q413:Wk<(t409.length:Int):=od;obtain⟨ad413,e413,hx413_0⟩:=Kd.at_int (Kd.R_reads' HO_29.out).2.2 Wk p413 q413;cases e413;replace p413:=eq_true p413;replace q413:=eq_true q413;go_wp2;go_roundg k1
   case measure=>have:=HK1.out;omega
   case rel=>exact⟨(wrap64 (Wk+1)),(by first|rfl|(simp;done)|(simp[*];done)),H',⟨by have:=HK1.out;omega⟩,⟨HO_10.out⟩,⟨HO_29.out⟩,⟨Xy.out⟩,⟨HB.out⟩⟩
end P
namespace P
attribute [local go_sem] max2_int min2_int max_two min_two max_three min_three max_four min_four
def api_Arc.f (l0:List (S50)):Option ((List (S50))):=(some (([]:List (S50)):List (S50))).bind fun y447=>(if y447.length+l0.length<4398046511104 then(some (y447 ++ l0)) else(none))
set_option maxHeartbeats 8000000 in
set_option maxRecDepth 100000 in
theorem api_Arc.calls (A0:Option Addr) (c0:Nat) (l0:List (S50)) (r:List (S50)) (w:World) (hr0:Kd.C k50 w A0 l0.length l0) (hc0:l0.length≤c0) (h:api_Arc.f l0=some r):
  Calls Try.prog 74 #[.slice A0 l0.length c0] w fun e w'=> ∃ v0_:Value,e= .returned (v0_)∧Kd.R k50 50 w' w.heap.size (fun _=>True) v0_ r∧Below w.heap.size w w':=by
 have HR0:=Ya hr0;have HC0:=Ya hc0;clear hr0 hc0;have HB:=Ya (Yo w.heap.size w);have H:=h;unfold api_Arc.f at H;clear h;obtain⟨y447,hy447⟩: ∃ y_:List (S50),y_=(([]:List (S50))):=⟨_,rfl⟩;rw[Option.bind_some, ← hy447] at H;have Ny447:=Ya hy447;clear hy447;by_cases c2:y447.length+l0.length<4398046511104
 rotate_left
 ·rw[Yy c2] at H
  exact absurd H (by simp)
 rw[Yx c2] at H;have LMc2:=Ya c2;clear c2;obtain⟨y450,hy450⟩: ∃ y_:List (S50),y_=(y447 ++ l0):=⟨_,rfl⟩;rw[← hy450] at H;have Ny450:=Ya hy450;clear hy450;obtain rfl:=Option.some.inj H;have hl0:=HC0.out;rcases A0 with _|ad0
 ·have hz:l0=[]:=by
   rcases Nat.eq_zero_or_pos l0.length with h0|h0
   ·exact List.eq_nil_of_length_eq_zero h0
   ·obtain⟨ad,he,_⟩:=HR0.out.2.2 h0
    cases he
  subst hz;have hrun: ∀ W:World,(Go.binOp .eql 22 (.slice none 0 c0) (.slice none 0 0)).run Try.prog W= .ok (.bool true) W:=fun W=>Go.run_eql_slice_nil W 22 50 none 0 c0 Try.underlying22
  have Hy:y450=[]:=by rw[Ny450.out,Ny447.out];rfl
  have NHy:=Ya Hy;clear Hy;have HR0':=HR0;clear HR0 HC0 hl0;go_enter Try.func74,Try.ntmps74;go_wp2;go_ret;exact⟨_,rfl,by rw[NHy.out];exact Kd.R_nil _ _ _ _ _,HB.out⟩
 have hrun: ∀ W:World,(Go.binOp .eql 22 (.slice (some ad0) l0.length c0) (.slice none 0 0)).run Try.prog W= .ok (.bool false) W:=fun W=>Go.run_eql_slice_nil W 22 50 (some ad0) l0.length c0 Try.underlying22
 clear hl0;go_enter Try.func74,Try.ntmps74;go_wp2_with (first|((with_reducible refine gate_dst (N:=5) rfl ?_);refine Kd.R_lit k50 _ 50 ?hg (N:=5) ?hd (xs:=([]:List (S50))) (inner:=[]) (ok:=fun _=>True) (okp:=fun _=>True) ?hr ?hp (fun _ hk=>hk) trivial (Yo _ _) (Nat.le_refl _) (by simp) ?_;(case hd=>rfl);(case hg=>rfl);(case hr=>first|(go_simp;done)|(go_simp;rfl));(case hp=>exact(Reps.none _ _));intro v448 w3 ho4 hb hg_ hnew_;clear hg_ hnew_;(first|rw[← Ny447.out] at ho4|(simp only[Int.reduceToNat] at ho4;rw[← Ny447.out] at ho4));have HO449:=Ya (Kd.R_lower ho4 (Yi bl));replace HB:=Ya (Yk bl hb);clear hb ho4)|((with_reducible refine gate_builtin (b:= .append) (xs:= #[.tmp 5, .tmp 6]) rfl ?_);at_builtin;refine Kd.R_append_rows k50 (w0:=w) w.heap.size rfl (.tmp 5) (.tmp 6) 22 50 (.agg #[(.int .i64 0),(.int .i64 0),(.int .i64 0),(.int .i64 0)]) 32 rfl Try.underlying22 info50 rfl (by decide) (by omega) v448 y447 l0 _ _ _ (fun _=>True) (fun _=>False) rfl rfl ?aO ?aR (fun _ _ h=>h) (fun _ h=>h.elim) ?aF ?aB ?aS ?aL ?_;(case aR=>repeat(first|exact(Yt HR0.out HB.out)|(with_reducible refine Kd.C_alloc ?_ _)|(with_reducible refine Kd.C_drewN ?_ _)|(with_reducible refine Kd.C_drew ?_)));(case aB=>exact bl);(case aF=>exact(fun _ _=>trivial));(case aO=>exact(kR HO449));(case aS=>exact(Yi bl));(case aL=>have:=LMc2.out;omega);intro v451 w5 ho hb hg hat;rw[← Ny450.out] at ho;replace HB:=Ya (hb);have HO452:=Ya (ho);clear HO449;clear ho hb hg hat));go_ret;exact⟨_,by first|rfl|(simp[errW_none,errW_some]<;>rfl)|(simp[*,errW_none,errW_some]<;>rfl),by(with_reducible repeat(first|apply Yr|apply Yq|apply Yp));exact HO452.out,bl⟩
end P
namespace H
theorem pigeonN (n:Nat): ∀ L:List Nat,L.Nodup→(∀ x,x∈L→x<n)→L.length≤n:=by
 induction n with
 |zero=>
  intro L _ h;cases L with
  |nil=>simp
  |cons x L=>exact absurd (h x List.mem_cons_self) (Nat.not_lt_zero _)
 |succ n ih=>
  intro L hn h;by_cases hm:n∈L
  ·have h1:=ih (L.erase n) (hn.erase n) (fun x hx=>by
    have h2:=(hn.mem_erase_iff).1 hx;have:=h x h2.2;have:=h2.1;omega)
   rw[List.length_erase_of_mem hm] at h1;omega
  ·have:=ih L hn (fun x hx=>by
    have h1:=h x hx;have:x≠n:=fun e=>hm (e▸hx)
    omega)
   omega
section
variable {α:Type}
structure Fd (α:Type) where
 v:Nat
 by_:α
 lv:Nat
def nodes (st:List (Fd α)):List Nat:=st.map Fd.v
def vis (to_:α→Nat) (lv:Nat) (st:List (Fd α)) (e:α):List (Fd α):=if to_ e∈nodes st then st else st ++ [⟨to_ e,e,lv+1⟩]
def proc (to_:α→Nat) (es:Nat→List α) (st:List (Fd α)) (x:Fd α):List (Fd α):=(es x.v).foldl (vis to_ x.lv) st
def bfs (to_:α→Nat) (es:Nat→List α):Nat→Nat→List (Fd α)→List (Fd α)
 |0,_,st=>st
 |n+1,i,st=>match st[i]? with
  |none=>st
  |some x=>bfs to_ es n (i+1) (proc to_ es st x)
theorem vis_pre (to_:α→Nat) (lv:Nat) (st:List (Fd α)) (e:α): ∃ r,vis to_ lv st e=st ++ r:=by
 unfold vis;split
 ·exact⟨[],(List.append_nil _).symm⟩
 ·exact⟨_,rfl⟩
theorem fold_pre (to_:α→Nat) (lv:Nat) (l:List α) (st:List (Fd α)): ∃ r,l.foldl (vis to_ lv) st=st ++ r:=by
 induction l generalizing st with
 |nil=>exact⟨[],(List.append_nil _).symm⟩
 |cons e l ih=>
  obtain⟨r,hr⟩:=vis_pre to_ lv st e;obtain⟨q,hq⟩:=ih (vis to_ lv st e);exact⟨r ++ q,by rw[List.foldl_cons,hq,hr,List.append_assoc]⟩
theorem bfs_pre (to_:α→Nat) (es:Nat→List α) (n i:Nat) (st:List (Fd α)): ∃ r,bfs to_ es n i st=st ++ r:=by
 induction n generalizing i st with
 |zero=>exact⟨[],(List.append_nil _).symm⟩
 |succ n ih=>
  unfold bfs;cases st[i]? with
  |none=>exact⟨[],(List.append_nil _).symm⟩
  |some x=>
   obtain⟨r,hr⟩:=fold_pre to_ x.lv (es x.v) st;obtain⟨q,hq⟩:=ih (i+1) (proc to_ es st x);exact⟨r ++ q,by show bfs to_ es n (i+1) (proc to_ es st x)=_;rw[hq];unfold proc;rw[hr,List.append_assoc]⟩
structure Fds (from_ to_:α→Nat) (es:Nat→List α) (s:Nat) (st:List (Fd α)):Prop where
 nodup:(nodes st).Nodup
 head: ∃ x r,st=x::r∧x.v=s∧x.lv=0
 by_ok: ∀ (j:Nat) (x:Fd α),st[j+1]? =some x→to_ x.by_=x.v∧ ∃ (k:Nat) (y:Fd α),k≤j∧st[k]? =some y∧x.by_∈es y.v∧x.lv=y.lv+1
 up: ∀ (j:Nat) (x y:Fd α),st[j]? =some x→st[j+1]? =some y→x.lv≤y.lv
theorem mem_nodes {st:List (Fd α)} {v:Nat} :v∈nodes st↔ ∃ (j:Nat) (x:Fd α),st[j]? =some x∧x.v=v:=by
 unfold nodes;rw[List.mem_map];constructor
 ·rintro⟨x,hx,rfl⟩
  obtain⟨j,hj⟩:=List.getElem?_of_mem hx;exact⟨j,x,hj,rfl⟩
 ·rintro⟨j,x,hj,rfl⟩
  exact⟨x,List.mem_of_getElem? hj,rfl⟩
theorem Fds.vis {from_ to_:α→Nat} {es:Nat→List α} {s:Nat} {st:List (Fd α)} (h:Fds from_ to_ es s st) {i:Nat} {x:Fd α} (hx:st[i]? =some x) (hm: ∀ y,y∈st→y.lv≤x.lv+1) {e:α} (he:e∈es x.v):
  Fds from_ to_ es s (vis to_ x.lv st e)∧ ∀ y,y∈H.vis to_ x.lv st e→y.lv≤x.lv+1:=by
 unfold H.vis;split
 ·exact⟨h,hm⟩
 ·rename_i hn
  have hil:=(List.getElem?_eq_some_iff.1 hx).1;have hsm: ∀ (j:Nat) (y:Fd α),(st ++ [⟨to_ e,e,x.lv+1⟩])[j]? =some y→(j<st.length∧st[j]? =some y)∨(j=st.length∧y=⟨to_ e,e,x.lv+1⟩):=by
   intro j y hy;rcases Nat.lt_or_ge j st.length with hj|hj
   ·rw[List.getElem?_append_left hj] at hy;exact .inl ⟨hj,hy⟩
   ·rw[List.getElem?_append_right hj] at hy
    have hj0:j - st.length=0:=by
     have:=(List.getElem?_eq_some_iff.1 hy).1;simp at this;omega
    rw[hj0] at hy;injection hy with hy
    exact .inr ⟨by omega,hy.symm⟩
  refine⟨⟨?_,?_,?_,?_⟩,?_⟩
  ·show (nodes (st ++ [_])).Nodup
   unfold nodes;rw[List.map_append];refine List.nodup_append.2 ⟨h.nodup,by simp,?_⟩;intro a ha b hb;simp at hb;subst hb;intro e';subst e';exact hn ha
  ·obtain⟨y,r,hr,h1,h2⟩:=h.head
   exact⟨y,r ++ [_],by rw[hr];rfl,h1,h2⟩
  ·intro j y hy
   rcases hsm _ _ hy with ⟨hj,hy⟩|⟨hj,rfl⟩
   ·obtain⟨h1,k,z,hk,hz,h2,h3⟩:=h.by_ok j y hy
    exact⟨h1,k,z,hk,by rw[List.getElem?_append_left (by omega)];exact hz,h2,h3⟩
   ·exact⟨rfl,i,x,by omega,by rw[List.getElem?_append_left hil];exact hx,he,rfl⟩
  ·intro j y z hy hz
   rcases hsm _ _ hz with ⟨hj,hz⟩|⟨hj,rfl⟩
   ·rw[List.getElem?_append_left (by omega)] at hy
    exact h.up j y z hy hz
   ·rw[List.getElem?_append_left (by omega)] at hy
    exact hm y (List.mem_of_getElem? hy)
  ·intro y hy
   rcases List.mem_append.1 hy with hy|hy
   ·exact hm y hy
   ·rw[List.mem_singleton.1 hy]
    exact Nat.le_refl _
theorem Fds.fold {from_ to_:α→Nat} {es:Nat→List α} {s:Nat} {x:Fd α} (l:List α): ∀ {st:List (Fd α)} (h:Fds from_ to_ es s st) {i:Nat} (hx:st[i]? =some x) (hm: ∀ y,y∈st→y.lv≤x.lv+1) (he: ∀ e,e∈l→e∈es x.v),
  Fds from_ to_ es s (l.foldl (H.vis to_ x.lv) st)∧ ∀ y,y∈l.foldl (H.vis to_ x.lv) st→y.lv≤x.lv+1:=by
 induction l with
 |nil=>intro st h i hx hm he;exact⟨h,hm⟩
 |cons e l ih=>
  intro st h i hx hm he;obtain⟨h1,h2⟩:=h.vis hx hm (he e List.mem_cons_self);obtain⟨r,hr⟩:=vis_pre to_ x.lv st e;have hx':(H.vis to_ x.lv st e)[i]? =some x:=by rw[hr,List.getElem?_append_left (List.getElem?_eq_some_iff.1 hx).1];exact hx
  exact ih h1 hx' h2 (fun e he'=>he e (List.mem_cons_of_mem _ he'))
theorem fold_mem (to_:α→Nat) (lv:Nat) (l:List α) (st:List (Fd α)) {e:α} (he:e∈l):to_ e∈nodes (l.foldl (vis to_ lv) st):=by
 induction l generalizing st with
 |nil=>cases he
 |cons f l ih=>
  rcases List.mem_cons.1 he with rfl|he
  ·obtain⟨r,hr⟩:=fold_pre to_ lv l (vis to_ lv st e)
   rw[List.foldl_cons,hr];have:to_ e∈nodes (vis to_ lv st e):=by
    unfold vis;split
    ·assumption
    ·unfold nodes;rw[List.map_append];exact List.mem_append_right _ (by simp)
   unfold nodes at this ⊢;rw[List.map_append];exact List.mem_append_left _ this
  ·exact ih _ he
structure Upto (from_ to_:α→Nat) (es:Nat→List α) (s i:Nat) (st:List (Fd α)):Prop where
 fds:Fds from_ to_ es s st
 most: ∀ (x:Fd α),st[i]? =some x→ ∀ y,y∈st→y.lv≤x.lv+1
 seen: ∀ (j:Nat) (x:Fd α),j<i→st[j]? =some x→ ∀ e,e∈es x.v→ ∃ (k:Nat) (y:Fd α),st[k]? =some y∧y.v=to_ e∧y.lv≤x.lv+1
theorem upto_start (from_ to_:α→Nat) (es:Nat→List α) (s:Nat) (e0:α):Upto from_ to_ es s 0 [⟨s,e0,0⟩]:=by
 refine⟨⟨by simp[nodes],⟨_,[],rfl,rfl,rfl⟩,?_,?_⟩,?_,?_⟩
 ·intro j x h;simp at h
 ·intro j x y h1 h2;simp at h2
 ·intro x h y hy
  rw[List.mem_singleton.1 hy];exact Nat.zero_le _
 ·intro j x h;exact absurd h (Nat.not_lt_zero _)
theorem Upto.next {from_ to_:α→Nat} {es:Nat→List α} {s i:Nat} {st:List (Fd α)} (h:Upto from_ to_ es s i st) {x:Fd α} (hx:st[i]? =some x):Upto from_ to_ es s (i+1) (proc to_ es st x):=by
 obtain⟨h1,h2⟩:=Fds.fold (es x.v) h.fds hx (h.most x hx) (fun e he=>he);obtain⟨r,hr⟩:=fold_pre to_ x.lv (es x.v) st;have hil:=(List.getElem?_eq_some_iff.1 hx).1;have hx':(proc to_ es st x)[i]? =some x:=by unfold proc;rw[hr,List.getElem?_append_left hil];exact hx
 refine⟨h1,?_,?_⟩
 ·intro y hy z hz
  have h3:=h1.up i x y hx' hy;have h4:=h2 z hz;omega
 ·intro j y hj hy e he
  rcases Nat.lt_or_ge j i with hji|hji
  ·unfold proc at hy ⊢
   rw[hr,List.getElem?_append_left (by omega)] at hy;obtain⟨k,z,hk,hv,hl⟩:=h.seen j y hji hy e he;exact⟨k,z,by rw[hr,List.getElem?_append_left (List.getElem?_eq_some_iff.1 hk).1];exact hk,hv,hl⟩
  ·have hji':j=i:=by omega
   subst hji';rw[hx'] at hy;injection hy with hy
   subst hy;obtain⟨k,z,hk,hv⟩:=mem_nodes.1 (fold_mem to_ x.lv (es x.v) st he);exact⟨k,z,hk,hv,h2 z (List.mem_of_getElem? hk)⟩
theorem bfs_done {from_ to_:α→Nat} {es:Nat→List α} {s N:Nat} (hN: ∀ (u:Nat) (e:α),e∈es u→to_ e<N) (hs:s<N) (n:Nat): ∀ (i:Nat) (st:List (Fd α)),Upto from_ to_ es s i st→N≤i+n→Upto from_ to_ es s (bfs to_ es n i st).length (bfs to_ es n i st):=by
 have hlen: ∀ (st:List (Fd α)),Fds from_ to_ es s st→st.length≤N:=by
  intro st h;have:(nodes st).length≤N:=by
   refine pigeonN N _ h.nodup ?_;intro v hv;obtain⟨j,x,hj,rfl⟩:=mem_nodes.1 hv;cases j with
   |zero=>
    obtain⟨y,r,hr,h1,_⟩:=h.head;rw[hr] at hj;injection hj with hj
    rw[← hj,h1];exact hs
   |succ j=>
    obtain⟨h1,k,y,_,_,h2,_⟩:=h.by_ok j x hj;rw[← h1];exact hN _ _ h2
  unfold nodes at this;rw[List.length_map] at this;exact this
 induction n with
 |zero=>
  intro i st h hi;have hl:=hlen st h.fds;show Upto from_ to_ es s st.length st;exact⟨h.fds,fun x hx=>by have:=(List.getElem?_eq_some_iff.1 hx).1;omega,fun j x hj hx=>h.seen j x (by omega) hx⟩
 |succ n ih=>
  intro i st h hi;unfold bfs;cases hx:st[i]? with
  |none=>
   have hl:=List.getElem?_eq_none_iff.1 hx;show Upto from_ to_ es s st.length st;exact⟨h.fds,fun x hx=>by have:=(List.getElem?_eq_some_iff.1 hx).1;omega,fun j x hj hx=>h.seen j x (by omega) hx⟩
  |some x=>exact ih (i+1) _ (h.next hx) (by omega)
end
end H
namespace H
section
variable {α:Type}
def fnd (st:List (Fd α)) (v:Nat):Option (Fd α):=st.find? fun x=>x.v == v
theorem fnd_some {st:List (Fd α)} {v:Nat} {x:Fd α} (h:fnd st v=some x):x∈st∧x.v=v:=by
 have h1:=List.find?_some h;exact⟨List.mem_of_find?_eq_some h,by simpa using h1⟩
theorem fnd_none {st:List (Fd α)} {v:Nat} :fnd st v=none↔v ∉ nodes st:=by
 unfold fnd nodes;rw[List.find?_eq_none];constructor
 ·intro h hm
  obtain⟨x,hx,rfl⟩:=List.mem_map.1 hm;exact h x hx (by simp)
 ·intro h x hx e
  exact h (List.mem_map.2 ⟨x,hx,by simpa using e⟩)
theorem nodup_inj {st:List (Fd α)} (h:(nodes st).Nodup) {x y:Fd α} (hx:x∈st) (hy:y∈st) (e:x.v=y.v):x=y:=by
 induction st with
 |nil=>cases hx
 |cons z st ih=>
  have h':z.v ∉ nodes st∧(nodes st).Nodup:=List.nodup_cons.1 h;rcases List.mem_cons.1 hx with h1|h1<;>rcases List.mem_cons.1 hy with h2|h2
  ·rw[h1,h2]
  ·exact(h'.1 (List.mem_map.2 ⟨y,h2,by rw[← e,h1]⟩)).elim
  ·exact(h'.1 (List.mem_map.2 ⟨x,h1,by rw[e,h2]⟩)).elim
  ·exact ih h'.2 h1 h2
theorem fnd_of {st:List (Fd α)} (h:(nodes st).Nodup) {x:Fd α} (hx:x∈st):fnd st x.v=some x:=by
 cases hf:fnd st x.v with
 |none=>exact absurd (List.mem_map.2 ⟨x,hx,rfl⟩) (fnd_none.1 hf)
 |some y=>
  obtain⟨h1,h2⟩:=fnd_some hf;rw[nodup_inj h h1 hx h2]
theorem fnd_app {st r:List (Fd α)} {v:Nat} (h:v∈nodes st):fnd (st ++ r) v=fnd st v:=by
 unfold fnd;rw[List.find?_append];cases hf:fnd st v with
 |none=>exact absurd h (fnd_none.1 hf)
 |some x=>unfold fnd at hf;rw[hf];rfl
theorem nodes_app (st r:List (Fd α)):nodes (st ++ r)=nodes st ++ nodes r:=List.map_append
def backL (fr:α→Nat) (st:List (Fd α)) (s:Nat):Nat→Nat→List α
 |0,_=>[]
 |k+1,v=>if v=s then [] else match fnd st v with
  |none=>[]
  |some x=>x.by_::backL fr st s k (fr x.by_)
def wayL (fr:α→Nat) (st:List (Fd α)) (s v:Nat):List α:=(backL fr st s st.length v).reverse
def Leads (to_:α→Nat) (es:Nat→List α):Nat→List α→Nat→Prop
 |u,[],t=>u=t
 |u,e::L,t=>e∈es u∧Leads to_ es (to_ e) L t
theorem Leads.snoc {to_:α→Nat} {es:Nat→List α} {L:List α} {e:α} : ∀ {u v:Nat},Leads to_ es u L v→e∈es v→Leads to_ es u (L ++ [e]) (to_ e):=by
 induction L with
 |nil=>intro u v h he;cases h;exact⟨he,rfl⟩
 |cons f L ih=>intro u v h he;exact⟨h.1,ih h.2 he⟩
theorem Fds.mem_lv {fr to_:α→Nat} {es:Nat→List α} {s:Nat} {st:List (Fd α)} (h:Fds fr to_ es s st) {x:Fd α} (hx:x∈st):
  (x.v=s∧x.lv=0)∨(x.v≠s∧to_ x.by_=x.v∧ ∃ y,y∈st∧x.by_∈es y.v∧x.lv=y.lv+1):=by
 obtain⟨j,hj⟩:=List.getElem?_of_mem hx;obtain⟨z,r,hr,h1,h2⟩:=h.head;have hz:z∈st:=by rw[hr];exact List.mem_cons_self
 cases j with
 |zero=>
  rw[hr] at hj;injection hj with hj
  rw[← hj];exact .inl ⟨h1,h2⟩
 |succ j=>
  obtain⟨h3,k,y,_,hy,h4,h5⟩:=h.by_ok j x hj;refine .inr ⟨?_,h3,y,List.mem_of_getElem? hy,h4,h5⟩;intro e;have:=nodup_inj h.nodup hx hz (by rw[e,h1]);rw[this,h2] at h5;omega
theorem lv_lt {fr to_:α→Nat} {es:Nat→List α} {s:Nat} {st:List (Fd α)} (h:Fds fr to_ es s st) {x:Fd α} (hx:x∈st):x.lv<st.length:=by
 obtain⟨z,r,hr,h1,h2⟩:=h.head;have aux: ∀ (j:Nat) (y:Fd α),st[j]? =some y→y.lv≤j:=by
  intro j
  induction j using Nat.strongRecOn with
  |_ j ih=>
   intro y hy;cases j with
   |zero=>
    rw[hr] at hy;injection hy with hy
    rw[← hy,h2];exact Nat.le_refl _
   |succ j=>
    obtain⟨_,k,w,hk,hw,_,h5⟩:=h.by_ok j y hy;have:=ih k (by omega) w hw;omega
 obtain⟨j,hj⟩:=List.getElem?_of_mem hx;have:=aux j x hj;have:=(List.getElem?_eq_some_iff.1 hj).1;omega
theorem backL_spec {fr to_:α→Nat} {es:Nat→List α} {s:Nat} {st:List (Fd α)} (h:Fds fr to_ es s st) (hes: ∀ u e,e∈es u→fr e=u) (k:Nat): ∀ {x:Fd α},x∈st→x.lv≤k→
  (backL fr st s k x.v).length=x.lv∧Leads to_ es s (backL fr st s k x.v).reverse x.v:=by
 induction k with
 |zero=>
  intro x hx hk;rcases h.mem_lv hx with ⟨h1,h2⟩|⟨_,_,y,_,_,h5⟩
  ·exact⟨by rw[h2];rfl,h1.symm⟩
  ·omega
 |succ k ih=>
  intro x hx hk;unfold backL;rcases h.mem_lv hx with ⟨h1,h2⟩|⟨h1,h3,y,hy,h4,h5⟩
  ·rw[Yx h1,h2]
   exact⟨rfl,h1.symm⟩
  ·rw[Yy h1,fnd_of h.nodup hx]
   show (_::_).length=_∧Leads to_ es s (_::_).reverse _;rw[hes _ _ h4];obtain⟨i1,i2⟩:=ih hy (by omega);refine⟨by rw[List.length_cons,i1,h5],?_⟩;rw[List.reverse_cons, ← h3];exact i2.snoc h4
theorem backL_more {fr to_:α→Nat} {es:Nat→List α} {s:Nat} {st:List (Fd α)} (h:Fds fr to_ es s st) (hes: ∀ u e,e∈es u→fr e=u) (r:List (Fd α)) (k:Nat): ∀ {k':Nat} {x:Fd α},x∈st→x.lv≤k→x.lv≤k'→
  backL fr (st ++ r) s k' x.v=backL fr st s k x.v:=by
 induction k with
 |zero=>
  intro k' x hx hk hk';rcases h.mem_lv hx with ⟨h1,h2⟩|⟨_,_,y,_,_,h5⟩
  ·cases k' with
   |zero=>rfl
   |succ k'=>unfold backL;rw[Yx h1]
  ·omega
 |succ k ih=>
  intro k' x hx hk hk';rcases h.mem_lv hx with ⟨h1,h2⟩|⟨h1,h3,y,hy,h4,h5⟩
  ·cases k' with
   |zero=>unfold backL;rw[Yx h1]
   |succ k'=>unfold backL;rw[Yx h1,Yx h1]
  ·cases k' with
   |zero=>omega
   |succ k'=>
    unfold backL;rw[Yy h1,Yy h1,fnd_app (List.mem_map.2 ⟨x,hx,rfl⟩),fnd_of h.nodup hx];show _::_=_::_;rw[hes _ _ h4,ih hy (by omega) (by omega)]
def dOf (n:Nat) (st:List (Fd α)):List Int:=(List.range n).map fun v=>match fnd st v with
 |some x=>(x.lv:Int)
 |none=> -1
def bOf (z:α) (n:Nat) (st:List (Fd α)):List α:=(List.range n).map fun v=>match fnd st v with
 |some x=>x.by_
 |none=>z
theorem dOf_len (n:Nat) (st:List (Fd α)):(dOf n st).length=n:=by simp[dOf]
theorem bOf_len (z:α) (n:Nat) (st:List (Fd α)):(bOf z n st).length=n:=by simp[bOf]
theorem dOf_get {n v:Nat} (st:List (Fd α)) (d:Int) (hv:v<n):(dOf n st).getD v d=match fnd st v with
  |some x=>(x.lv:Int)
  |none=> -1:=by
 unfold dOf;rw[List.getD_eq_getElem?_getD,List.getElem?_map,List.getElem?_range hv];rfl
theorem bOf_get {n v:Nat} (z:α) (st:List (Fd α)) (d:α) (hv:v<n):(bOf z n st).getD v d=match fnd st v with
  |some x=>x.by_
  |none=>z:=by
 unfold bOf;rw[List.getD_eq_getElem?_getD,List.getElem?_map,List.getElem?_range hv];rfl
theorem dOf_neg {n v:Nat} (st:List (Fd α)) (d:Int) (hv:v<n):(dOf n st).getD v d<0↔v ∉ nodes st:=by
 rw[dOf_get st d hv, ← fnd_none];cases fnd st v with
 |none=>simp
 |some x=>simp
theorem dOf_mem {n:Nat} {st:List (Fd α)} (h:(nodes st).Nodup) {x:Fd α} (hx:x∈st) (d:Int) (hv:x.v<n):(dOf n st).getD x.v d=x.lv:=by
 rw[dOf_get st d hv,fnd_of h hx]
theorem set_map_range {β:Type} (n w:Nat) (f:Nat→β) (b:β):((List.range n).map f).set w b=(List.range n).map fun v=>if v=w then b else f v:=by
 apply List.ext_getElem?;intro i;rw[List.getElem?_set];simp only[List.length_map,List.length_range,List.getElem?_map];by_cases e:w=i
 ·subst e
  by_cases hw:w<n
  ·rw[Yx rfl,Yx hw,List.getElem?_range hw]
   simp
  ·rw[Yx rfl,Yy hw,List.getElem?_eq_none (by simp;omega)]
   rfl
 ·rw[Yy e]
  by_cases hi:i<n
  ·rw[List.getElem?_range hi]
   simp[Ne.symm e]
  ·rw[List.getElem?_eq_none (by simp;omega)]
   rfl
theorem dOf_snoc (n:Nat) {st:List (Fd α)} {x:Fd α} (h:x.v ∉ nodes st):dOf n (st ++ [x])=(dOf n st).set x.v (x.lv:Int):=by
 unfold dOf;rw[set_map_range];apply List.map_congr_left;intro v hv;by_cases e:v=x.v
 ·subst e
  rw[Yx rfl];have h1:=fnd_none.2 h;unfold fnd at h1 ⊢;rw[List.find?_append,h1];simp
 ·rw[Yy e]
  unfold fnd;rw[List.find?_append];cases hf:st.find? (fun y=>y.v == v) with
  |some y=>rfl
  |none=>simp[Ne.symm e]
theorem bOf_snoc (z:α) (n:Nat) {st:List (Fd α)} {x:Fd α} (h:x.v ∉ nodes st):bOf z n (st ++ [x])=(bOf z n st).set x.v x.by_:=by
 unfold bOf;rw[set_map_range];apply List.map_congr_left;intro v hv;by_cases e:v=x.v
 ·subst e
  rw[Yx rfl];have h1:=fnd_none.2 h;unfold fnd at h1 ⊢;rw[List.find?_append,h1];simp
 ·rw[Yy e]
  unfold fnd;rw[List.find?_append];cases hf:st.find? (fun y=>y.v == v) with
  |some y=>rfl
  |none=>simp[Ne.symm e]
theorem dOf_one (n s:Nat) (z:α):dOf n [⟨s,z,0⟩]=(List.replicate n (-1:Int)).set s 0:=by
 have h1:(List.replicate n (-1:Int))=dOf n ([]:List (Fd α)):=by
  unfold dOf;apply List.ext_getElem (by simp);intro i h1 h2;simp[fnd]
 rw[h1,show ([⟨s,z,0⟩]:List (Fd α))=[] ++ [⟨s,z,0⟩] from rfl,dOf_snoc n (by simp[nodes])];rfl
theorem bOf_one (n s:Nat) (z:α):bOf z n [⟨s,z,0⟩]=List.replicate n z:=by
 unfold bOf;apply List.ext_getElem (by simp);intro i h1 h2;simp only[List.getElem_map,List.getElem_range,List.getElem_replicate];unfold fnd;rw[List.find?_cons];cases (s == i)<;>rfl
def bfsN (to_:α→Nat) (es:Nat→List α) (z:α) (n s:Nat):List (Fd α):=bfs to_ es n 0 [⟨s,z,0⟩]
theorem bfsN_upto {fr to_:α→Nat} {es:Nat→List α} {z:α} {n s:Nat} (hN: ∀ (u:Nat) (e:α),e∈es u→to_ e<n) (hs:s<n):Upto fr to_ es s (bfsN to_ es z n s).length (bfsN to_ es z n s):=
 bfs_done hN hs n 0 _ (upto_start fr to_ es s z) (by omega)
theorem bfsN_closed {to_:α→Nat} {es:Nat→List α} {z:α} {n s:Nat} (hN: ∀ (u:Nat) (e:α),e∈es u→to_ e<n) (hs:s<n) {x:Fd α} (hx:x∈bfsN to_ es z n s) {e:α} (he:e∈es x.v):
  ∃ y,y∈bfsN to_ es z n s∧y.v=to_ e∧y.lv≤x.lv+1:=by
 obtain⟨j,hj⟩:=List.getElem?_of_mem hx;obtain⟨k,y,hk,h1,h2⟩:=(bfsN_upto (fr:=fun _=>0) (z:=z) hN hs).seen j x (List.getElem?_eq_some_iff.1 hj).1 hj e he;exact⟨y,List.mem_of_getElem? hk,h1,h2⟩
theorem fds_lt {fr to_:α→Nat} {es:Nat→List α} {n s:Nat} {st:List (Fd α)} (h:Fds fr to_ es s st) (hN: ∀ (u:Nat) (e:α),e∈es u→to_ e<n) (hs:s<n): ∀ v,v∈nodes st→v<n:=by
 intro v hv;obtain⟨x,hx,rfl⟩:=List.mem_map.1 hv;rcases h.mem_lv hx with ⟨h1,_⟩|⟨_,h3,y,_,h4,_⟩
 ·rw[h1];exact hs
 ·rw[← h3];exact hN _ _ h4
theorem fds_len {fr to_:α→Nat} {es:Nat→List α} {n s:Nat} {st:List (Fd α)} (h:Fds fr to_ es s st) (hN: ∀ (u:Nat) (e:α),e∈es u→to_ e<n) (hs:s<n):st.length≤n:=by
 have:=pigeonN n (nodes st) h.nodup (fds_lt h hN hs);unfold nodes at this
 rwa [List.length_map] at this
end
end H
namespace H
section
variable {α:Type}
structure Net_ (α:Type) where
 rows:Nat→List α
 to_:α→Nat
 fr:α→Nat
 D:Nat→Int
 ok:α→Bool
def Net_.adm (g:Net_ α) (u:Nat) (e:α):Bool:=decide (g.D (g.to_ e)=g.D u+1) && g.ok e
theorem adm_lv {g:Net_ α} {u:Nat} {e:α} (h:g.adm u e=true):g.D (g.to_ e)=g.D u+1∧g.ok e=true:=by
 unfold Net_.adm at h;rw[Bool.and_eq_true,decide_eq_true_eq] at h;exact h
end
end H
namespace P
attribute [local go_sem] max2_int min2_int max_two min_two max_three min_three max_four min_four
def ebbtideref07_Steps.l0:Nat→List Int→List (S79)→Int→Int→Bool→List (S50)→Option ((List (S79)))
 |0,_,_,_,_,_,_=>none
 |k+1,x1,x5,x6,x238000,x238001,x238002=>if x6<(x1.length:Int) then(if 0≤x6 then(if x6<(x238002.length:Int) then(if ((rd_T50 x238002 x6).f2)>(rd x1 x6) then(if x5.length<8796093022208 then((some (x5 ++ [(⟨x6,false⟩:S79)]:List (S79))).bind fun y240=>(if (rd x1 x6)>0 then(if y240.length<8796093022208 then(ebbtideref07_Steps.l0 k x1 (y240 ++ [(⟨x6,true⟩:S79)]) (wrap64 (x6+1)) x238000 x238001 x238002) else(none)) else(ebbtideref07_Steps.l0 k x1 y240 (wrap64 (x6+1)) x238000 x238001 x238002))) else(none)) else(if (rd x1 x6)>0 then(if x5.length<8796093022208 then(ebbtideref07_Steps.l0 k x1 (x5 ++ [(⟨x6,true⟩:S79)]) (wrap64 (x6+1)) x238000 x238001 x238002) else(none)) else(ebbtideref07_Steps.l0 k x1 x5 (wrap64 (x6+1)) x238000 x238001 x238002))) else(none)) else(none)) else(some x5)
def ebbtideref07_Steps.f (k:Nat) (Zc:Int) (Zb:Bool) (Za:List (S50)) (l1:List Int):Option ((List (S79))):=ebbtideref07_Steps.l0 k l1 ([]:List (S79)) 0 Zc Zb Za
set_option maxHeartbeats 8000000 in
set_option maxRecDepth 100000 in
theorem ebbtideref07_Steps.calls (k:Nat) (Zc:Int) (Zb:Bool) (Ze:Option Addr) (Zd:Nat) (Za:List (S50)) (A1:Option Addr) (c1:Nat) (l1:List Int) (r:List (S79)) (w:World) (Zp:Kd.C k50 w Ze Za.length Za) (Zq:Za.length≤Zd) (hr1:Kd.C (Kd.int .i64) w A1 l1.length l1) (hc1:l1.length≤c1) (h:ebbtideref07_Steps.f k Zc Zb Za l1=some r):
  Calls Try.prog 41 #[.agg #[.int .i64 Zc, .bool Zb, .slice Ze Za.length Zd], .slice A1 l1.length c1] w fun e w'=> ∃ v0_:Value,e= .returned (v0_)∧Kd.R k79 79 w' w.heap.size (fun _=>True) v0_ r∧Below w.heap.size w w':=by
 have hu24:=Try.underlying24;have hu79:=Try.underlying79;have Zj:=Ya Zp;have Zs:=Ya Zq;clear Zp Zq;have HR1:=Ya hr1;have HC1:=Ya hc1;clear hr1 hc1;have HB:=Ya (Yo w.heap.size w);have H:=h;unfold ebbtideref07_Steps.f at H;clear h;have H':=Ya H;clear H;go_enter Try.func41,Try.ntmps41;go_wp2_with (first|(refine bx 2 24 #[.int .i64 Zc, .bool Zb, .slice Ze Za.length Zd] ?_;intro gb237 hg w3 Zf hb;have Xd:=Ya (Zf);have GW237:=Ya ((sz hg));have GE237:=Ya ((sz hg));replace HB:=Ya (Yk bl hb);clear hb Zf hg));repeat(go_quiet (first|(refine bx 2 24 #[.int .i64 Zc, .bool Zb, .slice Ze Za.length Zd] ?_;intro gb237 hg w3 Zf hb;have Xd:=Ya (Zf);have GW237:=Ya ((sz hg));have GE237:=Ya ((sz hg));replace HB:=Ya (Yk bl hb);clear hb Zf hg));try go_wp2_with (first|(refine bx 2 24 #[.int .i64 Zc, .bool Zb, .slice Ze Za.length Zd] ?_;intro gb237 hg w3 Zf hb;have Xd:=Ya (Zf);have GW237:=Ya ((sz hg));have GE237:=Ya ((sz hg));replace HB:=Ya (Yk bl hb);clear hb Zf hg)))
 go_loopg [5,6] k (fun kq v5 v6 w'=> ∃ (Zl:List (S79)) (Zg:Int),v6= .int .i64 Zg∧Aside0 (ebbtideref07_Steps.l0 kq l1 Zl Zg Zc Zb Za=some r)∧Aside0 (kq≤k)∧Aside0 (Kd.R k79 79 w' w.heap.size (fun _=>True) v5 Zl)∧Aside0 (w'.heap[gb237]? =some (.cells #[.int .i64 Zc, .bool Zb,(.slice Ze Za.length Zd)] 24 (0,0)))∧Aside0 (Below w.heap.size w w'))
 case atStart=>exact⟨(([]:List (S79))),(0),(by first|rfl|(simp;done)|(simp[*];done)),H',⟨Nat.le_refl _⟩,⟨by first|exact Kd.R_nil _ _ _ _ _|exact Kd.N_nil _ _ _ _ _|exact Kd.V_nil _ _ _ _ _|exact Kd.Q_nil _ _ _ _ _|exact Kd.S_nil _ _ _ _ _⟩,⟨Xd.out⟩,⟨HB.out⟩⟩
 case round=>
  clear H';try clear c1
  obtain⟨Zl,Zg,rfl,HA,HK1,HO_5,Xd,HB⟩:=hrel;cases gk with
  |zero=>exact absurd HA.out (by simp[ebbtideref07_Steps.l0])
  |succ k1=>
   have H:=HA.out;clear HA;simp only[ebbtideref07_Steps.l0] at H;by_cases c4:Zg<(l1.length:Int)
   rotate_left
   ·rw[Yy c4] at H
    have c4b0:decide (Zg<(l1.length:Int))=false:=Yw c4;clear c4;obtain rfl:=Option.some.inj H;go_wp2;repeat(go_quiet (fail);try go_wp2)
    go_ret;exact⟨_,by first|rfl|(simp[errW_none,errW_some]<;>rfl)|(simp[*,errW_none,errW_some]<;>rfl),by(with_reducible repeat(first|apply Yr|apply Yq|apply Yp));exact HO_5.out,HB.out⟩
   rw[Yx c4] at H;have c4b0:decide (Zg<(l1.length:Int))=true:=Yv c4;clear c4;by_cases c5:0≤Zg
   rotate_left
   ·rw[Yy c5] at H
    exact absurd H (by simp)
   rw[Yx c5] at H;have c5b0:decide (0≤Zg)=true:=Yv c5;clear c5;by_cases c6:Zg<(Za.length:Int)
   rotate_left
   ·rw[Yy c6] at H
    exact absurd H (by simp)
   rw[Yx c6] at H;have c6b0:decide (Zg<(Za.length:Int))=true:=Yv c6;clear c6;by_cases c7:((rd_T50 Za Zg).f2)>(rd l1 Zg)
   ·rw[Yx c7] at H
    have c7b0:decide ((rd l1 Zg)<((rd_T50 Za Zg).f2))=true:=Yv c7;clear c7;by_cases c8:Zl.length<8796093022208
    rotate_left
    ·rw[Yy c8] at H
     exact absurd H (by simp)
    rw[Yx c8] at H;have LMc8:=Ya c8;clear c8;obtain⟨y240,hy240⟩: ∃ y_:List (S79),y_=(Zl ++ [(⟨Zg,false⟩:S79)]):=⟨_,rfl⟩;rw[Option.bind_some, ← hy240] at H;have Ny240:=Ya hy240;clear hy240;by_cases c9:(rd l1 Zg)>0
    rotate_left
    ·rw[Yy c9] at H
     have c9b0:decide (0<(rd l1 Zg))=false:=Yw c9;clear c9;have H':=Ya H;clear H;have Jp:wr.cell? ⟨gb237,0,none⟩=some (.int .i64 Zc):=bc Xd 0;have Jq:wr.cell? ⟨gb237,1,none⟩=some (.bool Zb):=bc Xd 1;have hcz14_2:wr.cell? ⟨gb237,2,none⟩=some (.slice Ze Za.length Zd):=bc Xd 2;have Jr:=Yf Xd.out 0;have Js:=Yf Xd.out 1;have hfz14_2:=Yf Xd.out 2;have p238:0≤(Zg:Int):=od;have q238:Zg<(Za.length:Int):=od;obtain⟨ad238,e238,hx238_0,hx238_1,hx238_2,hx238_3⟩:=at_T50 Zj.out Zg p238 q238;cases e238;replace hx238_0:=hc HB hx238_0;replace hx238_1:=hc HB hx238_1;replace hx238_2:=hc HB hx238_2;replace hx238_3:=hc HB hx238_3;replace p238:=eq_true p238;replace q238:=eq_true q238;have p239:0≤(Zg:Int):=od;have q239:Zg<(l1.length:Int):=od;obtain⟨ad239,e239,hx239_0⟩:=Kd.at_int HR1.out Zg p239 q239;cases e239;replace hx239_0:=hc HB hx239_0;replace p239:=eq_true p239;replace q239:=eq_true q239;go_wp2_with (first|((with_reducible refine gate_builtin (b:= .append) (xs:= #[.tmp 24, .tmp 27]) rfl ?_);at_builtin;refine Kd.R_append k79 (w0:=w) w.heap.size rfl (.tmp 24) (.tmp 27) 67 79 (.agg #[(.int .i64 0),(.bool false)]) 16 rfl Try.underlying67 info79 rfl (by decide) (by omega) u5 Zl (⟨Zg,false⟩:S79) [.int .i64 Zg, .bool false] (fun _=>True) (fun _=>False) rfl rfl ?aP (fun _ hk=>hk.elim) ?aF ?aO ?aB ?aS ?aL ?_;(case aP=>exact k79_mkM _ _ _ (⟨Zg,false⟩:S79));(case aB=>exact bl);(case aF=>exact(fun _ _=>trivial));(case aO=>exact(kR HO_5));(case aS=>exact(Yi bl));(case aL=>have:=LMc8.out;omega);intro v241 w15 ho hb hg hat;rw[← Ny240.out] at ho;replace Xd:=Ya (blk_grown (bk Xd) hg (Kd.R_ne HO_5.out Xd.out (by decide)));replace HB:=Ya (hb);have HO242:=Ya (ho);clear HO_5;clear ho hb hg hat;have p243:0≤(Zg:Int):=od;have q243:Zg<(l1.length:Int):=od;obtain⟨ad243,e243,Vn⟩:=Kd.at_int HR1.out Zg p243 q243;obtain rfl:ad239=ad243:=(by injection e243);replace Vn:=hc HB Vn;replace p243:=eq_true p243;replace q243:=eq_true q243));repeat(go_quiet (first|((with_reducible refine gate_builtin (b:= .append) (xs:= #[.tmp 24, .tmp 27]) rfl ?_);at_builtin;refine Kd.R_append k79 (w0:=w) w.heap.size rfl (.tmp 24) (.tmp 27) 67 79 (.agg #[(.int .i64 0),(.bool false)]) 16 rfl Try.underlying67 info79 rfl (by decide) (by omega) u5 Zl (⟨Zg,false⟩:S79) [.int .i64 Zg, .bool false] (fun _=>True) (fun _=>False) rfl rfl ?aP (fun _ hk=>hk.elim) ?aF ?aO ?aB ?aS ?aL ?_;(case aP=>exact k79_mkM _ _ _ (⟨Zg,false⟩:S79));(case aB=>exact bl);(case aF=>exact(fun _ _=>trivial));(case aO=>exact(kR HO_5));(case aS=>exact(Yi bl));(case aL=>have:=LMc8.out;omega);intro v241 w15 ho hb hg hat;rw[← Ny240.out] at ho;replace Xd:=Ya (blk_grown (bk Xd) hg (Kd.R_ne HO_5.out Xd.out (by decide)));replace HB:=Ya (hb);have HO242:=Ya (ho);clear HO_5;clear ho hb hg hat;have p243:0≤(Zg:Int):=od;have q243:Zg<(l1.length:Int):=od;obtain⟨ad243,e243,Vn⟩:=Kd.at_int HR1.out Zg p243 q243;obtain rfl:ad239=ad243:=(by injection e243);replace Vn:=hc HB Vn;replace p243:=eq_true p243;replace q243:=eq_true q243));try go_wp2_with (first|((with_reducible refine gate_builtin (b:= .append) (xs:= #[.tmp 24, .tmp 27]) rfl ?_);at_builtin;refine Kd.R_append k79 (w0:=w) w.heap.size rfl (.tmp 24) (.tmp 27) 67 79 (.agg #[(.int .i64 0),(.bool false)]) 16 rfl Try.underlying67 info79 rfl (by decide) (by omega) u5 Zl (⟨Zg,false⟩:S79) [.int .i64 Zg, .bool false] (fun _=>True) (fun _=>False) rfl rfl ?aP (fun _ hk=>hk.elim) ?aF ?aO ?aB ?aS ?aL ?_;(case aP=>exact k79_mkM _ _ _ (⟨Zg,false⟩:S79));(case aB=>exact bl);(case aF=>exact(fun _ _=>trivial));(case aO=>exact(kR HO_5));(case aS=>exact(Yi bl));(case aL=>have:=LMc8.out;omega);intro v241 w15 ho hb hg hat;rw[← Ny240.out] at ho;replace Xd:=Ya (blk_grown (bk Xd) hg (Kd.R_ne HO_5.out Xd.out (by decide)));replace HB:=Ya (hb);have HO242:=Ya (ho);clear HO_5;clear ho hb hg hat;have p243:0≤(Zg:Int):=od;have q243:Zg<(l1.length:Int):=od;obtain⟨ad243,e243,Vn⟩:=Kd.at_int HR1.out Zg p243 q243;obtain rfl:ad239=ad243:=(by injection e243);replace Vn:=hc HB Vn;replace p243:=eq_true p243;replace q243:=eq_true q243)))
     go_roundg k1
     case measure=>have:=HK1.out;omega
     case rel=>exact⟨(y240),(wrap64 (Zg+1)),(by first|rfl|(simp;done)|(simp[*];done)),H',⟨by have:=HK1.out;omega⟩,⟨HO242.out⟩,⟨Xd.out⟩,⟨HB.out⟩⟩
    rw[Yx c9] at H;have c9b0:decide (0<(rd l1 Zg))=true:=Yv c9;clear c9;by_cases c10:y240.length<8796093022208
    rotate_left
    ·rw[Yy c10] at H
     exact absurd H (by simp)
    rw[Yx c10] at H;have LMc10:=Ya c10;clear c10;obtain⟨y244,hy244⟩: ∃ y_:List (S79),y_=(y240 ++ [(⟨Zg,true⟩:S79)]):=⟨_,rfl⟩;rw[← hy244] at H;have Ny244:=Ya hy244;clear hy244;have H':=Ya H;clear H;have hcz11_0:wr.cell? ⟨gb237,0,none⟩=some (.int .i64 Zc):=bc Xd 0;have hcz11_1:wr.cell? ⟨gb237,1,none⟩=some (.bool Zb):=bc Xd 1;have hcz11_2:wr.cell? ⟨gb237,2,none⟩=some (.slice Ze Za.length Zd):=bc Xd 2;have hfz11_0:=Yf Xd.out 0;have hfz11_1:=Yf Xd.out 1;have hfz11_2:=Yf Xd.out 2;have p238:0≤(Zg:Int):=od;have q238:Zg<(Za.length:Int):=od;obtain⟨ad238,e238,hx238_0,hx238_1,hx238_2,hx238_3⟩:=at_T50 Zj.out Zg p238 q238;cases e238;replace hx238_0:=hc HB hx238_0;replace hx238_1:=hc HB hx238_1;replace hx238_2:=hc HB hx238_2;replace hx238_3:=hc HB hx238_3;replace p238:=eq_true p238;replace q238:=eq_true q238;have p239:0≤(Zg:Int):=od;have q239:Zg<(l1.length:Int):=od;obtain⟨ad239,e239,hx239_0⟩:=Kd.at_int HR1.out Zg p239 q239;cases e239;replace hx239_0:=hc HB hx239_0;replace p239:=eq_true p239;replace q239:=eq_true q239;go_wp2_with (first|((with_reducible refine gate_builtin (b:= .append) (xs:= #[.tmp 24, .tmp 27]) rfl ?_);at_builtin;refine Kd.R_append k79 (w0:=w) w.heap.size rfl (.tmp 24) (.tmp 27) 67 79 (.agg #[(.int .i64 0),(.bool false)]) 16 rfl Try.underlying67 info79 rfl (by decide) (by omega) u5 Zl (⟨Zg,false⟩:S79) [.int .i64 Zg, .bool false] (fun _=>True) (fun _=>False) rfl rfl ?aP (fun _ hk=>hk.elim) ?aF ?aO ?aB ?aS ?aL ?_;(case aP=>exact k79_mkM _ _ _ (⟨Zg,false⟩:S79));(case aB=>exact bl);(case aF=>exact(fun _ _=>trivial));(case aO=>exact(kR HO_5));(case aS=>exact(Yi bl));(case aL=>have:=LMc8.out;omega);intro v241 w12 ho hb hg hat;rw[← Ny240.out] at ho;replace Xd:=Ya (blk_grown (bk Xd) hg (Kd.R_ne HO_5.out Xd.out (by decide)));replace HB:=Ya (hb);have HO242:=Ya (ho);clear HO_5;clear ho hb hg hat;have p243:0≤(Zg:Int):=od;have q243:Zg<(l1.length:Int):=od;obtain⟨ad243,e243,Vn⟩:=Kd.at_int HR1.out Zg p243 q243;obtain rfl:ad239=ad243:=(by injection e243);replace Vn:=hc HB Vn;replace p243:=eq_true p243;replace q243:=eq_true q243)|((with_reducible refine gate_builtin (b:= .append) (xs:= #[.tmp 34, .tmp 37]) rfl ?_);at_builtin;refine Kd.R_append k79 (w0:=w) w.heap.size rfl (.tmp 34) (.tmp 37) 67 79 (.agg #[(.int .i64 0),(.bool false)]) 16 rfl Try.underlying67 info79 rfl (by decide) (by omega) v241 y240 (⟨Zg,true⟩:S79) [.int .i64 Zg, .bool true] (fun _=>True) (fun _=>False) rfl rfl ?aP (fun _ hk=>hk.elim) ?aF ?aO ?aB ?aS ?aL ?_;(case aP=>exact k79_mkM _ _ _ (⟨Zg,true⟩:S79));(case aB=>exact bl);(case aF=>exact(fun _ _=>trivial));(case aO=>exact(kR HO242));(case aS=>exact(Yi bl));(case aL=>have:=LMc10.out;omega);intro v245 w13 ho hb hg hat;rw[← Ny244.out] at ho;replace Xd:=Ya (blk_grown (bk Xd) hg (Kd.R_ne HO242.out Xd.out (by decide)));replace HB:=Ya (hb);have HO246:=Ya (ho);clear HO242;clear ho hb hg hat));repeat(go_quiet (first|((with_reducible refine gate_builtin (b:= .append) (xs:= #[.tmp 24, .tmp 27]) rfl ?_);at_builtin;refine Kd.R_append k79 (w0:=w) w.heap.size rfl (.tmp 24) (.tmp 27) 67 79 (.agg #[(.int .i64 0),(.bool false)]) 16 rfl Try.underlying67 info79 rfl (by decide) (by omega) u5 Zl (⟨Zg,false⟩:S79) [.int .i64 Zg, .bool false] (fun _=>True) (fun _=>False) rfl rfl ?aP (fun _ hk=>hk.elim) ?aF ?aO ?aB ?aS ?aL ?_;(case aP=>exact k79_mkM _ _ _ (⟨Zg,false⟩:S79));(case aB=>exact bl);(case aF=>exact(fun _ _=>trivial));(case aO=>exact(kR HO_5));(case aS=>exact(Yi bl));(case aL=>have:=LMc8.out;omega);intro v241 w12 ho hb hg hat;rw[← Ny240.out] at ho;replace Xd:=Ya (blk_grown (bk Xd) hg (Kd.R_ne HO_5.out Xd.out (by decide)));replace HB:=Ya (hb);have HO242:=Ya (ho);clear HO_5;clear ho hb hg hat;have p243:0≤(Zg:Int):=od;have q243:Zg<(l1.length:Int):=od;obtain⟨ad243,e243,Vn⟩:=Kd.at_int HR1.out Zg p243 q243;obtain rfl:ad239=ad243:=(by injection e243);replace Vn:=hc HB Vn;replace p243:=eq_true p243;replace q243:=eq_true q243)|((with_reducible refine gate_builtin (b:= .append) (xs:= #[.tmp 34, .tmp 37]) rfl ?_);at_builtin;refine Kd.R_append k79 (w0:=w) w.heap.size rfl (.tmp 34) (.tmp 37) 67 79 (.agg #[(.int .i64 0),(.bool false)]) 16 rfl Try.underlying67 info79 rfl (by decide) (by omega) v241 y240 (⟨Zg,true⟩:S79) [.int .i64 Zg, .bool true] (fun _=>True) (fun _=>False) rfl rfl ?aP (fun _ hk=>hk.elim) ?aF ?aO ?aB ?aS ?aL ?_;(case aP=>exact k79_mkM _ _ _ (⟨Zg,true⟩:S79));(case aB=>exact bl);(case aF=>exact(fun _ _=>trivial));(case aO=>exact(kR HO242));(case aS=>exact(Yi bl));(case aL=>have:=LMc10.out;omega);intro v245 w13 ho hb hg hat;rw[← Ny244.out] at ho;replace Xd:=Ya (blk_grown (bk Xd) hg (Kd.R_ne HO242.out Xd.out (by decide)));replace HB:=Ya (hb);have HO246:=Ya (ho);clear HO242;clear ho hb hg hat));try go_wp2_with (first|((with_reducible refine gate_builtin (b:= .append) (xs:= #[.tmp 24, .tmp 27]) rfl ?_);at_builtin;refine Kd.R_append k79 (w0:=w) w.heap.size rfl (.tmp 24) (.tmp 27) 67 79 (.agg #[(.int .i64 0),(.bool false)]) 16 rfl Try.underlying67 info79 rfl (by decide) (by omega) u5 Zl (⟨Zg,false⟩:S79) [.int .i64 Zg, .bool false] (fun _=>True) (fun _=>False) rfl rfl ?aP (fun _ hk=>hk.elim) ?aF ?aO ?aB ?aS ?aL ?_;(case aP=>exact k79_mkM _ _ _ (⟨Zg,false⟩:S79));(case aB=>exact bl);(case aF=>exact(fun _ _=>trivial));(case aO=>exact(kR HO_5));(case aS=>exact(Yi bl));(case aL=>have:=LMc8.out;omega);intro v241 w12 ho hb hg hat;rw[← Ny240.out] at ho;replace Xd:=Ya (blk_grown (bk Xd) hg (Kd.R_ne HO_5.out Xd.out (by decide)));replace HB:=Ya (hb);have HO242:=Ya (ho);clear HO_5;clear ho hb hg hat;have p243:0≤(Zg:Int):=od;have q243:Zg<(l1.length:Int):=od;obtain⟨ad243,e243,Vn⟩:=Kd.at_int HR1.out Zg p243 q243;obtain rfl:ad239=ad243:=(by injection e243);replace Vn:=hc HB Vn;replace p243:=eq_true p243;replace q243:=eq_true q243)|((with_reducible refine gate_builtin (b:= .append) (xs:= #[.tmp 34, .tmp 37]) rfl ?_);at_builtin;refine Kd.R_append k79 (w0:=w) w.heap.size rfl (.tmp 34) (.tmp 37) 67 79 (.agg #[(.int .i64 0),(.bool false)]) 16 rfl Try.underlying67 info79 rfl (by decide) (by omega) v241 y240 (⟨Zg,true⟩:S79) [.int .i64 Zg, .bool true] (fun _=>True) (fun _=>False) rfl rfl ?aP (fun _ hk=>hk.elim) ?aF ?aO ?aB ?aS ?aL ?_;(case aP=>exact k79_mkM _ _ _ (⟨Zg,true⟩:S79));(case aB=>exact bl);(case aF=>exact(fun _ _=>trivial));(case aO=>exact(kR HO242));(case aS=>exact(Yi bl));(case aL=>have:=LMc10.out;omega);intro v245 w13 ho hb hg hat;rw[← Ny244.out] at ho;replace Xd:=Ya (blk_grown (bk Xd) hg (Kd.R_ne HO242.out Xd.out (by decide)));replace HB:=Ya (hb);have HO246:=Ya (ho);clear HO242;clear ho hb hg hat)))
    go_roundg k1
    case measure=>have:=HK1.out;omega
    case rel=>exact⟨(y244),(wrap64 (Zg+1)),(by first|rfl|(simp;done)|(simp[*];done)),H',⟨by have:=HK1.out;omega⟩,⟨kR HO246⟩,⟨bk Xd⟩,⟨bl⟩⟩
   rw[Yy c7] at H;have c7b0:decide ((rd l1 Zg)<((rd_T50 Za Zg).f2))=false:=Yw c7;clear c7;by_cases c16:(rd l1 Zg)>0
   rotate_left
   ·rw[Yy c16] at H
    have c16b0:decide (0<(rd l1 Zg))=false:=Yw c16;clear c16;have H':=Ya H;clear H;have hcz20_0:wr.cell? ⟨gb237,0,none⟩=some (.int .i64 Zc):=bc Xd 0;have hcz20_1:wr.cell? ⟨gb237,1,none⟩=some (.bool Zb):=bc Xd 1;have hcz20_2:wr.cell? ⟨gb237,2,none⟩=some (.slice Ze Za.length Zd):=bc Xd 2;have hfz20_0:=Yf Xd.out 0;have hfz20_1:=Yf Xd.out 1;have hfz20_2:=Yf Xd.out 2;have p238:0≤(Zg:Int):=od;have q238:Zg<(Za.length:Int):=od;obtain⟨ad238,e238,hx238_0,hx238_1,hx238_2,hx238_3⟩:=at_T50 Zj.out Zg p238 q238;cases e238;replace hx238_0:=hc HB hx238_0;replace hx238_1:=hc HB hx238_1;replace hx238_2:=hc HB hx238_2;replace hx238_3:=hc HB hx238_3;replace p238:=eq_true p238;replace q238:=eq_true q238;have p239:0≤(Zg:Int):=od;have q239:Zg<(l1.length:Int):=od;obtain⟨ad239,e239,hx239_0⟩:=Kd.at_int HR1.out Zg p239 q239;cases e239;replace hx239_0:=hc HB hx239_0;replace p239:=eq_true p239;replace q239:=eq_true q239;have p247:0≤(Zg:Int):=od;have q247:Zg<(l1.length:Int):=od;obtain⟨ad247,e247,hx247_0⟩:=Kd.at_int HR1.out Zg p247 q247;obtain rfl:ad239=ad247:=(by injection e247);replace hx247_0:=hc HB hx247_0;replace p247:=eq_true p247;replace q247:=eq_true q247;go_wp2;repeat(go_quiet (fail);try go_wp2)
    go_roundg k1
    case measure=>have:=HK1.out;omega
    case rel=>exact⟨(Zl),(wrap64 (Zg+1)),(by first|rfl|(simp;done)|(simp[*];done)),H',⟨by have:=HK1.out;omega⟩,⟨kR HO_5⟩,⟨bk Xd⟩,⟨bl⟩⟩
   rw[Yx c16] at H;have c16b0:decide (0<(rd l1 Zg))=true:=Yv c16;clear c16;by_cases c17:Zl.length<8796093022208
   rotate_left
   ·rw[Yy c17] at H
    exact absurd H (by simp)
   rw[Yx c17] at H;have LMc17:=Ya c17;clear c17;obtain⟨y248,hy248⟩: ∃ y_:List (S79),y_=(Zl ++ [(⟨Zg,true⟩:S79)]):=⟨_,rfl⟩;rw[← hy248] at H;have Ny248:=Ya hy248;clear hy248;have H':=Ya H;clear H;have hcz18_0:wr.cell? ⟨gb237,0,none⟩=some (.int .i64 Zc):=bc Xd 0;have hcz18_1:wr.cell? ⟨gb237,1,none⟩=some (.bool Zb):=bc Xd 1;have hcz18_2:wr.cell? ⟨gb237,2,none⟩=some (.slice Ze Za.length Zd):=bc Xd 2;have hfz18_0:=Yf Xd.out 0;have hfz18_1:=Yf Xd.out 1;have hfz18_2:=Yf Xd.out 2;have p238:0≤(Zg:Int):=od;have q238:Zg<(Za.length:Int):=od;obtain⟨ad238,e238,hx238_0,hx238_1,hx238_2,hx238_3⟩:=at_T50 Zj.out Zg p238 q238;cases e238;replace hx238_0:=hc HB hx238_0;replace hx238_1:=hc HB hx238_1;replace hx238_2:=hc HB hx238_2;replace hx238_3:=hc HB hx238_3;replace p238:=eq_true p238;replace q238:=eq_true q238;have p239:0≤(Zg:Int):=od;have q239:Zg<(l1.length:Int):=od;obtain⟨ad239,e239,hx239_0⟩:=Kd.at_int HR1.out Zg p239 q239;cases e239;replace hx239_0:=hc HB hx239_0;replace p239:=eq_true p239;replace q239:=eq_true q239;have p247:0≤(Zg:Int):=od;have q247:Zg<(l1.length:Int):=od;obtain⟨ad247,e247,hx247_0⟩:=Kd.at_int HR1.out Zg p247 q247;obtain rfl:ad239=ad247:=(by injection e247);replace hx247_0:=hc HB hx247_0;replace p247:=eq_true p247;replace q247:=eq_true q247;go_wp2_with (first|((with_reducible refine gate_builtin (b:= .append) (xs:= #[.tmp 34, .tmp 37]) rfl ?_);at_builtin;refine Kd.R_append k79 (w0:=w) w.heap.size rfl (.tmp 34) (.tmp 37) 67 79 (.agg #[(.int .i64 0),(.bool false)]) 16 rfl Try.underlying67 info79 rfl (by decide) (by omega) u5 Zl (⟨Zg,true⟩:S79) [.int .i64 Zg, .bool true] (fun _=>True) (fun _=>False) rfl rfl ?aP (fun _ hk=>hk.elim) ?aF ?aO ?aB ?aS ?aL ?_;(case aP=>exact k79_mkM _ _ _ (⟨Zg,true⟩:S79));(case aB=>exact bl);(case aF=>exact(fun _ _=>trivial));(case aO=>exact(kR HO_5));(case aS=>exact(Yi bl));(case aL=>have:=LMc17.out;omega);intro v249 w19 ho hb hg hat;rw[← Ny248.out] at ho;replace Xd:=Ya (blk_grown (bk Xd) hg (Kd.R_ne HO_5.out Xd.out (by decide)));replace HB:=Ya (hb);have HO250:=Ya (ho);clear HO_5;clear ho hb hg hat));repeat(go_quiet (first|((with_reducible refine gate_builtin (b:= .append) (xs:= #[.tmp 34, .tmp 37]) rfl ?_);at_builtin;refine Kd.R_append k79 (w0:=w) w.heap.size rfl (.tmp 34) (.tmp 37) 67 79 (.agg #[(.int .i64 0),(.bool false)]) 16 rfl Try.underlying67 info79 rfl (by decide) (by omega) u5 Zl (⟨Zg,true⟩:S79) [.int .i64 Zg, .bool true] (fun _=>True) (fun _=>False) rfl rfl ?aP (fun _ hk=>hk.elim) ?aF ?aO ?aB ?aS ?aL ?_;(case aP=>exact k79_mkM _ _ _ (⟨Zg,true⟩:S79));(case aB=>exact bl);(case aF=>exact(fun _ _=>trivial));(case aO=>exact(kR HO_5));(case aS=>exact(Yi bl));(case aL=>have:=LMc17.out;omega);intro v249 w19 ho hb hg hat;rw[← Ny248.out] at ho;replace Xd:=Ya (blk_grown (bk Xd) hg (Kd.R_ne HO_5.out Xd.out (by decide)));replace HB:=Ya (hb);have HO250:=Ya (ho);clear HO_5;clear ho hb hg hat));try go_wp2_with (first|((with_reducible refine gate_builtin (b:= .append) (xs:= #[.tmp 34, .tmp 37]) rfl ?_);at_builtin;refine Kd.R_append k79 (w0:=w) w.heap.size rfl (.tmp 34) (.tmp 37) 67 79 (.agg #[(.int .i64 0),(.bool false)]) 16 rfl Try.underlying67 info79 rfl (by decide) (by omega) u5 Zl (⟨Zg,true⟩:S79) [.int .i64 Zg, .bool true] (fun _=>True) (fun _=>False) rfl rfl ?aP (fun _ hk=>hk.elim) ?aF ?aO ?aB ?aS ?aL ?_;(case aP=>exact k79_mkM _ _ _ (⟨Zg,true⟩:S79));(case aB=>exact bl);(case aF=>exact(fun _ _=>trivial));(case aO=>exact(kR HO_5));(case aS=>exact(Yi bl));(case aL=>have:=LMc17.out;omega);intro v249 w19 ho hb hg hat;rw[← Ny248.out] at ho;replace Xd:=Ya (blk_grown (bk Xd) hg (Kd.R_ne HO_5.out Xd.out (by decide)));replace HB:=Ya (hb);have HO250:=Ya (ho);clear HO_5;clear ho hb hg hat)))
   go_roundg k1
   case measure=>have:=HK1.out;omega
   case rel=>exact⟨(y248),(wrap64 (Zg+1)),(by first|rfl|(simp;done)|(simp[*];done)),H',⟨by have:=HK1.out;omega⟩,⟨HO250.out⟩,⟨Xd.out⟩,⟨HB.out⟩⟩
end P
namespace P
attribute [local go_sem] max2_int min2_int max_two min_two max_three min_three max_four min_four
def ebbtideref07_From.f (Zc:Int) (Zb:Bool) (Za:List (S50)) (Zk:Int) (Xf:Bool):Option (Int):=if Xf=true then(if 0≤Zk then(if Zk<(Za.length:Int) then(some ((rd_T50 Za Zk).f1)) else(none)) else(none)) else(if 0≤Zk then(if Zk<(Za.length:Int) then(some ((rd_T50 Za Zk).f0)) else(none)) else(none))
set_option maxHeartbeats 8000000 in
set_option maxRecDepth 100000 in
theorem ebbtideref07_From.calls (Zc:Int) (Zb:Bool) (Ze:Option Addr) (Zd:Nat) (Za:List (S50)) (Zk:Int) (Xf:Bool) (r:Int) (w:World) (Zp:Kd.C k50 w Ze Za.length Za) (Zq:Za.length≤Zd) (h:ebbtideref07_From.f Zc Zb Za Zk Xf=some r):
  Calls Try.prog 42 #[.agg #[.int .i64 Zc, .bool Zb, .slice Ze Za.length Zd], .agg #[.int .i64 Zk, .bool Xf]] w fun e w'=>e= .returned (.int .i64 r)∧Below w.heap.size w w':=by
 have hu24:=Try.underlying24;have hu79:=Try.underlying79;have Zj:=Ya Zp;have Zs:=Ya Zq;clear Zp Zq;have HB:=Ya (Yo w.heap.size w);have H:=h;unfold ebbtideref07_From.f at H;clear h;by_cases c3:Xf=true
 ·subst c3
  first|rw[Yx rfl] at H|rw[Yx trivial] at H
  by_cases c4:0≤Zk
  rotate_left
  ·rw[Yy c4] at H
   exact absurd H (by simp)
  rw[Yx c4] at H;have c4b0:decide (0≤Zk)=true:=Yv c4;clear c4;by_cases c5:Zk<(Za.length:Int)
  rotate_left
  ·rw[Yy c5] at H
   exact absurd H (by simp)
  rw[Yx c5] at H;have c5b0:decide (Zk<(Za.length:Int))=true:=Yv c5;clear c5;obtain rfl:=Option.some.inj H;go_enter Try.func42,Try.ntmps42;go_wp2_with (first|(refine bx 2 24 #[.int .i64 Zc, .bool Zb, .slice Ze Za.length Zd] ?_;intro gb251 hg w6 Zf hb;have Jm:=Ya (Zf);have GW251:=Ya ((sz hg));have GE251:=Ya ((sz hg));replace HB:=Ya (Yk bl hb);clear hb Zf hg)|(refine bx 3 79 #[.int .i64 Zk, .bool true] ?_;intro gb252 hg w7 Zf hb;have BK252:=Ya (Zf);have GW252:=Ya ((sz hg));have GE252:=Ya ((sz hg));replace HB:=Ya (Yk bl hb);have NB251_252:=Ya (by rw[hg];exact Nat.ne_of_lt (blk_lt (bk Jm)):gb251≠gb252);have NB252_251:=Ya (by rw[hg];exact Nat.ne_of_gt (blk_lt (bk Jm)):gb252≠gb251);replace Jm:=Ya (Yn (bk Jm) hb);clear hb Zf hg;have hnb8:=NB252_251.out;have hnc8:=NB251_252.out;have hcz9_0:w7.cell? ⟨gb252,0,none⟩=some (.int .i64 Zk):=bc BK252 0;have hcz9_1:w7.cell? ⟨gb252,1,none⟩=some (.bool true):=bc BK252 1;have hfz9_0:=Yf BK252.out 0;have hfz9_1:=Yf BK252.out 1;have Va:w7.cell? ⟨gb251,0,none⟩=some (.int .i64 Zc):=bc Jm 0;have Vb:w7.cell? ⟨gb251,1,none⟩=some (.bool Zb):=bc Jm 1;have Vr:w7.cell? ⟨gb251,2,none⟩=some (.slice Ze Za.length Zd):=bc Jm 2;have Vc:=Yf Jm.out 0;have Vd:=Yf Jm.out 1;have Vs:=Yf Jm.out 2;have p253:0≤(Zk:Int):=od;have q253:Zk<(Za.length:Int):=od;obtain⟨ad253,e253,hx253_0,hx253_1,hx253_2,hx253_3⟩:=at_T50 Zj.out Zk p253 q253;cases e253;replace hx253_0:=hc HB hx253_0;replace hx253_1:=hc HB hx253_1;replace hx253_2:=hc HB hx253_2;replace hx253_3:=hc HB hx253_3;replace p253:=eq_true p253;replace q253:=eq_true q253));go_ret;exact⟨by first|rfl|(simp[errW_none,errW_some]<;>rfl)|(simp[*,errW_none,errW_some]<;>rfl),HB.out⟩
 replace c3:=Bool.eq_false_iff.mpr c3;subst c3;rw[Yy (show ¬ (false=true) by decide)] at H;by_cases c11:0≤Zk
 rotate_left
 ·rw[Yy c11] at H
  exact absurd H (by simp)
 rw[Yx c11] at H;have c11b0:decide (0≤Zk)=true:=Yv c11;clear c11;by_cases c12:Zk<(Za.length:Int)
 rotate_left
 ·rw[Yy c12] at H
  exact absurd H (by simp)
 rw[Yx c12] at H;have c12b0:decide (Zk<(Za.length:Int))=true:=Yv c12;clear c12;obtain rfl:=Option.some.inj H;go_enter Try.func42,Try.ntmps42;go_wp2_with (first|(refine bx 2 24 #[.int .i64 Zc, .bool Zb, .slice Ze Za.length Zd] ?_;intro gb251 hg w13 Zf hb;have Jm:=Ya (Zf);have GW251:=Ya ((sz hg));have GE251:=Ya ((sz hg));replace HB:=Ya (Yk bl hb);clear hb Zf hg)|(refine bx 3 79 #[.int .i64 Zk, .bool false] ?_;intro gb252 hg w14 Zf hb;have BK252:=Ya (Zf);have GW252:=Ya ((sz hg));have GE252:=Ya ((sz hg));replace HB:=Ya (Yk bl hb);have NB251_252:=Ya (by rw[hg];exact Nat.ne_of_lt (blk_lt (bk Jm)):gb251≠gb252);have NB252_251:=Ya (by rw[hg];exact Nat.ne_of_gt (blk_lt (bk Jm)):gb252≠gb251);replace Jm:=Ya (Yn (bk Jm) hb);clear hb Zf hg;have hnb15:=NB252_251.out;have hnc15:=NB251_252.out;have Jt:w14.cell? ⟨gb252,0,none⟩=some (.int .i64 Zk):=bc BK252 0;have Ju:w14.cell? ⟨gb252,1,none⟩=some (.bool false):=bc BK252 1;have Jv:=Yf BK252.out 0;have Jw:=Yf BK252.out 1;have Ww:w14.cell? ⟨gb251,0,none⟩=some (.int .i64 Zc):=bc Jm 0;have Wx:w14.cell? ⟨gb251,1,none⟩=some (.bool Zb):=bc Jm 1;have hcz17_2:w14.cell? ⟨gb251,2,none⟩=some (.slice Ze Za.length Zd):=bc Jm 2;have Wy:=Yf Jm.out 0;have Wz:=Yf Jm.out 1;have hfz17_2:=Yf Jm.out 2;have p254:0≤(Zk:Int):=od;have q254:Zk<(Za.length:Int):=od;obtain⟨ad254,e254,hx254_0,hx254_1,hx254_2,hx254_3⟩:=at_T50 Zj.out Zk p254 q254;cases e254;replace hx254_0:=hc HB hx254_0;replace hx254_1:=hc HB hx254_1;replace hx254_2:=hc HB hx254_2;replace hx254_3:=hc HB hx254_3;replace p254:=eq_true p254;replace q254:=eq_true q254));go_ret;exact⟨by first|rfl|(simp[errW_none,errW_some]<;>rfl)|(simp[*,errW_none,errW_some]<;>rfl),HB.out⟩
end P
namespace P
attribute [local go_sem] max2_int min2_int max_two min_two max_three min_three max_four min_four
def ebbtideref07_To.f (Zc:Int) (Zb:Bool) (Za:List (S50)) (Zk:Int) (Xf:Bool):Option (Int):=if Xf=true then(if 0≤Zk then(if Zk<(Za.length:Int) then(some ((rd_T50 Za Zk).f0)) else(none)) else(none)) else(if 0≤Zk then(if Zk<(Za.length:Int) then(some ((rd_T50 Za Zk).f1)) else(none)) else(none))
set_option maxHeartbeats 8000000 in
set_option maxRecDepth 100000 in
theorem ebbtideref07_To.calls (Zc:Int) (Zb:Bool) (Ze:Option Addr) (Zd:Nat) (Za:List (S50)) (Zk:Int) (Xf:Bool) (r:Int) (w:World) (Zp:Kd.C k50 w Ze Za.length Za) (Zq:Za.length≤Zd) (h:ebbtideref07_To.f Zc Zb Za Zk Xf=some r):
  Calls Try.prog 43 #[.agg #[.int .i64 Zc, .bool Zb, .slice Ze Za.length Zd], .agg #[.int .i64 Zk, .bool Xf]] w fun e w'=>e= .returned (.int .i64 r)∧Below w.heap.size w w':=by
 have hu24:=Try.underlying24;have hu79:=Try.underlying79;have Zj:=Ya Zp;have Zs:=Ya Zq;clear Zp Zq;have HB:=Ya (Yo w.heap.size w);have H:=h;unfold ebbtideref07_To.f at H;clear h;by_cases c3:Xf=true
 ·subst c3
  first|rw[Yx rfl] at H|rw[Yx trivial] at H
  by_cases c4:0≤Zk
  rotate_left
  ·rw[Yy c4] at H
   exact absurd H (by simp)
  rw[Yx c4] at H;have c4b0:decide (0≤Zk)=true:=Yv c4;clear c4;by_cases c5:Zk<(Za.length:Int)
  rotate_left
  ·rw[Yy c5] at H
   exact absurd H (by simp)
  rw[Yx c5] at H;have c5b0:decide (Zk<(Za.length:Int))=true:=Yv c5;clear c5;obtain rfl:=Option.some.inj H;go_enter Try.func43,Try.ntmps43;go_wp2_with (first|(refine bx 2 24 #[.int .i64 Zc, .bool Zb, .slice Ze Za.length Zd] ?_;intro gb255 hg w6 Zf hb;have Jn:=Ya (Zf);have GW255:=Ya ((sz hg));have GE255:=Ya ((sz hg));replace HB:=Ya (Yk bl hb);clear hb Zf hg)|(refine bx 3 79 #[.int .i64 Zk, .bool true] ?_;intro gb256 hg w7 Zf hb;have BK256:=Ya (Zf);have GW256:=Ya ((sz hg));have GE256:=Ya ((sz hg));replace HB:=Ya (Yk bl hb);have NB255_256:=Ya (by rw[hg];exact Nat.ne_of_lt (blk_lt (bk Jn)):gb255≠gb256);have NB256_255:=Ya (by rw[hg];exact Nat.ne_of_gt (blk_lt (bk Jn)):gb256≠gb255);replace Jn:=Ya (Yn (bk Jn) hb);clear hb Zf hg;have hnb8:=NB256_255.out;have hnc8:=NB255_256.out;have hcz9_0:w7.cell? ⟨gb256,0,none⟩=some (.int .i64 Zk):=bc BK256 0;have hcz9_1:w7.cell? ⟨gb256,1,none⟩=some (.bool true):=bc BK256 1;have hfz9_0:=Yf BK256.out 0;have hfz9_1:=Yf BK256.out 1;have Va:w7.cell? ⟨gb255,0,none⟩=some (.int .i64 Zc):=bc Jn 0;have Vb:w7.cell? ⟨gb255,1,none⟩=some (.bool Zb):=bc Jn 1;have Vr:w7.cell? ⟨gb255,2,none⟩=some (.slice Ze Za.length Zd):=bc Jn 2;have Vc:=Yf Jn.out 0;have Vd:=Yf Jn.out 1;have Vs:=Yf Jn.out 2;have p257:0≤(Zk:Int):=od;have q257:Zk<(Za.length:Int):=od;obtain⟨ad257,e257,hx257_0,hx257_1,hx257_2,hx257_3⟩:=at_T50 Zj.out Zk p257 q257;cases e257;replace hx257_0:=hc HB hx257_0;replace hx257_1:=hc HB hx257_1;replace hx257_2:=hc HB hx257_2;replace hx257_3:=hc HB hx257_3;replace p257:=eq_true p257;replace q257:=eq_true q257));go_ret;exact⟨by first|rfl|(simp[errW_none,errW_some]<;>rfl)|(simp[*,errW_none,errW_some]<;>rfl),HB.out⟩
 replace c3:=Bool.eq_false_iff.mpr c3;subst c3;rw[Yy (show ¬ (false=true) by decide)] at H;by_cases c11:0≤Zk
 rotate_left
 ·rw[Yy c11] at H
  exact absurd H (by simp)
 rw[Yx c11] at H;have c11b0:decide (0≤Zk)=true:=Yv c11;clear c11;by_cases c12:Zk<(Za.length:Int)
 rotate_left
 ·rw[Yy c12] at H
  exact absurd H (by simp)
 rw[Yx c12] at H;have c12b0:decide (Zk<(Za.length:Int))=true:=Yv c12;clear c12;obtain rfl:=Option.some.inj H;go_enter Try.func43,Try.ntmps43;go_wp2_with (first|(refine bx 2 24 #[.int .i64 Zc, .bool Zb, .slice Ze Za.length Zd] ?_;intro gb255 hg w13 Zf hb;have Jn:=Ya (Zf);have GW255:=Ya ((sz hg));have GE255:=Ya ((sz hg));replace HB:=Ya (Yk bl hb);clear hb Zf hg)|(refine bx 3 79 #[.int .i64 Zk, .bool false] ?_;intro gb256 hg w14 Zf hb;have BK256:=Ya (Zf);have GW256:=Ya ((sz hg));have GE256:=Ya ((sz hg));replace HB:=Ya (Yk bl hb);have NB255_256:=Ya (by rw[hg];exact Nat.ne_of_lt (blk_lt (bk Jn)):gb255≠gb256);have NB256_255:=Ya (by rw[hg];exact Nat.ne_of_gt (blk_lt (bk Jn)):gb256≠gb255);replace Jn:=Ya (Yn (bk Jn) hb);clear hb Zf hg;have hnb15:=NB256_255.out;have hnc15:=NB255_256.out;have Jt:w14.cell? ⟨gb256,0,none⟩=some (.int .i64 Zk):=bc BK256 0;have Ju:w14.cell? ⟨gb256,1,none⟩=some (.bool false):=bc BK256 1;have Jv:=Yf BK256.out 0;have Jw:=Yf BK256.out 1;have Ww:w14.cell? ⟨gb255,0,none⟩=some (.int .i64 Zc):=bc Jn 0;have Wx:w14.cell? ⟨gb255,1,none⟩=some (.bool Zb):=bc Jn 1;have hcz17_2:w14.cell? ⟨gb255,2,none⟩=some (.slice Ze Za.length Zd):=bc Jn 2;have Wy:=Yf Jn.out 0;have Wz:=Yf Jn.out 1;have hfz17_2:=Yf Jn.out 2;have p258:0≤(Zk:Int):=od;have q258:Zk<(Za.length:Int):=od;obtain⟨ad258,e258,hx258_0,hx258_1,hx258_2,hx258_3⟩:=at_T50 Zj.out Zk p258 q258;cases e258;replace hx258_0:=hc HB hx258_0;replace hx258_1:=hc HB hx258_1;replace hx258_2:=hc HB hx258_2;replace hx258_3:=hc HB hx258_3;replace p258:=eq_true p258;replace q258:=eq_true q258));go_ret;exact⟨by first|rfl|(simp[errW_none,errW_some]<;>rfl)|(simp[*,errW_none,errW_some]<;>rfl),HB.out⟩
end P
namespace P
attribute [local go_sem] max2_int min2_int max_two min_two max_three min_three max_four min_four
def static_Flowing_From.f (Zc:Int) (Zb:Bool) (Za:List (S50)) (Ws:List Int) (Zk:Int) (Xf:Bool):Option (Int):=if Xf=true then(if 0≤Zk then(if Zk<(Za.length:Int) then(some ((rd_T50 Za Zk).f1)) else(none)) else(none)) else(if 0≤Zk then(if Zk<(Za.length:Int) then(some ((rd_T50 Za Zk).f0)) else(none)) else(none))
set_option maxHeartbeats 8000000 in
set_option maxRecDepth 100000 in
theorem static_Flowing_From.calls (Zc:Int) (Zb:Bool) (Ze:Option Addr) (Zd:Nat) (Za:List (S50)) (A0_3:Option Addr) (c0_3:Nat) (Ws:List Int) (Zk:Int) (Xf:Bool) (r:Int) (w:World) (Zp:Kd.C k50 w Ze Za.length Za) (Zq:Za.length≤Zd) (hr0_3:Kd.C (Kd.int .i64) w A0_3 Ws.length Ws) (hc0_3:Ws.length≤c0_3) (h:static_Flowing_From.f Zc Zb Za Ws Zk Xf=some r):
  Calls Try.prog 87 #[.agg #[.int .i64 Zc, .bool Zb, .slice Ze Za.length Zd, .slice A0_3 Ws.length c0_3], .agg #[.int .i64 Zk, .bool Xf]] w fun e w'=>e= .returned (.int .i64 r)∧Below w.heap.size w w':=by
 have hu104:=Try.underlying104;have hu79:=Try.underlying79;have Zj:=Ya Zp;have Zs:=Ya Zq;clear Zp Zq;have HR0_3:=Ya hr0_3;have HC0_3:=Ya hc0_3;clear hr0_3 hc0_3;have HB:=Ya (Yo w.heap.size w);have H:=h;unfold static_Flowing_From.f at H;clear h;by_cases c3:Xf=true
 ·subst c3
  first|rw[Yx rfl] at H|rw[Yx trivial] at H
  by_cases c4:0≤Zk
  rotate_left
  ·rw[Yy c4] at H
   exact absurd H (by simp)
  rw[Yx c4] at H;have c4b0:decide (0≤Zk)=true:=Yv c4;clear c4;by_cases c5:Zk<(Za.length:Int)
  rotate_left
  ·rw[Yy c5] at H
   exact absurd H (by simp)
  rw[Yx c5] at H;have c5b0:decide (Zk<(Za.length:Int))=true:=Yv c5;clear c5;obtain rfl:=Option.some.inj H;go_enter Try.func87,Try.ntmps87;go_wp2_with (first|(refine bx 2 104 #[.int .i64 Zc, .bool Zb, .slice Ze Za.length Zd, .slice A0_3 Ws.length c0_3] ?_;intro gb719 hg w6 Zf hb;have Ug:=Ya (Zf);have GW719:=Ya ((sz hg));have GE719:=Ya ((sz hg));replace HB:=Ya (Yk bl hb);clear hb Zf hg)|(refine bx 3 79 #[.int .i64 Zk, .bool true] ?_;intro gb720 hg w7 Zf hb;have BK720:=Ya (Zf);have GW720:=Ya ((sz hg));have GE720:=Ya ((sz hg));replace HB:=Ya (Yk bl hb);have NB719_720:=Ya (by rw[hg];exact Nat.ne_of_lt (blk_lt (bk Ug)):gb719≠gb720);have NB720_719:=Ya (by rw[hg];exact Nat.ne_of_gt (blk_lt (bk Ug)):gb720≠gb719);replace Ug:=Ya (Yn (bk Ug) hb);clear hb Zf hg;have hnb8:=NB720_719.out;have hnc8:=NB719_720.out;have hcz9_0:w7.cell? ⟨gb720,0,none⟩=some (.int .i64 Zk):=bc BK720 0;have hcz9_1:w7.cell? ⟨gb720,1,none⟩=some (.bool true):=bc BK720 1;have hfz9_0:=Yf BK720.out 0;have hfz9_1:=Yf BK720.out 1;have Va:w7.cell? ⟨gb719,0,none⟩=some (.int .i64 Zc):=bc Ug 0;have Vb:w7.cell? ⟨gb719,1,none⟩=some (.bool Zb):=bc Ug 1;have Vr:w7.cell? ⟨gb719,2,none⟩=some (.slice Ze Za.length Zd):=bc Ug 2;have hcz10_3:w7.cell? ⟨gb719,3,none⟩=some (.slice A0_3 Ws.length c0_3):=bc Ug 3;have Vc:=Yf Ug.out 0;have Vd:=Yf Ug.out 1;have Vs:=Yf Ug.out 2;have hfz10_3:=Yf Ug.out 3;have p721:0≤(Zk:Int):=od;have q721:Zk<(Za.length:Int):=od;obtain⟨ad721,e721,hx721_0,hx721_1,hx721_2,hx721_3⟩:=at_T50 Zj.out Zk p721 q721;cases e721;replace hx721_0:=hc HB hx721_0;replace hx721_1:=hc HB hx721_1;replace hx721_2:=hc HB hx721_2;replace hx721_3:=hc HB hx721_3;replace p721:=eq_true p721;replace q721:=eq_true q721));go_ret;exact⟨by first|rfl|(simp[errW_none,errW_some]<;>rfl)|(simp[*,errW_none,errW_some]<;>rfl),HB.out⟩
 replace c3:=Bool.eq_false_iff.mpr c3;subst c3;rw[Yy (show ¬ (false=true) by decide)] at H;by_cases c11:0≤Zk
 rotate_left
 ·rw[Yy c11] at H
  exact absurd H (by simp)
 rw[Yx c11] at H;have c11b0:decide (0≤Zk)=true:=Yv c11;clear c11;by_cases c12:Zk<(Za.length:Int)
 rotate_left
 ·rw[Yy c12] at H
  exact absurd H (by simp)
 rw[Yx c12] at H;have c12b0:decide (Zk<(Za.length:Int))=true:=Yv c12;clear c12;obtain rfl:=Option.some.inj H;go_enter Try.func87,Try.ntmps87;go_wp2_with (first|(refine bx 2 104 #[.int .i64 Zc, .bool Zb, .slice Ze Za.length Zd, .slice A0_3 Ws.length c0_3] ?_;intro gb719 hg w13 Zf hb;have Ug:=Ya (Zf);have GW719:=Ya ((sz hg));have GE719:=Ya ((sz hg));replace HB:=Ya (Yk bl hb);clear hb Zf hg)|(refine bx 3 79 #[.int .i64 Zk, .bool false] ?_;intro gb720 hg w14 Zf hb;have BK720:=Ya (Zf);have GW720:=Ya ((sz hg));have GE720:=Ya ((sz hg));replace HB:=Ya (Yk bl hb);have NB719_720:=Ya (by rw[hg];exact Nat.ne_of_lt (blk_lt (bk Ug)):gb719≠gb720);have NB720_719:=Ya (by rw[hg];exact Nat.ne_of_gt (blk_lt (bk Ug)):gb720≠gb719);replace Ug:=Ya (Yn (bk Ug) hb);clear hb Zf hg;have hnb15:=NB720_719.out;have hnc15:=NB719_720.out;have Jt:w14.cell? ⟨gb720,0,none⟩=some (.int .i64 Zk):=bc BK720 0;have Ju:w14.cell? ⟨gb720,1,none⟩=some (.bool false):=bc BK720 1;have Jv:=Yf BK720.out 0;have Jw:=Yf BK720.out 1;have Ww:w14.cell? ⟨gb719,0,none⟩=some (.int .i64 Zc):=bc Ug 0;have Wx:w14.cell? ⟨gb719,1,none⟩=some (.bool Zb):=bc Ug 1;have hcz17_2:w14.cell? ⟨gb719,2,none⟩=some (.slice Ze Za.length Zd):=bc Ug 2;have hcz17_3:w14.cell? ⟨gb719,3,none⟩=some (.slice A0_3 Ws.length c0_3):=bc Ug 3;have Wy:=Yf Ug.out 0;have Wz:=Yf Ug.out 1;have hfz17_2:=Yf Ug.out 2;have hfz17_3:=Yf Ug.out 3;have p722:0≤(Zk:Int):=od;have q722:Zk<(Za.length:Int):=od;obtain⟨ad722,e722,hx722_0,hx722_1,hx722_2,hx722_3⟩:=at_T50 Zj.out Zk p722 q722;cases e722;replace hx722_0:=hc HB hx722_0;replace hx722_1:=hc HB hx722_1;replace hx722_2:=hc HB hx722_2;replace hx722_3:=hc HB hx722_3;replace p722:=eq_true p722;replace q722:=eq_true q722));go_ret;exact⟨by first|rfl|(simp[errW_none,errW_some]<;>rfl)|(simp[*,errW_none,errW_some]<;>rfl),HB.out⟩
end P
namespace P
attribute [local go_sem] max2_int min2_int max_two min_two max_three min_three max_four min_four
def static_Flowing_To.f (Zc:Int) (Zb:Bool) (Za:List (S50)) (Ws:List Int) (Zk:Int) (Xf:Bool):Option (Int):=(static_Flowing_From.f Zc Zb Za Ws Zk (!Xf)).bind fun t725=>(some t725)
set_option maxHeartbeats 8000000 in
set_option maxRecDepth 100000 in
theorem static_Flowing_To.calls (Zc:Int) (Zb:Bool) (Ze:Option Addr) (Zd:Nat) (Za:List (S50)) (A0_3:Option Addr) (c0_3:Nat) (Ws:List Int) (Zk:Int) (Xf:Bool) (r:Int) (w:World) (Zp:Kd.C k50 w Ze Za.length Za) (Zq:Za.length≤Zd) (hr0_3:Kd.C (Kd.int .i64) w A0_3 Ws.length Ws) (hc0_3:Ws.length≤c0_3) (h:static_Flowing_To.f Zc Zb Za Ws Zk Xf=some r):
  Calls Try.prog 93 #[.agg #[.int .i64 Zc, .bool Zb, .slice Ze Za.length Zd, .slice A0_3 Ws.length c0_3], .agg #[.int .i64 Zk, .bool Xf]] w fun e w'=>e= .returned (.int .i64 r)∧Below w.heap.size w w':=by
 have hu104:=Try.underlying104;have hu79:=Try.underlying79;have Zj:=Ya Zp;have Zs:=Ya Zq;clear Zp Zq;have HR0_3:=Ya hr0_3;have HC0_3:=Ya hc0_3;clear hr0_3 hc0_3;have HB:=Ya (Yo w.heap.size w);have H:=h;unfold static_Flowing_To.f at H;clear h;replace H:=Option.bind_eq_some_iff.mp H;obtain⟨t725,A30,H⟩:=H;try dsimp only at H
 have A3:=Ya A30;clear A30;obtain rfl:=Option.some.inj H;go_enter Try.func93,Try.ntmps93;go_wp2_with (first|(refine bx 2 104 #[.int .i64 Zc, .bool Zb, .slice Ze Za.length Zd, .slice A0_3 Ws.length c0_3] ?_;intro gb723 hg w4 Zf hb;have BK723:=Ya (Zf);have GW723:=Ya ((sz hg));have GE723:=Ya ((sz hg));replace HB:=Ya (Yk bl hb);clear hb Zf hg)|(refine bx 3 79 #[.int .i64 Zk, .bool Xf] ?_;intro gb724 hg w5 Zf hb;have BK724:=Ya (Zf);have GW724:=Ya ((sz hg));have GE724:=Ya ((sz hg));replace HB:=Ya (Yk bl hb);have NB723_724:=Ya (by rw[hg];exact Nat.ne_of_lt (blk_lt (bk BK723)):gb723≠gb724);have NB724_723:=Ya (by rw[hg];exact Nat.ne_of_gt (blk_lt (bk BK723)):gb724≠gb723);replace BK723:=Ya (Yn (bk BK723) hb);clear hb Zf hg;have hnb6:=NB724_723.out;have hnc6:=NB723_724.out;have hcz7_0:w5.cell? ⟨gb724,0,none⟩=some (.int .i64 Zk):=bc BK724 0;have hcz7_1:w5.cell? ⟨gb724,1,none⟩=some (.bool Xf):=bc BK724 1;have hfz7_0:=Yf BK724.out 0;have hfz7_1:=Yf BK724.out 1;have Uj:w5.cell? ⟨gb723,0,none⟩=some (.int .i64 Zc):=bc BK723 0;have Uk:w5.cell? ⟨gb723,1,none⟩=some (.bool Zb):=bc BK723 1;have Ja:w5.cell? ⟨gb723,2,none⟩=some (.slice Ze Za.length Zd):=bc BK723 2;have hcz8_3:w5.cell? ⟨gb723,3,none⟩=some (.slice A0_3 Ws.length c0_3):=bc BK723 3;have Ul:=Yf BK723.out 0;have Um:=Yf BK723.out 1;have Jb:=Yf BK723.out 2;have hfz8_3:=Yf BK723.out 3)|((with_reducible refine gate_callee (f:=87) rfl ?_);refine gl (some 11) Try.func87 #[.agg #[.int .i64 Zc, .bool Zb, .slice Ze Za.length Zd, .slice A0_3 Ws.length c0_3], .agg #[.int .i64 Zk, .bool (!Xf)]] ?_;(with_reducible refine(static_Flowing_From.calls Zc Zb _ _ Za _ _ Ws Zk (!Xf) t725 _ ?side1 ?side2 ?side3 ?side4 A3.out).mono ?_);(case side1=>exact Yt Zj.out bl);(case side2=>exact Zs.out);(case side3=>exact Yt HR0_3.out bl);(case side4=>exact HC0_3.out);rintro e w9 ⟨rfl,hb⟩;refine⟨_,rfl,?_⟩;replace BK723:=Ya (Yn (g:=gb723) (o:= .cells #[.int .i64 Zc, .bool Zb, .slice Ze Za.length Zd, .slice A0_3 Ws.length c0_3] 104 (0,0)) (by(with_reducible repeat(first|refine Yl ?_ _|refine Ym ?_|refine Yj ?_ _));refine blk_far ?_ NB723_724.out _;(with_reducible repeat(first|refine Yl ?_ _|refine Ym ?_|refine Yj ?_ _));exact BK723.out) hb);replace BK724:=Ya (Yn (g:=gb724) (o:= .cells #[.int .i64 Zk, .bool (!Xf)] 79 (0,0)) (by(with_reducible repeat(first|refine Yl ?_ _|refine Ym ?_|refine Yj ?_ _));refine YA (cs:= #[.int .i64 Zk, .bool Xf]) ?_ 1 _ rfl;(with_reducible repeat(first|refine Yl ?_ _|refine Ym ?_|refine Yj ?_ _));exact BK724.out) hb);replace HB:=Ya (Yk bl hb);(try clear hb)));go_ret;exact⟨by first|rfl|(simp[errW_none,errW_some]<;>rfl)|(simp[*,errW_none,errW_some]<;>rfl),HB.out⟩
end P
namespace P
attribute [local go_sem] max2_int min2_int max_two min_two max_three min_three max_four min_four
def static_Flowing_Room.f (Zc:Int) (Zb:Bool) (Za:List (S50)) (Ws:List Int) (Zk:Int) (Xf:Bool):Option (Int):=if Xf=true then(if 0≤Zk then(if Zk<(Ws.length:Int) then(some (rd Ws Zk)) else(none)) else(none)) else(if 0≤Zk then(if Zk<(Za.length:Int) then(if Zk<(Ws.length:Int) then(some (wrap64 (((rd_T50 Za Zk).f2) - (rd Ws Zk)))) else(none)) else(none)) else(none))
set_option maxHeartbeats 8000000 in
set_option maxRecDepth 100000 in
theorem static_Flowing_Room.calls (Zc:Int) (Zb:Bool) (Ze:Option Addr) (Zd:Nat) (Za:List (S50)) (A0_3:Option Addr) (c0_3:Nat) (Ws:List Int) (Zk:Int) (Xf:Bool) (r:Int) (w:World) (Zp:Kd.C k50 w Ze Za.length Za) (Zq:Za.length≤Zd) (hr0_3:Kd.C (Kd.int .i64) w A0_3 Ws.length Ws) (hc0_3:Ws.length≤c0_3) (h:static_Flowing_Room.f Zc Zb Za Ws Zk Xf=some r):
  Calls Try.prog 89 #[.agg #[.int .i64 Zc, .bool Zb, .slice Ze Za.length Zd, .slice A0_3 Ws.length c0_3], .agg #[.int .i64 Zk, .bool Xf]] w fun e w'=>e= .returned (.int .i64 r)∧Below w.heap.size w w':=by
 have hu104:=Try.underlying104;have hu79:=Try.underlying79;have Zj:=Ya Zp;have Zs:=Ya Zq;clear Zp Zq;have HR0_3:=Ya hr0_3;have HC0_3:=Ya hc0_3;clear hr0_3 hc0_3;have HB:=Ya (Yo w.heap.size w);have H:=h;unfold static_Flowing_Room.f at H;clear h;by_cases c3:Xf=true
 ·subst c3
  first|rw[Yx rfl] at H|rw[Yx trivial] at H
  by_cases c4:0≤Zk
  rotate_left
  ·rw[Yy c4] at H
   exact absurd H (by simp)
  rw[Yx c4] at H;have c4b0:decide (0≤Zk)=true:=Yv c4;clear c4;by_cases c5:Zk<(Ws.length:Int)
  rotate_left
  ·rw[Yy c5] at H
   exact absurd H (by simp)
  rw[Yx c5] at H;have c5b0:decide (Zk<(Ws.length:Int))=true:=Yv c5;clear c5;obtain rfl:=Option.some.inj H;go_enter Try.func89,Try.ntmps89;go_wp2_with (first|(refine bx 2 104 #[.int .i64 Zc, .bool Zb, .slice Ze Za.length Zd, .slice A0_3 Ws.length c0_3] ?_;intro Xr hg w6 Zf hb;have Xa:=Ya (Zf);have GW730:=Ya (by rw[hg];exact(Yi HB.out):w.heap.size≤Xr);have GE730:=Ya (by rw[hg];exact(Yi HB.out):w.heap.size≤Xr);replace HB:=Ya (Yk HB.out hb);clear hb Zf hg)|(refine bx 3 79 #[.int .i64 Zk, .bool true] ?_;intro Wi hg w7 Zf hb;have Vo:=Ya (Zf);have GW731:=Ya (by rw[hg];exact(Yi HB.out):w.heap.size≤Wi);have GE731:=Ya (by rw[hg];exact(Yi HB.out):w.heap.size≤Wi);replace HB:=Ya (Yk HB.out hb);have Vu:=Ya (by rw[hg];exact Nat.ne_of_lt (blk_lt Xa.out):Xr≠Wi);have Vv:=Ya (by rw[hg];exact Nat.ne_of_gt (blk_lt Xa.out):Wi≠Xr);replace Xa:=Ya (Yn Xa.out hb);clear hb Zf hg;have hnb8:=Vv.out;have hnc8:=Vu.out;have hcz9_0:w7.cell? ⟨Wi,0,none⟩=some (.int .i64 Zk):=bc Vo 0;have hcz9_1:w7.cell? ⟨Wi,1,none⟩=some (.bool true):=bc Vo 1;have hfz9_0:=Yf Vo.out 0;have hfz9_1:=Yf Vo.out 1;have Va:w7.cell? ⟨Xr,0,none⟩=some (.int .i64 Zc):=bc Xa 0;have Vb:w7.cell? ⟨Xr,1,none⟩=some (.bool Zb):=bc Xa 1;have Vr:w7.cell? ⟨Xr,2,none⟩=some (.slice Ze Za.length Zd):=bc Xa 2;have hcz10_3:w7.cell? ⟨Xr,3,none⟩=some (.slice A0_3 Ws.length c0_3):=bc Xa 3;have Vc:=Yf Xa.out 0;have Vd:=Yf Xa.out 1;have Vs:=Yf Xa.out 2;have hfz10_3:=Yf Xa.out 3;have p732:0≤(Zk:Int):=od;have q732:Zk<(Ws.length:Int):=od;obtain⟨ad732,e732,hx732_0⟩:=Kd.at_int HR0_3.out Zk p732 q732;cases e732;replace hx732_0:=hc HB hx732_0;replace p732:=eq_true p732;replace q732:=eq_true q732));repeat(go_quiet (first|(refine bx 2 104 #[.int .i64 Zc, .bool Zb, .slice Ze Za.length Zd, .slice A0_3 Ws.length c0_3] ?_;intro Xr hg w6 Zf hb;have Xa:=Ya (Zf);have GW730:=Ya (by rw[hg];exact(Yi HB.out):w.heap.size≤Xr);have GE730:=Ya (by rw[hg];exact(Yi HB.out):w.heap.size≤Xr);replace HB:=Ya (Yk HB.out hb);clear hb Zf hg)|(refine bx 3 79 #[.int .i64 Zk, .bool true] ?_;intro Wi hg w7 Zf hb;have Vo:=Ya (Zf);have GW731:=Ya (by rw[hg];exact(Yi HB.out):w.heap.size≤Wi);have GE731:=Ya (by rw[hg];exact(Yi HB.out):w.heap.size≤Wi);replace HB:=Ya (Yk HB.out hb);have Vu:=Ya (by rw[hg];exact Nat.ne_of_lt (blk_lt Xa.out):Xr≠Wi);have Vv:=Ya (by rw[hg];exact Nat.ne_of_gt (blk_lt Xa.out):Wi≠Xr);replace Xa:=Ya (Yn Xa.out hb);clear hb Zf hg;have hnb8:=Vv.out;have hnc8:=Vu.out;have hcz9_0:w7.cell? ⟨Wi,0,none⟩=some (.int .i64 Zk):=bc Vo 0;have hcz9_1:w7.cell? ⟨Wi,1,none⟩=some (.bool true):=bc Vo 1;have hfz9_0:=Yf Vo.out 0;have hfz9_1:=Yf Vo.out 1;have Va:w7.cell? ⟨Xr,0,none⟩=some (.int .i64 Zc):=bc Xa 0;have Vb:w7.cell? ⟨Xr,1,none⟩=some (.bool Zb):=bc Xa 1;have Vr:w7.cell? ⟨Xr,2,none⟩=some (.slice Ze Za.length Zd):=bc Xa 2;have hcz10_3:w7.cell? ⟨Xr,3,none⟩=some (.slice A0_3 Ws.length c0_3):=bc Xa 3;have Vc:=Yf Xa.out 0;have Vd:=Yf Xa.out 1;have Vs:=Yf Xa.out 2;have hfz10_3:=Yf Xa.out 3;have p732:0≤(Zk:Int):=od;have q732:Zk<(Ws.length:Int):=od;obtain⟨ad732,e732,hx732_0⟩:=Kd.at_int HR0_3.out Zk p732 q732;cases e732;replace hx732_0:=hc HB hx732_0;replace p732:=eq_true p732;replace q732:=eq_true q732));try go_wp2_with (first|(refine bx 2 104 #[.int .i64 Zc, .bool Zb, .slice Ze Za.length Zd, .slice A0_3 Ws.length c0_3] ?_;intro Xr hg w6 Zf hb;have Xa:=Ya (Zf);have GW730:=Ya (by rw[hg];exact(Yi HB.out):w.heap.size≤Xr);have GE730:=Ya (by rw[hg];exact(Yi HB.out):w.heap.size≤Xr);replace HB:=Ya (Yk HB.out hb);clear hb Zf hg)|(refine bx 3 79 #[.int .i64 Zk, .bool true] ?_;intro Wi hg w7 Zf hb;have Vo:=Ya (Zf);have GW731:=Ya (by rw[hg];exact(Yi HB.out):w.heap.size≤Wi);have GE731:=Ya (by rw[hg];exact(Yi HB.out):w.heap.size≤Wi);replace HB:=Ya (Yk HB.out hb);have Vu:=Ya (by rw[hg];exact Nat.ne_of_lt (blk_lt Xa.out):Xr≠Wi);have Vv:=Ya (by rw[hg];exact Nat.ne_of_gt (blk_lt Xa.out):Wi≠Xr);replace Xa:=Ya (Yn Xa.out hb);clear hb Zf hg;have hnb8:=Vv.out;have hnc8:=Vu.out;have hcz9_0:w7.cell? ⟨Wi,0,none⟩=some (.int .i64 Zk):=bc Vo 0;have hcz9_1:w7.cell? ⟨Wi,1,none⟩=some (.bool true):=bc Vo 1;have hfz9_0:=Yf Vo.out 0;have hfz9_1:=Yf Vo.out 1;have Va:w7.cell? ⟨Xr,0,none⟩=some (.int .i64 Zc):=bc Xa 0;have Vb:w7.cell? ⟨Xr,1,none⟩=some (.bool Zb):=bc Xa 1;have Vr:w7.cell? ⟨Xr,2,none⟩=some (.slice Ze Za.length Zd):=bc Xa 2;have hcz10_3:w7.cell? ⟨Xr,3,none⟩=some (.slice A0_3 Ws.length c0_3):=bc Xa 3;have Vc:=Yf Xa.out 0;have Vd:=Yf Xa.out 1;have Vs:=Yf Xa.out 2;have hfz10_3:=Yf Xa.out 3;have p732:0≤(Zk:Int):=od;have q732:Zk<(Ws.length:Int):=od;obtain⟨ad732,e732,hx732_0⟩:=Kd.at_int HR0_3.out Zk p732 q732;cases e732;replace hx732_0:=hc HB hx732_0;replace p732:=eq_true p732;replace q732:=eq_true q732)))
  go_ret;exact⟨by first|rfl|(simp[errW_none,errW_some]<;>rfl)|(simp[*,errW_none,errW_some]<;>rfl),HB.out⟩
 replace c3:=Bool.eq_false_iff.mpr c3;subst c3;rw[Yy (show ¬ (false=true) by decide)] at H;by_cases c11:0≤Zk
 rotate_left
 ·rw[Yy c11] at H
  exact absurd H (by simp)
 rw[Yx c11] at H;have c11b0:decide (0≤Zk)=true:=Yv c11;clear c11;by_cases c12:Zk<(Za.length:Int)
 rotate_left
 ·rw[Yy c12] at H
  exact absurd H (by simp)
 rw[Yx c12] at H;have c12b0:decide (Zk<(Za.length:Int))=true:=Yv c12;clear c12;by_cases c13:Zk<(Ws.length:Int)
 rotate_left
 ·rw[Yy c13] at H
  exact absurd H (by simp)
 rw[Yx c13] at H;have c13b0:decide (Zk<(Ws.length:Int))=true:=Yv c13;clear c13;obtain rfl:=Option.some.inj H;go_enter Try.func89,Try.ntmps89;go_wp2_with (first|(refine bx 2 104 #[.int .i64 Zc, .bool Zb, .slice Ze Za.length Zd, .slice A0_3 Ws.length c0_3] ?_;intro Xr hg w14 Zf hb;have Xa:=Ya (Zf);have GW730:=Ya (by rw[hg];exact(Yi HB.out):w.heap.size≤Xr);have GE730:=Ya (by rw[hg];exact(Yi HB.out):w.heap.size≤Xr);replace HB:=Ya (Yk HB.out hb);clear hb Zf hg)|(refine bx 3 79 #[.int .i64 Zk, .bool false] ?_;intro Wi hg w15 Zf hb;have Vo:=Ya (Zf);have GW731:=Ya (by rw[hg];exact(Yi HB.out):w.heap.size≤Wi);have GE731:=Ya (by rw[hg];exact(Yi HB.out):w.heap.size≤Wi);replace HB:=Ya (Yk HB.out hb);have Vu:=Ya (by rw[hg];exact Nat.ne_of_lt (blk_lt Xa.out):Xr≠Wi);have Vv:=Ya (by rw[hg];exact Nat.ne_of_gt (blk_lt Xa.out):Wi≠Xr);replace Xa:=Ya (Yn Xa.out hb);clear hb Zf hg;have hnb16:=Vv.out;have hnc16:=Vu.out;have Ww:w15.cell? ⟨Wi,0,none⟩=some (.int .i64 Zk):=bc Vo 0;have Wx:w15.cell? ⟨Wi,1,none⟩=some (.bool false):=bc Vo 1;have Wy:=Yf Vo.out 0;have Wz:=Yf Vo.out 1;have hcz18_0:w15.cell? ⟨Xr,0,none⟩=some (.int .i64 Zc):=bc Xa 0;have hcz18_1:w15.cell? ⟨Xr,1,none⟩=some (.bool Zb):=bc Xa 1;have hcz18_2:w15.cell? ⟨Xr,2,none⟩=some (.slice Ze Za.length Zd):=bc Xa 2;have hcz18_3:w15.cell? ⟨Xr,3,none⟩=some (.slice A0_3 Ws.length c0_3):=bc Xa 3;have hfz18_0:=Yf Xa.out 0;have hfz18_1:=Yf Xa.out 1;have hfz18_2:=Yf Xa.out 2;have hfz18_3:=Yf Xa.out 3;have p733:0≤(Zk:Int):=od;have q733:Zk<(Za.length:Int):=od;obtain⟨ad733,e733,hx733_0,hx733_1,hx733_2,hx733_3⟩:=at_T50 Zj.out Zk p733 q733;cases e733;replace hx733_0:=hc HB hx733_0;replace hx733_1:=hc HB hx733_1;replace hx733_2:=hc HB hx733_2;replace hx733_3:=hc HB hx733_3;replace p733:=eq_true p733;replace q733:=eq_true q733;have p734:0≤(Zk:Int):=od;have q734:Zk<(Ws.length:Int):=od;obtain⟨ad734,e734,hx734_0⟩:=Kd.at_int HR0_3.out Zk p734 q734;cases e734;replace hx734_0:=hc HB hx734_0;replace p734:=eq_true p734;replace q734:=eq_true q734));repeat(go_quiet (first|(refine bx 2 104 #[.int .i64 Zc, .bool Zb, .slice Ze Za.length Zd, .slice A0_3 Ws.length c0_3] ?_;intro Xr hg w14 Zf hb;have Xa:=Ya (Zf);have GW730:=Ya (by rw[hg];exact(Yi HB.out):w.heap.size≤Xr);have GE730:=Ya (by rw[hg];exact(Yi HB.out):w.heap.size≤Xr);replace HB:=Ya (Yk HB.out hb);clear hb Zf hg)|(refine bx 3 79 #[.int .i64 Zk, .bool false] ?_;intro Wi hg w15 Zf hb;have Vo:=Ya (Zf);have GW731:=Ya (by rw[hg];exact(Yi HB.out):w.heap.size≤Wi);have GE731:=Ya (by rw[hg];exact(Yi HB.out):w.heap.size≤Wi);replace HB:=Ya (Yk HB.out hb);have Vu:=Ya (by rw[hg];exact Nat.ne_of_lt (blk_lt Xa.out):Xr≠Wi);have Vv:=Ya (by rw[hg];exact Nat.ne_of_gt (blk_lt Xa.out):Wi≠Xr);replace Xa:=Ya (Yn Xa.out hb);clear hb Zf hg;have hnb16:=Vv.out;have hnc16:=Vu.out;have Ww:w15.cell? ⟨Wi,0,none⟩=some (.int .i64 Zk):=bc Vo 0;have Wx:w15.cell? ⟨Wi,1,none⟩=some (.bool false):=bc Vo 1;have Wy:=Yf Vo.out 0;have Wz:=Yf Vo.out 1;have hcz18_0:w15.cell? ⟨Xr,0,none⟩=some (.int .i64 Zc):=bc Xa 0;have hcz18_1:w15.cell? ⟨Xr,1,none⟩=some (.bool Zb):=bc Xa 1;have hcz18_2:w15.cell? ⟨Xr,2,none⟩=some (.slice Ze Za.length Zd):=bc Xa 2;have hcz18_3:w15.cell? ⟨Xr,3,none⟩=some (.slice A0_3 Ws.length c0_3):=bc Xa 3;have hfz18_0:=Yf Xa.out 0;have hfz18_1:=Yf Xa.out 1;have hfz18_2:=Yf Xa.out 2;have hfz18_3:=Yf Xa.out 3;have p733:0≤(Zk:Int):=od;have q733:Zk<(Za.length:Int):=od;obtain⟨ad733,e733,hx733_0,hx733_1,hx733_2,hx733_3⟩:=at_T50 Zj.out Zk p733 q733;cases e733;replace hx733_0:=hc HB hx733_0;replace hx733_1:=hc HB hx733_1;replace hx733_2:=hc HB hx733_2;replace hx733_3:=hc HB hx733_3;replace p733:=eq_true p733;replace q733:=eq_true q733;have p734:0≤(Zk:Int):=od;have q734:Zk<(Ws.length:Int):=od;obtain⟨ad734,e734,hx734_0⟩:=Kd.at_int HR0_3.out Zk p734 q734;cases e734;replace hx734_0:=hc HB hx734_0;replace p734:=eq_true p734;replace q734:=eq_true q734));try go_wp2_with (first|(refine bx 2 104 #[.int .i64 Zc, .bool Zb, .slice Ze Za.length Zd, .slice A0_3 Ws.length c0_3] ?_;intro Xr hg w14 Zf hb;have Xa:=Ya (Zf);have GW730:=Ya (by rw[hg];exact(Yi HB.out):w.heap.size≤Xr);have GE730:=Ya (by rw[hg];exact(Yi HB.out):w.heap.size≤Xr);replace HB:=Ya (Yk HB.out hb);clear hb Zf hg)|(refine bx 3 79 #[.int .i64 Zk, .bool false] ?_;intro Wi hg w15 Zf hb;have Vo:=Ya (Zf);have GW731:=Ya (by rw[hg];exact(Yi HB.out):w.heap.size≤Wi);have GE731:=Ya (by rw[hg];exact(Yi HB.out):w.heap.size≤Wi);replace HB:=Ya (Yk HB.out hb);have Vu:=Ya (by rw[hg];exact Nat.ne_of_lt (blk_lt Xa.out):Xr≠Wi);have Vv:=Ya (by rw[hg];exact Nat.ne_of_gt (blk_lt Xa.out):Wi≠Xr);replace Xa:=Ya (Yn Xa.out hb);clear hb Zf hg;have hnb16:=Vv.out;have hnc16:=Vu.out;have Ww:w15.cell? ⟨Wi,0,none⟩=some (.int .i64 Zk):=bc Vo 0;have Wx:w15.cell? ⟨Wi,1,none⟩=some (.bool false):=bc Vo 1;have Wy:=Yf Vo.out 0;have Wz:=Yf Vo.out 1;have hcz18_0:w15.cell? ⟨Xr,0,none⟩=some (.int .i64 Zc):=bc Xa 0;have hcz18_1:w15.cell? ⟨Xr,1,none⟩=some (.bool Zb):=bc Xa 1;have hcz18_2:w15.cell? ⟨Xr,2,none⟩=some (.slice Ze Za.length Zd):=bc Xa 2;have hcz18_3:w15.cell? ⟨Xr,3,none⟩=some (.slice A0_3 Ws.length c0_3):=bc Xa 3;have hfz18_0:=Yf Xa.out 0;have hfz18_1:=Yf Xa.out 1;have hfz18_2:=Yf Xa.out 2;have hfz18_3:=Yf Xa.out 3;have p733:0≤(Zk:Int):=od;have q733:Zk<(Za.length:Int):=od;obtain⟨ad733,e733,hx733_0,hx733_1,hx733_2,hx733_3⟩:=at_T50 Zj.out Zk p733 q733;cases e733;replace hx733_0:=hc HB hx733_0;replace hx733_1:=hc HB hx733_1;replace hx733_2:=hc HB hx733_2;replace hx733_3:=hc HB hx733_3;replace p733:=eq_true p733;replace q733:=eq_true q733;have p734:0≤(Zk:Int):=od;have q734:Zk<(Ws.length:Int):=od;obtain⟨ad734,e734,hx734_0⟩:=Kd.at_int HR0_3.out Zk p734 q734;cases e734;replace hx734_0:=hc HB hx734_0;replace p734:=eq_true p734;replace q734:=eq_true q734)))
 go_ret;exact⟨by first|rfl|(simp[errW_none,errW_some]<;>rfl)|(simp[*,errW_none,errW_some]<;>rfl),bl⟩
end P
namespace H
abbrev Ed:=Nat × Nat × Int
abbrev Tm:=Nat→Option Int
def trig (σ:Tm) (e:Ed):Bool:=
 match σ e.1 with
 |none=>false
 |some x=>match σ e.2.1 with
  |none=>true
  |some y=>decide (x+e.2.2<y)
def relax (σ:Tm) (e:Ed):Tm:=if trig σ e then(fun v=>if v=e.2.1 then some ((σ e.1).getD 0+e.2.2) else σ v) else σ
def Bet (σ τ:Tm):Prop:= ∀ v y,τ v=some y→ ∃ x,σ v=some x∧x≤y
theorem Bet.refl (σ:Tm):Bet σ σ:=fun _ y h=>⟨y,h,Int.le_refl _⟩
theorem Bet.trans {a b c:Tm} (h1:Bet a b) (h2:Bet b c):Bet a c:=fun v y h=>by
 obtain⟨x,hx,hl⟩:=h2 v y h;obtain⟨z,hz,hm⟩:=h1 v x hx;exact⟨z,hz,Int.le_trans hm hl⟩
theorem relax_off {σ:Tm} {e:Ed} (h:trig σ e=false):relax σ e=σ:=by unfold relax;rw[h];rfl
theorem trig_some {σ:Tm} {e:Ed} (h:trig σ e=true): ∃ x,σ e.1=some x∧ ∀ y,σ e.2.1=some y→x+e.2.2<y:=by
 unfold trig at h;cases h1:σ e.1 with
 |none=>rw[h1] at h;cases h
 |some x=>
  rw[h1] at h;refine⟨x,rfl,fun y hy=> ?_⟩;rw[hy] at h;exact Yu h
theorem trig_off {σ:Tm} {e:Ed} (h:trig σ e=false) {x:Int} (hx:σ e.1=some x): ∃ y,σ e.2.1=some y∧y≤x+e.2.2:=by
 unfold trig at h;rw[hx] at h;cases h2:σ e.2.1 with
 |none=>rw[h2] at h;cases h
 |some y=>
  rw[h2] at h;have:=of_decide_eq_false h;exact⟨y,rfl,by omega⟩
theorem relax_on {σ:Tm} {e:Ed} (h:trig σ e=true) {x:Int} (hx:σ e.1=some x) (v:Nat):relax σ e v=if v=e.2.1 then some (x+e.2.2) else σ v:=by
 unfold relax;rw[Yx h,hx];rfl
theorem relax_bet (σ:Tm) (e:Ed):Bet (relax σ e) σ:=by
 cases h:trig σ e with
 |false=>rw[relax_off h];exact Bet.refl _
 |true=>
  obtain⟨x,hx,hl⟩:=trig_some h;intro v y hy;rw[relax_on h hx];by_cases hv:v=e.2.1
  ·subst hv
   rw[Yx rfl];have:=hl y hy;exact⟨_,rfl,by omega⟩
  ·rw[Yy hv]
   exact⟨y,hy,Int.le_refl _⟩
theorem relax_hits {σ:Tm} {e:Ed} {x:Int} (hx:σ e.1=some x): ∃ y,relax σ e e.2.1=some y∧y≤x+e.2.2:=by
 cases h:trig σ e with
 |false=>rw[relax_off h];exact trig_off h hx
 |true=>rw[relax_on h hx,Yx rfl];exact⟨_,rfl,Int.le_refl _⟩
def pass (E:List Ed) (σ:Tm):Tm:=E.foldl relax σ
theorem pass_bet (E:List Ed) (σ:Tm):Bet (pass E σ) σ:=by
 induction E generalizing σ with
 |nil=>exact Bet.refl _
 |cons e E ih=>exact(ih (relax σ e)).trans (relax_bet σ e)
theorem pass_hits {E:List Ed} {e:Ed} (he:e∈E) {σ:Tm} {x:Int} (hx:σ e.1=some x): ∃ y,pass E σ e.2.1=some y∧y≤x+e.2.2:=by
 induction E generalizing σ x with
 |nil=>cases he
 |cons h E ih=>
  rcases List.mem_cons.1 he with rfl|he
  ·obtain⟨y,hy,hl⟩:=relax_hits hx
   obtain⟨z,hz,hm⟩:=pass_bet E (relax σ e) _ y hy;exact⟨z,hz,by omega⟩
  ·obtain⟨x',hx',hl⟩:=relax_bet σ h _ x hx
   obtain⟨y,hy,hm⟩:=ih he hx';exact⟨y,hy,by omega⟩
def Path (E:List Ed):Nat→List Ed→Nat→Prop
 |a,[],b=>a=b
 |a,e::l,b=>e∈E∧e.1=a∧Path E e.2.1 l b
def long:List Ed→Int
 |[]=>0
 |e::l=>e.2.2+long l
theorem long_app (l m:List Ed):long (l ++ m)=long l+long m:=by
 induction l with
 |nil=>simp[long]
 |cons e l ih=>simp only[List.cons_append,long,ih];omega
def its (E:List Ed):Nat→Tm→Tm
 |0,σ=>σ
 |k+1,σ=>its E k (pass E σ)
structure NoGain (E:List Ed) (r:Nat→Prop):Prop where
 on: ∀ e,e∈E→r e.1→r e.2.1
 cyc: ∀ (a:Nat) (l:List Ed),r a→Path E a l a→0≤long l
def visits (a:Nat) (l:List Ed):List Nat:=a::l.map (fun e=>e.2.1)
theorem path_split {E:List Ed} {a b x:Nat} {l:List Ed} (h:Path E a l b) (hx:x∈visits a l): ∃ l1 l2,l=l1 ++ l2∧Path E a l1 x∧Path E x l2 b:=by
 induction l generalizing a with
 |nil=>
  rcases List.mem_cons.1 hx with rfl|hx
  ·exact⟨[],[],rfl,rfl,h⟩
  ·cases hx
 |cons e l ih=>
  rcases List.mem_cons.1 hx with rfl|hx
  ·exact⟨[],e::l,rfl,rfl,h⟩
  ·obtain⟨he,hu,hp⟩:=h
   have hx':x∈visits e.2.1 l:=by simpa [visits] using hx
   obtain⟨l1,l2,e1,h1,h2⟩:=ih hp hx';exact⟨e::l1,l2,by rw[e1];rfl,⟨he,hu,h1⟩,h2⟩
theorem cut_or {E:List Ed} {r:Nat→Prop} (ht:NoGain E r) {a b:Nat} {l:List Ed} (h:Path E a l b) (ha:r a):
  (∃ l',l'.length<l.length∧Path E a l' b∧long l'≤long l)∨(visits a l).Nodup:=by
 induction l generalizing a with
 |nil=>right;simp[visits]
 |cons e l ih=>
  obtain⟨he,hu,hp⟩:=h;have hr:=ht.on e he (hu▸ha);by_cases hm:a∈visits e.2.1 l
  ·left
   obtain⟨l1,l2,e1,h1,h2⟩:=path_split hp hm;refine⟨l2,by rw[e1];simp;omega,h2,?_⟩;have hc:=ht.cyc a (e::l1) ha ⟨he,hu,h1⟩;rw[e1];simp only[long,long_app] at hc ⊢;omega
  ·rcases ih hp hr with ⟨l',h1,h2,h3⟩|hn
   ·left
    refine⟨e::l',by simp;omega,⟨he,hu,h2⟩,?_⟩;simp only[long];omega
   ·right
    show (a::visits e.2.1 l).Nodup;exact List.nodup_cons.2 ⟨hm,hn⟩
theorem pigeon (n:Nat): ∀ L:List Nat,L.Nodup→(∀ x,x∈L→x<n)→L.length≤n:=by
 induction n with
 |zero=>
  intro L _ h;cases L with
  |nil=>simp
  |cons x L=>exact absurd (h x List.mem_cons_self) (Nat.not_lt_zero _)
 |succ n ih=>
  intro L hn h;by_cases hm:n∈L
  ·have h1:=ih (L.erase n) (hn.erase n) (fun x hx=>by
    have h2:=(hn.mem_erase_iff).1 hx;have:=h x h2.2;have:=h2.1;omega)
   rw[List.length_erase_of_mem hm] at h1;omega
  ·have:=ih L hn (fun x hx=>by
    have h1:=h x hx;have:x≠n:=fun e=>hm (e▸hx)
    omega)
   omega
theorem path_nodes {E:List Ed} {n:Nat} (hE: ∀ e,e∈E→e.1<n∧e.2.1<n) {a b:Nat} {l:List Ed} (h:Path E a l b) (ha:a<n): ∀ x,x∈visits a l→x<n:=by
 induction l generalizing a with
 |nil=>intro x hx;rcases List.mem_cons.1 hx with rfl|hx;exact ha;cases hx
 |cons e l ih=>
  intro x hx;obtain⟨he,hu,hp⟩:=h;rcases List.mem_cons.1 hx with rfl|hx
  ·exact ha
  ·exact ih hp (hE e he).2 x (by simpa [visits] using hx)
theorem short {E:List Ed} {n:Nat} (hE: ∀ e,e∈E→e.1<n∧e.2.1<n) {r:Nat→Prop} (ht:NoGain E r) {a b:Nat} (ha:r a) (han:a<n):
  ∀ (m:Nat) (l:List Ed),l.length≤m→Path E a l b→ ∃ l',l'.length<n∧Path E a l' b∧long l'≤long l:=by
 intro m
 induction m with
 |zero=>
  intro l hl h;exact⟨l,by omega,h,Int.le_refl _⟩
 |succ m ih=>
  intro l hl h;rcases cut_or ht h ha with ⟨l',h1,h2,h3⟩|hn
  ·obtain⟨l2,h4,h5,h6⟩:=ih l' (by omega) h2
   exact⟨l2,h4,h5,Int.le_trans h6 h3⟩
  ·refine⟨l,?_,h,Int.le_refl _⟩
   have:=pigeon n _ hn (path_nodes hE h han);simp[visits] at this;omega
def passT (E:List Ed) (σ:Tm) (b:Bool):Tm × Bool:=E.foldl (fun s e=>(relax s.1 e,s.2 || trig s.1 e)) (σ,b)
theorem passT_fst (E:List Ed) (σ:Tm) (b:Bool):(passT E σ b).1=pass E σ:=by
 induction E generalizing σ b with
 |nil=>rfl
 |cons e E ih=>exact ih (relax σ e) (b || trig σ e)
theorem passT_true (E:List Ed) (σ:Tm):(passT E σ true).2=true:=by
 induction E generalizing σ with
 |nil=>rfl
 |cons e E ih=>show (passT E (relax σ e) (true || trig σ e)).2=true;rw[Bool.true_or];exact ih _
theorem passT_false {E:List Ed} {σ:Tm} (h:(passT E σ false).2=false): ∀ e,e∈E→trig σ e=false:=by
 induction E with
 |nil=>intro e he;cases he
 |cons e E ih=>
  have h':(passT E (relax σ e) (false || trig σ e)).2=false:=h;rw[Bool.false_or] at h';cases ht:trig σ e with
  |true=>rw[ht,passT_true] at h';cases h'
  |false=>
   rw[ht,relax_off ht] at h';intro x hx;rcases List.mem_cons.1 hx with rfl|hx
   ·exact ht
   ·exact ih h' x hx
theorem passT_still {E:List Ed} {σ:Tm} (h: ∀ e,e∈E→trig σ e=false):passT E σ false=(σ,false):=by
 induction E with
 |nil=>rfl
 |cons e E ih=>
  have h1:=h e List.mem_cons_self;show passT E (relax σ e) (false || trig σ e)=_;rw[h1,relax_off h1];exact ih (fun e he=>h e (List.mem_cons_of_mem _ he))
theorem pass_fix {E:List Ed} {σ:Tm} (h:pass E σ=σ): ∀ e,e∈E→trig σ e=false:=by
 intro e he;cases ht:trig σ e with
 |false=>rfl
 |true=>
  obtain⟨x,hx,hl⟩:=trig_some ht;obtain⟨y,hy,hm⟩:=pass_hits he hx;rw[h] at hy;have:=hl y hy;omega
end H
namespace H
open P
def Arr (w:World) (g N:Nat) (M:Nat→S79):Prop:=
 ∃ cells:Array Value,w.heap[g]? =some (.cells cells 79 (0,0))∧ ∀ x,x<N→cells[x * 2]? =some (.int .i64 (M x).f0)∧cells[x * 2+1]? =some (.bool (M x).f1)
theorem Arr.cell0 {w:World} {g N:Nat} {M:Nat→S79} (h:Arr w g N M) {x:Nat} (hx:x<N):w.cell? ⟨g,x * 2,none⟩=some (.int .i64 (M x).f0):=by
 obtain⟨cells,hb,hc⟩:=h;simp[World.cell?,hb,(hc x hx).1]
theorem Arr.cell1 {w:World} {g N:Nat} {M:Nat→S79} (h:Arr w g N M) {x:Nat} (hx:x<N):w.cell? ⟨g,x * 2+1,none⟩=some (.bool (M x).f1):=by
 obtain⟨cells,hb,hc⟩:=h;simp[World.cell?,hb,(hc x hx).2]
theorem Arr.free {w:World} {g N:Nat} {M:Nat→S79} (h:Arr w g N M) (j:Nat):w.frozen? ⟨g,j,none⟩=false:=by
 obtain⟨cells,hb,_⟩:=h;simp[World.frozen?,hb]
theorem Arr.lt {w:World} {g N:Nat} {M:Nat→S79} (h:Arr w g N M):g<w.heap.size:=by
 obtain⟨cells,hb,_⟩:=h;exact(Array.getElem?_eq_some_iff.1 hb).1
theorem Arr.congr {w:World} {g N:Nat} {M M':Nat→S79} (h:Arr w g N M) (e: ∀ x,x<N→M' x=M x):Arr w g N M':=by
 obtain⟨cells,hb,hc⟩:=h;exact⟨cells,hb,fun x hx=>by rw[e x hx];exact hc x hx⟩
theorem Arr.same {w w':World} {g N:Nat} {M:Nat→S79} (h:Arr w g N M) (e:w'.heap[g]? =w.heap[g]?):Arr w' g N M:=by
 obtain⟨cells,hb,hc⟩:=h;exact⟨cells,e.trans hb,hc⟩
theorem Arr.below {w w':World} {g N:Nat} {M:Nat→S79} (h:Arr w g N M) (hb:Below w.heap.size w w'):Arr w' g N M:=h.same (hb.block g h.lt)
def upd (M:Nat→S79) (x:Nat) (s:S79) (y:Nat):S79:=if y=x then s else M y
theorem Arr.put {w:World} {g N:Nat} {M:Nat→S79} (h:Arr w g N M) {x:Nat} (hx:x<N) (s:S79):Arr ((w.setCell ⟨g,x * 2,none⟩ (.int .i64 s.f0)).setCell ⟨g,x * 2+1,none⟩ (.bool s.f1)) g N (upd M x s):=by
 obtain⟨cells,hb,hc⟩:=h;refine⟨_,blk_set (blk_set hb _ _) _ _,fun y hy=> ?_⟩;have hs0:=(Array.getElem?_eq_some_iff.1 (hc x hx).1).1;have hs1:=(Array.getElem?_eq_some_iff.1 (hc x hx).2).1;simp only[Array.getElem?_setIfInBounds,Array.size_setIfInBounds];unfold upd;by_cases e:y=x
 ·subst e
  constructor
  ·rw[Yy (by omega),Yx rfl,Yx hs0,Yx rfl]
  ·rw[Yx rfl,Yx hs1,Yx rfl]
 ·rw[Yy e]
  constructor
  ·rw[Yy (by omega),Yy (by omega)];exact(hc y hy).1
  ·rw[Yy (by omega),Yy (by omega)];exact(hc y hy).2
theorem Arr.drew {w:World} {g N:Nat} {M:Nat→S79} (h:Arr w g N M):Arr w.drew g N M:=h.same rfl
def Fr (w w':World) (g:Nat):Prop:=w.grownBy w' (some g)∧ ∀ cells t ro,w.heap[g]? =some (.cells cells t ro)→ ∃ cells',w'.heap[g]? =some (.cells cells' t ro)∧cells'.size=cells.size
theorem grow_set {w w':World} {g:Nat} (h:Fr w w' g) (j:Nat) (u:Value):Fr w (w'.setCell ⟨g,j,none⟩ u) g:=
 ⟨⟨h.1.os,h.1.tape,h.1.output,by simpa [World.setCell] using h.1.size,fun k hk hne=>(Below.heap_setCell w' ⟨g,j,none⟩ u k (fun e=>hne (by rw[e]))).trans (h.1.block k hk hne)⟩,
  fun cells t ro hb=>by
  obtain⟨c',h1,h2⟩:=h.2 cells t ro hb;refine⟨c'.setIfInBounds j u,?_,by simpa using h2⟩;simp[World.setCell,Array.getElem?_modify,h1]⟩
theorem grow_drew {w w':World} {g:Nat} (h:Fr w w' g):Fr w w'.drew g:=⟨⟨h.1.os,h.1.tape,h.1.output,h.1.size,h.1.block⟩,h.2⟩
theorem grow_refl (w:World) (g:Nat):Fr w w g:=⟨⟨rfl,rfl,rfl,Nat.le_refl _,fun _ _ _=>rfl⟩,fun cells t ro hb=>⟨cells,hb,rfl⟩⟩
theorem grow_trans {w w' w'':World} {g:Nat} (h:Fr w w' g) (k:Fr w' w'' g):Fr w w'' g:=
 ⟨⟨k.1.os.trans h.1.os,k.1.tape.trans h.1.tape,k.1.output.trans h.1.output,Nat.le_trans h.1.size k.1.size,fun i hi hne=>(k.1.block i (Nat.lt_of_lt_of_le hi h.1.size) hne).trans (h.1.block i hi hne)⟩,
  fun cells t ro hb=>by
  obtain⟨c',h1,h2⟩:=h.2 cells t ro hb;obtain⟨c2,h3,h4⟩:=k.2 c' t ro h1;exact⟨c2,h3,h4.trans h2⟩⟩
theorem grow_below {w w':World} {g:Nat} (h:Below w.heap.size w w'):Fr w w' g:=
 ⟨grown_of_below h _,fun cells t ro hb=>⟨cells,(h.block g (Array.getElem?_eq_some_iff.1 hb).1).trans hb,rfl⟩⟩
def swapM (M:Nat→S79) (a b n:Nat) (x:Nat):S79:=if a≤x∧x<a+n then M (x - a+b) else if b≤x∧x<b+n then M (x - b+a) else M x
set_option maxHeartbeats 2000000 in
set_option maxRecDepth 100000 in
theorem swapRange_calls (g N cap:Nat) (M:Nat→S79) (a b n:Nat) (f:Value) (w:World) (h:Arr w g N M) (hN:N≤1000000) (ha:a+n≤b) (hb:b+n≤N):
  Calls Try.prog 112 #[.slice (some ⟨g,0,none⟩) N cap, .int .i64 (a:Int), .int .i64 (b:Int), .int .i64 (n:Int),f] w fun e w'=>e= .returned (.tuple #[])∧Arr w' g N (swapM M a b n)∧Fr w w' g:=by
 have HA:=Ya h;clear h;go_enter Try.func112,Try.ntmps112;go_wp2;go_loopw [10] (fun i wr=> ∃ k:Nat,k≤n∧i= .int .i64 k∧Aside0 (Arr wr g N (swapM M a b k))∧Aside0 (Fr w wr g)) (fun i _=>n - (intOf i).toNat)
 case atStart=>exact⟨0,Nat.zero_le _,rfl,⟨HA.out.congr fun x _=>by unfold swapM;rw[Yy (by omega),Yy (by omega)]⟩,⟨grow_refl _ _⟩⟩
 case round=>
  obtain⟨k,hk,rfl,HA1,HG⟩:=hrel;by_cases hlt:k<n
  ·have c0:=HA1.out.cell0 (x:=b+k) (by omega)
   have c1:=HA1.out.cell1 (x:=b+k) (by omega);have d0:=HA1.out.cell0 (x:=a+k) (by omega);have d1:=HA1.out.cell1 (x:=a+k) (by omega);have f0:=HA1.out.free;obtain⟨s1,hs1⟩: ∃ s,swapM M a b k (b+k)=s:=⟨_,rfl⟩;obtain⟨s2,hs2⟩: ∃ s,swapM M a b k (a+k)=s:=⟨_,rfl⟩;rw[hs1] at c0 c1;rw[hs2] at d0 d1;have HE:Aside0 (∀ x,upd (upd (swapM M a b k) (a+k) s1) (b+k) s2 x=swapM M a b (k+1) x):=⟨fun x=>by
    rw[← hs1, ← hs2];unfold upd swapM;by_cases e1:x=b+k
    ·subst e1
     rw[Yx rfl,Yy (by omega),Yy (by omega),Yy (by omega),Yx (by omega)];congr 1;omega
    ·rw[Yy e1]
     by_cases e2:x=a+k
     ·subst e2
      rw[Yx rfl,Yy (by omega),Yy (by omega),Yx (by omega)];congr 1;omega
     ·rw[Yy e2]
      by_cases e3:a≤x∧x<a+k
      ·rw[Yx e3,Yx (by omega)]
      ·rw[Yy e3,Yy (show ¬ (a≤x∧x<a+(k+1)) by omega)]
       by_cases e4:b≤x∧x<b+k
       ·rw[Yx e4,Yx (by omega)]
       ·rw[Yy e4,Yy (by omega)]⟩
   clear hs1 hs2;go_wp2;go_region;have HA2:Aside0 (Arr (((((wr.setCell ⟨g,(a+k) * 2,none⟩ (.int .i64 s1.f0)).setCell ⟨g,(a+k) * 2+1,none⟩ (.bool s1.f1)).setCell ⟨g,(b+k) * 2,none⟩ (.int .i64 s2.f0)).setCell ⟨g,(b+k) * 2+1,none⟩ (.bool s2.f1)).drew) g N (swapM M a b (k+1))):=
    ⟨(((HA1.out.put (by omega) s1).put (by omega) s2).drew).congr fun x _=>(HE.out x).symm⟩
   have HG2:=Ya (grow_drew (grow_set (grow_set (grow_set (grow_set HG.out ((a+k) * 2) (.int .i64 s1.f0)) ((a+k) * 2+1) (.bool s1.f1)) ((b+k) * 2) (.int .i64 s2.f0)) ((b+k) * 2+1) (.bool s2.f1)));clear c0 c1 d0 d1 f0 HA1 HG HE;go_wp2;go_roundw
   case rel=>exact⟨k+1,by omega,by go_num,HA2,HG2⟩
   case measure=>simp[intOf];omega
  ·have e:k=n:=by omega
   subst e;go_wp2;go_end0;exact⟨rfl,HA1.out,HG.out⟩
def rotM (M:Nat→S79) (a m b:Nat) (x:Nat):S79:=if a≤x∧x<b then(if x<a+(b - m) then M (x+(m - a)) else M (x - (b - m))) else M x
def RotAt (M K:Nat→S79) (a m b i j:Nat):Prop:=
 (∀ x, ¬ (m - i≤x∧x<m+j)→K x=rotM M a m b x)∧(∀ x,m - i≤x→x<m - i+j→rotM M a m b x=K (x+i))∧(∀ x,m - i+j≤x→x<m+j→rotM M a m b x=K (x - j))
theorem rot_start (M:Nat→S79) {a m b:Nat} (h1:a≤m) (h2:m≤b):RotAt M M a m b (m - a) (b - m):=by
 refine⟨fun x hx=> ?_,fun x h3 h4=> ?_,fun x h3 h4=> ?_⟩
 ·unfold rotM;rw[Yy (by omega)]
 ·unfold rotM;rw[Yx (by omega),Yx (by omega)]
 ·unfold rotM;rw[Yx (by omega),Yy (by omega)]
theorem rot_left {M K:Nat→S79} {a m b i j:Nat} (h:RotAt M K a m b i j) (hj:0<j) (hij:j<i) (him:i≤m):RotAt M (swapM K (m - i) m j) a m b (i - j) j:=by
 obtain⟨h1,h2,h3⟩:=h;refine⟨fun x hx=> ?_,fun x h4 h5=> ?_,fun x h4 h5=> ?_⟩
 ·unfold swapM
  by_cases e:m - i≤x∧x<m - i+j
  ·rw[Yx e,h2 x e.1 e.2]
   congr 1;omega
  ·rw[Yy e,Yy (by omega)]
   exact h1 x (by omega)
 ·rw[h3 x (by omega) (by omega)]
  unfold swapM;rw[Yy (by omega),Yx (by omega)];congr 1;omega
 ·rw[h3 x (by omega) (by omega)]
  unfold swapM;rw[Yy (by omega),Yy (by omega)]
theorem rot_right {M K:Nat→S79} {a m b i j:Nat} (h:RotAt M K a m b i j) (hi:0<i) (hij:i<j) (him:i≤m):RotAt M (swapM K (m - i) (m+j - i) i) a m b i (j - i):=by
 obtain⟨h1,h2,h3⟩:=h;refine⟨fun x hx=> ?_,fun x h4 h5=> ?_,fun x h4 h5=> ?_⟩
 ·unfold swapM
  rw[Yy (by omega)];by_cases e:m+j - i≤x∧x<m+j - i+i
  ·rw[Yx e,h3 x (by omega) (by omega)]
   congr 1;omega
  ·rw[Yy e]
   exact h1 x (by omega)
 ·rw[h2 x (by omega) (by omega)]
  unfold swapM;rw[Yy (by omega),Yy (by omega)]
 ·rw[h2 x (by omega) (by omega)]
  unfold swapM;rw[Yx (by omega)];congr 1;omega
theorem rot_last {M K:Nat→S79} {a m b i:Nat} (h:RotAt M K a m b i i) (him:i≤m) (x:Nat):swapM K (m - i) m i x=rotM M a m b x:=by
 obtain⟨h1,h2,h3⟩:=h;unfold swapM;by_cases e:m - i≤x∧x<m - i+i
 ·rw[Yx e,h2 x e.1 e.2]
  congr 1;omega
 ·rw[Yy e]
  by_cases e2:m≤x∧x<m+i
  ·rw[Yx e2,h3 x (by omega) (by omega)]
   congr 1;omega
  ·rw[Yy e2]
   exact h1 x (by omega)
set_option maxHeartbeats 2000000 in
set_option maxRecDepth 100000 in
theorem rotate_calls (g N cap:Nat) (M:Nat→S79) (a m b:Nat) (f:Value) (w:World) (h:Arr w g N M) (hN:N≤1000000) (ham:a<m) (hmb:m<b) (hb:b≤N):
  Calls Try.prog 109 #[.slice (some ⟨g,0,none⟩) N cap, .int .i64 (a:Int), .int .i64 (m:Int), .int .i64 (b:Int),f] w fun e w'=>e= .returned (.tuple #[])∧Arr w' g N (rotM M a m b)∧Fr w w' g:=by
 have HA:=Ya h;clear h;go_enter Try.func109,Try.ntmps109;go_wp2;go_loopw [10,11] (fun vi vj wr=> ∃ i j:Nat,0<i∧0<j∧i≤m - a∧j≤b - m∧vi= .int .i64 i∧vj= .int .i64 j∧(∃ K,Aside0 (RotAt M K a m b i j)∧Aside0 (Arr wr g N K))∧Aside0 (Fr w wr g)) (fun vi vj _=>(intOf vi).toNat+(intOf vj).toNat)
 case atStart=>exact⟨m - a,b - m,by omega,by omega,Nat.le_refl _,Nat.le_refl _,by rw[Int.natCast_sub (by omega)],by rw[Int.natCast_sub (by omega)],⟨M,⟨rot_start M (by omega) (by omega)⟩,HA⟩,⟨grow_refl _ _⟩⟩
 case round=>
  obtain⟨i,j,hi,hj,him,hjb,rfl,rfl,⟨K,HK,HA1⟩,HG⟩:=hrel;have e0:(m:Int) - (i:Int)=((m - i:Nat):Int):=by omega
  have E0:=Ya e0;by_cases hij:i=j
  ·subst hij
   have hne:((i:Int) != (i:Int))=false:=by simp
   clear e0;go_wp2_with fail;rw[E0.out];refine(swapRange_calls g N cap K (m - i) m i f _ HA1.out hN (by omega) (by omega)).mono ?_;rintro e w1 ⟨rfl,ha1,hg1⟩;have HA2:=Ya ha1;have HG2:=Ya (grow_trans HG.out hg1);clear ha1 hg1;go_wp2_with fail;go_end0;exact⟨rfl,HA2.out.congr fun x _=>(rot_last HK.out (by omega) x).symm,HG2.out⟩
  ·have hne:((i:Int) != (j:Int))=true:=by rw[bne_iff_ne];omega
   by_cases hlt:j<i
   ·have e1:(i:Int) - (j:Int)=((i - j:Nat):Int):=by omega
    have E1:=Ya e1;clear e0 e1;go_wp2_with fail;rw[E0.out];refine(swapRange_calls g N cap K (m - i) m j f _ HA1.out hN (by omega) (by omega)).mono ?_;rintro e w1 ⟨rfl,ha1,hg1⟩;have HA2:=Ya ha1;have HG2:=Ya (grow_trans HG.out hg1);clear ha1 hg1;go_wp2_with fail;go_roundw
    case rel=>exact⟨i - j,j,by omega,hj,by omega,hjb,by rw[E1.out],rfl,⟨_,⟨rot_left HK.out hj hlt (by omega)⟩,HA2⟩,HG2⟩
    case measure=>simp[intOf];omega
   ·have e1:(j:Int) - (i:Int)=((j - i:Nat):Int):=by omega
    have E1:=Ya e1;have e2:(m:Int)+(j:Int) - (i:Int)=((m+j - i:Nat):Int):=by omega
    have E2:=Ya e2;clear e0 e1 e2;go_wp2_with fail;rw[E0.out,E2.out];refine(swapRange_calls g N cap K (m - i) (m+j - i) i f _ HA1.out hN (by omega) (by omega)).mono ?_;rintro e w1 ⟨rfl,ha1,hg1⟩;have HA2:=Ya ha1;have HG2:=Ya (grow_trans HG.out hg1);clear ha1 hg1;go_wp2_with fail;go_roundw
    case rel=>exact⟨i,j - i,hi,by omega,him,by omega,rfl,by rw[E1.out],⟨_,⟨rot_right HK.out hi (by omega) (by omega)⟩,HA2⟩,HG2⟩
    case measure=>simp[intOf];omega
end H
namespace H
open P
def Le (K:Nat→S79) (a b:Nat):Prop:= ∀ i j,a≤i→i<j→j<b→(K i).f0≤(K j).f0
def Stab (M:Nat→S79) (N:Nat):Prop:= ∀ i j,i<j→j<N→(M i).f0=(M j).f0→(M i).f1=false∧(M j).f1=true
def Small (M:Nat→S79) (N:Nat):Prop:= ∀ i,i<N→0≤(M i).f0∧(M i).f0≤1000000
def Mix (M K:Nat→S79) (a b:Nat):Prop:=
 (∀ x, ¬ (a≤x∧x<b)→K x=M x)∧(∀ x,a≤x→x<b→ ∃ y,a≤y∧y<b∧K x=M y)∧(∀ y,a≤y→y<b→ ∃ x,a≤x∧x<b∧K x=M y)
theorem mix_refl (M:Nat→S79) (a b:Nat):Mix M M a b:=⟨fun _ _=>rfl,fun x h1 h2=>⟨x,h1,h2,rfl⟩,fun x h1 h2=>⟨x,h1,h2,rfl⟩⟩
theorem mix_trans {M K L:Nat→S79} {a b:Nat} (h:Mix M K a b) (k:Mix K L a b):Mix M L a b:=by
 refine⟨fun x hx=>(k.1 x hx).trans (h.1 x hx),fun x h1 h2=> ?_,fun y h1 h2=> ?_⟩
 ·obtain⟨y,h3,h4,e⟩:=k.2.1 x h1 h2
  obtain⟨z,h5,h6,e2⟩:=h.2.1 y h3 h4;exact⟨z,h5,h6,e.trans e2⟩
 ·obtain⟨x,h3,h4,e⟩:=h.2.2 y h1 h2
  obtain⟨z,h5,h6,e2⟩:=k.2.2 x h3 h4;exact⟨z,h5,h6,e2.trans e⟩
theorem mix_wide {M K:Nat→S79} {a b a' b':Nat} (h:Mix M K a b) (ha:a'≤a) (hb:b≤b'):Mix M K a' b':=by
 refine⟨fun x hx=>h.1 x (by omega),fun x h1 h2=> ?_,fun y h1 h2=> ?_⟩
 ·by_cases e:a≤x∧x<b
  ·obtain⟨y,h3,h4,e⟩:=h.2.1 x e.1 e.2
   exact⟨y,by omega,by omega,e⟩
  ·exact⟨x,h1,h2,h.1 x e⟩
 ·by_cases e:a≤y∧y<b
  ·obtain⟨x,h3,h4,e⟩:=h.2.2 y e.1 e.2
   exact⟨x,by omega,by omega,e⟩
  ·exact⟨y,h1,h2,h.1 y e⟩
theorem mix_small {M K:Nat→S79} {a b N:Nat} (h:Mix M K a b) (hb:b≤N) (hs:Small M N):Small K N:=fun x hx=>by
 by_cases e:a≤x∧x<b
 ·obtain⟨y,h3,h4,e⟩:=h.2.1 x e.1 e.2
  rw[e];exact hs y (by omega)
 ·rw[h.1 x e];exact hs x hx
def sw (K:Nat→S79) (p x:Nat):S79:=if x=p then K (p+1) else if x=p+1 then K p else K x
theorem sw_put1 (K:Nat→S79) (p x:Nat):upd (upd K (p+1) (K p)) p (K (p+1)) x=sw K p x:=by
 unfold upd sw;rfl
theorem sw_put2 (K:Nat→S79) (p x:Nat):upd (upd K p (K (p+1))) (p+1) (K p) x=sw K p x:=by
 unfold upd sw;by_cases e:x=p
 ·subst e;rw[Yy (by omega),Yx rfl,Yx rfl]
 ·by_cases e2:x=p+1
  ·rw[Yx e2,Yy e,Yx e2]
  ·rw[Yy e2,Yy e,Yy e,Yy e2]
theorem sw_at (K:Nat→S79) (p:Nat):sw K p p=K (p+1):=Yx rfl
theorem sw_at1 (K:Nat→S79) (p:Nat):sw K p (p+1)=K p:=by unfold sw;rw[Yy (by omega),Yx rfl]
theorem sw_off (K:Nat→S79) (p x:Nat) (h:x≠p) (h1:x≠p+1):sw K p x=K x:=by unfold sw;rw[Yy h,Yy h1]
theorem sw_mix (K:Nat→S79) (p a b:Nat) (ha:a≤p) (hb:p+1<b):Mix K (sw K p) a b:=by
 refine⟨fun x hx=>sw_off K p x (by omega) (by omega),fun x h1 h2=> ?_,fun x h1 h2=> ?_⟩
 ·by_cases e:x=p
  ·subst e;exact⟨x+1,by omega,by omega,sw_at K x⟩
  ·by_cases e2:x=p+1
   ·subst e2;exact⟨p,by omega,by omega,sw_at1 K p⟩
   ·exact⟨x,h1,h2,sw_off K p x e e2⟩
 ·by_cases e:x=p
  ·subst e;exact⟨x+1,by omega,by omega,sw_at1 K x⟩
  ·by_cases e2:x=p+1
   ·subst e2;exact⟨p,by omega,by omega,sw_at K p⟩
   ·exact⟨x,h1,h2,sw_off K p x e e2⟩
theorem sw_stab {K:Nat→S79} {p N:Nat} (h:Stab K N) (hp:p+1<N) (hlt:(K (p+1)).f0<(K p).f0):Stab (sw K p) N:=by
 intro i j hij hj he;have h0: ∀ x,x=p∨x=p+1∨(x≠p∧x≠p+1):=fun x=>by omega
 rcases h0 i with rfl|rfl|⟨i1,i2⟩<;>rcases h0 j with e|e|⟨j1,j2⟩
 ·omega
 ·subst e;rw[sw_at,sw_at1] at he;omega
 ·rw[sw_at,sw_off _ _ _ j1 j2] at he ⊢;exact h _ _ (by omega) hj he
 ·omega
 ·omega
 ·rw[sw_at1,sw_off _ _ _ j1 j2] at he ⊢;exact h _ _ (by omega) hj he
 ·subst e;rw[sw_at,sw_off _ _ _ i1 i2] at he ⊢;exact h _ _ (by omega) (by omega) he
 ·subst e;rw[sw_at1,sw_off _ _ _ i1 i2] at he ⊢;exact h _ _ (by omega) (by omega) he
 ·rw[sw_off _ _ _ i1 i2,sw_off _ _ _ j1 j2] at he ⊢;exact h _ _ hij hj he
def Hole (K:Nat→S79) (a k j:Nat):Prop:=
 (∀ x y,a≤x→x<y→y≤k→x≠j→y≠j→(K x).f0≤(K y).f0)∧(∀ y,j<y→y≤k→(K j).f0≤(K y).f0)
theorem hole_start {K:Nat→S79} {a k:Nat} (h:Le K a k):Hole K a k k:=⟨fun x y h1 h2 h3 h4 h5=>h x y h1 h2 (by omega),fun y h1 h2=>by omega⟩
theorem hole_stop {K:Nat→S79} {a k j:Nat} (h:Hole K a k j) (hj:j=a∨(a<j∧(K (j - 1)).f0≤(K j).f0)):Le K a (k+1):=by
 intro x y h1 h2 h3;by_cases e1:x=j
 ·subst e1;exact h.2 y h2 (by omega)
 ·by_cases e2:y=j
  ·subst e2
   rcases hj with hj|⟨hj,hle⟩
   ·omega
   ·by_cases e3:x=y - 1
    ·subst e3;exact hle
    ·exact Int.le_trans (h.1 x (y - 1) h1 (by omega) (by omega) e1 (by omega)) hle
  ·exact h.1 x y h1 h2 (by omega) e1 e2
theorem hole_swap {K:Nat→S79} {a k p:Nat} (h:Hole K a k (p+1)) (ha:a≤p) (hk:p+1≤k) (hlt:(K (p+1)).f0<(K p).f0):Hole (sw K p) a k p:=by
 refine⟨fun x y h1 h2 h3 h4 h5=> ?_,fun y h1 h2=> ?_⟩
 ·by_cases e1:x=p+1
  ·subst e1;rw[sw_at1,sw_off _ _ _ h5 (by omega)];exact h.1 p y (by omega) (by omega) h3 (by omega) (by omega)
  ·by_cases e2:y=p+1
   ·subst e2;rw[sw_at1,sw_off _ _ _ h4 e1];exact h.1 x p h1 (by omega) (by omega) e1 (by omega)
   ·rw[sw_off _ _ _ h4 e1,sw_off _ _ _ h5 e2];exact h.1 x y h1 h2 h3 e1 e2
 ·rw[sw_at]
  by_cases e2:y=p+1
  ·subst e2;rw[sw_at1];omega
  ·rw[sw_off _ _ _ (by omega) e2];exact h.2 y (by omega) h2
def Sorted (M K:Nat→S79) (N a b:Nat):Prop:=Mix M K a b∧Stab K N∧Small K N∧Le K a b
theorem le_one (K:Nat→S79) (a b:Nat) (h:b≤a+1):Le K a b:=fun i j h1 h2 h3=>by omega
theorem rot_lo (M:Nat→S79) {s m e x:Nat} (h1:s≤x) (h2:x<s+(e - m)) (h3:m≤e) (h4:s≤m):rotM M s m e x=M (x+(m - s)):=by
 unfold rotM;rw[Yx (by omega),Yx h2]
theorem rot_hi (M:Nat→S79) {s m e x:Nat} (h1:s+(e - m)≤x) (h2:x<e) (h4:s≤m):rotM M s m e x=M (x - (e - m)):=by
 unfold rotM;rw[Yx (by omega),Yy (by omega)]
theorem rot_off (M:Nat→S79) {s m e x:Nat} (h: ¬ (s≤x∧x<e)):rotM M s m e x=M x:=by
 unfold rotM;rw[Yy h]
theorem rot_mix (M:Nat→S79) {s m e:Nat} (h1:s≤m) (h2:m≤e):Mix M (rotM M s m e) s e:=by
 refine⟨fun x hx=>rot_off M hx,fun x h3 h4=> ?_,fun x h3 h4=> ?_⟩
 ·by_cases c:x<s+(e - m)
  ·exact⟨x+(m - s),by omega,by omega,rot_lo M h3 c h2 h1⟩
  ·exact⟨x - (e - m),by omega,by omega,rot_hi M (by omega) h4 h1⟩
 ·by_cases c:x<m
  ·refine⟨x+(e - m),by omega,by omega,?_⟩
   rw[rot_hi M (by omega) (by omega) h1];congr 1;omega
  ·refine⟨x - (m - s),by omega,by omega,?_⟩
   rw[rot_lo M (by omega) (by omega) h2 h1];congr 1;omega
theorem rot_stab {M:Nat→S79} {N s m e:Nat} (h:Stab M N) (h1:s≤m) (h2:m≤e) (he:e≤N) (hc: ∀ x y,s≤x→x<m→m≤y→y<e→(M y).f0<(M x).f0):Stab (rotM M s m e) N:=by
 intro i j hij hj heq;have h0: ∀ x, ¬ (s≤x∧x<e)∨(s≤x∧x<s+(e - m))∨(s+(e - m)≤x∧x<e):=fun x=>by omega
 rcases h0 i with a1|⟨a1,a2⟩|⟨a1,a2⟩<;>rcases h0 j with b1|⟨b1,b2⟩|⟨b1,b2⟩
 ·rw[rot_off M a1,rot_off M b1] at heq ⊢;exact h _ _ hij hj heq
 ·rw[rot_off M a1,rot_lo M b1 b2 h2 h1] at heq ⊢;exact h _ _ (by omega) (by omega) heq
 ·rw[rot_off M a1,rot_hi M b1 b2 h1] at heq ⊢;exact h _ _ (by omega) (by omega) heq
 ·rw[rot_lo M a1 a2 h2 h1,rot_off M b1] at heq ⊢;exact h _ _ (by omega) (by omega) heq
 ·rw[rot_lo M a1 a2 h2 h1,rot_lo M b1 b2 h2 h1] at heq ⊢;exact h _ _ (by omega) (by omega) heq
 ·rw[rot_lo M a1 a2 h2 h1,rot_hi M b1 b2 h1] at heq;have:=hc (j - (e - m)) (i+(m - s)) (by omega) (by omega) (by omega) (by omega);omega
 ·rw[rot_hi M a1 a2 h1,rot_off M b1] at heq ⊢;exact h _ _ (by omega) (by omega) heq
 ·omega
 ·rw[rot_hi M a1 a2 h1,rot_hi M b1 b2 h1] at heq ⊢;exact h _ _ (by omega) (by omega) heq
theorem rot_none (M:Nat→S79) {s m e:Nat} (h1:s≤m) (h2:m≤e) (h:s=m∨m=e) (x:Nat):rotM M s m e x=M x:=by
 by_cases c:s≤x∧x<e
 ·rcases h with h|h
  ·subst h;rw[rot_lo M c.1 (by omega) h2 h1];congr 1;omega
  ·subst h;rw[rot_hi M (by omega) c.2 h1];congr 1;omega
 ·exact rot_off M c
theorem le_le {K:Nat→S79} {a b x y:Nat} (h:Le K a b) (h1:a≤x) (h2:x≤y) (h3:y<b):(K x).f0≤(K y).f0:=by
 by_cases e:x=y
 ·subst e;exact Int.le_refl _
 ·exact h x y h1 (by omega) h3
theorem le_join {K:Nat→S79} {a m b:Nat} (h1:Le K a m) (h2:Le K m b) (hc: ∀ x y,a≤x→x<m→m≤y→y<b→(K x).f0≤(K y).f0):Le K a b:=by
 intro i j hi hij hj;by_cases e:j<m
 ·exact h1 i j hi hij e
 ·by_cases e2:i<m
  ·exact hc i j hi e2 (by omega) hj
  ·exact h2 i j (by omega) hij hj
theorem rot_one_lo {M:Nat→S79} {a b i:Nat} (h:Le M (a+1) b) (h1:a+1≤i) (h2:i≤b) (hlt: ∀ y,a+1≤y→y<i→(M y).f0<(M a).f0) (hge: ∀ y,i≤y→y<b→(M a).f0≤(M y).f0):Le (rotM M a (a+1) i) a b:=by
 have lo: ∀ x,a≤x→x+1<i→rotM M a (a+1) i x=M (x+1):=fun x h3 h4=>by rw[rot_lo M h3 (by omega) h1 (by omega)];congr 1;omega
 have at_:rotM M a (a+1) i (i - 1)=M a:=by rw[rot_hi M (by omega) (by omega) (by omega)];congr 1;omega
 have hi: ∀ x,i≤x→rotM M a (a+1) i x=M x:=fun x h3=>rot_off M (by omega)
 intro x y h3 h4 h5;by_cases c1:x+1<i
 ·rw[lo x h3 c1]
  by_cases c2:y+1<i
  ·rw[lo y (by omega) c2];exact h _ _ (by omega) (by omega) (by omega)
  ·by_cases c3:y=i - 1
   ·subst c3;rw[at_];have:=hlt (x+1) (by omega) c1;omega
   ·rw[hi y (by omega)];exact h _ _ (by omega) (by omega) (by omega)
 ·by_cases c2:x=i - 1
  ·subst c2;rw[at_,hi y (by omega)];exact hge y (by omega) h5
  ·rw[hi x (by omega),hi y (by omega)];exact h _ _ (by omega) h4 h5
theorem rot_one_hi {M:Nat→S79} {a m i:Nat} (h:Le M a m) (h1:a≤i) (h2:i≤m) (hle: ∀ y,a≤y→y<i→(M y).f0≤(M m).f0) (hgt: ∀ y,i≤y→y<m→(M m).f0<(M y).f0):Le (rotM M i m (m+1)) a (m+1):=by
 have lo: ∀ x,x<i→rotM M i m (m+1) x=M x:=fun x h3=>rot_off M (by omega)
 have at_:rotM M i m (m+1) i=M m:=by rw[rot_lo M (Nat.le_refl _) (by omega) (by omega) h2];congr 1;omega
 have hi: ∀ x,i<x→x<m+1→rotM M i m (m+1) x=M (x - 1):=fun x h3 h4=>by rw[rot_hi M (by omega) h4 h2];congr 1;omega
 intro x y h3 h4 h5;by_cases c1:x<i
 ·rw[lo x c1]
  by_cases c2:y<i
  ·rw[lo y c2];exact h _ _ h3 h4 (by omega)
  ·by_cases c3:y=i
   ·subst c3;rw[at_];exact hle x h3 c1
   ·rw[hi y (by omega) h5];exact h _ _ h3 (by omega) (by omega)
 ·by_cases c2:x=i
  ·subst c2;rw[at_,hi y h4 h5];have:=hgt (y - 1) (by omega) (by omega);omega
  ·rw[hi x (by omega) (by omega),hi y (by omega) h5];exact h _ _ (by omega) (by omega) (by omega)
theorem sym_rot {M:Nat→S79} {a m b mid s e N:Nat} (h1:Le M a m) (h2:Le M m b) (has:a≤s) (hsm:s≤m) (hme:m≤e) (heb:e≤b) (hsum:s+e=mid+m) (hsmid:s≤mid) (hmide:mid≤e)
  (hge:a<s→e<b→(M (s - 1)).f0≤(M e).f0) (hlt:s<m→m<e→(M (e - 1)).f0<(M s).f0) (hst:Stab M N) (hb:b≤N):
  Stab (rotM M s m e) N∧Le (rotM M s m e) a s∧Le (rotM M s m e) s mid∧Le (rotM M s m e) mid e∧Le (rotM M s m e) e b∧ ∀ x y,a≤x→x<mid→mid≤y→y<b→(rotM M s m e x).f0≤(rotM M s m e y).f0:=by
 have hx: ∀ x y,s≤x→x<m→m≤y→y<e→(M y).f0<(M x).f0:=fun x y h3 h4 h5 h6=>by
  have k1:=hlt (by omega) (by omega);have k2:(M y).f0≤(M (e - 1)).f0:=le_le h2 h5 (by omega) (by omega);have k3:(M s).f0≤(M x).f0:=le_le h1 has h3 h4;omega
 have hy: ∀ x y,a≤x→x<s→e≤y→y<b→(M x).f0≤(M y).f0:=fun x y h3 h4 h5 h6=>by
  have k1:=hge (by omega) (by omega);have k2:(M x).f0≤(M (s - 1)).f0:=le_le h1 h3 (by omega) (by omega);have k3:(M e).f0≤(M y).f0:=le_le h2 hme h5 h6;omega
 have p1: ∀ x,x<s→rotM M s m e x=M x:=fun x h=>rot_off M (by omega)
 have p2: ∀ x,s≤x→x<mid→rotM M s m e x=M (x+(m - s)):=fun x h3 h4=>rot_lo M h3 (by omega) hme hsm
 have p3: ∀ x,mid≤x→x<e→rotM M s m e x=M (x - (e - m)):=fun x h3 h4=>rot_hi M (by omega) h4 hsm
 have p4: ∀ x,e≤x→rotM M s m e x=M x:=fun x h=>rot_off M (by omega)
 refine⟨rot_stab hst hsm hme (by omega) hx,?_,?_,?_,?_,?_⟩
 ·intro x y h3 h4 h5;rw[p1 x (by omega),p1 y h5];exact h1 _ _ h3 h4 (by omega)
 ·intro x y h3 h4 h5;rw[p2 x h3 (by omega),p2 y (by omega) h5];exact h2 _ _ (by omega) (by omega) (by omega)
 ·intro x y h3 h4 h5;rw[p3 x h3 (by omega),p3 y (by omega) h5];exact h1 _ _ (by omega) (by omega) (by omega)
 ·intro x y h3 h4 h5;rw[p4 x h3,p4 y (by omega)];exact h2 _ _ (by omega) h4 h5
 ·intro x y h3 h4 h5 h6
  by_cases c1:x<s
  ·rw[p1 x c1]
   by_cases c2:y<e
   ·rw[p3 y h5 c2];exact le_le h1 h3 (by omega) (by omega)
   ·rw[p4 y (by omega)];exact hy x y h3 c1 (by omega) h6
  ·rw[p2 x (by omega) h4]
   by_cases c2:y<e
   ·rw[p3 y h5 c2];exact Int.le_of_lt (hx _ _ (by omega) (by omega) (by omega) (by omega))
   ·rw[p4 y (by omega)];exact le_le h2 (by omega) (by omega) h6
theorem mix_cross {K L:Nat→S79} {a m b:Nat} (hc: ∀ x y,a≤x→x<m→m≤y→y<b→(K x).f0≤(K y).f0) (h:Mix K L a m∨Mix K L m b):
  ∀ x y,a≤x→x<m→m≤y→y<b→(L x).f0≤(L y).f0:=by
 intro x y h1 h2 h3 h4;rcases h with h|h
 ·obtain⟨z,h5,h6,e⟩:=h.2.1 x h1 h2
  rw[e,h.1 y (by omega)];exact hc z y h5 h6 h3 h4
 ·obtain⟨z,h5,h6,e⟩:=h.2.1 y h3 h4
  rw[e,h.1 x (by omega)];exact hc x z h1 h2 h5 h6
theorem mix_le {K L:Nat→S79} {a b c d:Nat} (h:Mix K L c d) (hd:b≤c∨d≤a) (hl:Le K a b):Le L a b:=fun i j h1 h2 h3=>by
 rw[h.1 i (by omega),h.1 j (by omega)];exact hl i j h1 h2 h3
theorem sw_rot_lo (M:Nat→S79) {a k:Nat} (h:a≤k) (x:Nat):sw (rotM M a (a+1) (k+1)) k x=rotM M a (a+1) (k+2) x:=by
 unfold sw rotM;by_cases e1:x=k
 ·subst e1;rw[Yx rfl,Yy (by omega),Yx (by omega),Yx (by omega)];congr 1;omega
 ·rw[Yy e1]
  by_cases e2:x=k+1
  ·subst e2;rw[Yx rfl,Yx (by omega),Yy (by omega),Yx (by omega),Yy (by omega)];congr 1;omega
  ·rw[Yy e2]
   by_cases e3:a≤x∧x<k
   ·rw[Yx (by omega),Yx (by omega),Yx (by omega),Yx (by omega)]
   ·rw[Yy (by omega),Yy (by omega)]
theorem sw_rot_hi (M:Nat→S79) {k m:Nat} (h:k<m) (x:Nat):sw (rotM M (k+1) m (m+1)) k x=rotM M k m (m+1) x:=by
 unfold sw rotM;by_cases e1:x=k
 ·subst e1;rw[Yx rfl,Yx (by omega),Yx (by omega),Yx (by omega),Yx (by omega)];congr 1;omega
 ·rw[Yy e1]
  by_cases e2:x=k+1
  ·subst e2;rw[Yx rfl,Yy (by omega),Yx (by omega),Yy (by omega)];congr 1;omega
  ·rw[Yy e2]
   by_cases e3:k≤x∧x<m+1
   ·rw[Yx (by omega),Yy (by omega),Yx (by omega),Yy (by omega)]
   ·rw[Yy (by omega),Yy (by omega)]
end H
namespace P
attribute [local go_sem] max2_int min2_int max_two min_two max_three min_three max_four min_four
def adj_from.f (Zc:Int) (Zb:Int) (a0_2:Int) (a0_3:Int):Option (Int):=some Zc
set_option maxHeartbeats 8000000 in
set_option maxRecDepth 100000 in
theorem adj_from.calls (Zc:Int) (Zb:Int) (a0_2:Int) (a0_3:Int) (r:Int) (w:World) (h:adj_from.f Zc Zb a0_2 a0_3=some r):
  Calls Try.prog 96 #[.agg #[.int .i64 Zc, .int .i64 Zb, .int .i64 a0_2, .int .i64 a0_3]] w fun e w'=>e= .returned (.int .i64 r)∧Below w.heap.size w w':=by
 have hu50:=Try.underlying50;have HB:=Ya (Yo w.heap.size w);have H:=h;unfold adj_from.f at H;clear h;obtain rfl:=Option.some.inj H;go_enter Try.func96,Try.ntmps96;go_wp2_with (first|(refine bx 1 50 #[.int .i64 Zc, .int .i64 Zb, .int .i64 a0_2, .int .i64 a0_3] ?_;intro gb120 hg w2 Zf hb;have BK120:=Ya (Zf);have GW120:=Ya ((sz hg));have GE120:=Ya ((sz hg));replace HB:=Ya (Yk bl hb);clear hb Zf hg;have hcz3_0:w2.cell? ⟨gb120,0,none⟩=some (.int .i64 Zc):=bc BK120 0;have hcz3_1:w2.cell? ⟨gb120,1,none⟩=some (.int .i64 Zb):=bc BK120 1;have hcz3_2:w2.cell? ⟨gb120,2,none⟩=some (.int .i64 a0_2):=bc BK120 2;have hcz3_3:w2.cell? ⟨gb120,3,none⟩=some (.int .i64 a0_3):=bc BK120 3;have hfz3_0:=Yf BK120.out 0;have hfz3_1:=Yf BK120.out 1;have hfz3_2:=Yf BK120.out 2;have hfz3_3:=Yf BK120.out 3));go_ret;exact⟨by first|rfl|(simp[errW_none,errW_some]<;>rfl)|(simp[*,errW_none,errW_some]<;>rfl),HB.out⟩
end P
namespace P
attribute [local go_sem] max2_int min2_int max_two min_two max_three min_three max_four min_four
def adj_to.f (Zc:Int) (Zb:Int) (a0_2:Int) (a0_3:Int):Option (Int):=some Zb
set_option maxHeartbeats 8000000 in
set_option maxRecDepth 100000 in
theorem adj_to.calls (Zc:Int) (Zb:Int) (a0_2:Int) (a0_3:Int) (r:Int) (w:World) (h:adj_to.f Zc Zb a0_2 a0_3=some r):
  Calls Try.prog 97 #[.agg #[.int .i64 Zc, .int .i64 Zb, .int .i64 a0_2, .int .i64 a0_3]] w fun e w'=>e= .returned (.int .i64 r)∧Below w.heap.size w w':=by
 have hu50:=Try.underlying50;have HB:=Ya (Yo w.heap.size w);have H:=h;unfold adj_to.f at H;clear h;obtain rfl:=Option.some.inj H;go_enter Try.func97,Try.ntmps97;go_wp2_with (first|(refine bx 1 50 #[.int .i64 Zc, .int .i64 Zb, .int .i64 a0_2, .int .i64 a0_3] ?_;intro gb122 hg w2 Zf hb;have BK122:=Ya (Zf);have GW122:=Ya ((sz hg));have GE122:=Ya ((sz hg));replace HB:=Ya (Yk bl hb);clear hb Zf hg;have hcz3_0:w2.cell? ⟨gb122,0,none⟩=some (.int .i64 Zc):=bc BK122 0;have hcz3_1:w2.cell? ⟨gb122,1,none⟩=some (.int .i64 Zb):=bc BK122 1;have hcz3_2:w2.cell? ⟨gb122,2,none⟩=some (.int .i64 a0_2):=bc BK122 2;have hcz3_3:w2.cell? ⟨gb122,3,none⟩=some (.int .i64 a0_3):=bc BK122 3;have hfz3_0:=Yf BK122.out 0;have hfz3_1:=Yf BK122.out 1;have hfz3_2:=Yf BK122.out 2;have hfz3_3:=Yf BK122.out 3));go_ret;exact⟨by first|rfl|(simp[errW_none,errW_some]<;>rfl)|(simp[*,errW_none,errW_some]<;>rfl),HB.out⟩
end P
end Go.Proofs.Ytoedkglggapggaa
