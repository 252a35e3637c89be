/- What the law's row needs of these texts, taken out of them by wip/tool/mini.py: P0 QPress P2 P3 P4 P5 P6 P7 P104 QBfsLaw QWayLaw P44 P45 P46 P47 QMakers P48 P105 P106. -/
import Derived.Test.YtoedkglggapggaaProg
import Derived.Below
import Derived.Deep.Draws
import Derived.Deep.AppendLies
import Derived.Maps.AppendAt
import Derived.OwnWalk
import Derived.Laws.BytesArg
import Derived.Laws.MakeOwn
import Derived.Laws.OwnMore
import Derived.Deep.OwnRows
import Derived.Tactics
import Derived.Lib.ConvBytes
import Derived.Laws.Slices
import Derived.WalkKit
import Derived.KernelRfl
import Derived.RowKit3
import Derived.Deep.LoopGhost
import Derived.Deep.QuietTactic
import Derived.BigQuiet
import Derived.WideLaws
import Derived.Deep.DeepCutAuto
import Derived.Deep.CutBlock
import Derived.Deep.RegionHeld3
import Derived.Laws.Rows
import Derived.Lib.AppendStr
import Derived.ArgAppend
import Derived.Laws.IdiomCopy
import Derived.OrdersHeld
import Derived.Laws.BitsLemmas
import Derived.RowKit
import Derived.Test.YtoedkglggapggaaVkigfaf
import Derived.Laws.StructEq
import Derived.Deep.MidRow
import Derived.RegionTactic
import Derived.BigRegion
set_option linter.unusedVariables false
set_option linter.unusedSimpArgs false
open Go.RowKit Go.Proofs.YtoedkglggapggaaW.PrintWords Go.Proofs.YtoedkglggapggaaW.PrintLast Go.Proofs.YtoedkglggapggaaW.PrintMore
namespace Go.Proofs.Ytoedkglggapggaa
namespace P
attribute [local go_sem] max2_int min2_int max_two min_two max_three min_three max_four min_four
def errW:Option Int→Value
 |none=> .nilIface
 |some c=> .iface 0 (.int .i64 c)
theorem errW_none:errW none= .nilIface:=rfl
theorem errW_some (c:Int):errW (some c)= .iface 0 (.int .i64 c):=rfl
theorem info3:(Try.prog.info? 3).map (fun i=>(i.zero,i.size,i.bytes))=some (some (.int .i64 0),1,8):=by kernel_rfl
theorem info4:(Try.prog.info? 4).map (fun i=>(i.zero,i.size,i.bytes))=some (some (.bool false),1,1):=by kernel_rfl
theorem info79:(Try.prog.info? 79).map (fun i=>(i.zero,i.size,i.bytes))=some (some (.agg #[(.int .i64 0),(.bool false)]),2,16):=by kernel_rfl
structure S50 where
 f0:Int
 f1:Int
 f2:Int
 f3:Int
def z50:S50:=⟨(0:Int),(0:Int),(0:Int),(0:Int)⟩
def k50:Kd S50:=Kd.iso (Kd.pair (Kd.int .i64) (Kd.pair (Kd.int .i64) (Kd.pair (Kd.int .i64) (Kd.int .i64)))) (fun x:S50=>(x.f0,x.f1,x.f2,x.f3))
theorem k50_open {w:World} {x:S50} {cs:List Value} (h:k50.K w x cs):cs=[.int .i64 x.f0, .int .i64 x.f1, .int .i64 x.f2, .int .i64 x.f3]:=by
 obtain⟨_,_,rfl,rfl,⟨_,_,rfl,rfl,⟨_,_,rfl,rfl,rfl⟩⟩⟩:=h;exact rfl
theorem k50_mkM (w:World) (base:Nat) (ok:Nat→Prop) (x:S50)  :k50.M w base ok x [.int .i64 x.f0, .int .i64 x.f1, .int .i64 x.f2, .int .i64 x.f3]:=⟨[.int .i64 x.f0],[.int .i64 x.f1, .int .i64 x.f2, .int .i64 x.f3],rfl,rfl,⟨[.int .i64 x.f1],[.int .i64 x.f2, .int .i64 x.f3],rfl,rfl,⟨[.int .i64 x.f2],[.int .i64 x.f3],rfl,rfl,rfl⟩⟩⟩
def rd_T50 (xs:List S50) (i:Int):S50:=xs.getD i.toNat z50
theorem at_T50 {w:World} {A:Option Addr} {n:Nat} {xs:List S50} (h:Kd.C k50 w A n xs) (i:Int) (h0:0≤i) (h1:i<n): ∃ ad ,A=some ad∧w.cell? (ad.add (i.toNat * 4))=some (.int .i64 (rd_T50 xs i).f0)∧w.cell? ⟨(ad.add (i.toNat * 4)).block,(ad.add (i.toNat * 4)).off+1,none⟩=some (.int .i64 (rd_T50 xs i).f1)∧w.cell? ⟨(ad.add (i.toNat * 4)).block,(ad.add (i.toNat * 4)).off+2,none⟩=some (.int .i64 (rd_T50 xs i).f2)∧w.cell? ⟨(ad.add (i.toNat * 4)).block,(ad.add (i.toNat * 4)).off+3,none⟩=some (.int .i64 (rd_T50 xs i).f3):=by
 obtain⟨ad,c,e,_,hK,hc0⟩:=Kd.C_get h z50 i h0 h1;have hc: ∀ j u,c[j]? =some u→w.cell? (ad.add (i.toNat * 4+j))=some u:=hc0;obtain rfl:=k50_open hK;exact⟨ad,e,hc 0 _ rfl,by rw[← add_field _ _ 1 (by omega)];exact hc 1 _ rfl,by rw[← add_field _ _ 2 (by omega)];exact hc 2 _ rfl,by rw[← add_field _ _ 3 (by omega)];exact hc 3 _ rfl⟩
structure S79 where
 f0:Int
 f1:Bool
def z79:S79:=⟨(0:Int),false⟩
def k79:Kd S79:=Kd.iso (Kd.pair (Kd.int .i64) Kd.bool) (fun x:S79=>(x.f0,x.f1))
theorem k79_open {w:World} {x:S79} {cs:List Value} (h:k79.K w x cs):cs=[.int .i64 x.f0, .bool x.f1]:=by
 obtain⟨_,_,rfl,rfl,rfl⟩:=h;exact rfl
theorem k79_openM {w:World} {base:Nat} {ok:Nat→Prop} {x:S79} {cs:List Value} (h:k79.M w base ok x cs):cs=[.int .i64 x.f0, .bool x.f1]:=by
 obtain⟨_,_,rfl,rfl,rfl⟩:=h;exact rfl
theorem k79_mkM (w:World) (base:Nat) (ok:Nat→Prop) (x:S79)  :k79.M w base ok x [.int .i64 x.f0, .bool x.f1]:=⟨[.int .i64 x.f0],[.bool x.f1],rfl,rfl,rfl⟩
def rd_T79 (xs:List S79) (i:Int):S79:=xs.getD i.toNat z79
theorem at_T79 {w:World} {A:Option Addr} {n:Nat} {xs:List S79} (h:Kd.C k79 w A n xs) (i:Int) (h0:0≤i) (h1:i<n): ∃ ad ,A=some ad∧w.cell? (ad.add (i.toNat * 2))=some (.int .i64 (rd_T79 xs i).f0)∧w.cell? ⟨(ad.add (i.toNat * 2)).block,(ad.add (i.toNat * 2)).off+1,none⟩=some (.bool (rd_T79 xs i).f1):=by
 obtain⟨ad,c,e,_,hK,hc0⟩:=Kd.C_get h z79 i h0 h1;have hc: ∀ j u,c[j]? =some u→w.cell? (ad.add (i.toNat * 2+j))=some u:=hc0;obtain rfl:=k79_open hK;exact⟨ad,e,hc 0 _ rfl,by rw[← add_field _ _ 1 (by omega)];exact hc 1 _ rfl⟩
def rd_L4 (xs:List (List S79)) (i:Int):(List S79):=xs.getD i.toNat ([]:List S79)
theorem at_L4 {w:World} {A:Option Addr} {n:Nat} {xs:List (List S79)} (h:Kd.C (Kd.slice 79 k79) w A n xs) (i:Int) (h0:0≤i) (h1:i<n): ∃ ad A0 c0,A=some ad∧w.cell? (ad.add i.toNat)=some (.slice A0 (rd_L4 xs i).length c0)∧(rd_L4 xs i).length≤c0∧k79.C w A0 (rd_L4 xs i).length (rd_L4 xs i):=by
 obtain⟨ad,c,e,_,hK,hc0⟩:=Kd.C_get h ([]:List S79) i h0 h1;have hc: ∀ j u,c[j]? =some u→w.cell? (ad.add (i.toNat * 1+j))=some u:=hc0;obtain⟨A0,c0,rfl,l0,g0⟩:=hK;exact⟨ad,A0,c0,e,by have hq:=hc 0 _ rfl;rwa [Nat.mul_one,Nat.add_zero] at hq,l0,g0⟩
def rd_L5 (xs:List (List Int)) (i:Int):(List Int):=xs.getD i.toNat ([]:List Int)
theorem at_L5 {w:World} {A:Option Addr} {n:Nat} {xs:List (List Int)} (h:Kd.C (Kd.slice 3 (Kd.int .i64)) w A n xs) (i:Int) (h0:0≤i) (h1:i<n): ∃ ad A0 c0,A=some ad∧w.cell? (ad.add i.toNat)=some (.slice A0 (rd_L5 xs i).length c0)∧(rd_L5 xs i).length≤c0∧(Kd.int .i64).C w A0 (rd_L5 xs i).length (rd_L5 xs i):=by
 obtain⟨ad,c,e,_,hK,hc0⟩:=Kd.C_get h ([]:List Int) i h0 h1;have hc: ∀ j u,c[j]? =some u→w.cell? (ad.add (i.toNat * 1+j))=some u:=hc0;obtain⟨A0,c0,rfl,l0,g0⟩:=hK;exact⟨ad,A0,c0,e,by have hq:=hc 0 _ rfl;rwa [Nat.mul_one,Nat.add_zero] at hq,l0,g0⟩
end P
namespace P
open Go 
theorem bl {n:Nat} {w w':World} (h:Below n w w':=by repeat(first|(with_reducible first|exact HB.out|apply Ye|apply Yd|apply Yg|refine Yh ?_ (Aside0.out (by assumption)))|exact HB.out)):Below n w w':=h
theorem sz {w w':World} {g:Nat} (hg:g=w'.heap.size) (h:Below w.heap.size w w':=by repeat(first|(with_reducible first|exact HB.out|apply Ye|apply Yd|apply Yg|refine Yh ?_ (Aside0.out (by assumption)))|exact HB.out)):w.heap.size≤g:=by rw[hg];exact Yi h
theorem od {p:Prop} [Decidable p] (h:decide p=true:=by first|(with_reducible assumption)|assumption):p:=Yu h
theorem bk {w w':World} {g:Nat} {o:Obj} (B:Aside0 (w.heap[g]? =some o)) (h:w.heap[g]? =some o→w'.heap[g]? =some o:=by intro h_;(with_reducible repeat(first|refine Yl ?_ _|refine Ym ?_|refine Yj ?_ _));exact h_):w'.heap[g]? =some o:=h B.out
theorem kR {α:Type} {d:Kd α} {e b:Nat} {ok:Nat→Prop} {v:Value} {xs:List α} {w w':World} (B:Aside0 (Kd.R d e w b ok v xs)) (h:Kd.R d e w b ok v xs→Kd.R d e w' b ok v xs:=by intro h_;(with_reducible repeat(first|apply Yr|apply Yq|apply Yp));exact h_):Kd.R d e w' b ok v xs:=h B.out
theorem bc {w:World} {g:Nat} {t:TypeId} {cs:Array Value} {v:Value} (B:Aside0 (w.heap[g]? =some (.cells cs t (0,0)))) (i:Nat) (h:cs[i]? =some v:=by rfl):w.cell? ⟨g,i,none⟩=some v:=(Yc B.out i).trans h
theorem hc {w w':World} {p:Addr} {v:Value} (B:Aside0 (Below w.heap.size w w')) (h:w.cell? p=some v):w'.cell? p=some v:=(B.out.cell (Yb w _ h)).trans h
theorem kC {α:Type} {d:Kd α} {A:Option Addr} {n:Nat} {xs:List α} {w w':World} (B:Kd.C d w A n xs) (h:Kd.C d w A n xs→Kd.C d w' A n xs:=by intro h_;(with_reducible repeat(first|exact h_|refine Kd.C_alloc ?_ _|refine Kd.C_drewN ?_ _|refine Kd.C_drew ?_))):Kd.C d w' A n xs:=h B
section
variable {P:Program} {ops:Array Oper} {o:Oper} {rest:List Oper} {a:Act} {Q:Exit→Act→World→Prop} {K:Act→World→Prop}
theorem bx {W:World} (N:Tmp) (t:TypeId) (cs:Array Value) (h: ∀ g,g=W.heap.size→ ∀ w1,w1.heap[g]? =some (.cells cs t (0,0))→Below W.heap.size W w1→wpList P ops Q rest (a.put o.dst (.pointer (some ⟨g,0,none⟩))) w1) (hd:o.dst=some N:=by with_reducible rfl) (hg:o.guard=none:=by rfl)
  (hr:(execOp a.eval o).run P W= .ok (.value (.pointer (some ⟨W.heap.size,0,none⟩))) (W.alloc (.cells cs t (0,0))):=by first|(go_simp;done)|(go_simp;rfl)):wpList P ops Q (o::rest) a W:=Yz hg hd hr h
theorem gl {w : World} (N : Option Tmp) {f : FuncId} {fn : Func} {ars : Array Operand} {ts : Array TypeId} (hf : P.funcs[f]? = some fn) (args : Array Value) (h : Calls P f args w fun e w' => ∃ v, e = .returned v ∧ wpList P ops Q rest (a.put N v) w') (hd : o.dst = N := by rfl) (hg : o.guard = none := by rfl) (hname : (fn.name == "runtime.NumGoroutine") = false := by kernel_rfl) (hb : fn.body.isSome = true := by rfl)
  (hop:o.op= .call { callee:= .value (.func f),args:=ars,argTypes:=ts } :=by rfl) (hargs:ars.map a.eval=args:=by(try simp only[List.map_toArray,List.map_cons,List.map_nil]);first|done|rfl|(simp only[List.length_drop,List.length_take];rfl)):wpList P ops Q (o::rest) a w:=goesL_ N hd hg hf hname hb args hop hargs h
theorem gs {w : World} {N : Option Tmp} {f : FuncId} {fn : Func} {ars : Array Operand} {ts : Array TypeId} (hf : P.funcs[f]? = some fn) (args : Array Value) (h : Calls P f args w fun e w' => ∃ v, e = .returned v ∧ K (a.put N v) w') (hname : (fn.name == "runtime.NumGoroutine") = false := by kernel_rfl) (hb : fn.body.isSome = true := by rfl) (hw : Region.wanted o (yielded ops a.tmps) = true := by rfl) (hN : o.dst = N := by rfl)
  (hop:o.op= .call { callee:= .value (.func f),args:=ars,argTypes:=ts } :=by rfl) (hargs:ars.map a.eval=args:=by(try simp only[List.map_toArray,List.map_cons,List.map_nil]);first|done|rfl|(simp only[List.length_drop,List.length_take];rfl)):if Region.wanted o (yielded ops a.tmps)=true then Oper.wp P o a w K Q else K (a.put N undef) w:=goes_ hf hname hb args hw hN hop hargs h
end
def bm (n k:Nat):Array Bool:=((List.range n).map fun i=>k.testBit i).toArray
section
variable {P:Program} {md:Region.Mode} {ops:Array Oper} {Q:Exit→Act→World→Prop} {S:World→Prop} {ds:List Nat} {oi:Oper} {v:Value} {fuel:Nat} {l:Array Bool} {a a':Act} {w:World}
theorem pu (i N:Nat) (l':Array Bool) (h:wpAnyLast P md ops Q S ds fuel l' a' w) (hi:ops[i]? =some oi:=by rfl) (hN:oi.dst=some N:=by rfl) (hc:anyB md ops l l' i=true:=by exact any_of HT_.out (by kernel_rfl)) (hQ: ∀ c a w,Q (.panic c) (a.put oi.dst v) w→Q (.panic c) a w:=by exact fun _ _ _ h=>h) (hy:Yields P ops oi v a:=by refine Or.inl ⟨by rfl,?_⟩;intro w';go_simp;with_reducible rfl) (ha:a.put (some N) v=a':=by simp only[Act.put,List.setIfInBounds_toArray,List.set_cons_zero,List.set_cons_succ,i64_w,i32_w];rfl):wpAnyLast P md ops Q S ds (fuel+1) l a w:=pure_ l' hi hN hc hQ hy ha h
theorem ta (i N:Nat) (l':Array Bool) (hS:S w) (h:wpAnyLast P md ops Q S ds fuel l' a' w) (hi:ops[i]? =some oi:=by rfl) (hN:oi.dst=some N:=by rfl) (hc:takeB md ops ds l l' i=true:=by exact take_ofW HT_.out HW_.out (by kernel_rfl)) (hQ: ∀ c a w,Q (.panic c) (a.put oi.dst v) w→Q (.panic c) a w:=by exact fun _ _ _ h=>h) (hy:YieldsIf P ops S oi v a:=by refine Or.inl ⟨by rfl,?_⟩;intro w' hs_;(try dsimp only at hs_);go_split_ands;go_simp;with_reducible rfl) (ha:a.put (some N) v=a':=by simp only[Act.put,List.setIfInBounds_toArray,List.set_cons_zero,List.set_cons_succ,i64_w,i32_w];rfl):wpAnyLast P md ops Q S ds (fuel+1) l a w:=take_ l' hi hN hc hQ hy hS ha h
theorem on (i:Nat) (N:Option Tmp) (l':Array Bool) (h: ∀ K:Act→World→Prop,Shut (∀ a' w',S w'→(S w'→wpAnyLast P md ops Q S ds fuel l' a' w')→K a' w')→if Region.wanted oi (yielded ops a.tmps)=true then Oper.wp P oi a w K Q else K (a.put N undef) w)
  (hi:ops[i]? =some oi:=by rfl) (hN:oi.dst=N:=by rfl) (hc:readyB md ops l l' i=true:=by exact one_of HT_.out (by kernel_rfl)) (hd:i ∉ ds:=by decide):wpAnyLast P md ops Q S ds (fuel+1) l a w:=one_ l' hi hN hc hd h
theorem nm (h:wpAnyLast P md ops Q S ds fuel l a' w) (ha:a=a':=by show Act.put _ _ _=_;simp only[Act.put,List.setIfInBounds_toArray,List.set_cons_zero,List.set_cons_succ,i64_w,i32_w];rfl):wpAnyLast P md ops Q S ds fuel l a w:=norm_ ha h
end
end P
namespace P
attribute [local go_sem] max2_int min2_int max_two min_two max_three min_three max_four min_four
def netfmt_nodes.f (a0:Int):Option (Int):=if a0<1 then(some 51) else(if a0>50 then(some 2) else(some 0))
set_option maxHeartbeats 8000000 in
set_option maxRecDepth 100000 in
theorem netfmt_nodes.calls (a0:Int) (r:Int) (w:World) (h:netfmt_nodes.f a0=some r):
  Calls Try.prog 80 #[.int .i64 a0] w fun e w'=>e= .returned (.int .i64 r)∧Drawn0 w w':=by
 have H:=h;unfold netfmt_nodes.f at H;clear h;by_cases c2:a0<1
 ·rw[Yx c2] at H
  have c2b0:decide (a0<1)=true:=Yv c2;clear c2;obtain rfl:=Option.some.inj H;go_enter Try.func80,Try.ntmps80;go_wp2;go_ret;exact⟨by first|rfl|(simp;done)|(simp[*];done),by repeat(first|exact Drawn0.refl _|apply Drawn0.step)⟩
 rw[Yy c2] at H;have c2b0:decide (a0<1)=false:=Yw c2;clear c2;by_cases c3:a0>50
 rotate_left
 ·rw[Yy c3] at H
  have c3b0:decide (50<a0)=false:=Yw c3;clear c3;obtain rfl:=Option.some.inj H;go_enter Try.func80,Try.ntmps80;go_wp2;go_ret;exact⟨by first|rfl|(simp;done)|(simp[*];done),by repeat(first|exact Drawn0.refl _|apply Drawn0.step)⟩
 rw[Yx c3] at H;have c3b0:decide (50<a0)=true:=Yv c3;clear c3;obtain rfl:=Option.some.inj H;go_enter Try.func80,Try.ntmps80;go_wp2;go_ret;exact⟨by first|rfl|(simp;done)|(simp[*];done),by repeat(first|exact Drawn0.refl _|apply Drawn0.step)⟩
end P
namespace P
attribute [local go_sem] max2_int min2_int max_two min_two max_three min_three max_four min_four
def netfmt_arc.j0:Nat→Bool→Int→Int→Int→Int→Option (Int)
 |0,_,_,_,_,_=>none
 |k+1,x5,x110000,x110001,x110002,x110003=>if x5=true then(some 51) else(if x110002>1048576 then(some 2) else(if x110003>1048576 then(some 2) else(some 0)))
def netfmt_arc.f (k:Nat) (a0:Int) (Zj:Int) (Xh:Int) (Vk:Int) (Vn:Int):Option (Int):=if (mn (mn (mn Zj Xh) Vk) Vn)<0 then(netfmt_arc.j0 k true Zj Xh Vk Vn) else(netfmt_arc.j0 k (decide ((mx Zj Xh)≥a0)) Zj Xh Vk Vn)
set_option maxHeartbeats 8000000 in
set_option maxRecDepth 100000 in
theorem netfmt_arc.calls (k:Nat) (a0:Int) (Zj:Int) (Xh:Int) (Vk:Int) (Vn:Int) (r:Int) (w:World) (h:netfmt_arc.f k a0 Zj Xh Vk Vn=some r):
  Calls Try.prog 81 #[.int .i64 a0, .agg #[.int .i64 Zj, .int .i64 Xh, .int .i64 Vk, .int .i64 Vn]] w fun e w'=>e= .returned (.int .i64 r)∧Below w.heap.size w w':=by
 have hu50:=Try.underlying50;have HB:=Ya (Yo w.heap.size w);have H:=h;unfold netfmt_arc.f at H;clear h;have HC3:=Ya H;clear H;go_enter Try.func81,Try.ntmps81;go_upto_region 1 with (first|((with_reducible refine gate_dst (N:=3) rfl ?_);(try (refine gate_guard (by rfl) ?_;dsimp only));refine Yz ?hg (N:=3) ?hd (cs:= #[.int .i64 Zj, .int .i64 Xh, .int .i64 Vk, .int .i64 Vn]) (t:=50) ?hr ?_;(case hd=>rfl);(case hg=>rfl);(case hr=>first|(go_simp;done)|(go_simp;rfl));intro gb109 hg w4 Zf hb;have n0_:=Ya (Yk (by repeat(first|(with_reducible first|exact HB.out|apply Ye|apply Yd|apply Yg)|exact HB.out)) hb);have n1_:=Ya (Zf);have n2_:=Ya ((by rw[hg];exact(Yi (by repeat(first|(with_reducible first|exact HB.out|apply Ye|apply Yd|apply Yg)|exact HB.out))):w.heap.size≤gb109));have n3_:=Ya ((by rw[hg];exact(Yi (by repeat(first|(with_reducible first|exact HB.out|apply Ye|apply Yd|apply Yg)|exact HB.out))):w.heap.size≤gb109));clear HB;have HB:=n0_;have Ws:=n1_;have GW109:=n2_;have GE109:=n3_;clear n0_ n1_ n2_ n3_;clear hb Zf hg))
 (try simp only[Act.put,List.setIfInBounds_toArray,List.set_cons_zero,List.set_cons_succ])
 go_cut [5] (fun v5 wc=> ∃ (kq:Nat) (x5_2:Bool),v5= .bool x5_2∧Aside0 (netfmt_arc.j0 kq x5_2 Zj Xh Vk Vn=some r)∧Aside0 (kq≤k)∧Aside0 (wc.heap[gb109]? =some (.cells #[.int .i64 Zj, .int .i64 Xh, .int .i64 Vk, .int .i64 Vn] 50 (0,0)))∧Aside0 (Below w.heap.size w wc))
 case first=>
  have H:=HC3.out;clear HC3;obtain⟨ji5,hji5⟩: ∃ j_:Int,(mn Zj Xh)=j_:=⟨_,rfl⟩;replace H:(if (mn (mn (ji5) Vk) Vn)<0 then(netfmt_arc.j0 k true Zj Xh Vk Vn) else(netfmt_arc.j0 k (decide ((mx Zj Xh)≥a0)) Zj Xh Vk Vn))=some r:=by first|(rw[hji5] at H;exact H)|(simp only[hji5] at H ⊢;exact H)
  have hji5_:(if Xh<Zj then Xh else Zj)=ji5:=hji5;obtain⟨ji6,hji6⟩: ∃ j_:Int,(mn (ji5) Vk)=j_:=⟨_,rfl⟩;replace H:(if (mn (ji6) Vn)<0 then(netfmt_arc.j0 k true Zj Xh Vk Vn) else(netfmt_arc.j0 k (decide ((mx Zj Xh)≥a0)) Zj Xh Vk Vn))=some r:=by first|(rw[hji6] at H;exact H)|(simp only[hji6] at H ⊢;exact H)
  have hji6_:(if Vk<(ji5) then Vk else(ji5))=ji6:=hji6;obtain⟨ji7,hji7⟩: ∃ j_:Int,(mn (ji6) Vn)=j_:=⟨_,rfl⟩;replace H:(if (ji7)<0 then(netfmt_arc.j0 k true Zj Xh Vk Vn) else(netfmt_arc.j0 k (decide ((mx Zj Xh)≥a0)) Zj Xh Vk Vn))=some r:=by first|(rw[hji7] at H;exact H)|(simp only[hji7] at H ⊢;exact H)
  have hji7_:(if Vn<(ji6) then Vn else(ji6))=ji7:=hji7;by_cases c8:(ji7)<0
  ·rw[Yx c8] at H
   have c8b0:decide ((ji7)<0)=true:=Yv c8;clear c8
   (first|rw[c8b0]|(simp only[i64_w,i32_w];rw[c8b0])|skip)
   have H':=Ya H;clear H;have hcz9_0:w4.cell? ⟨gb109,0,none⟩=some (.int .i64 Zj):=bc Ws 0;have hcz9_1:w4.cell? ⟨gb109,1,none⟩=some (.int .i64 Xh):=bc Ws 1;have hcz9_2:w4.cell? ⟨gb109,2,none⟩=some (.int .i64 Vk):=bc Ws 2;have hcz9_3:w4.cell? ⟨gb109,3,none⟩=some (.int .i64 Vn):=bc Ws 3;have hfz9_0:=Yf Ws.out 0;have hfz9_1:=Yf Ws.out 1;have hfz9_2:=Yf Ws.out 2;have hfz9_3:=Yf Ws.out 3;go_wp2;go_meet
   case rel=>exact⟨_,(true),(by first|rfl|(simp;done)|(simp[*];done)),H',⟨by first|omega|exact Nat.le_refl _⟩,⟨Ws.out⟩,⟨HB.out⟩⟩
  rw[Yy c8] at H;have c8b0:decide ((ji7)<0)=false:=Yw c8;clear c8
  (first|rw[c8b0]|(simp only[i64_w,i32_w];rw[c8b0])|skip)
  obtain⟨ji10,hji10⟩: ∃ j_:Int,(mx Zj Xh)=j_:=⟨_,rfl⟩;replace H:(netfmt_arc.j0 k (decide ((ji10)≥a0)) Zj Xh Vk Vn)=some r:=by first|(rw[hji10] at H;exact H)|(simp only[hji10] at H ⊢;exact H)
  have hji10_:(if Zj<Xh then Xh else Zj)=ji10:=hji10;have H':=Ya H;clear H;have hcz11_0:w4.cell? ⟨gb109,0,none⟩=some (.int .i64 Zj):=bc Ws 0;have hcz11_1:w4.cell? ⟨gb109,1,none⟩=some (.int .i64 Xh):=bc Ws 1;have hcz11_2:w4.cell? ⟨gb109,2,none⟩=some (.int .i64 Vk):=bc Ws 2;have hcz11_3:w4.cell? ⟨gb109,3,none⟩=some (.int .i64 Vn):=bc Ws 3;have hfz11_0:=Yf Ws.out 0;have hfz11_1:=Yf Ws.out 1;have hfz11_2:=Yf Ws.out 2;have hfz11_3:=Yf Ws.out 3;go_wp2;go_meet
  case rel=>exact⟨_,(decide ((ji10)≥a0)),(by first|rfl|(simp;done)|(simp only[← hji10]<;>(first|rfl|simp))|(simp[*];done)),H',⟨by first|omega|exact Nat.le_refl _⟩,⟨Ws.out⟩,⟨HB.out⟩⟩
 case rest=>
  clear HC3;try clear c8
  try clear c8b0
  try clear hcz11_0
  try clear hcz11_1
  try clear hcz11_2
  try clear hcz11_3
  try clear hcz9_0
  try clear hcz9_1
  try clear hcz9_2
  try clear hcz9_3
  try clear hfz11_0
  try clear hfz11_1
  try clear hfz11_2
  try clear hfz11_3
  try clear hfz9_0
  try clear hfz9_1
  try clear hfz9_2
  try clear hfz9_3
  obtain⟨kq,x5_2,rfl,HA,HJ2,Ws,HB⟩:=hcut;cases kq with
  |zero=>exact absurd HA.out (by simp[netfmt_arc.j0])
  |succ kj2=>
   have H:=HA.out;clear HA;simp only[netfmt_arc.j0] at H;by_cases c12:x5_2=true
   ·subst c12
    first|rw[Yx rfl] at H|rw[Yx trivial] at H
    obtain rfl:=Option.some.inj H;go_wp2;go_ret;exact⟨by first|rfl|(simp[errW_none,errW_some]<;>rfl)|(simp[*,errW_none,errW_some]<;>rfl),HB.out⟩
   replace c12:=Bool.eq_false_iff.mpr c12;subst c12;rw[Yy (show ¬ (false=true) by decide)] at H;by_cases c13:Vk>1048576
   ·rw[Yx c13] at H
    have c13b0:decide (1048576<Vk)=true:=Yv c13;clear c13;obtain rfl:=Option.some.inj H;have Vy:wc.cell? ⟨gb109,0,none⟩=some (.int .i64 Zj):=bc Ws 0;have Ud:wc.cell? ⟨gb109,1,none⟩=some (.int .i64 Xh):=bc Ws 1;have Jo:wc.cell? ⟨gb109,2,none⟩=some (.int .i64 Vk):=bc Ws 2;have hcz14_3:wc.cell? ⟨gb109,3,none⟩=some (.int .i64 Vn):=bc Ws 3;have Ue:=Yf Ws.out 0;have Uf:=Yf Ws.out 1;have Jp:=Yf Ws.out 2;have hfz14_3:=Yf Ws.out 3;go_wp2;go_ret;exact⟨by first|rfl|(simp[errW_none,errW_some]<;>rfl)|(simp[*,errW_none,errW_some]<;>rfl),HB.out⟩
   rw[Yy c13] at H;have c13b0:decide (1048576<Vk)=false:=Yw c13;clear c13;by_cases c15:Vn>1048576
   rotate_left
   ·rw[Yy c15] at H
    have c15b0:decide (1048576<Vn)=false:=Yw c15;clear c15;obtain rfl:=Option.some.inj H;have Vz:wc.cell? ⟨gb109,0,none⟩=some (.int .i64 Zj):=bc Ws 0;have Ua:wc.cell? ⟨gb109,1,none⟩=some (.int .i64 Xh):=bc Ws 1;have hcz17_2:wc.cell? ⟨gb109,2,none⟩=some (.int .i64 Vk):=bc Ws 2;have hcz17_3:wc.cell? ⟨gb109,3,none⟩=some (.int .i64 Vn):=bc Ws 3;have Ub:=Yf Ws.out 0;have Uc:=Yf Ws.out 1;have hfz17_2:=Yf Ws.out 2;have hfz17_3:=Yf Ws.out 3;go_wp2;go_ret;exact⟨by first|rfl|(simp[errW_none,errW_some]<;>rfl)|(simp[*,errW_none,errW_some]<;>rfl),HB.out⟩
   rw[Yx c15] at H;have c15b0:decide (1048576<Vn)=true:=Yv c15;clear c15;obtain rfl:=Option.some.inj H;have hcz16_0:wc.cell? ⟨gb109,0,none⟩=some (.int .i64 Zj):=bc Ws 0;have hcz16_1:wc.cell? ⟨gb109,1,none⟩=some (.int .i64 Xh):=bc Ws 1;have hcz16_2:wc.cell? ⟨gb109,2,none⟩=some (.int .i64 Vk):=bc Ws 2;have hcz16_3:wc.cell? ⟨gb109,3,none⟩=some (.int .i64 Vn):=bc Ws 3;have hfz16_0:=Yf Ws.out 0;have hfz16_1:=Yf Ws.out 1;have hfz16_2:=Yf Ws.out 2;have hfz16_3:=Yf Ws.out 3;go_wp2;go_ret;exact⟨by first|rfl|(simp[errW_none,errW_some]<;>rfl)|(simp[*,errW_none,errW_some]<;>rfl),HB.out⟩
end P
namespace P
attribute [local go_sem] max2_int min2_int max_two min_two max_three min_three max_four min_four
def netfmt_Check.l0:Nat→List (S50)→Int→Int→Int→Bool→List (S50)→Option (Int)
 |0,_,_,_,_,_,_=>none
 |k+1,x18,x19,x20,x111000,x111001,x111002=>if x20<x19 then(if 0≤x20 then(if x20<(x18.length:Int) then((netfmt_arc.f k x111000 ((rd_T50 x18 x20).f0) ((rd_T50 x18 x20).f1) ((rd_T50 x18 x20).f2) ((rd_T50 x18 x20).f3)).bind fun t114=>(if t114=0 then(netfmt_Check.l0 k x18 x19 (wrap64 (x20+1)) x111000 x111001 x111002) else(some t114))) else(none)) else(none)) else(some 0)
def netfmt_Check.f (k:Nat) (Zb:Int) (Zc:Bool) (Za:List (S50)):Option (Int):=(netfmt_nodes.f Zb).bind fun t111=>(if t111=0 then(if (Za.length:Int)>200 then(some 2) else(netfmt_Check.l0 k Za (Za.length:Int) 0 Zb Zc Za)) else(some t111))
set_option maxHeartbeats 8000000 in
set_option maxRecDepth 100000 in
theorem netfmt_Check.calls (k:Nat) (Zb:Int) (Zc:Bool) (Ze:Option Addr) (Zd:Nat) (Za:List (S50)) (r:Int) (w:World) (Zp:Kd.C k50 w Ze Za.length Za) (Zq:Za.length≤Zd) (h:netfmt_Check.f k Zb Zc Za=some r):
  Calls Try.prog 61 #[.agg #[.int .i64 Zb, .bool Zc, .slice Ze Za.length Zd]] w fun e w'=>e= .returned (.int .i64 r)∧Below w.heap.size w w':=by
 have hu24:=Try.underlying24;have hu50:=Try.underlying50;have Zh:=Ya Zp;have Zo:=Ya Zq;clear Zp Zq;have HB:=Ya (Yo w.heap.size w);have H:=h;unfold netfmt_Check.f at H;clear h;replace H:=Option.bind_eq_some_iff.mp H;obtain⟨t111,A20,H⟩:=H;try dsimp only at H
 have A2:=Ya A20;clear A20;by_cases c3:t111=0
 rotate_left
 ·rw[Yy c3] at H
  have c3b0:(t111 == 0)=false:=beq_eq_false_iff_ne.mpr c3;have c3b1:(t111 != 0)=true:=bne_iff_ne.mpr c3;obtain rfl:=Option.some.inj H;go_enter Try.func61,Try.ntmps61;go_wp2_with (first|(refine bx 1 24 #[.int .i64 Zb, .bool Zc, .slice Ze Za.length Zd] ?_;intro Un hg w24 Zf hb;have Wj:=Ya (Zf);have GW110:=Ya (by rw[hg];exact(Yi HB.out):w.heap.size≤Un);have GE110:=Ya (by rw[hg];exact(Yi HB.out):w.heap.size≤Un);replace HB:=Ya (Yk HB.out hb);clear hb Zf hg;have hcz25_0:w24.cell? ⟨Un,0,none⟩=some (.int .i64 Zb):=bc Wj 0;have hcz25_1:w24.cell? ⟨Un,1,none⟩=some (.bool Zc):=bc Wj 1;have hcz25_2:w24.cell? ⟨Un,2,none⟩=some (.slice Ze Za.length Zd):=bc Wj 2;have hfz25_0:=Yf Wj.out 0;have hfz25_1:=Yf Wj.out 1;have hfz25_2:=Yf Wj.out 2)|((with_reducible refine gate_callee (f:=80) rfl ?_);refine gl (some 9) Try.func80 #[.int .i64 Zb] ?_;(with_reducible refine(netfmt_nodes.calls Zb t111 _ A2.out).mono ?_);rintro e w' ⟨rfl,⟨nd,rfl⟩⟩;refine⟨_,rfl,?_⟩));go_ret;exact⟨by first|rfl|(simp[errW_none,errW_some]<;>rfl)|(simp[*,errW_none,errW_some]<;>rfl),bl⟩
 rw[Yx c3] at H;have c3b0:(t111 == 0)=true:=beq_iff_eq.mpr c3;have c3b1:(t111 != 0)=false:=bne_eq_false_iff_eq.mpr c3;clear c3;by_cases c4:(Za.length:Int)>200
 ·rw[Yx c4] at H
  have c4b0:decide (200<(Za.length:Int))=true:=Yv c4;have c4b1:decide (200<Za.length)=true:=Yv (by omega);clear c4;obtain rfl:=Option.some.inj H;go_enter Try.func61,Try.ntmps61;go_wp2_with (first|(refine bx 1 24 #[.int .i64 Zb, .bool Zc, .slice Ze Za.length Zd] ?_;intro Un hg w5 Zf hb;have Wj:=Ya (Zf);have GW110:=Ya (by rw[hg];exact(Yi HB.out):w.heap.size≤Un);have GE110:=Ya (by rw[hg];exact(Yi HB.out):w.heap.size≤Un);replace HB:=Ya (Yk HB.out hb);clear hb Zf hg;have hcz6_0:w5.cell? ⟨Un,0,none⟩=some (.int .i64 Zb):=bc Wj 0;have hcz6_1:w5.cell? ⟨Un,1,none⟩=some (.bool Zc):=bc Wj 1;have hcz6_2:w5.cell? ⟨Un,2,none⟩=some (.slice Ze Za.length Zd):=bc Wj 2;have hfz6_0:=Yf Wj.out 0;have hfz6_1:=Yf Wj.out 1;have hfz6_2:=Yf Wj.out 2)|((with_reducible refine gate_callee (f:=80) rfl ?_);refine gl (some 9) Try.func80 #[.int .i64 Zb] ?_;(with_reducible refine(netfmt_nodes.calls Zb t111 _ A2.out).mono ?_);rintro e w' ⟨rfl,⟨nd,rfl⟩⟩;refine⟨_,rfl,?_⟩));go_ret;exact⟨by first|rfl|(simp[errW_none,errW_some]<;>rfl)|(simp[*,errW_none,errW_some]<;>rfl),bl⟩
 rw[Yy c4] at H;have c4b0:decide (200<(Za.length:Int))=false:=Yw c4;have c4b1:decide (200<Za.length)=false:=Yw (by omega);clear c4;have H':=Ya H;clear H;go_enter Try.func61,Try.ntmps61;go_wp2_with (first|(refine bx 1 24 #[.int .i64 Zb, .bool Zc, .slice Ze Za.length Zd] ?_;intro Un hg w7 Zf hb;have Wj:=Ya (Zf);have GW110:=Ya (by rw[hg];exact(Yi HB.out):w.heap.size≤Un);have GE110:=Ya (by rw[hg];exact(Yi HB.out):w.heap.size≤Un);replace HB:=Ya (Yk HB.out hb);clear hb Zf hg;have Jq:w7.cell? ⟨Un,0,none⟩=some (.int .i64 Zb):=bc Wj 0;have Jr:w7.cell? ⟨Un,1,none⟩=some (.bool Zc):=bc Wj 1;have hcz8_2:w7.cell? ⟨Un,2,none⟩=some (.slice Ze Za.length Zd):=bc Wj 2;have Js:=Yf Wj.out 0;have Jt:=Yf Wj.out 1;have hfz8_2:=Yf Wj.out 2)|((with_reducible refine gate_callee (f:=80) rfl ?_);refine gl (some 9) Try.func80 #[.int .i64 Zb] ?_;(with_reducible refine(netfmt_nodes.calls Zb t111 _ A2.out).mono ?_);rintro e w' ⟨rfl,⟨nd,rfl⟩⟩;refine⟨_,rfl,?_⟩));go_loopg [20] k (fun kq v20 w'=> ∃ (Xy:Int),v20= .int .i64 Xy∧Aside0 (netfmt_Check.l0 kq Za (Za.length:Int) Xy Zb Zc Za=some r)∧Aside0 (kq≤k)∧Aside0 (w'.heap[Un]? =some (.cells #[.int .i64 Zb, .bool Zc,(.slice Ze Za.length Zd)] 24 (0,0)))∧Aside0 (Below w.heap.size w w'))
 case atStart=>exact⟨(0),(by first|rfl|(simp;done)|(simp[*];done)),H',⟨Nat.le_refl _⟩,⟨bk Wj⟩,⟨bl⟩⟩
 case round=>
  clear H';try clear c3
  try clear c3b0
  try clear c3b1
  try clear c4
  try clear c4b0
  try clear c4b1
  try clear hcz6_0
  try clear hcz6_1
  try clear hcz6_2
  try clear Jq
  try clear Jr
  try clear hcz8_2
  try clear hfz6_0
  try clear hfz6_1
  try clear hfz6_2
  try clear Js
  try clear Jt
  try clear hfz8_2
  obtain⟨Xy,rfl,HA,HK1,Wj,HB⟩:=hrel;cases gk with
  |zero=>exact absurd HA.out (by simp[netfmt_Check.l0])
  |succ k1=>
   have H:=HA.out;clear HA;simp only[netfmt_Check.l0] at H;by_cases c9:Xy<(Za.length:Int)
   rotate_left
   ·rw[Yy c9] at H
    have c9b0:decide (Xy<(Za.length:Int))=false:=Yw c9;clear c9;obtain rfl:=Option.some.inj H;go_wp2;go_ret;exact⟨by first|rfl|(simp[errW_none,errW_some]<;>rfl)|(simp[*,errW_none,errW_some]<;>rfl),HB.out⟩
   rw[Yx c9] at H;have c9b0:decide (Xy<(Za.length:Int))=true:=Yv c9;clear c9;by_cases c10:0≤Xy
   rotate_left
   ·rw[Yy c10] at H
    exact absurd H (by simp)
   rw[Yx c10] at H;have c10b0:decide (0≤Xy)=true:=Yv c10;clear c10;by_cases c11:Xy<(Za.length:Int)
   rotate_left
   ·rw[Yy c11] at H
    exact absurd H (by simp)
   rw[Yx c11] at H;have c11b0:decide (Xy<(Za.length:Int))=true:=Yv c11;clear c11;replace H:=Option.bind_eq_some_iff.mp H;obtain⟨t114,A120,H⟩:=H;try dsimp only at H
   have A12:=Ya A120;clear A120;by_cases c13:t114=0
   rotate_left
   ·rw[Yy c13] at H
    have c13b0:(t114 == 0)=false:=beq_eq_false_iff_ne.mpr c13;have c13b1:(t114 != 0)=true:=bne_iff_ne.mpr c13;obtain rfl:=Option.some.inj H;have p112:0≤(Xy:Int):=od;have q112:Xy<(Za.length:Int):=od;obtain⟨ad112,e112,hx112_0,hx112_1,hx112_2,hx112_3⟩:=at_T50 Zh.out Xy p112 q112;cases e112;replace hx112_0:=hc HB hx112_0;replace hx112_1:=hc HB hx112_1;replace hx112_2:=hc HB hx112_2;replace hx112_3:=hc HB hx112_3;replace p112:=eq_true p112;replace q112:=eq_true q112;go_wp2_with (first|(refine bx 5 50 #[.int .i64 0, .int .i64 0, .int .i64 0, .int .i64 0] ?_;intro gb113 hg w19 Zf hb;have BK113:=Ya (Zf);have GW113:=Ya ((sz hg));have GE113:=Ya ((sz hg));replace HB:=Ya (Yk bl hb);have Jc:=Ya (by rw[hg];exact Nat.ne_of_lt (blk_lt (bk Wj)):Un≠gb113);have NB113_110:=Ya (by rw[hg];exact Nat.ne_of_gt (blk_lt (bk Wj)):gb113≠Un);replace Wj:=Ya (Yn (bk Wj) hb);clear hb Zf hg;have hnb20:=NB113_110.out;have hnc20:=Jc.out;have hcz21_0:w19.cell? ⟨gb113,0,none⟩=some (.int .i64 0):=bc BK113 0;have hcz21_1:w19.cell? ⟨gb113,1,none⟩=some (.int .i64 0):=bc BK113 1;have hcz21_2:w19.cell? ⟨gb113,2,none⟩=some (.int .i64 0):=bc BK113 2;have hcz21_3:w19.cell? ⟨gb113,3,none⟩=some (.int .i64 0):=bc BK113 3;have hfz21_0:=Yf BK113.out 0;have hfz21_1:=Yf BK113.out 1;have hfz21_2:=Yf BK113.out 2;have hfz21_3:=Yf BK113.out 3;have hcz22_0:w19.cell? ⟨Un,0,none⟩=some (.int .i64 Zb):=bc Wj 0;have hcz22_1:w19.cell? ⟨Un,1,none⟩=some (.bool Zc):=bc Wj 1;have hcz22_2:w19.cell? ⟨Un,2,none⟩=some (.slice (some ad112) Za.length Zd):=bc Wj 2;have hfz22_0:=Yf Wj.out 0;have hfz22_1:=Yf Wj.out 1;have hfz22_2:=Yf Wj.out 2)|((with_reducible refine gate_callee (f:=81) rfl ?_);refine gl (some 27) Try.func81 #[.int .i64 Zb, .agg #[.int .i64 ((rd_T50 Za Xy).f0), .int .i64 ((rd_T50 Za Xy).f1), .int .i64 ((rd_T50 Za Xy).f2), .int .i64 ((rd_T50 Za Xy).f3)]] ?_;(with_reducible refine(netfmt_arc.calls k1 Zb ((rd_T50 Za Xy).f0) ((rd_T50 Za Xy).f1) ((rd_T50 Za Xy).f2) ((rd_T50 Za Xy).f3) t114 _ A12.out).mono ?_);rintro e w23 ⟨rfl,hb⟩;refine⟨_,rfl,?_⟩;replace Wj:=Ya (Yn (g:=Un) (o:= .cells #[.int .i64 Zb, .bool Zc, .slice (some ad112) Za.length Zd] 24 (0,0)) (by(with_reducible repeat(first|refine Yl ?_ _|refine Ym ?_|refine Yj ?_ _));refine blk_far ?_ Jc.out _;(with_reducible repeat(first|refine Yl ?_ _|refine Ym ?_|refine Yj ?_ _));refine blk_far ?_ Jc.out _;(with_reducible repeat(first|refine Yl ?_ _|refine Ym ?_|refine Yj ?_ _));refine blk_far ?_ Jc.out _;(with_reducible repeat(first|refine Yl ?_ _|refine Ym ?_|refine Yj ?_ _));refine blk_far ?_ Jc.out _;(with_reducible repeat(first|refine Yl ?_ _|refine Ym ?_|refine Yj ?_ _));exact Wj.out) hb);replace BK113:=Ya (Yn (g:=gb113) (o:= .cells #[.int .i64 ((rd_T50 Za Xy).f0), .int .i64 ((rd_T50 Za Xy).f1), .int .i64 ((rd_T50 Za Xy).f2), .int .i64 ((rd_T50 Za Xy).f3)] 50 (0,0)) (by(with_reducible repeat(first|refine Yl ?_ _|refine Ym ?_|refine Yj ?_ _));refine YA (cs:= #[.int .i64 ((rd_T50 Za Xy).f0), .int .i64 ((rd_T50 Za Xy).f1), .int .i64 ((rd_T50 Za Xy).f2), .int .i64 0]) ?_ 3 _ rfl;(with_reducible repeat(first|refine Yl ?_ _|refine Ym ?_|refine Yj ?_ _));refine YA (cs:= #[.int .i64 ((rd_T50 Za Xy).f0), .int .i64 ((rd_T50 Za Xy).f1), .int .i64 0, .int .i64 0]) ?_ 2 _ rfl;(with_reducible repeat(first|refine Yl ?_ _|refine Ym ?_|refine Yj ?_ _));refine YA (cs:= #[.int .i64 ((rd_T50 Za Xy).f0), .int .i64 0, .int .i64 0, .int .i64 0]) ?_ 1 _ rfl;(with_reducible repeat(first|refine Yl ?_ _|refine Ym ?_|refine Yj ?_ _));refine YA (cs:= #[.int .i64 0, .int .i64 0, .int .i64 0, .int .i64 0]) ?_ 0 _ rfl;(with_reducible repeat(first|refine Yl ?_ _|refine Ym ?_|refine Yj ?_ _));exact BK113.out) hb);replace HB:=Ya (Yk bl hb);(try clear hb)));go_ret;exact⟨by first|rfl|(simp[errW_none,errW_some]<;>rfl)|(simp[*,errW_none,errW_some]<;>rfl),HB.out⟩
   rw[Yx c13] at H;have c13b0:(t114 == 0)=true:=beq_iff_eq.mpr c13;have c13b1:(t114 != 0)=false:=bne_eq_false_iff_eq.mpr c13;clear c13;have H':=Ya H;clear H;have p112:0≤(Xy:Int):=od;have q112:Xy<(Za.length:Int):=od;obtain⟨ad112,e112,hx112_0,hx112_1,hx112_2,hx112_3⟩:=at_T50 Zh.out Xy p112 q112;cases e112;replace hx112_0:=hc HB hx112_0;replace hx112_1:=hc HB hx112_1;replace hx112_2:=hc HB hx112_2;replace hx112_3:=hc HB hx112_3;replace p112:=eq_true p112;replace q112:=eq_true q112;go_wp2_with (first|(refine bx 5 50 #[.int .i64 0, .int .i64 0, .int .i64 0, .int .i64 0] ?_;intro gb113 hg w14 Zf hb;have BK113:=Ya (Zf);have GW113:=Ya ((sz hg));have GE113:=Ya ((sz hg));replace HB:=Ya (Yk bl hb);have Jc:=Ya (by rw[hg];exact Nat.ne_of_lt (blk_lt (bk Wj)):Un≠gb113);have NB113_110:=Ya (by rw[hg];exact Nat.ne_of_gt (blk_lt (bk Wj)):gb113≠Un);replace Wj:=Ya (Yn (bk Wj) hb);clear hb Zf hg;have hnb15:=NB113_110.out;have hnc15:=Jc.out;have hcz16_0:w14.cell? ⟨gb113,0,none⟩=some (.int .i64 0):=bc BK113 0;have hcz16_1:w14.cell? ⟨gb113,1,none⟩=some (.int .i64 0):=bc BK113 1;have hcz16_2:w14.cell? ⟨gb113,2,none⟩=some (.int .i64 0):=bc BK113 2;have hcz16_3:w14.cell? ⟨gb113,3,none⟩=some (.int .i64 0):=bc BK113 3;have hfz16_0:=Yf BK113.out 0;have hfz16_1:=Yf BK113.out 1;have hfz16_2:=Yf BK113.out 2;have hfz16_3:=Yf BK113.out 3;have Vz:w14.cell? ⟨Un,0,none⟩=some (.int .i64 Zb):=bc Wj 0;have Ua:w14.cell? ⟨Un,1,none⟩=some (.bool Zc):=bc Wj 1;have hcz17_2:w14.cell? ⟨Un,2,none⟩=some (.slice (some ad112) Za.length Zd):=bc Wj 2;have Ub:=Yf Wj.out 0;have Uc:=Yf Wj.out 1;have hfz17_2:=Yf Wj.out 2)|((with_reducible refine gate_callee (f:=81) rfl ?_);refine gl (some 27) Try.func81 #[.int .i64 Zb, .agg #[.int .i64 ((rd_T50 Za Xy).f0), .int .i64 ((rd_T50 Za Xy).f1), .int .i64 ((rd_T50 Za Xy).f2), .int .i64 ((rd_T50 Za Xy).f3)]] ?_;(with_reducible refine(netfmt_arc.calls k1 Zb ((rd_T50 Za Xy).f0) ((rd_T50 Za Xy).f1) ((rd_T50 Za Xy).f2) ((rd_T50 Za Xy).f3) t114 _ A12.out).mono ?_);rintro e w18 ⟨rfl,hb⟩;refine⟨_,rfl,?_⟩;replace Wj:=Ya (Yn (g:=Un) (o:= .cells #[.int .i64 Zb, .bool Zc, .slice (some ad112) Za.length Zd] 24 (0,0)) (by(with_reducible repeat(first|refine Yl ?_ _|refine Ym ?_|refine Yj ?_ _));refine blk_far ?_ Jc.out _;(with_reducible repeat(first|refine Yl ?_ _|refine Ym ?_|refine Yj ?_ _));refine blk_far ?_ Jc.out _;(with_reducible repeat(first|refine Yl ?_ _|refine Ym ?_|refine Yj ?_ _));refine blk_far ?_ Jc.out _;(with_reducible repeat(first|refine Yl ?_ _|refine Ym ?_|refine Yj ?_ _));refine blk_far ?_ Jc.out _;(with_reducible repeat(first|refine Yl ?_ _|refine Ym ?_|refine Yj ?_ _));exact Wj.out) hb);replace BK113:=Ya (Yn (g:=gb113) (o:= .cells #[.int .i64 ((rd_T50 Za Xy).f0), .int .i64 ((rd_T50 Za Xy).f1), .int .i64 ((rd_T50 Za Xy).f2), .int .i64 ((rd_T50 Za Xy).f3)] 50 (0,0)) (by(with_reducible repeat(first|refine Yl ?_ _|refine Ym ?_|refine Yj ?_ _));refine YA (cs:= #[.int .i64 ((rd_T50 Za Xy).f0), .int .i64 ((rd_T50 Za Xy).f1), .int .i64 ((rd_T50 Za Xy).f2), .int .i64 0]) ?_ 3 _ rfl;(with_reducible repeat(first|refine Yl ?_ _|refine Ym ?_|refine Yj ?_ _));refine YA (cs:= #[.int .i64 ((rd_T50 Za Xy).f0), .int .i64 ((rd_T50 Za Xy).f1), .int .i64 0, .int .i64 0]) ?_ 2 _ rfl;(with_reducible repeat(first|refine Yl ?_ _|refine Ym ?_|refine Yj ?_ _));refine YA (cs:= #[.int .i64 ((rd_T50 Za Xy).f0), .int .i64 0, .int .i64 0, .int .i64 0]) ?_ 1 _ rfl;(with_reducible repeat(first|refine Yl ?_ _|refine Ym ?_|refine Yj ?_ _));refine YA (cs:= #[.int .i64 0, .int .i64 0, .int .i64 0, .int .i64 0]) ?_ 0 _ rfl;(with_reducible repeat(first|refine Yl ?_ _|refine Ym ?_|refine Yj ?_ _));exact BK113.out) hb);replace HB:=Ya (Yk bl hb);(try clear hb)));go_roundg k1
   case measure=>have:=HK1.out;omega
   case rel=>exact⟨(wrap64 (Xy+1)),(by first|rfl|(simp;done)|(simp[*];done)),H',⟨by have:=HK1.out;omega⟩,⟨Wj.out⟩,⟨HB.out⟩⟩
end P
namespace P
attribute [local go_sem] max2_int min2_int max_two min_two max_three min_three max_four min_four
def static_Ends.f (k:Nat) (Zb:Int) (Zc:Bool) (Za:List (S50)) (a1:Int) (a2:Int):Option (Int):=(netfmt_Check.f k Zb Zc Za).bind fun t116=>(if t116=0 then(if (mn a1 a2)<0 then(some 70) else(if (mx a1 a2)≥Zb then(some 70) else(if a1=a2 then(some 70) else(some 0)))) else(some t116))
set_option maxHeartbeats 8000000 in
set_option maxRecDepth 100000 in
theorem static_Ends.calls (k:Nat) (Zb:Int) (Zc:Bool) (Ze:Option Addr) (Zd:Nat) (Za:List (S50)) (a1:Int) (a2:Int) (r:Int) (w:World) (Zp:Kd.C k50 w Ze Za.length Za) (Zq:Za.length≤Zd) (h:static_Ends.f k Zb Zc Za a1 a2=some r):
  Calls Try.prog 65 #[.agg #[.int .i64 Zb, .bool Zc, .slice Ze Za.length Zd], .int .i64 a1, .int .i64 a2] w fun e w'=>e= .returned (.int .i64 r)∧Below w.heap.size w w':=by
 have hu24:=Try.underlying24;have Zh:=Ya Zp;have Zo:=Ya Zq;clear Zp Zq;have HB:=Ya (Yo w.heap.size w);have H:=h;unfold static_Ends.f at H;clear h;replace H:=Option.bind_eq_some_iff.mp H;obtain⟨t116,A40,H⟩:=H;try dsimp only at H
 have A4:=Ya A40;clear A40;by_cases c5:t116=0
 rotate_left
 ·rw[Yy c5] at H
  have c5b0:(t116 == 0)=false:=beq_eq_false_iff_ne.mpr c5;have c5b1:(t116 != 0)=true:=bne_iff_ne.mpr c5;obtain rfl:=Option.some.inj H;go_enter Try.func65,Try.ntmps65;go_wp2_with (first|((with_reducible refine gate_dst (N:=3) rfl ?_);(try (refine gate_guard (by rfl) ?_;dsimp only));refine Yz ?hg (N:=3) ?hd (cs:= #[.int .i64 Zb, .bool Zc, .slice Ze Za.length Zd]) (t:=24) ?hr ?_;(case hd=>rfl);(case hg=>rfl);(case hr=>first|(go_simp;done)|(go_simp;rfl));intro Vj hg w26 Zf hb;have Xn:=Ya (Zf);have GW115:=Ya (by rw[hg];exact(Yi HB.out):w.heap.size≤Vj);have GE115:=Ya (by rw[hg];exact(Yi HB.out):w.heap.size≤Vj);replace HB:=Ya (Yk HB.out hb);clear hb Zf hg;have hcz27_0:w26.cell? ⟨Vj,0,none⟩=some (.int .i64 Zb):=bc Xn 0;have hcz27_1:w26.cell? ⟨Vj,1,none⟩=some (.bool Zc):=bc Xn 1;have hcz27_2:w26.cell? ⟨Vj,2,none⟩=some (.slice Ze Za.length Zd):=bc Xn 2;have hfz27_0:=Yf Xn.out 0;have hfz27_1:=Yf Xn.out 1;have hfz27_2:=Yf Xn.out 2)|((with_reducible refine gate_callee (f:=61) rfl ?_);refine gl (some 9) Try.func61 #[.agg #[.int .i64 Zb, .bool Zc, .slice Ze Za.length Zd]] ?_;(with_reducible refine(netfmt_Check.calls k Zb Zc _ _ Za t116 _ ?side1 ?side2 A4.out).mono ?_);(case side1=>exact kC (Yt Zh.out HB.out));(case side2=>exact Zo.out);rintro e w28 ⟨rfl,hb⟩;refine⟨_,rfl,?_⟩;replace Xn:=Ya (Yn Xn.out hb);replace HB:=Ya (Yk HB.out hb);(try clear hb)));go_ret;exact⟨by first|rfl|(simp[errW_none,errW_some]<;>rfl)|(simp[*,errW_none,errW_some]<;>rfl),HB.out⟩
 rw[Yx c5] at H;have c5b0:(t116 == 0)=true:=beq_iff_eq.mpr c5;have c5b1:(t116 != 0)=false:=bne_eq_false_iff_eq.mpr c5;clear c5;obtain⟨ji6,hji6⟩: ∃ j_:Int,(mn a1 a2)=j_:=⟨_,rfl⟩;replace H:(if (ji6)<0 then(some 70) else(if (mx a1 a2)≥Zb then(some 70) else(if a1=a2 then(some 70) else(some 0))))=some r:=by first|(rw[hji6] at H;exact H)|(simp only[hji6] at H ⊢;exact H)
 (try rw[hji6] at A4)
 have hji6_:(if a2<a1 then a2 else a1)=ji6:=hji6;by_cases c7:(ji6)<0
 ·rw[Yx c7] at H
  have c7b0:decide ((ji6)<0)=true:=Yv c7;clear c7;obtain rfl:=Option.some.inj H;go_enter Try.func65,Try.ntmps65;go_wp2_with (first|((with_reducible refine gate_dst (N:=3) rfl ?_);(try (refine gate_guard (by rfl) ?_;dsimp only));refine Yz ?hg (N:=3) ?hd (cs:= #[.int .i64 Zb, .bool Zc, .slice Ze Za.length Zd]) (t:=24) ?hr ?_;(case hd=>rfl);(case hg=>rfl);(case hr=>first|(go_simp;done)|(go_simp;rfl));intro Vj hg w8 Zf hb;have Xn:=Ya (Zf);have GW115:=Ya (by rw[hg];exact(Yi HB.out):w.heap.size≤Vj);have GE115:=Ya (by rw[hg];exact(Yi HB.out):w.heap.size≤Vj);replace HB:=Ya (Yk HB.out hb);clear hb Zf hg;have hcz9_0:w8.cell? ⟨Vj,0,none⟩=some (.int .i64 Zb):=bc Xn 0;have hcz9_1:w8.cell? ⟨Vj,1,none⟩=some (.bool Zc):=bc Xn 1;have hcz9_2:w8.cell? ⟨Vj,2,none⟩=some (.slice Ze Za.length Zd):=bc Xn 2;have hfz9_0:=Yf Xn.out 0;have hfz9_1:=Yf Xn.out 1;have hfz9_2:=Yf Xn.out 2)|((with_reducible refine gate_callee (f:=61) rfl ?_);refine gl (some 9) Try.func61 #[.agg #[.int .i64 Zb, .bool Zc, .slice Ze Za.length Zd]] ?_;(with_reducible refine(netfmt_Check.calls k Zb Zc _ _ Za t116 _ ?side1 ?side2 A4.out).mono ?_);(case side1=>exact kC (Yt Zh.out HB.out));(case side2=>exact Zo.out);rintro e w10 ⟨rfl,hb⟩;refine⟨_,rfl,?_⟩;replace Xn:=Ya (Yn Xn.out hb);replace HB:=Ya (Yk HB.out hb);(try clear hb)));go_ret;exact⟨by first|rfl|(simp[errW_none,errW_some]<;>rfl)|(simp only[← hji6];first|rfl|(simp[errW_none,errW_some]<;>rfl))|(simp[*,errW_none,errW_some]<;>rfl),HB.out⟩
 rw[Yy c7] at H;have c7b0:decide ((ji6)<0)=false:=Yw c7;clear c7;obtain⟨ji11,hji11⟩: ∃ j_:Int,(mx a1 a2)=j_:=⟨_,rfl⟩;replace H:(if (ji11)≥Zb then(some 70) else(if a1=a2 then(some 70) else(some 0)))=some r:=by first|(rw[hji11] at H;exact H)|(simp only[hji11] at H ⊢;exact H)
 (try rw[hji11] at A4)
 have hji11_:(if a1<a2 then a2 else a1)=ji11:=hji11;by_cases c12:(ji11)≥Zb
 ·rw[Yx c12] at H
  have c12b0:decide (Zb≤(ji11))=true:=Yv c12;clear c12;obtain rfl:=Option.some.inj H;go_enter Try.func65,Try.ntmps65;go_wp2_with (first|((with_reducible refine gate_dst (N:=3) rfl ?_);(try (refine gate_guard (by rfl) ?_;dsimp only));refine Yz ?hg (N:=3) ?hd (cs:= #[.int .i64 Zb, .bool Zc, .slice Ze Za.length Zd]) (t:=24) ?hr ?_;(case hd=>rfl);(case hg=>rfl);(case hr=>first|(go_simp;done)|(go_simp;rfl));intro Vj hg w13 Zf hb;have Xn:=Ya (Zf);have GW115:=Ya (by rw[hg];exact(Yi HB.out):w.heap.size≤Vj);have GE115:=Ya (by rw[hg];exact(Yi HB.out):w.heap.size≤Vj);replace HB:=Ya (Yk HB.out hb);clear hb Zf hg;have Vy:w13.cell? ⟨Vj,0,none⟩=some (.int .i64 Zb):=bc Xn 0;have Ud:w13.cell? ⟨Vj,1,none⟩=some (.bool Zc):=bc Xn 1;have Jo:w13.cell? ⟨Vj,2,none⟩=some (.slice Ze Za.length Zd):=bc Xn 2;have Ue:=Yf Xn.out 0;have Uf:=Yf Xn.out 1;have Jp:=Yf Xn.out 2)|((with_reducible refine gate_callee (f:=61) rfl ?_);refine gl (some 9) Try.func61 #[.agg #[.int .i64 Zb, .bool Zc, .slice Ze Za.length Zd]] ?_;(with_reducible refine(netfmt_Check.calls k Zb Zc _ _ Za t116 _ ?side1 ?side2 A4.out).mono ?_);(case side1=>exact kC (Yt Zh.out HB.out));(case side2=>exact Zo.out);rintro e w15 ⟨rfl,hb⟩;refine⟨_,rfl,?_⟩;replace Xn:=Ya (Yn Xn.out hb);replace HB:=Ya (Yk HB.out hb);(try clear hb);have hcz16_0:w15.cell? ⟨Vj,0,none⟩=some (.int .i64 Zb):=bc Xn 0;have hcz16_1:w15.cell? ⟨Vj,1,none⟩=some (.bool Zc):=bc Xn 1;have hcz16_2:w15.cell? ⟨Vj,2,none⟩=some (.slice Ze Za.length Zd):=bc Xn 2;have hfz16_0:=Yf Xn.out 0;have hfz16_1:=Yf Xn.out 1;have hfz16_2:=Yf Xn.out 2));go_ret;exact⟨by first|rfl|(simp[errW_none,errW_some]<;>rfl)|(simp only[← hji6, ← hji11];first|rfl|(simp[errW_none,errW_some]<;>rfl))|(simp[*,errW_none,errW_some]<;>rfl),HB.out⟩
 rw[Yy c12] at H;have c12b0:decide (Zb≤(ji11))=false:=Yw c12;clear c12;by_cases c17:a1=a2
 rotate_left
 ·rw[Yy c17] at H
  have c17b0:(a1 == a2)=false:=beq_eq_false_iff_ne.mpr c17;have c17b1:(a1 != a2)=true:=bne_iff_ne.mpr c17;obtain rfl:=Option.some.inj H;go_enter Try.func65,Try.ntmps65;go_wp2_with (first|((with_reducible refine gate_dst (N:=3) rfl ?_);(try (refine gate_guard (by rfl) ?_;dsimp only));refine Yz ?hg (N:=3) ?hd (cs:= #[.int .i64 Zb, .bool Zc, .slice Ze Za.length Zd]) (t:=24) ?hr ?_;(case hd=>rfl);(case hg=>rfl);(case hr=>first|(go_simp;done)|(go_simp;rfl));intro Vj hg w22 Zf hb;have Xn:=Ya (Zf);have GW115:=Ya (by rw[hg];exact(Yi HB.out):w.heap.size≤Vj);have GE115:=Ya (by rw[hg];exact(Yi HB.out):w.heap.size≤Vj);replace HB:=Ya (Yk HB.out hb);clear hb Zf hg;have hcz23_0:w22.cell? ⟨Vj,0,none⟩=some (.int .i64 Zb):=bc Xn 0;have hcz23_1:w22.cell? ⟨Vj,1,none⟩=some (.bool Zc):=bc Xn 1;have hcz23_2:w22.cell? ⟨Vj,2,none⟩=some (.slice Ze Za.length Zd):=bc Xn 2;have hfz23_0:=Yf Xn.out 0;have hfz23_1:=Yf Xn.out 1;have hfz23_2:=Yf Xn.out 2)|((with_reducible refine gate_callee (f:=61) rfl ?_);refine gl (some 9) Try.func61 #[.agg #[.int .i64 Zb, .bool Zc, .slice Ze Za.length Zd]] ?_;(with_reducible refine(netfmt_Check.calls k Zb Zc _ _ Za t116 _ ?side1 ?side2 A4.out).mono ?_);(case side1=>exact kC (Yt Zh.out HB.out));(case side2=>exact Zo.out);rintro e w24 ⟨rfl,hb⟩;refine⟨_,rfl,?_⟩;replace Xn:=Ya (Yn Xn.out hb);replace HB:=Ya (Yk HB.out hb);(try clear hb);have hcz25_0:w24.cell? ⟨Vj,0,none⟩=some (.int .i64 Zb):=bc Xn 0;have hcz25_1:w24.cell? ⟨Vj,1,none⟩=some (.bool Zc):=bc Xn 1;have hcz25_2:w24.cell? ⟨Vj,2,none⟩=some (.slice Ze Za.length Zd):=bc Xn 2;have hfz25_0:=Yf Xn.out 0;have hfz25_1:=Yf Xn.out 1;have hfz25_2:=Yf Xn.out 2));go_ret;exact⟨by first|rfl|(simp[errW_none,errW_some]<;>rfl)|(simp only[← hji6, ← hji11];first|rfl|(simp[errW_none,errW_some]<;>rfl))|(simp[*,errW_none,errW_some]<;>rfl),HB.out⟩
 rw[Yx c17] at H;have c17b0:(a1 == a2)=true:=beq_iff_eq.mpr c17;have c17b1:(a1 != a2)=false:=bne_eq_false_iff_eq.mpr c17;clear c17;obtain rfl:=Option.some.inj H;go_enter Try.func65,Try.ntmps65;go_wp2_with (first|((with_reducible refine gate_dst (N:=3) rfl ?_);(try (refine gate_guard (by rfl) ?_;dsimp only));refine Yz ?hg (N:=3) ?hd (cs:= #[.int .i64 Zb, .bool Zc, .slice Ze Za.length Zd]) (t:=24) ?hr ?_;(case hd=>rfl);(case hg=>rfl);(case hr=>first|(go_simp;done)|(go_simp;rfl));intro Vj hg w18 Zf hb;have Xn:=Ya (Zf);have GW115:=Ya (by rw[hg];exact(Yi HB.out):w.heap.size≤Vj);have GE115:=Ya (by rw[hg];exact(Yi HB.out):w.heap.size≤Vj);replace HB:=Ya (Yk HB.out hb);clear hb Zf hg;have hcz19_0:w18.cell? ⟨Vj,0,none⟩=some (.int .i64 Zb):=bc Xn 0;have hcz19_1:w18.cell? ⟨Vj,1,none⟩=some (.bool Zc):=bc Xn 1;have hcz19_2:w18.cell? ⟨Vj,2,none⟩=some (.slice Ze Za.length Zd):=bc Xn 2;have hfz19_0:=Yf Xn.out 0;have hfz19_1:=Yf Xn.out 1;have hfz19_2:=Yf Xn.out 2)|((with_reducible refine gate_callee (f:=61) rfl ?_);refine gl (some 9) Try.func61 #[.agg #[.int .i64 Zb, .bool Zc, .slice Ze Za.length Zd]] ?_;(with_reducible refine(netfmt_Check.calls k Zb Zc _ _ Za t116 _ ?side1 ?side2 A4.out).mono ?_);(case side1=>exact kC (Yt Zh.out HB.out));(case side2=>exact Zo.out);rintro e w20 ⟨rfl,hb⟩;refine⟨_,rfl,?_⟩;replace Xn:=Ya (Yn Xn.out hb);replace HB:=Ya (Yk HB.out hb);(try clear hb);have hcz21_0:w20.cell? ⟨Vj,0,none⟩=some (.int .i64 Zb):=bc Xn 0;have hcz21_1:w20.cell? ⟨Vj,1,none⟩=some (.bool Zc):=bc Xn 1;have hcz21_2:w20.cell? ⟨Vj,2,none⟩=some (.slice Ze Za.length Zd):=bc Xn 2;have hfz21_0:=Yf Xn.out 0;have hfz21_1:=Yf Xn.out 1;have hfz21_2:=Yf Xn.out 2));go_ret;exact⟨by first|rfl|(simp[errW_none,errW_some]<;>rfl)|(simp only[← hji6, ← hji11];first|rfl|(simp[errW_none,errW_some]<;>rfl))|(simp[*,errW_none,errW_some]<;>rfl),HB.out⟩
end P
namespace P
attribute [local go_sem] max2_int min2_int max_two min_two max_three min_three max_four min_four
def span_Horizon.f (a0:Int):Option (Int):=if a0<0 then(some 1) else(if a0>1024 then(some 2) else(some 0))
set_option maxHeartbeats 8000000 in
set_option maxRecDepth 100000 in
theorem span_Horizon.calls (a0:Int) (r:Int) (w:World) (h:span_Horizon.f a0=some r):
  Calls Try.prog 66 #[.int .i64 a0] w fun e w'=>e= .returned (.int .i64 r)∧Drawn0 w w':=by
 have H:=h;unfold span_Horizon.f at H;clear h;by_cases c2:a0<0
 ·rw[Yx c2] at H
  have c2b0:decide (a0<0)=true:=Yv c2;clear c2;obtain rfl:=Option.some.inj H;go_enter Try.func66,Try.ntmps66;go_wp2;go_ret;exact⟨by first|rfl|(simp;done)|(simp[*];done),by repeat(first|exact Drawn0.refl _|apply Drawn0.step)⟩
 rw[Yy c2] at H;have c2b0:decide (a0<0)=false:=Yw c2;clear c2;by_cases c3:a0>1024
 rotate_left
 ·rw[Yy c3] at H
  have c3b0:decide (1024<a0)=false:=Yw c3;clear c3;obtain rfl:=Option.some.inj H;go_enter Try.func66,Try.ntmps66;go_wp2;go_ret;exact⟨by first|rfl|(simp;done)|(simp[*];done),by repeat(first|exact Drawn0.refl _|apply Drawn0.step)⟩
 rw[Yx c3] at H;have c3b0:decide (1024<a0)=true:=Yv c3;clear c3;obtain rfl:=Option.some.inj H;go_enter Try.func66,Try.ntmps66;go_wp2;go_ret;exact⟨by first|rfl|(simp;done)|(simp[*];done),by repeat(first|exact Drawn0.refl _|apply Drawn0.step)⟩
end P
namespace P
attribute [local go_sem] max2_int min2_int max_two min_two max_three min_three max_four min_four
def span_Asked.f (k:Nat) (Zb:Int) (Zc:Bool) (Za:List (S50)) (a1:Int) (a2:Int) (a3:Int):Option (Int):=(static_Ends.f k Zb Zc Za a1 a2).bind fun t118=>(if t118=0 then((span_Horizon.f a3).bind fun t119=>(some t119)) else(some t118))
set_option maxHeartbeats 8000000 in
set_option maxRecDepth 100000 in
theorem span_Asked.calls (k:Nat) (Zb:Int) (Zc:Bool) (Ze:Option Addr) (Zd:Nat) (Za:List (S50)) (a1:Int) (a2:Int) (a3:Int) (r:Int) (w:World) (Zp:Kd.C k50 w Ze Za.length Za) (Zq:Za.length≤Zd) (h:span_Asked.f k Zb Zc Za a1 a2 a3=some r):
  Calls Try.prog 34 #[.agg #[.int .i64 Zb, .bool Zc, .slice Ze Za.length Zd], .int .i64 a1, .int .i64 a2, .int .i64 a3] w fun e w'=>e= .returned (.int .i64 r)∧Below w.heap.size w w':=by
 have hu24:=Try.underlying24;have Zh:=Ya Zp;have Zo:=Ya Zq;clear Zp Zq;have HB:=Ya (Yo w.heap.size w);have H:=h;unfold span_Asked.f at H;clear h;replace H:=Option.bind_eq_some_iff.mp H;obtain⟨t118,A50,H⟩:=H;try dsimp only at H
 have A5:=Ya A50;clear A50;by_cases c6:t118=0
 rotate_left
 ·rw[Yy c6] at H
  have c6b0:(t118 == 0)=false:=beq_eq_false_iff_ne.mpr c6;have c6b1:(t118 != 0)=true:=bne_iff_ne.mpr c6;obtain rfl:=Option.some.inj H;go_enter Try.func34,Try.ntmps34;go_wp2_with (first|(refine bx 4 24 #[.int .i64 Zb, .bool Zc, .slice Ze Za.length Zd] ?_;intro gb117 hg w11 Zf hb;have BK117:=Ya (Zf);have GW117:=Ya ((sz hg));have GE117:=Ya ((sz hg));replace HB:=Ya (Yk bl hb);clear hb Zf hg;have hcz12_0:w11.cell? ⟨gb117,0,none⟩=some (.int .i64 Zb):=bc BK117 0;have hcz12_1:w11.cell? ⟨gb117,1,none⟩=some (.bool Zc):=bc BK117 1;have hcz12_2:w11.cell? ⟨gb117,2,none⟩=some (.slice Ze Za.length Zd):=bc BK117 2;have hfz12_0:=Yf BK117.out 0;have hfz12_1:=Yf BK117.out 1;have hfz12_2:=Yf BK117.out 2)|((with_reducible refine gate_callee (f:=65) rfl ?_);refine gl (some 13) Try.func65 #[.agg #[.int .i64 Zb, .bool Zc, .slice Ze Za.length Zd], .int .i64 a1, .int .i64 a2] ?_;(with_reducible refine(static_Ends.calls k Zb Zc _ _ Za a1 a2 t118 _ ?side1 ?side2 A5.out).mono ?_);(case side1=>exact kC (Yt Zh.out HB.out));(case side2=>exact Zo.out);rintro e w13 ⟨rfl,hb⟩;refine⟨_,rfl,?_⟩;replace BK117:=Ya (Yn (bk BK117) hb);replace HB:=Ya (Yk bl hb);(try clear hb)));go_ret;exact⟨by first|rfl|(simp[errW_none,errW_some]<;>rfl)|(simp[*,errW_none,errW_some]<;>rfl),HB.out⟩
 rw[Yx c6] at H;have c6b0:(t118 == 0)=true:=beq_iff_eq.mpr c6;have c6b1:(t118 != 0)=false:=bne_eq_false_iff_eq.mpr c6;clear c6;replace H:=Option.bind_eq_some_iff.mp H;obtain⟨t119,A70,H⟩:=H;try dsimp only at H
 have A7:=Ya A70;clear A70;obtain rfl:=Option.some.inj H;go_enter Try.func34,Try.ntmps34;go_wp2_with (first|(refine bx 4 24 #[.int .i64 Zb, .bool Zc, .slice Ze Za.length Zd] ?_;intro gb117 hg w8 Zf hb;have BK117:=Ya (Zf);have GW117:=Ya ((sz hg));have GE117:=Ya ((sz hg));replace HB:=Ya (Yk bl hb);clear hb Zf hg;have hcz9_0:w8.cell? ⟨gb117,0,none⟩=some (.int .i64 Zb):=bc BK117 0;have hcz9_1:w8.cell? ⟨gb117,1,none⟩=some (.bool Zc):=bc BK117 1;have hcz9_2:w8.cell? ⟨gb117,2,none⟩=some (.slice Ze Za.length Zd):=bc BK117 2;have hfz9_0:=Yf BK117.out 0;have hfz9_1:=Yf BK117.out 1;have hfz9_2:=Yf BK117.out 2)|((with_reducible refine gate_callee (f:=65) rfl ?_);refine gl (some 13) Try.func65 #[.agg #[.int .i64 Zb, .bool Zc, .slice Ze Za.length Zd], .int .i64 a1, .int .i64 a2] ?_;(with_reducible refine(static_Ends.calls k Zb Zc _ _ Za a1 a2 t118 _ ?side1 ?side2 A5.out).mono ?_);(case side1=>exact kC (Yt Zh.out HB.out));(case side2=>exact Zo.out);rintro e w10 ⟨rfl,hb⟩;refine⟨_,rfl,?_⟩;replace BK117:=Ya (Yn (bk BK117) hb);replace HB:=Ya (Yk bl hb);(try clear hb))|((with_reducible refine gate_callee (f:=66) rfl ?_);refine gl (some 18) Try.func66 #[.int .i64 a3] ?_;(with_reducible refine(span_Horizon.calls a3 t119 _ A7.out).mono ?_);rintro e w' ⟨rfl,⟨nd,rfl⟩⟩;refine⟨_,rfl,?_⟩));go_ret;exact⟨by first|rfl|(simp[errW_none,errW_some]<;>rfl)|(simp[*,errW_none,errW_some]<;>rfl),bl⟩
end P
namespace P
attribute [local go_sem] max2_int min2_int max_two min_two max_three min_three max_four min_four
def static_Flowing_From.f (Zb:Int) (Zc:Bool) (Za:List (S50)) (Xx:List Int) (Zj:Int) (Xh:Bool):Option (Int):=if Xh=true then(if 0≤Zj then(if Zj<(Za.length:Int) then(some ((rd_T50 Za Zj).f1)) else(none)) else(none)) else(if 0≤Zj then(if Zj<(Za.length:Int) then(some ((rd_T50 Za Zj).f0)) else(none)) else(none))
set_option maxHeartbeats 8000000 in
set_option maxRecDepth 100000 in
theorem static_Flowing_From.calls (Zb:Int) (Zc:Bool) (Ze:Option Addr) (Zd:Nat) (Za:List (S50)) (Ul:Option Addr) (Um:Nat) (Xx:List Int) (Zj:Int) (Xh:Bool) (r:Int) (w:World) (Zp:Kd.C k50 w Ze Za.length Za) (Zq:Za.length≤Zd) (hr0_3:Kd.C (Kd.int .i64) w Ul Xx.length Xx) (hc0_3:Xx.length≤Um) (h:static_Flowing_From.f Zb Zc Za Xx Zj Xh=some r):
  Calls Try.prog 87 #[.agg #[.int .i64 Zb, .bool Zc, .slice Ze Za.length Zd, .slice Ul Xx.length Um], .agg #[.int .i64 Zj, .bool Xh]] w fun e w'=>e= .returned (.int .i64 r)∧Below w.heap.size w w':=by
 have hu104:=Try.underlying104;have hu79:=Try.underlying79;have Zh:=Ya Zp;have Zo:=Ya Zq;clear Zp Zq;have HR0_3:=Ya hr0_3;have HC0_3:=Ya hc0_3;clear hr0_3 hc0_3;have HB:=Ya (Yo w.heap.size w);have H:=h;unfold static_Flowing_From.f at H;clear h;by_cases c3:Xh=true
 ·subst c3
  first|rw[Yx rfl] at H|rw[Yx trivial] at H
  by_cases c4:0≤Zj
  rotate_left
  ·rw[Yy c4] at H
   exact absurd H (by simp)
  rw[Yx c4] at H;have c4b0:decide (0≤Zj)=true:=Yv c4;clear c4;by_cases c5:Zj<(Za.length:Int)
  rotate_left
  ·rw[Yy c5] at H
   exact absurd H (by simp)
  rw[Yx c5] at H;have c5b0:decide (Zj<(Za.length:Int))=true:=Yv c5;clear c5;obtain rfl:=Option.some.inj H;go_enter Try.func87,Try.ntmps87;go_wp2_with (first|(refine bx 2 104 #[.int .i64 Zb, .bool Zc, .slice Ze Za.length Zd, .slice Ul Xx.length Um] ?_;intro gb719 hg w6 Zf hb;have Jx:=Ya (Zf);have GW719:=Ya ((sz hg));have GE719:=Ya ((sz hg));replace HB:=Ya (Yk bl hb);clear hb Zf hg)|(refine bx 3 79 #[.int .i64 Zj, .bool true] ?_;intro gb720 hg w7 Zf hb;have BK720:=Ya (Zf);have GW720:=Ya ((sz hg));have GE720:=Ya ((sz hg));replace HB:=Ya (Yk bl hb);have NB719_720:=Ya (by rw[hg];exact Nat.ne_of_lt (blk_lt (bk Jx)):gb719≠gb720);have NB720_719:=Ya (by rw[hg];exact Nat.ne_of_gt (blk_lt (bk Jx)):gb720≠gb719);replace Jx:=Ya (Yn (bk Jx) hb);clear hb Zf hg;have hnb8:=NB720_719.out;have hnc8:=NB719_720.out;have hcz9_0:w7.cell? ⟨gb720,0,none⟩=some (.int .i64 Zj):=bc BK720 0;have hcz9_1:w7.cell? ⟨gb720,1,none⟩=some (.bool true):=bc BK720 1;have hfz9_0:=Yf BK720.out 0;have hfz9_1:=Yf BK720.out 1;have Wu:w7.cell? ⟨gb719,0,none⟩=some (.int .i64 Zb):=bc Jx 0;have Wv:w7.cell? ⟨gb719,1,none⟩=some (.bool Zc):=bc Jx 1;have Vl:w7.cell? ⟨gb719,2,none⟩=some (.slice Ze Za.length Zd):=bc Jx 2;have hcz10_3:w7.cell? ⟨gb719,3,none⟩=some (.slice Ul Xx.length Um):=bc Jx 3;have Ww:=Yf Jx.out 0;have Wx:=Yf Jx.out 1;have Vm:=Yf Jx.out 2;have hfz10_3:=Yf Jx.out 3;have p721:0≤(Zj:Int):=od;have q721:Zj<(Za.length:Int):=od;obtain⟨ad721,e721,hx721_0,hx721_1,hx721_2,hx721_3⟩:=at_T50 Zh.out Zj p721 q721;cases e721;replace hx721_0:=hc HB hx721_0;replace hx721_1:=hc HB hx721_1;replace hx721_2:=hc HB hx721_2;replace hx721_3:=hc HB hx721_3;replace p721:=eq_true p721;replace q721:=eq_true q721));go_ret;exact⟨by first|rfl|(simp[errW_none,errW_some]<;>rfl)|(simp[*,errW_none,errW_some]<;>rfl),HB.out⟩
 replace c3:=Bool.eq_false_iff.mpr c3;subst c3;rw[Yy (show ¬ (false=true) by decide)] at H;by_cases c11:0≤Zj
 rotate_left
 ·rw[Yy c11] at H
  exact absurd H (by simp)
 rw[Yx c11] at H;have c11b0:decide (0≤Zj)=true:=Yv c11;clear c11;by_cases c12:Zj<(Za.length:Int)
 rotate_left
 ·rw[Yy c12] at H
  exact absurd H (by simp)
 rw[Yx c12] at H;have c12b0:decide (Zj<(Za.length:Int))=true:=Yv c12;clear c12;obtain rfl:=Option.some.inj H;go_enter Try.func87,Try.ntmps87;go_wp2_with (first|(refine bx 2 104 #[.int .i64 Zb, .bool Zc, .slice Ze Za.length Zd, .slice Ul Xx.length Um] ?_;intro gb719 hg w13 Zf hb;have Jx:=Ya (Zf);have GW719:=Ya ((sz hg));have GE719:=Ya ((sz hg));replace HB:=Ya (Yk bl hb);clear hb Zf hg)|(refine bx 3 79 #[.int .i64 Zj, .bool false] ?_;intro gb720 hg w14 Zf hb;have BK720:=Ya (Zf);have GW720:=Ya ((sz hg));have GE720:=Ya ((sz hg));replace HB:=Ya (Yk bl hb);have NB719_720:=Ya (by rw[hg];exact Nat.ne_of_lt (blk_lt (bk Jx)):gb719≠gb720);have NB720_719:=Ya (by rw[hg];exact Nat.ne_of_gt (blk_lt (bk Jx)):gb720≠gb719);replace Jx:=Ya (Yn (bk Jx) hb);clear hb Zf hg;have hnb15:=NB720_719.out;have hnc15:=NB719_720.out;have hcz16_0:w14.cell? ⟨gb720,0,none⟩=some (.int .i64 Zj):=bc BK720 0;have hcz16_1:w14.cell? ⟨gb720,1,none⟩=some (.bool false):=bc BK720 1;have hfz16_0:=Yf BK720.out 0;have hfz16_1:=Yf BK720.out 1;have Vz:w14.cell? ⟨gb719,0,none⟩=some (.int .i64 Zb):=bc Jx 0;have Ua:w14.cell? ⟨gb719,1,none⟩=some (.bool Zc):=bc Jx 1;have hcz17_2:w14.cell? ⟨gb719,2,none⟩=some (.slice Ze Za.length Zd):=bc Jx 2;have hcz17_3:w14.cell? ⟨gb719,3,none⟩=some (.slice Ul Xx.length Um):=bc Jx 3;have Ub:=Yf Jx.out 0;have Uc:=Yf Jx.out 1;have hfz17_2:=Yf Jx.out 2;have hfz17_3:=Yf Jx.out 3;have p722:0≤(Zj:Int):=od;have q722:Zj<(Za.length:Int):=od;obtain⟨ad722,e722,hx722_0,hx722_1,hx722_2,hx722_3⟩:=at_T50 Zh.out Zj p722 q722;cases e722;replace hx722_0:=hc HB hx722_0;replace hx722_1:=hc HB hx722_1;replace hx722_2:=hc HB hx722_2;replace hx722_3:=hc HB hx722_3;replace p722:=eq_true p722;replace q722:=eq_true q722));go_ret;exact⟨by first|rfl|(simp[errW_none,errW_some]<;>rfl)|(simp[*,errW_none,errW_some]<;>rfl),HB.out⟩
end P
namespace H
theorem pigeonN (n:Nat): ∀ L:List Nat,L.Nodup→(∀ x,x∈L→x<n)→L.length≤n:=by
 induction n with
 |zero=>
  intro L _ h;cases L with
  |nil=>simp
  |cons x L=>exact absurd (h x List.mem_cons_self) (Nat.not_lt_zero _)
 |succ n ih=>
  intro L hn h;by_cases hm:n∈L
  ·have h1:=ih (L.erase n) (hn.erase n) (fun x hx=>by
    have h2:=(hn.mem_erase_iff).1 hx;have:=h x h2.2;have:=h2.1;omega)
   rw[List.length_erase_of_mem hm] at h1;omega
  ·have:=ih L hn (fun x hx=>by
    have h1:=h x hx;have:x≠n:=fun e=>hm (e▸hx)
    omega)
   omega
section
variable {α:Type}
structure Fd (α:Type) where
 v:Nat
 by_:α
 lv:Nat
def nodes (st:List (Fd α)):List Nat:=st.map Fd.v
def vis (to_:α→Nat) (lv:Nat) (st:List (Fd α)) (e:α):List (Fd α):=if to_ e∈nodes st then st else st ++ [⟨to_ e,e,lv+1⟩]
def proc (to_:α→Nat) (es:Nat→List α) (st:List (Fd α)) (x:Fd α):List (Fd α):=(es x.v).foldl (vis to_ x.lv) st
def bfs (to_:α→Nat) (es:Nat→List α):Nat→Nat→List (Fd α)→List (Fd α)
 |0,_,st=>st
 |n+1,i,st=>match st[i]? with
  |none=>st
  |some x=>bfs to_ es n (i+1) (proc to_ es st x)
theorem vis_pre (to_:α→Nat) (lv:Nat) (st:List (Fd α)) (e:α): ∃ r,vis to_ lv st e=st ++ r:=by
 unfold vis;split
 ·exact⟨[],(List.append_nil _).symm⟩
 ·exact⟨_,rfl⟩
theorem fold_pre (to_:α→Nat) (lv:Nat) (l:List α) (st:List (Fd α)): ∃ r,l.foldl (vis to_ lv) st=st ++ r:=by
 induction l generalizing st with
 |nil=>exact⟨[],(List.append_nil _).symm⟩
 |cons e l ih=>
  obtain⟨r,hr⟩:=vis_pre to_ lv st e;obtain⟨q,hq⟩:=ih (vis to_ lv st e);exact⟨r ++ q,by rw[List.foldl_cons,hq,hr,List.append_assoc]⟩
structure Fds (from_ to_:α→Nat) (es:Nat→List α) (s:Nat) (st:List (Fd α)):Prop where
 nodup:(nodes st).Nodup
 head: ∃ x r,st=x::r∧x.v=s∧x.lv=0
 by_ok: ∀ (j:Nat) (x:Fd α),st[j+1]? =some x→to_ x.by_=x.v∧ ∃ (k:Nat) (y:Fd α),k≤j∧st[k]? =some y∧x.by_∈es y.v∧x.lv=y.lv+1
 up: ∀ (j:Nat) (x y:Fd α),st[j]? =some x→st[j+1]? =some y→x.lv≤y.lv
theorem mem_nodes {st:List (Fd α)} {v:Nat} :v∈nodes st↔ ∃ (j:Nat) (x:Fd α),st[j]? =some x∧x.v=v:=by
 unfold nodes;rw[List.mem_map];constructor
 ·rintro⟨x,hx,rfl⟩
  obtain⟨j,hj⟩:=List.getElem?_of_mem hx;exact⟨j,x,hj,rfl⟩
 ·rintro⟨j,x,hj,rfl⟩
  exact⟨x,List.mem_of_getElem? hj,rfl⟩
theorem Fds.vis {from_ to_:α→Nat} {es:Nat→List α} {s:Nat} {st:List (Fd α)} (h:Fds from_ to_ es s st) {i:Nat} {x:Fd α} (hx:st[i]? =some x) (hm: ∀ y,y∈st→y.lv≤x.lv+1) {e:α} (he:e∈es x.v):
  Fds from_ to_ es s (vis to_ x.lv st e)∧ ∀ y,y∈H.vis to_ x.lv st e→y.lv≤x.lv+1:=by
 unfold H.vis;split
 ·exact⟨h,hm⟩
 ·rename_i hn
  have hil:=(List.getElem?_eq_some_iff.1 hx).1;have hsm: ∀ (j:Nat) (y:Fd α),(st ++ [⟨to_ e,e,x.lv+1⟩])[j]? =some y→(j<st.length∧st[j]? =some y)∨(j=st.length∧y=⟨to_ e,e,x.lv+1⟩):=by
   intro j y hy;rcases Nat.lt_or_ge j st.length with hj|hj
   ·rw[List.getElem?_append_left hj] at hy;exact .inl ⟨hj,hy⟩
   ·rw[List.getElem?_append_right hj] at hy
    have hj0:j - st.length=0:=by
     have:=(List.getElem?_eq_some_iff.1 hy).1;simp at this;omega
    rw[hj0] at hy;injection hy with hy
    exact .inr ⟨by omega,hy.symm⟩
  refine⟨⟨?_,?_,?_,?_⟩,?_⟩
  ·show (nodes (st ++ [_])).Nodup
   unfold nodes;rw[List.map_append];refine List.nodup_append.2 ⟨h.nodup,by simp,?_⟩;intro a ha b hb;simp at hb;subst hb;intro e';subst e';exact hn ha
  ·obtain⟨y,r,hr,h1,h2⟩:=h.head
   exact⟨y,r ++ [_],by rw[hr];rfl,h1,h2⟩
  ·intro j y hy
   rcases hsm _ _ hy with ⟨hj,hy⟩|⟨hj,rfl⟩
   ·obtain⟨h1,k,z,hk,hz,h2,h3⟩:=h.by_ok j y hy
    exact⟨h1,k,z,hk,by rw[List.getElem?_append_left (by omega)];exact hz,h2,h3⟩
   ·exact⟨rfl,i,x,by omega,by rw[List.getElem?_append_left hil];exact hx,he,rfl⟩
  ·intro j y z hy hz
   rcases hsm _ _ hz with ⟨hj,hz⟩|⟨hj,rfl⟩
   ·rw[List.getElem?_append_left (by omega)] at hy
    exact h.up j y z hy hz
   ·rw[List.getElem?_append_left (by omega)] at hy
    exact hm y (List.mem_of_getElem? hy)
  ·intro y hy
   rcases List.mem_append.1 hy with hy|hy
   ·exact hm y hy
   ·rw[List.mem_singleton.1 hy]
    exact Nat.le_refl _
theorem Fds.fold {from_ to_:α→Nat} {es:Nat→List α} {s:Nat} {x:Fd α} (l:List α): ∀ {st:List (Fd α)} (h:Fds from_ to_ es s st) {i:Nat} (hx:st[i]? =some x) (hm: ∀ y,y∈st→y.lv≤x.lv+1) (he: ∀ e,e∈l→e∈es x.v),
  Fds from_ to_ es s (l.foldl (H.vis to_ x.lv) st)∧ ∀ y,y∈l.foldl (H.vis to_ x.lv) st→y.lv≤x.lv+1:=by
 induction l with
 |nil=>intro st h i hx hm he;exact⟨h,hm⟩
 |cons e l ih=>
  intro st h i hx hm he;obtain⟨h1,h2⟩:=h.vis hx hm (he e List.mem_cons_self);obtain⟨r,hr⟩:=vis_pre to_ x.lv st e;have hx':(H.vis to_ x.lv st e)[i]? =some x:=by rw[hr,List.getElem?_append_left (List.getElem?_eq_some_iff.1 hx).1];exact hx
  exact ih h1 hx' h2 (fun e he'=>he e (List.mem_cons_of_mem _ he'))
theorem fold_mem (to_:α→Nat) (lv:Nat) (l:List α) (st:List (Fd α)) {e:α} (he:e∈l):to_ e∈nodes (l.foldl (vis to_ lv) st):=by
 induction l generalizing st with
 |nil=>cases he
 |cons f l ih=>
  rcases List.mem_cons.1 he with rfl|he
  ·obtain⟨r,hr⟩:=fold_pre to_ lv l (vis to_ lv st e)
   rw[List.foldl_cons,hr];have:to_ e∈nodes (vis to_ lv st e):=by
    unfold vis;split
    ·assumption
    ·unfold nodes;rw[List.map_append];exact List.mem_append_right _ (by simp)
   unfold nodes at this ⊢;rw[List.map_append];exact List.mem_append_left _ this
  ·exact ih _ he
structure Upto (from_ to_:α→Nat) (es:Nat→List α) (s i:Nat) (st:List (Fd α)):Prop where
 fds:Fds from_ to_ es s st
 most: ∀ (x:Fd α),st[i]? =some x→ ∀ y,y∈st→y.lv≤x.lv+1
 seen: ∀ (j:Nat) (x:Fd α),j<i→st[j]? =some x→ ∀ e,e∈es x.v→ ∃ (k:Nat) (y:Fd α),st[k]? =some y∧y.v=to_ e∧y.lv≤x.lv+1
theorem upto_start (from_ to_:α→Nat) (es:Nat→List α) (s:Nat) (e0:α):Upto from_ to_ es s 0 [⟨s,e0,0⟩]:=by
 refine⟨⟨by simp[nodes],⟨_,[],rfl,rfl,rfl⟩,?_,?_⟩,?_,?_⟩
 ·intro j x h;simp at h
 ·intro j x y h1 h2;simp at h2
 ·intro x h y hy
  rw[List.mem_singleton.1 hy];exact Nat.zero_le _
 ·intro j x h;exact absurd h (Nat.not_lt_zero _)
theorem Upto.next {from_ to_:α→Nat} {es:Nat→List α} {s i:Nat} {st:List (Fd α)} (h:Upto from_ to_ es s i st) {x:Fd α} (hx:st[i]? =some x):Upto from_ to_ es s (i+1) (proc to_ es st x):=by
 obtain⟨h1,h2⟩:=Fds.fold (es x.v) h.fds hx (h.most x hx) (fun e he=>he);obtain⟨r,hr⟩:=fold_pre to_ x.lv (es x.v) st;have hil:=(List.getElem?_eq_some_iff.1 hx).1;have hx':(proc to_ es st x)[i]? =some x:=by unfold proc;rw[hr,List.getElem?_append_left hil];exact hx
 refine⟨h1,?_,?_⟩
 ·intro y hy z hz
  have h3:=h1.up i x y hx' hy;have h4:=h2 z hz;omega
 ·intro j y hj hy e he
  rcases Nat.lt_or_ge j i with hji|hji
  ·unfold proc at hy ⊢
   rw[hr,List.getElem?_append_left (by omega)] at hy;obtain⟨k,z,hk,hv,hl⟩:=h.seen j y hji hy e he;exact⟨k,z,by rw[hr,List.getElem?_append_left (List.getElem?_eq_some_iff.1 hk).1];exact hk,hv,hl⟩
  ·have hji':j=i:=by omega
   subst hji';rw[hx'] at hy;injection hy with hy
   subst hy;obtain⟨k,z,hk,hv⟩:=mem_nodes.1 (fold_mem to_ x.lv (es x.v) st he);exact⟨k,z,hk,hv,h2 z (List.mem_of_getElem? hk)⟩
theorem bfs_done {from_ to_:α→Nat} {es:Nat→List α} {s N:Nat} (hN: ∀ (u:Nat) (e:α),e∈es u→to_ e<N) (hs:s<N) (n:Nat): ∀ (i:Nat) (st:List (Fd α)),Upto from_ to_ es s i st→N≤i+n→Upto from_ to_ es s (bfs to_ es n i st).length (bfs to_ es n i st):=by
 have hlen: ∀ (st:List (Fd α)),Fds from_ to_ es s st→st.length≤N:=by
  intro st h;have:(nodes st).length≤N:=by
   refine pigeonN N _ h.nodup ?_;intro v hv;obtain⟨j,x,hj,rfl⟩:=mem_nodes.1 hv;cases j with
   |zero=>
    obtain⟨y,r,hr,h1,_⟩:=h.head;rw[hr] at hj;injection hj with hj
    rw[← hj,h1];exact hs
   |succ j=>
    obtain⟨h1,k,y,_,_,h2,_⟩:=h.by_ok j x hj;rw[← h1];exact hN _ _ h2
  unfold nodes at this;rw[List.length_map] at this;exact this
 induction n with
 |zero=>
  intro i st h hi;have hl:=hlen st h.fds;show Upto from_ to_ es s st.length st;exact⟨h.fds,fun x hx=>by have:=(List.getElem?_eq_some_iff.1 hx).1;omega,fun j x hj hx=>h.seen j x (by omega) hx⟩
 |succ n ih=>
  intro i st h hi;unfold bfs;cases hx:st[i]? with
  |none=>
   have hl:=List.getElem?_eq_none_iff.1 hx;show Upto from_ to_ es s st.length st;exact⟨h.fds,fun x hx=>by have:=(List.getElem?_eq_some_iff.1 hx).1;omega,fun j x hj hx=>h.seen j x (by omega) hx⟩
  |some x=>exact ih (i+1) _ (h.next hx) (by omega)
end
end H
namespace H
section
variable {α:Type}
def fnd (st:List (Fd α)) (v:Nat):Option (Fd α):=st.find? fun x=>x.v == v
theorem fnd_some {st:List (Fd α)} {v:Nat} {x:Fd α} (h:fnd st v=some x):x∈st∧x.v=v:=by
 have h1:=List.find?_some h;exact⟨List.mem_of_find?_eq_some h,by simpa using h1⟩
theorem fnd_none {st:List (Fd α)} {v:Nat} :fnd st v=none↔v ∉ nodes st:=by
 unfold fnd nodes;rw[List.find?_eq_none];constructor
 ·intro h hm
  obtain⟨x,hx,rfl⟩:=List.mem_map.1 hm;exact h x hx (by simp)
 ·intro h x hx e
  exact h (List.mem_map.2 ⟨x,hx,by simpa using e⟩)
theorem nodup_inj {st:List (Fd α)} (h:(nodes st).Nodup) {x y:Fd α} (hx:x∈st) (hy:y∈st) (e:x.v=y.v):x=y:=by
 induction st with
 |nil=>cases hx
 |cons z st ih=>
  have h':z.v ∉ nodes st∧(nodes st).Nodup:=List.nodup_cons.1 h;rcases List.mem_cons.1 hx with h1|h1<;>rcases List.mem_cons.1 hy with h2|h2
  ·rw[h1,h2]
  ·exact(h'.1 (List.mem_map.2 ⟨y,h2,by rw[← e,h1]⟩)).elim
  ·exact(h'.1 (List.mem_map.2 ⟨x,h1,by rw[e,h2]⟩)).elim
  ·exact ih h'.2 h1 h2
theorem fnd_of {st:List (Fd α)} (h:(nodes st).Nodup) {x:Fd α} (hx:x∈st):fnd st x.v=some x:=by
 cases hf:fnd st x.v with
 |none=>exact absurd (List.mem_map.2 ⟨x,hx,rfl⟩) (fnd_none.1 hf)
 |some y=>
  obtain⟨h1,h2⟩:=fnd_some hf;rw[nodup_inj h h1 hx h2]
theorem fnd_app {st r:List (Fd α)} {v:Nat} (h:v∈nodes st):fnd (st ++ r) v=fnd st v:=by
 unfold fnd;rw[List.find?_append];cases hf:fnd st v with
 |none=>exact absurd h (fnd_none.1 hf)
 |some x=>unfold fnd at hf;rw[hf];rfl
def backL (fr:α→Nat) (st:List (Fd α)) (s:Nat):Nat→Nat→List α
 |0,_=>[]
 |k+1,v=>if v=s then [] else match fnd st v with
  |none=>[]
  |some x=>x.by_::backL fr st s k (fr x.by_)
def wayL (fr:α→Nat) (st:List (Fd α)) (s v:Nat):List α:=(backL fr st s st.length v).reverse
def Leads (to_:α→Nat) (es:Nat→List α):Nat→List α→Nat→Prop
 |u,[],t=>u=t
 |u,e::L,t=>e∈es u∧Leads to_ es (to_ e) L t
theorem Leads.snoc {to_:α→Nat} {es:Nat→List α} {L:List α} {e:α} : ∀ {u v:Nat},Leads to_ es u L v→e∈es v→Leads to_ es u (L ++ [e]) (to_ e):=by
 induction L with
 |nil=>intro u v h he;cases h;exact⟨he,rfl⟩
 |cons f L ih=>intro u v h he;exact⟨h.1,ih h.2 he⟩
theorem Fds.mem_lv {fr to_:α→Nat} {es:Nat→List α} {s:Nat} {st:List (Fd α)} (h:Fds fr to_ es s st) {x:Fd α} (hx:x∈st):
  (x.v=s∧x.lv=0)∨(x.v≠s∧to_ x.by_=x.v∧ ∃ y,y∈st∧x.by_∈es y.v∧x.lv=y.lv+1):=by
 obtain⟨j,hj⟩:=List.getElem?_of_mem hx;obtain⟨z,r,hr,h1,h2⟩:=h.head;have hz:z∈st:=by rw[hr];exact List.mem_cons_self
 cases j with
 |zero=>
  rw[hr] at hj;injection hj with hj
  rw[← hj];exact .inl ⟨h1,h2⟩
 |succ j=>
  obtain⟨h3,k,y,_,hy,h4,h5⟩:=h.by_ok j x hj;refine .inr ⟨?_,h3,y,List.mem_of_getElem? hy,h4,h5⟩;intro e;have:=nodup_inj h.nodup hx hz (by rw[e,h1]);rw[this,h2] at h5;omega
theorem lv_lt {fr to_:α→Nat} {es:Nat→List α} {s:Nat} {st:List (Fd α)} (h:Fds fr to_ es s st) {x:Fd α} (hx:x∈st):x.lv<st.length:=by
 obtain⟨z,r,hr,h1,h2⟩:=h.head;have aux: ∀ (j:Nat) (y:Fd α),st[j]? =some y→y.lv≤j:=by
  intro j
  induction j using Nat.strongRecOn with
  |_ j ih=>
   intro y hy;cases j with
   |zero=>
    rw[hr] at hy;injection hy with hy
    rw[← hy,h2];exact Nat.le_refl _
   |succ j=>
    obtain⟨_,k,w,hk,hw,_,h5⟩:=h.by_ok j y hy;have:=ih k (by omega) w hw;omega
 obtain⟨j,hj⟩:=List.getElem?_of_mem hx;have:=aux j x hj;have:=(List.getElem?_eq_some_iff.1 hj).1;omega
theorem backL_spec {fr to_:α→Nat} {es:Nat→List α} {s:Nat} {st:List (Fd α)} (h:Fds fr to_ es s st) (hes: ∀ u e,e∈es u→fr e=u) (k:Nat): ∀ {x:Fd α},x∈st→x.lv≤k→
  (backL fr st s k x.v).length=x.lv∧Leads to_ es s (backL fr st s k x.v).reverse x.v:=by
 induction k with
 |zero=>
  intro x hx hk;rcases h.mem_lv hx with ⟨h1,h2⟩|⟨_,_,y,_,_,h5⟩
  ·exact⟨by rw[h2];rfl,h1.symm⟩
  ·omega
 |succ k ih=>
  intro x hx hk;unfold backL;rcases h.mem_lv hx with ⟨h1,h2⟩|⟨h1,h3,y,hy,h4,h5⟩
  ·rw[Yx h1,h2]
   exact⟨rfl,h1.symm⟩
  ·rw[Yy h1,fnd_of h.nodup hx]
   show (_::_).length=_∧Leads to_ es s (_::_).reverse _;rw[hes _ _ h4];obtain⟨i1,i2⟩:=ih hy (by omega);refine⟨by rw[List.length_cons,i1,h5],?_⟩;rw[List.reverse_cons, ← h3];exact i2.snoc h4
theorem backL_lv {fr to_:α→Nat} {es:Nat→List α} {s:Nat} {st:List (Fd α)} (h:Fds fr to_ es s st) (hes: ∀ u e,e∈es u→fr e=u) (k:Nat): ∀ {x:Fd α},x∈st→ ∀ e,e∈backL fr st s k x.v→
  ∃ y z,y∈st∧z∈st∧y.v=to_ e∧z.v=fr e∧y.lv=z.lv+1∧e∈es z.v:=by
 induction k with
 |zero=>intro x hx e he;cases he
 |succ k ih=>
  intro x hx e he;unfold backL at he;rcases h.mem_lv hx with ⟨h1,h2⟩|⟨h1,h3,y,hy,h4,h5⟩
  ·rw[Yx h1] at he;cases he
  ·rw[Yy h1,fnd_of h.nodup hx] at he
   rcases List.mem_cons.1 he with rfl|he
   ·exact⟨x,y,hx,hy,h3.symm,(hes _ _ h4).symm,h5,h4⟩
   ·rw[hes _ _ h4] at he
    exact ih hy e he
theorem backL_more {fr to_:α→Nat} {es:Nat→List α} {s:Nat} {st:List (Fd α)} (h:Fds fr to_ es s st) (hes: ∀ u e,e∈es u→fr e=u) (r:List (Fd α)) (k:Nat): ∀ {k':Nat} {x:Fd α},x∈st→x.lv≤k→x.lv≤k'→
  backL fr (st ++ r) s k' x.v=backL fr st s k x.v:=by
 induction k with
 |zero=>
  intro k' x hx hk hk';rcases h.mem_lv hx with ⟨h1,h2⟩|⟨_,_,y,_,_,h5⟩
  ·cases k' with
   |zero=>rfl
   |succ k'=>unfold backL;rw[Yx h1]
  ·omega
 |succ k ih=>
  intro k' x hx hk hk';rcases h.mem_lv hx with ⟨h1,h2⟩|⟨h1,h3,y,hy,h4,h5⟩
  ·cases k' with
   |zero=>unfold backL;rw[Yx h1]
   |succ k'=>unfold backL;rw[Yx h1,Yx h1]
  ·cases k' with
   |zero=>omega
   |succ k'=>
    unfold backL;rw[Yy h1,Yy h1,fnd_app (List.mem_map.2 ⟨x,hx,rfl⟩),fnd_of h.nodup hx];show _::_=_::_;rw[hes _ _ h4,ih hy (by omega) (by omega)]
def dOf (n:Nat) (st:List (Fd α)):List Int:=(List.range n).map fun v=>match fnd st v with
 |some x=>(x.lv:Int)
 |none=> -1
theorem dOf_get {n v:Nat} (st:List (Fd α)) (d:Int) (hv:v<n):(dOf n st).getD v d=match fnd st v with
  |some x=>(x.lv:Int)
  |none=> -1:=by
 unfold dOf;rw[List.getD_eq_getElem?_getD,List.getElem?_map,List.getElem?_range hv];rfl
theorem dOf_mem {n:Nat} {st:List (Fd α)} (h:(nodes st).Nodup) {x:Fd α} (hx:x∈st) (d:Int) (hv:x.v<n):(dOf n st).getD x.v d=x.lv:=by
 rw[dOf_get st d hv,fnd_of h hx]
def bfsN (to_:α→Nat) (es:Nat→List α) (z:α) (n s:Nat):List (Fd α):=bfs to_ es n 0 [⟨s,z,0⟩]
theorem bfsN_upto {fr to_:α→Nat} {es:Nat→List α} {z:α} {n s:Nat} (hN: ∀ (u:Nat) (e:α),e∈es u→to_ e<n) (hs:s<n):Upto fr to_ es s (bfsN to_ es z n s).length (bfsN to_ es z n s):=
 bfs_done hN hs n 0 _ (upto_start fr to_ es s z) (by omega)
theorem bfsN_closed {to_:α→Nat} {es:Nat→List α} {z:α} {n s:Nat} (hN: ∀ (u:Nat) (e:α),e∈es u→to_ e<n) (hs:s<n) {x:Fd α} (hx:x∈bfsN to_ es z n s) {e:α} (he:e∈es x.v):
  ∃ y,y∈bfsN to_ es z n s∧y.v=to_ e∧y.lv≤x.lv+1:=by
 obtain⟨j,hj⟩:=List.getElem?_of_mem hx;obtain⟨k,y,hk,h1,h2⟩:=(bfsN_upto (fr:=fun _=>0) (z:=z) hN hs).seen j x (List.getElem?_eq_some_iff.1 hj).1 hj e he;exact⟨y,List.mem_of_getElem? hk,h1,h2⟩
theorem fds_lt {fr to_:α→Nat} {es:Nat→List α} {n s:Nat} {st:List (Fd α)} (h:Fds fr to_ es s st) (hN: ∀ (u:Nat) (e:α),e∈es u→to_ e<n) (hs:s<n): ∀ v,v∈nodes st→v<n:=by
 intro v hv;obtain⟨x,hx,rfl⟩:=List.mem_map.1 hv;rcases h.mem_lv hx with ⟨h1,_⟩|⟨_,h3,y,_,h4,_⟩
 ·rw[h1];exact hs
 ·rw[← h3];exact hN _ _ h4
theorem fds_len {fr to_:α→Nat} {es:Nat→List α} {n s:Nat} {st:List (Fd α)} (h:Fds fr to_ es s st) (hN: ∀ (u:Nat) (e:α),e∈es u→to_ e<n) (hs:s<n):st.length≤n:=by
 have:=pigeonN n (nodes st) h.nodup (fds_lt h hN hs);unfold nodes at this
 rwa [List.length_map] at this
end
end H
namespace P
attribute [local go_sem] max2_int min2_int max_two min_two max_three min_three max_four min_four
def ebbtideref07_Steps.l0:Nat→List Int→List (S79)→Int→Int→Bool→List (S50)→Option ((List (S79)))
 |0,_,_,_,_,_,_=>none
 |k+1,x1,x5,x6,x238000,x238001,x238002=>if x6<(x1.length:Int) then(if 0≤x6 then(if x6<(x238002.length:Int) then(if ((rd_T50 x238002 x6).f2)>(rd x1 x6) then(if x5.length<8796093022208 then((some (x5 ++ [(⟨x6,false⟩:S79)]:List (S79))).bind fun y240=>(if (rd x1 x6)>0 then(if y240.length<8796093022208 then(ebbtideref07_Steps.l0 k x1 (y240 ++ [(⟨x6,true⟩:S79)]) (wrap64 (x6+1)) x238000 x238001 x238002) else(none)) else(ebbtideref07_Steps.l0 k x1 y240 (wrap64 (x6+1)) x238000 x238001 x238002))) else(none)) else(if (rd x1 x6)>0 then(if x5.length<8796093022208 then(ebbtideref07_Steps.l0 k x1 (x5 ++ [(⟨x6,true⟩:S79)]) (wrap64 (x6+1)) x238000 x238001 x238002) else(none)) else(ebbtideref07_Steps.l0 k x1 x5 (wrap64 (x6+1)) x238000 x238001 x238002))) else(none)) else(none)) else(some x5)
def ebbtideref07_Steps.f (k:Nat) (Zb:Int) (Zc:Bool) (Za:List (S50)) (l1:List Int):Option ((List (S79))):=ebbtideref07_Steps.l0 k l1 ([]:List (S79)) 0 Zb Zc Za
set_option maxHeartbeats 8000000 in
set_option maxRecDepth 100000 in
theorem ebbtideref07_Steps.calls (k:Nat) (Zb:Int) (Zc:Bool) (Ze:Option Addr) (Zd:Nat) (Za:List (S50)) (A1:Option Addr) (c1:Nat) (l1:List Int) (r:List (S79)) (w:World) (Zp:Kd.C k50 w Ze Za.length Za) (Zq:Za.length≤Zd) (hr1:Kd.C (Kd.int .i64) w A1 l1.length l1) (hc1:l1.length≤c1) (h:ebbtideref07_Steps.f k Zb Zc Za l1=some r):
  Calls Try.prog 41 #[.agg #[.int .i64 Zb, .bool Zc, .slice Ze Za.length Zd], .slice A1 l1.length c1] w fun e w'=> ∃ v0_:Value,e= .returned (v0_)∧Kd.R k79 79 w' w.heap.size (fun _=>True) v0_ r∧Below w.heap.size w w':=by
 have hu24:=Try.underlying24;have hu79:=Try.underlying79;have Zh:=Ya Zp;have Zo:=Ya Zq;clear Zp Zq;have HR1:=Ya hr1;have HC1:=Ya hc1;clear hr1 hc1;have HB:=Ya (Yo w.heap.size w);have H:=h;unfold ebbtideref07_Steps.f at H;clear h;have H':=Ya H;clear H;go_enter Try.func41,Try.ntmps41;go_wp2_with (first|(refine bx 2 24 #[.int .i64 Zb, .bool Zc, .slice Ze Za.length Zd] ?_;intro gb237 hg w3 Zf hb;have Xj:=Ya (Zf);have GW237:=Ya ((sz hg));have GE237:=Ya ((sz hg));replace HB:=Ya (Yk bl hb);clear hb Zf hg));repeat(go_quiet (first|(refine bx 2 24 #[.int .i64 Zb, .bool Zc, .slice Ze Za.length Zd] ?_;intro gb237 hg w3 Zf hb;have Xj:=Ya (Zf);have GW237:=Ya ((sz hg));have GE237:=Ya ((sz hg));replace HB:=Ya (Yk bl hb);clear hb Zf hg));try go_wp2_with (first|(refine bx 2 24 #[.int .i64 Zb, .bool Zc, .slice Ze Za.length Zd] ?_;intro gb237 hg w3 Zf hb;have Xj:=Ya (Zf);have GW237:=Ya ((sz hg));have GE237:=Ya ((sz hg));replace HB:=Ya (Yk bl hb);clear hb Zf hg)))
 go_loopg [5,6] k (fun kq v5 v6 w'=> ∃ (Xr:List (S79)) (Xf:Int),v6= .int .i64 Xf∧Aside0 (ebbtideref07_Steps.l0 kq l1 Xr Xf Zb Zc Za=some r)∧Aside0 (kq≤k)∧Aside0 (Kd.R k79 79 w' w.heap.size (fun _=>True) v5 Xr)∧Aside0 (w'.heap[gb237]? =some (.cells #[.int .i64 Zb, .bool Zc,(.slice Ze Za.length Zd)] 24 (0,0)))∧Aside0 (Below w.heap.size w w'))
 case atStart=>exact⟨(([]:List (S79))),(0),(by first|rfl|(simp;done)|(simp[*];done)),H',⟨Nat.le_refl _⟩,⟨by first|exact Kd.R_nil _ _ _ _ _|exact Kd.N_nil _ _ _ _ _|exact Kd.V_nil _ _ _ _ _|exact Kd.Q_nil _ _ _ _ _|exact Kd.S_nil _ _ _ _ _⟩,⟨Xj.out⟩,⟨HB.out⟩⟩
 case round=>
  clear H';try clear c1
  obtain⟨Xr,Xf,rfl,HA,HK1,HO_5,Xj,HB⟩:=hrel;cases gk with
  |zero=>exact absurd HA.out (by simp[ebbtideref07_Steps.l0])
  |succ k1=>
   have H:=HA.out;clear HA;simp only[ebbtideref07_Steps.l0] at H;by_cases c4:Xf<(l1.length:Int)
   rotate_left
   ·rw[Yy c4] at H
    have c4b0:decide (Xf<(l1.length:Int))=false:=Yw c4;clear c4;obtain rfl:=Option.some.inj H;go_wp2;repeat(go_quiet (fail);try go_wp2)
    go_ret;exact⟨_,by first|rfl|(simp[errW_none,errW_some]<;>rfl)|(simp[*,errW_none,errW_some]<;>rfl),by(with_reducible repeat(first|apply Yr|apply Yq|apply Yp));exact HO_5.out,HB.out⟩
   rw[Yx c4] at H;have c4b0:decide (Xf<(l1.length:Int))=true:=Yv c4;clear c4;by_cases c5:0≤Xf
   rotate_left
   ·rw[Yy c5] at H
    exact absurd H (by simp)
   rw[Yx c5] at H;have c5b0:decide (0≤Xf)=true:=Yv c5;clear c5;by_cases c6:Xf<(Za.length:Int)
   rotate_left
   ·rw[Yy c6] at H
    exact absurd H (by simp)
   rw[Yx c6] at H;have c6b0:decide (Xf<(Za.length:Int))=true:=Yv c6;clear c6;by_cases c7:((rd_T50 Za Xf).f2)>(rd l1 Xf)
   ·rw[Yx c7] at H
    have c7b0:decide ((rd l1 Xf)<((rd_T50 Za Xf).f2))=true:=Yv c7;clear c7;by_cases c8:Xr.length<8796093022208
    rotate_left
    ·rw[Yy c8] at H
     exact absurd H (by simp)
    rw[Yx c8] at H;have LMc8:=Ya c8;clear c8;obtain⟨y240,hy240⟩: ∃ y_:List (S79),y_=(Xr ++ [(⟨Xf,false⟩:S79)]):=⟨_,rfl⟩;rw[Option.bind_some, ← hy240] at H;have Ny240:=Ya hy240;clear hy240;by_cases c9:(rd l1 Xf)>0
    rotate_left
    ·rw[Yy c9] at H
     have c9b0:decide (0<(rd l1 Xf))=false:=Yw c9;clear c9;have H':=Ya H;clear H;have Vy:wr.cell? ⟨gb237,0,none⟩=some (.int .i64 Zb):=bc Xj 0;have Ud:wr.cell? ⟨gb237,1,none⟩=some (.bool Zc):=bc Xj 1;have Jo:wr.cell? ⟨gb237,2,none⟩=some (.slice Ze Za.length Zd):=bc Xj 2;have Ue:=Yf Xj.out 0;have Uf:=Yf Xj.out 1;have Jp:=Yf Xj.out 2;have p238:0≤(Xf:Int):=od;have q238:Xf<(Za.length:Int):=od;obtain⟨ad238,e238,hx238_0,hx238_1,hx238_2,hx238_3⟩:=at_T50 Zh.out Xf p238 q238;cases e238;replace hx238_0:=hc HB hx238_0;replace hx238_1:=hc HB hx238_1;replace hx238_2:=hc HB hx238_2;replace hx238_3:=hc HB hx238_3;replace p238:=eq_true p238;replace q238:=eq_true q238;have p239:0≤(Xf:Int):=od;have q239:Xf<(l1.length:Int):=od;obtain⟨ad239,e239,hx239_0⟩:=Kd.at_int HR1.out Xf p239 q239;cases e239;replace hx239_0:=hc HB hx239_0;replace p239:=eq_true p239;replace q239:=eq_true q239;go_wp2_with (first|((with_reducible refine gate_builtin (b:= .append) (xs:= #[.tmp 24, .tmp 27]) rfl ?_);at_builtin;refine Kd.R_append k79 (w0:=w) w.heap.size rfl (.tmp 24) (.tmp 27) 67 79 (.agg #[(.int .i64 0),(.bool false)]) 16 rfl Try.underlying67 info79 rfl (by decide) (by omega) u5 Xr (⟨Xf,false⟩:S79) [.int .i64 Xf, .bool false] (fun _=>True) (fun _=>False) rfl rfl ?aP (fun _ hk=>hk.elim) ?aF ?aO ?aB ?aS ?aL ?_;(case aP=>exact k79_mkM _ _ _ (⟨Xf,false⟩:S79));(case aB=>exact bl);(case aF=>exact(fun _ _=>trivial));(case aO=>exact(kR HO_5));(case aS=>exact(Yi bl));(case aL=>have:=LMc8.out;omega);intro v241 w15 ho hb hg hat;rw[← Ny240.out] at ho;replace Xj:=Ya (blk_grown (bk Xj) hg (Kd.R_ne HO_5.out Xj.out (by decide)));replace HB:=Ya (hb);have HO242:=Ya (ho);clear HO_5;clear ho hb hg hat;have p243:0≤(Xf:Int):=od;have q243:Xf<(l1.length:Int):=od;obtain⟨ad243,e243,Uv⟩:=Kd.at_int HR1.out Xf p243 q243;obtain rfl:ad239=ad243:=(by injection e243);replace Uv:=hc HB Uv;replace p243:=eq_true p243;replace q243:=eq_true q243));repeat(go_quiet (first|((with_reducible refine gate_builtin (b:= .append) (xs:= #[.tmp 24, .tmp 27]) rfl ?_);at_builtin;refine Kd.R_append k79 (w0:=w) w.heap.size rfl (.tmp 24) (.tmp 27) 67 79 (.agg #[(.int .i64 0),(.bool false)]) 16 rfl Try.underlying67 info79 rfl (by decide) (by omega) u5 Xr (⟨Xf,false⟩:S79) [.int .i64 Xf, .bool false] (fun _=>True) (fun _=>False) rfl rfl ?aP (fun _ hk=>hk.elim) ?aF ?aO ?aB ?aS ?aL ?_;(case aP=>exact k79_mkM _ _ _ (⟨Xf,false⟩:S79));(case aB=>exact bl);(case aF=>exact(fun _ _=>trivial));(case aO=>exact(kR HO_5));(case aS=>exact(Yi bl));(case aL=>have:=LMc8.out;omega);intro v241 w15 ho hb hg hat;rw[← Ny240.out] at ho;replace Xj:=Ya (blk_grown (bk Xj) hg (Kd.R_ne HO_5.out Xj.out (by decide)));replace HB:=Ya (hb);have HO242:=Ya (ho);clear HO_5;clear ho hb hg hat;have p243:0≤(Xf:Int):=od;have q243:Xf<(l1.length:Int):=od;obtain⟨ad243,e243,Uv⟩:=Kd.at_int HR1.out Xf p243 q243;obtain rfl:ad239=ad243:=(by injection e243);replace Uv:=hc HB Uv;replace p243:=eq_true p243;replace q243:=eq_true q243));try go_wp2_with (first|((with_reducible refine gate_builtin (b:= .append) (xs:= #[.tmp 24, .tmp 27]) rfl ?_);at_builtin;refine Kd.R_append k79 (w0:=w) w.heap.size rfl (.tmp 24) (.tmp 27) 67 79 (.agg #[(.int .i64 0),(.bool false)]) 16 rfl Try.underlying67 info79 rfl (by decide) (by omega) u5 Xr (⟨Xf,false⟩:S79) [.int .i64 Xf, .bool false] (fun _=>True) (fun _=>False) rfl rfl ?aP (fun _ hk=>hk.elim) ?aF ?aO ?aB ?aS ?aL ?_;(case aP=>exact k79_mkM _ _ _ (⟨Xf,false⟩:S79));(case aB=>exact bl);(case aF=>exact(fun _ _=>trivial));(case aO=>exact(kR HO_5));(case aS=>exact(Yi bl));(case aL=>have:=LMc8.out;omega);intro v241 w15 ho hb hg hat;rw[← Ny240.out] at ho;replace Xj:=Ya (blk_grown (bk Xj) hg (Kd.R_ne HO_5.out Xj.out (by decide)));replace HB:=Ya (hb);have HO242:=Ya (ho);clear HO_5;clear ho hb hg hat;have p243:0≤(Xf:Int):=od;have q243:Xf<(l1.length:Int):=od;obtain⟨ad243,e243,Uv⟩:=Kd.at_int HR1.out Xf p243 q243;obtain rfl:ad239=ad243:=(by injection e243);replace Uv:=hc HB Uv;replace p243:=eq_true p243;replace q243:=eq_true q243)))
     go_roundg k1
     case measure=>have:=HK1.out;omega
     case rel=>exact⟨(y240),(wrap64 (Xf+1)),(by first|rfl|(simp;done)|(simp[*];done)),H',⟨by have:=HK1.out;omega⟩,⟨HO242.out⟩,⟨Xj.out⟩,⟨HB.out⟩⟩
    rw[Yx c9] at H;have c9b0:decide (0<(rd l1 Xf))=true:=Yv c9;clear c9;by_cases c10:y240.length<8796093022208
    rotate_left
    ·rw[Yy c10] at H
     exact absurd H (by simp)
    rw[Yx c10] at H;have LMc10:=Ya c10;clear c10;obtain⟨y244,hy244⟩: ∃ y_:List (S79),y_=(y240 ++ [(⟨Xf,true⟩:S79)]):=⟨_,rfl⟩;rw[← hy244] at H;have Ny244:=Ya hy244;clear hy244;have H':=Ya H;clear H;have hcz11_0:wr.cell? ⟨gb237,0,none⟩=some (.int .i64 Zb):=bc Xj 0;have hcz11_1:wr.cell? ⟨gb237,1,none⟩=some (.bool Zc):=bc Xj 1;have hcz11_2:wr.cell? ⟨gb237,2,none⟩=some (.slice Ze Za.length Zd):=bc Xj 2;have hfz11_0:=Yf Xj.out 0;have hfz11_1:=Yf Xj.out 1;have hfz11_2:=Yf Xj.out 2;have p238:0≤(Xf:Int):=od;have q238:Xf<(Za.length:Int):=od;obtain⟨ad238,e238,hx238_0,hx238_1,hx238_2,hx238_3⟩:=at_T50 Zh.out Xf p238 q238;cases e238;replace hx238_0:=hc HB hx238_0;replace hx238_1:=hc HB hx238_1;replace hx238_2:=hc HB hx238_2;replace hx238_3:=hc HB hx238_3;replace p238:=eq_true p238;replace q238:=eq_true q238;have p239:0≤(Xf:Int):=od;have q239:Xf<(l1.length:Int):=od;obtain⟨ad239,e239,hx239_0⟩:=Kd.at_int HR1.out Xf p239 q239;cases e239;replace hx239_0:=hc HB hx239_0;replace p239:=eq_true p239;replace q239:=eq_true q239;go_wp2_with (first|((with_reducible refine gate_builtin (b:= .append) (xs:= #[.tmp 24, .tmp 27]) rfl ?_);at_builtin;refine Kd.R_append k79 (w0:=w) w.heap.size rfl (.tmp 24) (.tmp 27) 67 79 (.agg #[(.int .i64 0),(.bool false)]) 16 rfl Try.underlying67 info79 rfl (by decide) (by omega) u5 Xr (⟨Xf,false⟩:S79) [.int .i64 Xf, .bool false] (fun _=>True) (fun _=>False) rfl rfl ?aP (fun _ hk=>hk.elim) ?aF ?aO ?aB ?aS ?aL ?_;(case aP=>exact k79_mkM _ _ _ (⟨Xf,false⟩:S79));(case aB=>exact bl);(case aF=>exact(fun _ _=>trivial));(case aO=>exact(kR HO_5));(case aS=>exact(Yi bl));(case aL=>have:=LMc8.out;omega);intro v241 w12 ho hb hg hat;rw[← Ny240.out] at ho;replace Xj:=Ya (blk_grown (bk Xj) hg (Kd.R_ne HO_5.out Xj.out (by decide)));replace HB:=Ya (hb);have HO242:=Ya (ho);clear HO_5;clear ho hb hg hat;have p243:0≤(Xf:Int):=od;have q243:Xf<(l1.length:Int):=od;obtain⟨ad243,e243,Uv⟩:=Kd.at_int HR1.out Xf p243 q243;obtain rfl:ad239=ad243:=(by injection e243);replace Uv:=hc HB Uv;replace p243:=eq_true p243;replace q243:=eq_true q243)|((with_reducible refine gate_builtin (b:= .append) (xs:= #[.tmp 34, .tmp 37]) rfl ?_);at_builtin;refine Kd.R_append k79 (w0:=w) w.heap.size rfl (.tmp 34) (.tmp 37) 67 79 (.agg #[(.int .i64 0),(.bool false)]) 16 rfl Try.underlying67 info79 rfl (by decide) (by omega) v241 y240 (⟨Xf,true⟩:S79) [.int .i64 Xf, .bool true] (fun _=>True) (fun _=>False) rfl rfl ?aP (fun _ hk=>hk.elim) ?aF ?aO ?aB ?aS ?aL ?_;(case aP=>exact k79_mkM _ _ _ (⟨Xf,true⟩:S79));(case aB=>exact bl);(case aF=>exact(fun _ _=>trivial));(case aO=>exact(kR HO242));(case aS=>exact(Yi bl));(case aL=>have:=LMc10.out;omega);intro v245 w13 ho hb hg hat;rw[← Ny244.out] at ho;replace Xj:=Ya (blk_grown (bk Xj) hg (Kd.R_ne HO242.out Xj.out (by decide)));replace HB:=Ya (hb);have HO246:=Ya (ho);clear HO242;clear ho hb hg hat));repeat(go_quiet (first|((with_reducible refine gate_builtin (b:= .append) (xs:= #[.tmp 24, .tmp 27]) rfl ?_);at_builtin;refine Kd.R_append k79 (w0:=w) w.heap.size rfl (.tmp 24) (.tmp 27) 67 79 (.agg #[(.int .i64 0),(.bool false)]) 16 rfl Try.underlying67 info79 rfl (by decide) (by omega) u5 Xr (⟨Xf,false⟩:S79) [.int .i64 Xf, .bool false] (fun _=>True) (fun _=>False) rfl rfl ?aP (fun _ hk=>hk.elim) ?aF ?aO ?aB ?aS ?aL ?_;(case aP=>exact k79_mkM _ _ _ (⟨Xf,false⟩:S79));(case aB=>exact bl);(case aF=>exact(fun _ _=>trivial));(case aO=>exact(kR HO_5));(case aS=>exact(Yi bl));(case aL=>have:=LMc8.out;omega);intro v241 w12 ho hb hg hat;rw[← Ny240.out] at ho;replace Xj:=Ya (blk_grown (bk Xj) hg (Kd.R_ne HO_5.out Xj.out (by decide)));replace HB:=Ya (hb);have HO242:=Ya (ho);clear HO_5;clear ho hb hg hat;have p243:0≤(Xf:Int):=od;have q243:Xf<(l1.length:Int):=od;obtain⟨ad243,e243,Uv⟩:=Kd.at_int HR1.out Xf p243 q243;obtain rfl:ad239=ad243:=(by injection e243);replace Uv:=hc HB Uv;replace p243:=eq_true p243;replace q243:=eq_true q243)|((with_reducible refine gate_builtin (b:= .append) (xs:= #[.tmp 34, .tmp 37]) rfl ?_);at_builtin;refine Kd.R_append k79 (w0:=w) w.heap.size rfl (.tmp 34) (.tmp 37) 67 79 (.agg #[(.int .i64 0),(.bool false)]) 16 rfl Try.underlying67 info79 rfl (by decide) (by omega) v241 y240 (⟨Xf,true⟩:S79) [.int .i64 Xf, .bool true] (fun _=>True) (fun _=>False) rfl rfl ?aP (fun _ hk=>hk.elim) ?aF ?aO ?aB ?aS ?aL ?_;(case aP=>exact k79_mkM _ _ _ (⟨Xf,true⟩:S79));(case aB=>exact bl);(case aF=>exact(fun _ _=>trivial));(case aO=>exact(kR HO242));(case aS=>exact(Yi bl));(case aL=>have:=LMc10.out;omega);intro v245 w13 ho hb hg hat;rw[← Ny244.out] at ho;replace Xj:=Ya (blk_grown (bk Xj) hg (Kd.R_ne HO242.out Xj.out (by decide)));replace HB:=Ya (hb);have HO246:=Ya (ho);clear HO242;clear ho hb hg hat));try go_wp2_with (first|((with_reducible refine gate_builtin (b:= .append) (xs:= #[.tmp 24, .tmp 27]) rfl ?_);at_builtin;refine Kd.R_append k79 (w0:=w) w.heap.size rfl (.tmp 24) (.tmp 27) 67 79 (.agg #[(.int .i64 0),(.bool false)]) 16 rfl Try.underlying67 info79 rfl (by decide) (by omega) u5 Xr (⟨Xf,false⟩:S79) [.int .i64 Xf, .bool false] (fun _=>True) (fun _=>False) rfl rfl ?aP (fun _ hk=>hk.elim) ?aF ?aO ?aB ?aS ?aL ?_;(case aP=>exact k79_mkM _ _ _ (⟨Xf,false⟩:S79));(case aB=>exact bl);(case aF=>exact(fun _ _=>trivial));(case aO=>exact(kR HO_5));(case aS=>exact(Yi bl));(case aL=>have:=LMc8.out;omega);intro v241 w12 ho hb hg hat;rw[← Ny240.out] at ho;replace Xj:=Ya (blk_grown (bk Xj) hg (Kd.R_ne HO_5.out Xj.out (by decide)));replace HB:=Ya (hb);have HO242:=Ya (ho);clear HO_5;clear ho hb hg hat;have p243:0≤(Xf:Int):=od;have q243:Xf<(l1.length:Int):=od;obtain⟨ad243,e243,Uv⟩:=Kd.at_int HR1.out Xf p243 q243;obtain rfl:ad239=ad243:=(by injection e243);replace Uv:=hc HB Uv;replace p243:=eq_true p243;replace q243:=eq_true q243)|((with_reducible refine gate_builtin (b:= .append) (xs:= #[.tmp 34, .tmp 37]) rfl ?_);at_builtin;refine Kd.R_append k79 (w0:=w) w.heap.size rfl (.tmp 34) (.tmp 37) 67 79 (.agg #[(.int .i64 0),(.bool false)]) 16 rfl Try.underlying67 info79 rfl (by decide) (by omega) v241 y240 (⟨Xf,true⟩:S79) [.int .i64 Xf, .bool true] (fun _=>True) (fun _=>False) rfl rfl ?aP (fun _ hk=>hk.elim) ?aF ?aO ?aB ?aS ?aL ?_;(case aP=>exact k79_mkM _ _ _ (⟨Xf,true⟩:S79));(case aB=>exact bl);(case aF=>exact(fun _ _=>trivial));(case aO=>exact(kR HO242));(case aS=>exact(Yi bl));(case aL=>have:=LMc10.out;omega);intro v245 w13 ho hb hg hat;rw[← Ny244.out] at ho;replace Xj:=Ya (blk_grown (bk Xj) hg (Kd.R_ne HO242.out Xj.out (by decide)));replace HB:=Ya (hb);have HO246:=Ya (ho);clear HO242;clear ho hb hg hat)))
    go_roundg k1
    case measure=>have:=HK1.out;omega
    case rel=>exact⟨(y244),(wrap64 (Xf+1)),(by first|rfl|(simp;done)|(simp[*];done)),H',⟨by have:=HK1.out;omega⟩,⟨kR HO246⟩,⟨bk Xj⟩,⟨bl⟩⟩
   rw[Yy c7] at H;have c7b0:decide ((rd l1 Xf)<((rd_T50 Za Xf).f2))=false:=Yw c7;clear c7;by_cases c16:(rd l1 Xf)>0
   rotate_left
   ·rw[Yy c16] at H
    have c16b0:decide (0<(rd l1 Xf))=false:=Yw c16;clear c16;have H':=Ya H;clear H;have hcz20_0:wr.cell? ⟨gb237,0,none⟩=some (.int .i64 Zb):=bc Xj 0;have hcz20_1:wr.cell? ⟨gb237,1,none⟩=some (.bool Zc):=bc Xj 1;have hcz20_2:wr.cell? ⟨gb237,2,none⟩=some (.slice Ze Za.length Zd):=bc Xj 2;have hfz20_0:=Yf Xj.out 0;have hfz20_1:=Yf Xj.out 1;have hfz20_2:=Yf Xj.out 2;have p238:0≤(Xf:Int):=od;have q238:Xf<(Za.length:Int):=od;obtain⟨ad238,e238,hx238_0,hx238_1,hx238_2,hx238_3⟩:=at_T50 Zh.out Xf p238 q238;cases e238;replace hx238_0:=hc HB hx238_0;replace hx238_1:=hc HB hx238_1;replace hx238_2:=hc HB hx238_2;replace hx238_3:=hc HB hx238_3;replace p238:=eq_true p238;replace q238:=eq_true q238;have p239:0≤(Xf:Int):=od;have q239:Xf<(l1.length:Int):=od;obtain⟨ad239,e239,hx239_0⟩:=Kd.at_int HR1.out Xf p239 q239;cases e239;replace hx239_0:=hc HB hx239_0;replace p239:=eq_true p239;replace q239:=eq_true q239;have p247:0≤(Xf:Int):=od;have q247:Xf<(l1.length:Int):=od;obtain⟨ad247,e247,hx247_0⟩:=Kd.at_int HR1.out Xf p247 q247;obtain rfl:ad239=ad247:=(by injection e247);replace hx247_0:=hc HB hx247_0;replace p247:=eq_true p247;replace q247:=eq_true q247;go_wp2;repeat(go_quiet (fail);try go_wp2)
    go_roundg k1
    case measure=>have:=HK1.out;omega
    case rel=>exact⟨(Xr),(wrap64 (Xf+1)),(by first|rfl|(simp;done)|(simp[*];done)),H',⟨by have:=HK1.out;omega⟩,⟨kR HO_5⟩,⟨bk Xj⟩,⟨bl⟩⟩
   rw[Yx c16] at H;have c16b0:decide (0<(rd l1 Xf))=true:=Yv c16;clear c16;by_cases c17:Xr.length<8796093022208
   rotate_left
   ·rw[Yy c17] at H
    exact absurd H (by simp)
   rw[Yx c17] at H;have LMc17:=Ya c17;clear c17;obtain⟨y248,hy248⟩: ∃ y_:List (S79),y_=(Xr ++ [(⟨Xf,true⟩:S79)]):=⟨_,rfl⟩;rw[← hy248] at H;have Ny248:=Ya hy248;clear hy248;have H':=Ya H;clear H;have hcz18_0:wr.cell? ⟨gb237,0,none⟩=some (.int .i64 Zb):=bc Xj 0;have hcz18_1:wr.cell? ⟨gb237,1,none⟩=some (.bool Zc):=bc Xj 1;have hcz18_2:wr.cell? ⟨gb237,2,none⟩=some (.slice Ze Za.length Zd):=bc Xj 2;have hfz18_0:=Yf Xj.out 0;have hfz18_1:=Yf Xj.out 1;have hfz18_2:=Yf Xj.out 2;have p238:0≤(Xf:Int):=od;have q238:Xf<(Za.length:Int):=od;obtain⟨ad238,e238,hx238_0,hx238_1,hx238_2,hx238_3⟩:=at_T50 Zh.out Xf p238 q238;cases e238;replace hx238_0:=hc HB hx238_0;replace hx238_1:=hc HB hx238_1;replace hx238_2:=hc HB hx238_2;replace hx238_3:=hc HB hx238_3;replace p238:=eq_true p238;replace q238:=eq_true q238;have p239:0≤(Xf:Int):=od;have q239:Xf<(l1.length:Int):=od;obtain⟨ad239,e239,hx239_0⟩:=Kd.at_int HR1.out Xf p239 q239;cases e239;replace hx239_0:=hc HB hx239_0;replace p239:=eq_true p239;replace q239:=eq_true q239;have p247:0≤(Xf:Int):=od;have q247:Xf<(l1.length:Int):=od;obtain⟨ad247,e247,hx247_0⟩:=Kd.at_int HR1.out Xf p247 q247;obtain rfl:ad239=ad247:=(by injection e247);replace hx247_0:=hc HB hx247_0;replace p247:=eq_true p247;replace q247:=eq_true q247;go_wp2_with (first|((with_reducible refine gate_builtin (b:= .append) (xs:= #[.tmp 34, .tmp 37]) rfl ?_);at_builtin;refine Kd.R_append k79 (w0:=w) w.heap.size rfl (.tmp 34) (.tmp 37) 67 79 (.agg #[(.int .i64 0),(.bool false)]) 16 rfl Try.underlying67 info79 rfl (by decide) (by omega) u5 Xr (⟨Xf,true⟩:S79) [.int .i64 Xf, .bool true] (fun _=>True) (fun _=>False) rfl rfl ?aP (fun _ hk=>hk.elim) ?aF ?aO ?aB ?aS ?aL ?_;(case aP=>exact k79_mkM _ _ _ (⟨Xf,true⟩:S79));(case aB=>exact bl);(case aF=>exact(fun _ _=>trivial));(case aO=>exact(kR HO_5));(case aS=>exact(Yi bl));(case aL=>have:=LMc17.out;omega);intro v249 w19 ho hb hg hat;rw[← Ny248.out] at ho;replace Xj:=Ya (blk_grown (bk Xj) hg (Kd.R_ne HO_5.out Xj.out (by decide)));replace HB:=Ya (hb);have HO250:=Ya (ho);clear HO_5;clear ho hb hg hat));repeat(go_quiet (first|((with_reducible refine gate_builtin (b:= .append) (xs:= #[.tmp 34, .tmp 37]) rfl ?_);at_builtin;refine Kd.R_append k79 (w0:=w) w.heap.size rfl (.tmp 34) (.tmp 37) 67 79 (.agg #[(.int .i64 0),(.bool false)]) 16 rfl Try.underlying67 info79 rfl (by decide) (by omega) u5 Xr (⟨Xf,true⟩:S79) [.int .i64 Xf, .bool true] (fun _=>True) (fun _=>False) rfl rfl ?aP (fun _ hk=>hk.elim) ?aF ?aO ?aB ?aS ?aL ?_;(case aP=>exact k79_mkM _ _ _ (⟨Xf,true⟩:S79));(case aB=>exact bl);(case aF=>exact(fun _ _=>trivial));(case aO=>exact(kR HO_5));(case aS=>exact(Yi bl));(case aL=>have:=LMc17.out;omega);intro v249 w19 ho hb hg hat;rw[← Ny248.out] at ho;replace Xj:=Ya (blk_grown (bk Xj) hg (Kd.R_ne HO_5.out Xj.out (by decide)));replace HB:=Ya (hb);have HO250:=Ya (ho);clear HO_5;clear ho hb hg hat));try go_wp2_with (first|((with_reducible refine gate_builtin (b:= .append) (xs:= #[.tmp 34, .tmp 37]) rfl ?_);at_builtin;refine Kd.R_append k79 (w0:=w) w.heap.size rfl (.tmp 34) (.tmp 37) 67 79 (.agg #[(.int .i64 0),(.bool false)]) 16 rfl Try.underlying67 info79 rfl (by decide) (by omega) u5 Xr (⟨Xf,true⟩:S79) [.int .i64 Xf, .bool true] (fun _=>True) (fun _=>False) rfl rfl ?aP (fun _ hk=>hk.elim) ?aF ?aO ?aB ?aS ?aL ?_;(case aP=>exact k79_mkM _ _ _ (⟨Xf,true⟩:S79));(case aB=>exact bl);(case aF=>exact(fun _ _=>trivial));(case aO=>exact(kR HO_5));(case aS=>exact(Yi bl));(case aL=>have:=LMc17.out;omega);intro v249 w19 ho hb hg hat;rw[← Ny248.out] at ho;replace Xj:=Ya (blk_grown (bk Xj) hg (Kd.R_ne HO_5.out Xj.out (by decide)));replace HB:=Ya (hb);have HO250:=Ya (ho);clear HO_5;clear ho hb hg hat)))
   go_roundg k1
   case measure=>have:=HK1.out;omega
   case rel=>exact⟨(y248),(wrap64 (Xf+1)),(by first|rfl|(simp;done)|(simp[*];done)),H',⟨by have:=HK1.out;omega⟩,⟨HO250.out⟩,⟨Xj.out⟩,⟨HB.out⟩⟩
end P
namespace P
attribute [local go_sem] max2_int min2_int max_two min_two max_three min_three max_four min_four
def ebbtideref07_From.f (Zb:Int) (Zc:Bool) (Za:List (S50)) (Zj:Int) (Xh:Bool):Option (Int):=if Xh=true then(if 0≤Zj then(if Zj<(Za.length:Int) then(some ((rd_T50 Za Zj).f1)) else(none)) else(none)) else(if 0≤Zj then(if Zj<(Za.length:Int) then(some ((rd_T50 Za Zj).f0)) else(none)) else(none))
set_option maxHeartbeats 8000000 in
set_option maxRecDepth 100000 in
theorem ebbtideref07_From.calls (Zb:Int) (Zc:Bool) (Ze:Option Addr) (Zd:Nat) (Za:List (S50)) (Zj:Int) (Xh:Bool) (r:Int) (w:World) (Zp:Kd.C k50 w Ze Za.length Za) (Zq:Za.length≤Zd) (h:ebbtideref07_From.f Zb Zc Za Zj Xh=some r):
  Calls Try.prog 42 #[.agg #[.int .i64 Zb, .bool Zc, .slice Ze Za.length Zd], .agg #[.int .i64 Zj, .bool Xh]] w fun e w'=>e= .returned (.int .i64 r)∧Below w.heap.size w w':=by
 have hu24:=Try.underlying24;have hu79:=Try.underlying79;have Zh:=Ya Zp;have Zo:=Ya Zq;clear Zp Zq;have HB:=Ya (Yo w.heap.size w);have H:=h;unfold ebbtideref07_From.f at H;clear h;by_cases c3:Xh=true
 ·subst c3
  first|rw[Yx rfl] at H|rw[Yx trivial] at H
  by_cases c4:0≤Zj
  rotate_left
  ·rw[Yy c4] at H
   exact absurd H (by simp)
  rw[Yx c4] at H;have c4b0:decide (0≤Zj)=true:=Yv c4;clear c4;by_cases c5:Zj<(Za.length:Int)
  rotate_left
  ·rw[Yy c5] at H
   exact absurd H (by simp)
  rw[Yx c5] at H;have c5b0:decide (Zj<(Za.length:Int))=true:=Yv c5;clear c5;obtain rfl:=Option.some.inj H;go_enter Try.func42,Try.ntmps42;go_wp2_with (first|(refine bx 2 24 #[.int .i64 Zb, .bool Zc, .slice Ze Za.length Zd] ?_;intro gb251 hg w6 Zf hb;have BK251:=Ya (Zf);have GW251:=Ya ((sz hg));have GE251:=Ya ((sz hg));replace HB:=Ya (Yk bl hb);clear hb Zf hg)|(refine bx 3 79 #[.int .i64 Zj, .bool true] ?_;intro gb252 hg w7 Zf hb;have BK252:=Ya (Zf);have GW252:=Ya ((sz hg));have GE252:=Ya ((sz hg));replace HB:=Ya (Yk bl hb);have NB251_252:=Ya (by rw[hg];exact Nat.ne_of_lt (blk_lt (bk BK251)):gb251≠gb252);have NB252_251:=Ya (by rw[hg];exact Nat.ne_of_gt (blk_lt (bk BK251)):gb252≠gb251);replace BK251:=Ya (Yn (bk BK251) hb);clear hb Zf hg;have hnb8:=NB252_251.out;have hnc8:=NB251_252.out;have hcz9_0:w7.cell? ⟨gb252,0,none⟩=some (.int .i64 Zj):=bc BK252 0;have hcz9_1:w7.cell? ⟨gb252,1,none⟩=some (.bool true):=bc BK252 1;have hfz9_0:=Yf BK252.out 0;have hfz9_1:=Yf BK252.out 1;have Wu:w7.cell? ⟨gb251,0,none⟩=some (.int .i64 Zb):=bc BK251 0;have Wv:w7.cell? ⟨gb251,1,none⟩=some (.bool Zc):=bc BK251 1;have Vl:w7.cell? ⟨gb251,2,none⟩=some (.slice Ze Za.length Zd):=bc BK251 2;have Ww:=Yf BK251.out 0;have Wx:=Yf BK251.out 1;have Vm:=Yf BK251.out 2;have p253:0≤(Zj:Int):=od;have q253:Zj<(Za.length:Int):=od;obtain⟨ad253,e253,hx253_0,hx253_1,hx253_2,hx253_3⟩:=at_T50 Zh.out Zj p253 q253;cases e253;replace hx253_0:=hc HB hx253_0;replace hx253_1:=hc HB hx253_1;replace hx253_2:=hc HB hx253_2;replace hx253_3:=hc HB hx253_3;replace p253:=eq_true p253;replace q253:=eq_true q253));go_ret;exact⟨by first|rfl|(simp[errW_none,errW_some]<;>rfl)|(simp[*,errW_none,errW_some]<;>rfl),HB.out⟩
 replace c3:=Bool.eq_false_iff.mpr c3;subst c3;rw[Yy (show ¬ (false=true) by decide)] at H;by_cases c11:0≤Zj
 rotate_left
 ·rw[Yy c11] at H
  exact absurd H (by simp)
 rw[Yx c11] at H;have c11b0:decide (0≤Zj)=true:=Yv c11;clear c11;by_cases c12:Zj<(Za.length:Int)
 rotate_left
 ·rw[Yy c12] at H
  exact absurd H (by simp)
 rw[Yx c12] at H;have c12b0:decide (Zj<(Za.length:Int))=true:=Yv c12;clear c12;obtain rfl:=Option.some.inj H;go_enter Try.func42,Try.ntmps42;go_wp2_with (first|(refine bx 2 24 #[.int .i64 Zb, .bool Zc, .slice Ze Za.length Zd] ?_;intro gb251 hg w13 Zf hb;have BK251:=Ya (Zf);have GW251:=Ya ((sz hg));have GE251:=Ya ((sz hg));replace HB:=Ya (Yk bl hb);clear hb Zf hg)|(refine bx 3 79 #[.int .i64 Zj, .bool false] ?_;intro gb252 hg w14 Zf hb;have BK252:=Ya (Zf);have GW252:=Ya ((sz hg));have GE252:=Ya ((sz hg));replace HB:=Ya (Yk bl hb);have NB251_252:=Ya (by rw[hg];exact Nat.ne_of_lt (blk_lt (bk BK251)):gb251≠gb252);have NB252_251:=Ya (by rw[hg];exact Nat.ne_of_gt (blk_lt (bk BK251)):gb252≠gb251);replace BK251:=Ya (Yn (bk BK251) hb);clear hb Zf hg;have hnb15:=NB252_251.out;have hnc15:=NB251_252.out;have hcz16_0:w14.cell? ⟨gb252,0,none⟩=some (.int .i64 Zj):=bc BK252 0;have hcz16_1:w14.cell? ⟨gb252,1,none⟩=some (.bool false):=bc BK252 1;have hfz16_0:=Yf BK252.out 0;have hfz16_1:=Yf BK252.out 1;have Vz:w14.cell? ⟨gb251,0,none⟩=some (.int .i64 Zb):=bc BK251 0;have Ua:w14.cell? ⟨gb251,1,none⟩=some (.bool Zc):=bc BK251 1;have hcz17_2:w14.cell? ⟨gb251,2,none⟩=some (.slice Ze Za.length Zd):=bc BK251 2;have Ub:=Yf BK251.out 0;have Uc:=Yf BK251.out 1;have hfz17_2:=Yf BK251.out 2;have p254:0≤(Zj:Int):=od;have q254:Zj<(Za.length:Int):=od;obtain⟨ad254,e254,hx254_0,hx254_1,hx254_2,hx254_3⟩:=at_T50 Zh.out Zj p254 q254;cases e254;replace hx254_0:=hc HB hx254_0;replace hx254_1:=hc HB hx254_1;replace hx254_2:=hc HB hx254_2;replace hx254_3:=hc HB hx254_3;replace p254:=eq_true p254;replace q254:=eq_true q254));go_ret;exact⟨by first|rfl|(simp[errW_none,errW_some]<;>rfl)|(simp[*,errW_none,errW_some]<;>rfl),HB.out⟩
end P
namespace P
attribute [local go_sem] max2_int min2_int max_two min_two max_three min_three max_four min_four
def ebbtideref07_To.f (Zb:Int) (Zc:Bool) (Za:List (S50)) (Zj:Int) (Xh:Bool):Option (Int):=if Xh=true then(if 0≤Zj then(if Zj<(Za.length:Int) then(some ((rd_T50 Za Zj).f0)) else(none)) else(none)) else(if 0≤Zj then(if Zj<(Za.length:Int) then(some ((rd_T50 Za Zj).f1)) else(none)) else(none))
set_option maxHeartbeats 8000000 in
set_option maxRecDepth 100000 in
theorem ebbtideref07_To.calls (Zb:Int) (Zc:Bool) (Ze:Option Addr) (Zd:Nat) (Za:List (S50)) (Zj:Int) (Xh:Bool) (r:Int) (w:World) (Zp:Kd.C k50 w Ze Za.length Za) (Zq:Za.length≤Zd) (h:ebbtideref07_To.f Zb Zc Za Zj Xh=some r):
  Calls Try.prog 43 #[.agg #[.int .i64 Zb, .bool Zc, .slice Ze Za.length Zd], .agg #[.int .i64 Zj, .bool Xh]] w fun e w'=>e= .returned (.int .i64 r)∧Below w.heap.size w w':=by
 have hu24:=Try.underlying24;have hu79:=Try.underlying79;have Zh:=Ya Zp;have Zo:=Ya Zq;clear Zp Zq;have HB:=Ya (Yo w.heap.size w);have H:=h;unfold ebbtideref07_To.f at H;clear h;by_cases c3:Xh=true
 ·subst c3
  first|rw[Yx rfl] at H|rw[Yx trivial] at H
  by_cases c4:0≤Zj
  rotate_left
  ·rw[Yy c4] at H
   exact absurd H (by simp)
  rw[Yx c4] at H;have c4b0:decide (0≤Zj)=true:=Yv c4;clear c4;by_cases c5:Zj<(Za.length:Int)
  rotate_left
  ·rw[Yy c5] at H
   exact absurd H (by simp)
  rw[Yx c5] at H;have c5b0:decide (Zj<(Za.length:Int))=true:=Yv c5;clear c5;obtain rfl:=Option.some.inj H;go_enter Try.func43,Try.ntmps43;go_wp2_with (first|(refine bx 2 24 #[.int .i64 Zb, .bool Zc, .slice Ze Za.length Zd] ?_;intro gb255 hg w6 Zf hb;have BK255:=Ya (Zf);have GW255:=Ya ((sz hg));have GE255:=Ya ((sz hg));replace HB:=Ya (Yk bl hb);clear hb Zf hg)|(refine bx 3 79 #[.int .i64 Zj, .bool true] ?_;intro gb256 hg w7 Zf hb;have BK256:=Ya (Zf);have GW256:=Ya ((sz hg));have GE256:=Ya ((sz hg));replace HB:=Ya (Yk bl hb);have NB255_256:=Ya (by rw[hg];exact Nat.ne_of_lt (blk_lt (bk BK255)):gb255≠gb256);have NB256_255:=Ya (by rw[hg];exact Nat.ne_of_gt (blk_lt (bk BK255)):gb256≠gb255);replace BK255:=Ya (Yn (bk BK255) hb);clear hb Zf hg;have hnb8:=NB256_255.out;have hnc8:=NB255_256.out;have hcz9_0:w7.cell? ⟨gb256,0,none⟩=some (.int .i64 Zj):=bc BK256 0;have hcz9_1:w7.cell? ⟨gb256,1,none⟩=some (.bool true):=bc BK256 1;have hfz9_0:=Yf BK256.out 0;have hfz9_1:=Yf BK256.out 1;have Wu:w7.cell? ⟨gb255,0,none⟩=some (.int .i64 Zb):=bc BK255 0;have Wv:w7.cell? ⟨gb255,1,none⟩=some (.bool Zc):=bc BK255 1;have Vl:w7.cell? ⟨gb255,2,none⟩=some (.slice Ze Za.length Zd):=bc BK255 2;have Ww:=Yf BK255.out 0;have Wx:=Yf BK255.out 1;have Vm:=Yf BK255.out 2;have p257:0≤(Zj:Int):=od;have q257:Zj<(Za.length:Int):=od;obtain⟨ad257,e257,hx257_0,hx257_1,hx257_2,hx257_3⟩:=at_T50 Zh.out Zj p257 q257;cases e257;replace hx257_0:=hc HB hx257_0;replace hx257_1:=hc HB hx257_1;replace hx257_2:=hc HB hx257_2;replace hx257_3:=hc HB hx257_3;replace p257:=eq_true p257;replace q257:=eq_true q257));go_ret;exact⟨by first|rfl|(simp[errW_none,errW_some]<;>rfl)|(simp[*,errW_none,errW_some]<;>rfl),HB.out⟩
 replace c3:=Bool.eq_false_iff.mpr c3;subst c3;rw[Yy (show ¬ (false=true) by decide)] at H;by_cases c11:0≤Zj
 rotate_left
 ·rw[Yy c11] at H
  exact absurd H (by simp)
 rw[Yx c11] at H;have c11b0:decide (0≤Zj)=true:=Yv c11;clear c11;by_cases c12:Zj<(Za.length:Int)
 rotate_left
 ·rw[Yy c12] at H
  exact absurd H (by simp)
 rw[Yx c12] at H;have c12b0:decide (Zj<(Za.length:Int))=true:=Yv c12;clear c12;obtain rfl:=Option.some.inj H;go_enter Try.func43,Try.ntmps43;go_wp2_with (first|(refine bx 2 24 #[.int .i64 Zb, .bool Zc, .slice Ze Za.length Zd] ?_;intro gb255 hg w13 Zf hb;have BK255:=Ya (Zf);have GW255:=Ya ((sz hg));have GE255:=Ya ((sz hg));replace HB:=Ya (Yk bl hb);clear hb Zf hg)|(refine bx 3 79 #[.int .i64 Zj, .bool false] ?_;intro gb256 hg w14 Zf hb;have BK256:=Ya (Zf);have GW256:=Ya ((sz hg));have GE256:=Ya ((sz hg));replace HB:=Ya (Yk bl hb);have NB255_256:=Ya (by rw[hg];exact Nat.ne_of_lt (blk_lt (bk BK255)):gb255≠gb256);have NB256_255:=Ya (by rw[hg];exact Nat.ne_of_gt (blk_lt (bk BK255)):gb256≠gb255);replace BK255:=Ya (Yn (bk BK255) hb);clear hb Zf hg;have hnb15:=NB256_255.out;have hnc15:=NB255_256.out;have hcz16_0:w14.cell? ⟨gb256,0,none⟩=some (.int .i64 Zj):=bc BK256 0;have hcz16_1:w14.cell? ⟨gb256,1,none⟩=some (.bool false):=bc BK256 1;have hfz16_0:=Yf BK256.out 0;have hfz16_1:=Yf BK256.out 1;have Vz:w14.cell? ⟨gb255,0,none⟩=some (.int .i64 Zb):=bc BK255 0;have Ua:w14.cell? ⟨gb255,1,none⟩=some (.bool Zc):=bc BK255 1;have hcz17_2:w14.cell? ⟨gb255,2,none⟩=some (.slice Ze Za.length Zd):=bc BK255 2;have Ub:=Yf BK255.out 0;have Uc:=Yf BK255.out 1;have hfz17_2:=Yf BK255.out 2;have p258:0≤(Zj:Int):=od;have q258:Zj<(Za.length:Int):=od;obtain⟨ad258,e258,hx258_0,hx258_1,hx258_2,hx258_3⟩:=at_T50 Zh.out Zj p258 q258;cases e258;replace hx258_0:=hc HB hx258_0;replace hx258_1:=hc HB hx258_1;replace hx258_2:=hc HB hx258_2;replace hx258_3:=hc HB hx258_3;replace p258:=eq_true p258;replace q258:=eq_true q258));go_ret;exact⟨by first|rfl|(simp[errW_none,errW_some]<;>rfl)|(simp[*,errW_none,errW_some]<;>rfl),HB.out⟩
end P
namespace P
attribute [local go_sem] max2_int min2_int max_two min_two max_three min_three max_four min_four
def ebbtideref11_Time.f (Zb:Int) (Zc:Bool) (Za:List (S50)) (Zj:Int) (Xh:Bool):Option (Int):=if Xh=true then(if 0≤Zj then(if Zj<(Za.length:Int) then(some (wrap64 (-((rd_T50 Za Zj).f3)))) else(none)) else(none)) else(if 0≤Zj then(if Zj<(Za.length:Int) then(some ((rd_T50 Za Zj).f3)) else(none)) else(none))
set_option maxHeartbeats 8000000 in
set_option maxRecDepth 100000 in
theorem ebbtideref11_Time.calls (Zb:Int) (Zc:Bool) (Ze:Option Addr) (Zd:Nat) (Za:List (S50)) (Zj:Int) (Xh:Bool) (r:Int) (w:World) (Zp:Kd.C k50 w Ze Za.length Za) (Zq:Za.length≤Zd) (h:ebbtideref11_Time.f Zb Zc Za Zj Xh=some r):
  Calls Try.prog 44 #[.agg #[.int .i64 Zb, .bool Zc, .slice Ze Za.length Zd], .agg #[.int .i64 Zj, .bool Xh]] w fun e w'=>e= .returned (.int .i64 r)∧Below w.heap.size w w':=by
 have hu24:=Try.underlying24;have hu79:=Try.underlying79;have Zh:=Ya Zp;have Zo:=Ya Zq;clear Zp Zq;have HB:=Ya (Yo w.heap.size w);have H:=h;unfold ebbtideref11_Time.f at H;clear h;by_cases c3:Xh=true
 ·subst c3
  first|rw[Yx rfl] at H|rw[Yx trivial] at H
  by_cases c4:0≤Zj
  rotate_left
  ·rw[Yy c4] at H
   exact absurd H (by simp)
  rw[Yx c4] at H;have c4b0:decide (0≤Zj)=true:=Yv c4;clear c4;by_cases c5:Zj<(Za.length:Int)
  rotate_left
  ·rw[Yy c5] at H
   exact absurd H (by simp)
  rw[Yx c5] at H;have c5b0:decide (Zj<(Za.length:Int))=true:=Yv c5;clear c5;obtain rfl:=Option.some.inj H;go_enter Try.func44,Try.ntmps44;go_wp2_with (first|(refine bx 2 24 #[.int .i64 Zb, .bool Zc, .slice Ze Za.length Zd] ?_;intro gb259 hg w6 Zf hb;have BK259:=Ya (Zf);have GW259:=Ya ((sz hg));have GE259:=Ya ((sz hg));replace HB:=Ya (Yk bl hb);clear hb Zf hg)|(refine bx 3 79 #[.int .i64 Zj, .bool true] ?_;intro gb260 hg w7 Zf hb;have BK260:=Ya (Zf);have GW260:=Ya ((sz hg));have GE260:=Ya ((sz hg));replace HB:=Ya (Yk bl hb);have NB259_260:=Ya (by rw[hg];exact Nat.ne_of_lt (blk_lt (bk BK259)):gb259≠gb260);have NB260_259:=Ya (by rw[hg];exact Nat.ne_of_gt (blk_lt (bk BK259)):gb260≠gb259);replace BK259:=Ya (Yn (bk BK259) hb);clear hb Zf hg;have hnb8:=NB260_259.out;have hnc8:=NB259_260.out;have hcz9_0:w7.cell? ⟨gb260,0,none⟩=some (.int .i64 Zj):=bc BK260 0;have hcz9_1:w7.cell? ⟨gb260,1,none⟩=some (.bool true):=bc BK260 1;have hfz9_0:=Yf BK260.out 0;have hfz9_1:=Yf BK260.out 1;have Wu:w7.cell? ⟨gb259,0,none⟩=some (.int .i64 Zb):=bc BK259 0;have Wv:w7.cell? ⟨gb259,1,none⟩=some (.bool Zc):=bc BK259 1;have Vl:w7.cell? ⟨gb259,2,none⟩=some (.slice Ze Za.length Zd):=bc BK259 2;have Ww:=Yf BK259.out 0;have Wx:=Yf BK259.out 1;have Vm:=Yf BK259.out 2;have p261:0≤(Zj:Int):=od;have q261:Zj<(Za.length:Int):=od;obtain⟨ad261,e261,hx261_0,hx261_1,hx261_2,hx261_3⟩:=at_T50 Zh.out Zj p261 q261;cases e261;replace hx261_0:=hc HB hx261_0;replace hx261_1:=hc HB hx261_1;replace hx261_2:=hc HB hx261_2;replace hx261_3:=hc HB hx261_3;replace p261:=eq_true p261;replace q261:=eq_true q261));go_ret;exact⟨by first|rfl|(simp[errW_none,errW_some]<;>rfl)|(simp[*,errW_none,errW_some]<;>rfl),HB.out⟩
 replace c3:=Bool.eq_false_iff.mpr c3;subst c3;rw[Yy (show ¬ (false=true) by decide)] at H;by_cases c11:0≤Zj
 rotate_left
 ·rw[Yy c11] at H
  exact absurd H (by simp)
 rw[Yx c11] at H;have c11b0:decide (0≤Zj)=true:=Yv c11;clear c11;by_cases c12:Zj<(Za.length:Int)
 rotate_left
 ·rw[Yy c12] at H
  exact absurd H (by simp)
 rw[Yx c12] at H;have c12b0:decide (Zj<(Za.length:Int))=true:=Yv c12;clear c12;obtain rfl:=Option.some.inj H;go_enter Try.func44,Try.ntmps44;go_wp2_with (first|(refine bx 2 24 #[.int .i64 Zb, .bool Zc, .slice Ze Za.length Zd] ?_;intro gb259 hg w13 Zf hb;have BK259:=Ya (Zf);have GW259:=Ya ((sz hg));have GE259:=Ya ((sz hg));replace HB:=Ya (Yk bl hb);clear hb Zf hg)|(refine bx 3 79 #[.int .i64 Zj, .bool false] ?_;intro gb260 hg w14 Zf hb;have BK260:=Ya (Zf);have GW260:=Ya ((sz hg));have GE260:=Ya ((sz hg));replace HB:=Ya (Yk bl hb);have NB259_260:=Ya (by rw[hg];exact Nat.ne_of_lt (blk_lt (bk BK259)):gb259≠gb260);have NB260_259:=Ya (by rw[hg];exact Nat.ne_of_gt (blk_lt (bk BK259)):gb260≠gb259);replace BK259:=Ya (Yn (bk BK259) hb);clear hb Zf hg;have hnb15:=NB260_259.out;have hnc15:=NB259_260.out;have hcz16_0:w14.cell? ⟨gb260,0,none⟩=some (.int .i64 Zj):=bc BK260 0;have hcz16_1:w14.cell? ⟨gb260,1,none⟩=some (.bool false):=bc BK260 1;have hfz16_0:=Yf BK260.out 0;have hfz16_1:=Yf BK260.out 1;have Vz:w14.cell? ⟨gb259,0,none⟩=some (.int .i64 Zb):=bc BK259 0;have Ua:w14.cell? ⟨gb259,1,none⟩=some (.bool Zc):=bc BK259 1;have hcz17_2:w14.cell? ⟨gb259,2,none⟩=some (.slice Ze Za.length Zd):=bc BK259 2;have Ub:=Yf BK259.out 0;have Uc:=Yf BK259.out 1;have hfz17_2:=Yf BK259.out 2;have p262:0≤(Zj:Int):=od;have q262:Zj<(Za.length:Int):=od;obtain⟨ad262,e262,hx262_0,hx262_1,hx262_2,hx262_3⟩:=at_T50 Zh.out Zj p262 q262;cases e262;replace hx262_0:=hc HB hx262_0;replace hx262_1:=hc HB hx262_1;replace hx262_2:=hc HB hx262_2;replace hx262_3:=hc HB hx262_3;replace p262:=eq_true p262;replace q262:=eq_true q262));go_ret;exact⟨by first|rfl|(simp[errW_none,errW_some]<;>rfl)|(simp[*,errW_none,errW_some]<;>rfl),HB.out⟩
end P
namespace H
open Go.RowKit Go.Proofs.YtoedkglggapggaaW.PrintWords Go.Proofs.YtoedkglggapggaaW.PrintLast
structure Mk where
 i:Nat
 N:Nat
 G:Value→World→Prop
def allB (md:Region.Mode) (ops:Array Oper) (bad:List Nat) (lb l':Array Bool):Nat→Array Bool→List Nat→Bool
 |0,l,rs=>rs.isEmpty && l == l'
 |n+1,l,rs=>(rs == bad && l == lb) || (Region.ready md ops l == rs && rs.all fun i=>allB md ops bad lb l' n (l.setIfInBounds i true) (rs.erase i))
structure Same (a' a:Act) (D:List Nat) (vs:Nat→Value):Prop where
 defers:a'.defers=a.defers
 size:a'.tmps.size=a.tmps.size
 at_: ∀ t,t<a.tmps.size→a'.tmps[t]? =if t∈D then some (vs t) else a.tmps[t]?
theorem Same.refl (a:Act) (vs:Nat→Value):Same a a [] vs:=⟨rfl,rfl,fun t _=>by rw[if_neg (by simp)]⟩
theorem Same.eq {a1 a2 a:Act} {D E:List Nat} {vs:Nat→Value} (h1:Same a1 a D vs) (h2:Same a2 a E vs) (hDE: ∀ t,t∈D↔t∈E):a1=a2:=by
 obtain⟨t1,d1⟩:=a1;obtain⟨t2,d2⟩:=a2;have e1:d1=d2:=h1.defers.trans h2.defers.symm;have e2:t1=t2:=by
  apply Array.ext_getElem?;intro t;rcases Nat.lt_or_ge t a.tmps.size with h|h
  ·have h3:=h1.at_ t h
   have h4:=h2.at_ t h;refine h3.trans (Eq.trans ?_ h4.symm);by_cases hd:t∈D
   ·rw[if_pos hd,if_pos ((hDE t).1 hd)]
   ·rw[if_neg hd,if_neg (fun h=>hd ((hDE t).2 h))]
  ·have s1:t1.size≤t:=by have:=h1.size;exact Nat.le_trans (Nat.le_of_eq this) h
   have s2:t2.size≤t:=by have:=h2.size;exact Nat.le_trans (Nat.le_of_eq this) h
   rw[Array.getElem?_eq_none s1,Array.getElem?_eq_none s2]
 rw[e1,e2]
theorem Same.put {a' a:Act} {D:List Nat} {vs:Nat→Value} (h:Same a' a D vs) (N:Nat) (v:Value):Same (a'.put (some N) v) a (N::D) (fun t=>if t=N then v else vs t):=by
 refine⟨h.defers,by simp[Act.put,h.size],fun t ht=> ?_⟩;show (a'.tmps.setIfInBounds N v)[t]? =_;by_cases e:N=t
 ·subst e
  rw[Array.getElem?_setIfInBounds_self_of_lt (by rw[h.size];exact ht),if_pos (by simp),if_pos rfl]
 ·rw[Array.getElem?_setIfInBounds_ne e,h.at_ t ht]
  by_cases hD:t∈D
  ·rw[if_pos hD,if_pos (List.mem_cons_of_mem _ hD),if_neg (fun h=>e h.symm)]
  ·rw[if_neg hD,if_neg (by simp[hD,Ne.symm e])]
theorem Same.eval {a' a:Act} {D:List Nat} {vs:Nat→Value} (h:Same a' a D vs) {t:Nat} (ht:t ∉ D):a'.eval (.tmp t)=a.eval (.tmp t):=by
 have:a'.tmps[t]? =a.tmps[t]? :=by
  rcases Nat.lt_or_ge t a.tmps.size with hl|hl
  ·rw[h.at_ t hl,if_neg ht]
  ·rw[Array.getElem?_eq_none (by rw[h.size];exact hl),Array.getElem?_eq_none hl]
 simp only[Act.eval,Array.getD_eq_getD_getElem?,this]
theorem putAll_same (ms:List Mk) (a0:Act) (vs:Nat→Value): ∀ (a:Act) (D:List Nat),Same a a0 D vs→Same (putAll a (ms.map fun m=>(m.N,vs m.N))) a0 (ms.map Mk.N ++ D) vs:=by
 induction ms with
 |nil=>intro a D h;exact h
 |cons m ms ih=>
  intro a D h;have h1:=h.put m.N (vs m.N);have h2:Same (a.put (some m.N) (vs m.N)) a0 (m.N::D) vs:=by
   have e:(fun t=>if t=m.N then vs m.N else vs t)=vs:=by funext t;split<;>simp_all
   rw[e] at h1;exact h1
  have h3:=ih _ _ h2;refine⟨h3.defers,h3.size,fun t ht=> ?_⟩;rw[show putAll a ((m::ms).map fun m=>(m.N,vs m.N))=putAll (a.put (some m.N) (vs m.N)) (ms.map fun m=>(m.N,vs m.N)) from rfl,h3.at_ t ht];have this:(t∈ms.map Mk.N ++ m.N::D)↔(t∈(m::ms).map Mk.N ++ D):=by
   simp only[List.mem_append,List.mem_cons,List.map_cons];constructor
   ·rintro(h|h|h)
    ·exact .inl (.inr h)
    ·exact .inl (.inl h)
    ·exact .inr h
   ·rintro((h|h)|h)
    ·exact .inr (.inl h)
    ·exact .inl h
    ·exact .inr (.inr h)
  by_cases hd:t∈ms.map Mk.N ++ m.N::D
  ·rw[if_pos hd,if_pos (this.1 hd)]
  ·rw[if_neg hd,if_neg (fun h=>hd (this.2 h))]
theorem inj_nodup {ms:List Mk} (h:(ms.map Mk.N).Nodup): ∀ m,m∈ms→ ∀ m',m'∈ms→m.N=m'.N→m=m':=by
 induction ms with
 |nil=>intro m hm;cases hm
 |cons x ms ih=>
  rw[List.map_cons,List.nodup_cons] at h;intro m hm m' hm' e;rcases List.mem_cons.1 hm with h1|h1<;>rcases List.mem_cons.1 hm' with h2|h2
  ·rw[h1,h2]
  ·exact absurd (List.mem_map.2 ⟨m',h2,by rw[← e,h1]⟩) h.1
  ·exact absurd (List.mem_map.2 ⟨m,h1,by rw[e,h2]⟩) h.1
  ·exact ih h.2 m h1 m' h2 e
section
variable {P:Program} {ops:Array Oper} {Q:Exit→Act→World→Prop} {md:Region.Mode} {S:World→Prop} {ds:List Nat}
theorem makers_ {fuel:Nat} {l:Array Bool} {a:Act} {w:World} (n:Nat) (l':Array Bool) (bad:List Nat) (lb:Array Bool) (ms:List Mk) (hn:ms.length=n) (hnd:(ms.map Mk.N).Nodup) (hni:(ms.map Mk.i).Nodup)
  (hops: ∀ m,m∈ms→ ∃ oi,ops[m.i]? =some oi∧oi.dst=some m.N∧m.i ∉ ds∧ ∀ (a':Act) (w':World) (K:Act→World→Prop),(∀ t,t ∉ ms.map Mk.N→a'.eval (.tmp t)=a.eval (.tmp t))→S w'→Below w.heap.size w w'→
   (∀ v w'',S w''→Below w'.heap.size w' w''→m.G v w''→K (a'.put (some m.N) v) w'')→if Region.wanted oi (yielded ops a'.tmps)=true then Oper.wp P oi a' w' K Q else K (a'.put (some m.N) undef) w')
  (hstab: ∀ m,m∈ms→ ∀ v w1 w2,Below w1.heap.size w1 w2→m.G v w1→m.G v w2) (hc:allB md ops bad lb l' n l (ms.map Mk.i)=true) (hS:S w)
  (h: ∀ (vs:Nat→Value) (w':World),Below w.heap.size w w'→S w'→(∀ m,m∈ms→m.G (vs m.N) w')→wpAnyLast P md ops Q S ds fuel l' (putAll a (ms.map fun m=>(m.N,vs m.N))) w')
  (hbad: ∀ (vs:Nat→Value) (w':World),Below w.heap.size w w'→S w'→(∀ m,m∈ms→m.i ∉ bad→m.G (vs m.N) w')→wpAnyLast P md ops Q S ds (fuel+bad.length) lb (putAll a ((ms.filter fun m=> !bad.contains m.i).map fun m=>(m.N,vs m.N))) w'):
  wpAnyLast P md ops Q S ds (fuel+n) l a w:=by
 subst hn;have hinj:=inj_nodup hnd;have aux: ∀ (n:Nat) (rs:List Mk) (l:Array Bool) (a':Act) (w':World) (D:List Nat) (vs:Nat→Value),rs.length=n→(rs.map Mk.i).Nodup→(∀ m,m∈rs→m∈ms)→(∀ m,m∈rs→m.N ∉ D)→(∀ m,m∈ms→m∈rs∨m.N∈D)→(∀ t,t∈D→t∈ms.map Mk.N)→
   Same a' a D vs→(∀ m,m∈ms→m.N∈D→m.G (vs m.N) w')→Below w.heap.size w w'→S w'→allB md ops bad lb l' n l (rs.map Mk.i)=true→wpAnyLast P md ops Q S ds (fuel+n) l a' w':=by
  intro n
  induction n with
  |zero=>
   intro rs l a' w' D vs hn hnr hsub hout hcov hD hs hG hb hS hc;have hr:rs=[]:=List.eq_nil_of_length_eq_zero hn;subst hr;unfold allB at hc;simp only[List.map_nil,List.isEmpty_nil,Bool.true_and,beq_iff_eq] at hc;subst hc;have hall: ∀ m,m∈ms→m.N∈D:=fun m hm=>(hcov m hm).elim (fun h=>by cases h) id
   have e:=Same.eq hs (putAll_same ms a vs a [] (Same.refl a vs)) (fun t=>⟨fun ht=>by rw[List.append_nil];exact hD t ht,fun ht=>by
    rw[List.append_nil] at ht;obtain⟨m,hm,rfl⟩:=List.mem_map.1 ht;exact hall m hm⟩)
   rw[e];exact h vs w' hb hS (fun m hm=>hG m hm (hall m hm))
  |succ n ih=>
   intro rs l a' w' D vs hn hnr hsub hout hcov hD hs hG hb hS hc;unfold allB at hc;rw[Bool.or_eq_true] at hc;rcases hc with hc|hc
   ·rw[Bool.and_eq_true,beq_iff_eq,beq_iff_eq] at hc
    obtain⟨hbd,hl⟩:=hc;subst hl;have hin: ∀ m,m∈ms→(m.i ∉ bad↔m.N∈D):=by
     intro m hm;constructor
     ·intro hnb
      rcases hcov m hm with h1|h1
      ·exact absurd (hbd▸List.mem_map_of_mem h1) hnb
      ·exact h1
     ·intro hND hb2
      rw[← hbd] at hb2;obtain⟨x,hx,e⟩:=List.mem_map.1 hb2;obtain⟨o1,h1,h2,_⟩:=hops x (hsub x hx);obtain⟨o2,h3,h4,_⟩:=hops m hm;rw[e,h3] at h1;injection h1 with h1
      subst h1;rw[h4] at h2;injection h2 with h2
      exact hout x hx (h2▸hND)
    have e:=Same.eq hs (putAll_same (ms.filter fun m=> !bad.contains m.i) a vs a [] (Same.refl a vs)) (fun t=>by
     rw[List.append_nil];constructor
     ·intro ht
      obtain⟨m,hm,rfl⟩:=List.mem_map.1 (hD t ht);exact List.mem_map_of_mem (List.mem_filter.2 ⟨hm,by simpa using (hin m hm).2 ht⟩)
     ·intro ht
      obtain⟨m,hm,rfl⟩:=List.mem_map.1 ht;obtain⟨h1,h2⟩:=List.mem_filter.1 hm;exact(hin m h1).1 (by simpa using h2))
    have hlen:n+1=bad.length:=by rw[← hbd,List.length_map];exact hn.symm
    rw[e,hlen];exact hbad vs w' hb hS (fun m hm hnb=>hG m hm ((hin m hm).1 hnb))
   rw[Bool.and_eq_true,beq_iff_eq,List.all_eq_true] at hc;obtain⟨hrdy,hnext⟩:=hc;refine wpAnyLast_ready (rs:=rs.map Mk.i) hrdy (by intro e;have:=congrArg List.length e;rw[List.length_map] at this;simp at this;rw[this] at hn;simp at hn) ?_;intro i hi;obtain⟨m,hm,rfl⟩:=List.mem_map.1 hi;obtain⟨oi,ho,hd,hnd',hop⟩:=hops m (hsub m hm);refine wpOp_step ho (fun K' hK=> ?_);rw[hd];refine hop a' w' K' (fun t ht=>hs.eval (fun h=>ht (hD t h))) hS hb (fun v w'' hS2 hb2 hg=> ?_);refine hK _ _ ⟨fun _ _=>hS2,?_⟩;have hlen:(rs.eraseP (fun x=>x.i == m.i)).length=n:=by
    rw[List.length_eraseP_of_mem hm (by simp)];omega
   have hmap:(rs.map Mk.i).erase m.i=(rs.eraseP (fun x=>x.i == m.i)).map Mk.i:=by
    rw[List.erase_eq_eraseP',List.eraseP_map];rfl
   have hgone: ∀ x,x∈rs.eraseP (fun x=>x.i == m.i)→x.i≠m.i:=by
    intro x hx;have h1:x.i∈(rs.map Mk.i).erase m.i:=by rw[hmap];exact List.mem_map_of_mem hx
    exact(hnr.mem_erase_iff.1 h1).1
   refine ih (rs.eraseP (fun x=>x.i == m.i)) (l.setIfInBounds m.i true) _ w'' (m.N::D) (fun t=>if t=m.N then v else vs t) hlen (by rw[← hmap];exact hnr.erase _) (fun x hx=>hsub x (List.mem_of_mem_eraseP hx)) ?_ ?_ ?_ (hs.put m.N v) ?_ (below_then hb hb.size hb2) hS2 ?_
   ·intro x hx hxD
    rcases List.mem_cons.1 hxD with h|h
    ·have:=hinj x (hsub x (List.mem_of_mem_eraseP hx)) m (hsub m hm) h
     exact hgone x hx (by rw[this])
    ·exact hout x (List.mem_of_mem_eraseP hx) h
   ·intro x hx
    by_cases e:x.i=m.i
    ·right
     obtain⟨ox,hox,hdx,_⟩:=hops x hx;rw[e,ho] at hox;injection hox with hox
     subst hox;rw[hd] at hdx;injection hdx with hdx
     rw[hdx];exact List.mem_cons_self
    ·rcases hcov x hx with h|h
     ·left
      exact(List.mem_eraseP_of_neg (by simpa using e)).2 h
     ·right
      exact List.mem_cons_of_mem _ h
   ·intro t ht
    rcases List.mem_cons.1 ht with rfl|ht
    ·exact List.mem_map_of_mem (hsub m hm)
    ·exact hD t ht
   ·intro x hx hxD
    by_cases e:x.N=m.N
    ·have hxm:=hinj x hx m (hsub m hm) e
     subst hxm;show x.G (if x.N=x.N then v else vs x.N) w'';rw[if_pos rfl];exact hg
    ·show x.G (if x.N=m.N then v else vs x.N) w''
     rw[if_neg e];refine hstab x hx _ w' w'' hb2 (hG x hx ?_);rcases List.mem_cons.1 hxD with h|h
     ·exact absurd h e
     ·exact h
   ·have:=hnext m.i (List.mem_map_of_mem hm)
    rw[hmap] at this;exact this
 exact aux ms.length ms l a w [] (fun _=>undef) rfl hni (fun m hm=>hm) (fun m hm h=>by cases h) (fun m hm=> .inl hm) (fun t ht=>by cases ht) (Same.refl a _) (fun m _ h=>by cases h) (Below.refl _ _) hS hc
end
end H
namespace P
attribute [local go_sem] max2_int min2_int max_two min_two max_three min_three max_four min_four
mutual
def ebbtideref11_From.l0:Nat→List (S79)→Int→Int→Bool→List (S50)→List Int→List Bool→Bool→Option (List Int × List Bool × Bool)
 |0,_,_,_,_,_,_,_,_=>none
 |k+1,x8,x9,x264000,x264001,x264002,Ju,x272001,x272002=>if x9≤x264000 then(ebbtideref11_From.l1 k x8 x9 0 x264000 x264001 x264002 Ju x272001 true) else(some (Ju,x272001,x272002))
def ebbtideref11_From.l1:Nat→List (S79)→Int→Int→Int→Bool→List (S50)→List Int→List Bool→Bool→Option (List Int × List Bool × Bool)
 |0,_,_,_,_,_,_,_,_,_=>none
 |k+1,x8,x9,x10,x264000,x264001,x264002,Ju,x272001,x272002=>if x10<(x8.length:Int) then(if 0≤x10 then((ebbtideref07_From.f x264000 x264001 x264002 ((rd_T79 x8 x10).f0) ((rd_T79 x8 x10).f1)).bind fun t277=>((ebbtideref07_To.f x264000 x264001 x264002 ((rd_T79 x8 x10).f0) ((rd_T79 x8 x10).f1)).bind fun t279=>(if 0≤t277 then(if t277<(Ju.length:Int) then((ebbtideref11_Time.f x264000 x264001 x264002 ((rd_T79 x8 x10).f0) ((rd_T79 x8 x10).f1)).bind fun t282=>(if t277<(x272001.length:Int) then(if rdOf false x272001 t277=true then(if 0≤t279 then(if t279<(x272001.length:Int) then(if rdOf false x272001 t279=true then(if t279<(Ju.length:Int) then(if (wrap64 ((rd Ju t277)+t282))<(rd Ju t279) then(ebbtideref11_From.l1 k x8 x9 (wrap64 (x10+1)) x264000 x264001 x264002 (Ju.set (t279:Int).toNat (wrap64 ((rd Ju t277)+t282))) (x272001.set (t279:Int).toNat true) false) else(ebbtideref11_From.l1 k x8 x9 (wrap64 (x10+1)) x264000 x264001 x264002 Ju x272001 x272002)) else(none)) else(if t279<(Ju.length:Int) then(ebbtideref11_From.l1 k x8 x9 (wrap64 (x10+1)) x264000 x264001 x264002 (Ju.set (t279:Int).toNat (wrap64 ((rd Ju t277)+t282))) (x272001.set (t279:Int).toNat true) false) else(none))) else(none)) else(none)) else(ebbtideref11_From.l1 k x8 x9 (wrap64 (x10+1)) x264000 x264001 x264002 Ju x272001 x272002)) else(none))) else(none)) else(none)))) else(none)) else(ebbtideref11_From.l0 k x8 (wrap64 (x9+1)) x264000 x264001 x264002 Ju x272001 x272002)
end
def ebbtideref11_From.f (k:Nat) (Zb:Int) (Zc:Bool) (Za:List (S50)) (l1:List Int) (a2:Int):Option (List Int × List Bool × Bool):=if 0≤Zb then(if (Zb:Int).toNat≤35184372088832 then(if (Zb:Int).toNat≤281474976710656 then((some (List.replicate (Zb:Int).toNat false:List Bool)).bind fun y268=>(if 0≤a2 then(if a2<(y268.length:Int) then((ebbtideref07_Steps.f k Zb Zc Za l1).bind fun t273=>(ebbtideref11_From.l0 k t273 0 Zb Zc Za (List.replicate (Zb:Int).toNat 0) (y268.set (a2:Int).toNat true) false)) else(none)) else(none))) else(none)) else(none)) else(none)
def ebbtideref11_From.T11:Bool × List (List Nat × List Nat):=(true,[([],[]),([],[]),([],[]),([1,2],[1,2]),([3],[3]),([0,4],[0,4]),([],[]),([],[]),([],[]),([7,8],[7,8]),([9],[9]),([6,10,5],[6,10]),([5,11,0,1,2,3,4,5],[5]),([11,12,0,1,2,3,4,5,6,7,8,9,10,11,12],[11])])
def ebbtideref11_From.B11:List Nat:=[0,0,0,6,14,31,0,0,0,384,896,2047,4095,8191]
theorem ebbtideref11_From.tab11:rtab .any (opsOf Try.f17 11)=ebbtideref11_From.T11:=by kernel_rfl
theorem ebbtideref11_From.bits11:waitsOk ebbtideref11_From.T11.2 ebbtideref11_From.B11=true:=by kernel_rfl
def ebbtideref11_From.T12:Bool × List (List Nat × List Nat):=(true,[([],[]),([0],[0]),([],[]),([1,2],[1,2]),([3],[3]),([],[]),([],[]),([],[]),([6,7],[6,7]),([8],[8]),([5,9],[5,9]),([4,10],[4,10]),([11,10,0,1,2,3,4,5,6,7,8,9,10,11],[11])])
def ebbtideref11_From.B12:List Nat:=[0,1,0,7,15,0,0,0,192,448,992,2047,4095]
theorem ebbtideref11_From.tab12:rtab .any (opsOf Try.f17 12)=ebbtideref11_From.T12:=by kernel_rfl
theorem ebbtideref11_From.bits12:waitsOk ebbtideref11_From.T12.2 ebbtideref11_From.B12=true:=by kernel_rfl
set_option maxHeartbeats 8000000 in
set_option maxRecDepth 100000 in
theorem ebbtideref11_From.calls (k:Nat) (Zb:Int) (Zc:Bool) (Ze:Option Addr) (Zd:Nat) (Za:List (S50)) (A1:Option Addr) (c1:Nat) (l1:List Int) (a2:Int) (r1:List Int) (r2:List Bool) (r3:Bool) (w:World) (Zp:Kd.C k50 w Ze Za.length Za) (Zq:Za.length≤Zd) (hr1:Kd.C (Kd.int .i64) w A1 l1.length l1) (hc1:l1.length≤c1) (h:ebbtideref11_From.f k Zb Zc Za l1 a2=some (r1,r2,r3)):
  Calls Try.prog 17 #[.agg #[.int .i64 Zb, .bool Zc, .slice Ze Za.length Zd], .slice A1 l1.length c1, .int .i64 a2] w fun e w'=> ∃ v0_ v1_:Value,e= .returned (.agg #[v0_,v1_, .bool r3])∧Kd.R (Kd.int .i64) 3 w' w.heap.size (fun _=>True) v0_ r1∧Kd.R Kd.bool 4 w' w.heap.size (fun _=>True) v1_ r2∧Below w.heap.size w w':=by
 have hu24:=Try.underlying24;have hu40:=Try.underlying40;have hu79:=Try.underlying79;have Zh:=Ya Zp;have Zo:=Ya Zq;clear Zp Zq;have HR1:=Ya hr1;have HC1:=Ya hc1;clear hr1 hc1;have HB:=Ya (Yo w.heap.size w);have H:=h;unfold ebbtideref11_From.f at H;clear h;by_cases c4:0≤Zb
 rotate_left
 ·rw[Yy c4] at H
  exact absurd H (by simp)
 rw[Yx c4] at H;have c4b0:=eq_true c4;have c4b1:decide (0≤Zb)=true:=Yv c4;clear c4;by_cases c5:(Zb:Int).toNat≤35184372088832
 rotate_left
 ·rw[Yy c5] at H
  exact absurd H (by simp)
 rw[Yx c5] at H;have c5b0:=eq_true c5;have c5b1:decide ((Zb:Int).toNat≤35184372088832)=true:=Yv c5;clear c5;obtain⟨y265,hy265⟩: ∃ y_:List Int,y_=(List.replicate (Zb:Int).toNat 0):=⟨_,rfl⟩;rw[← hy265] at H;have Ny265:=Ya hy265;clear hy265;by_cases c6:(Zb:Int).toNat≤281474976710656
 rotate_left
 ·rw[Yy c6] at H
  exact absurd H (by simp)
 rw[Yx c6] at H;have c6b0:=eq_true c6;have c6b1:decide ((Zb:Int).toNat≤281474976710656)=true:=Yv c6;clear c6;obtain⟨y268,hy268⟩: ∃ y_:List Bool,y_=(List.replicate (Zb:Int).toNat false):=⟨_,rfl⟩;rw[Option.bind_some, ← hy268] at H;have Ny268:=Ya hy268;clear hy268;by_cases c7:0≤a2
 rotate_left
 ·rw[Yy c7] at H
  exact absurd H (by simp)
 rw[Yx c7] at H;have c7b0:decide (0≤a2)=true:=Yv c7;clear c7;by_cases c8:a2<(y268.length:Int)
 rotate_left
 ·rw[Yy c8] at H
  exact absurd H (by simp)
 rw[Yx c8] at H;have c8b0:decide (a2<(y268.length:Int))=true:=Yv c8;clear c8;obtain⟨y272,hy272⟩: ∃ y_:List Bool,y_=(y268.set (a2:Int).toNat true):=⟨_,rfl⟩;rw[← hy272] at H;have Ny272:=Ya hy272;clear hy272;replace H:=Option.bind_eq_some_iff.mp H;obtain⟨t273,A100,H⟩:=H;try dsimp only at H
 have A10:=Ya A100;clear A100;have H':=Ya H;clear H;go_enter Try.func17,Try.ntmps17;go_wp2_with (first|(refine bx 3 24 #[.int .i64 Zb, .bool Zc, .slice Ze Za.length Zd] ?_;intro Wk hg w11 Zf hb;have Zl:=Ya (Zf);have GW263:=Ya ((sz hg));have GE263:=Ya ((sz hg));replace HB:=Ya (Yk bl hb);clear hb Zf hg)|(refine bx 6 40 #[.slice none 0 0, .slice none 0 0, .bool false] ?_;intro gb264 hg w12 Zf hb;have Zw:=Ya (Zf);have GW264:=Ya ((sz hg));have GE264:=Ya ((sz hg));replace HB:=Ya (Yk bl hb);have NB263_264:=Ya (by rw[hg];exact Nat.ne_of_lt (blk_lt (bk Zl)):Wk≠gb264);have NB264_263:=Ya (by rw[hg];exact Nat.ne_of_gt (blk_lt (bk Zl)):gb264≠Wk);replace Zl:=Ya (Yn (bk Zl) hb);clear hb Zf hg;have hnb13:=NB263_264.out;have hnc13:=NB264_263.out;have Vy:w12.cell? ⟨Wk,0,none⟩=some (.int .i64 Zb):=bc Zl 0;have Ud:w12.cell? ⟨Wk,1,none⟩=some (.bool Zc):=bc Zl 1;have Jo:w12.cell? ⟨Wk,2,none⟩=some (.slice Ze Za.length Zd):=bc Zl 2;have Ue:=Yf Zl.out 0;have Uf:=Yf Zl.out 1;have Jp:=Yf Zl.out 2)|fail);refine start_ (n:=9) (S:=fun w'=>w'.cell? ⟨Wk,0,none⟩=some (.int .i64 Zb)) (ds:=[8]) #[false,false,false,false,false,false,false,false,false] (by kernel_rfl) rfl rfl Vy (fun hHeld=> ?_);have d0_:=Ya (below_drew HB.out);have d1_:=Ya (show w12.drew.heap[Wk]? =some (.cells #[.int .i64 Zb, .bool Zc, .slice Ze Za.length Zd] 24 (0,0)) from Zl.out);have d2_:=Ya (show w12.drew.heap[gb264]? =some (.cells #[.slice none 0 0, .slice none 0 0, .bool false] 40 (0,0)) from Zw.out);clear HB Zl Zw;have HB:=d0_;have Zl:=d1_;have Zw:=d2_;clear d0_ d1_ d2_;generalize w12.drew=w14 at hHeld HB Zl Zw ⊢;have L0_:Aside0 (Wk<w14.heap.size):=⟨blk_lt Zl.out⟩;have L1_:Aside0 (gb264<w14.heap.size):=⟨blk_lt Zw.out⟩;refine pure_ (i:=0) (N:=some 14) (v:= ?_) (a':= ?_) #[true,false,false,false,false,false,false,false,false] rfl rfl (by kernel_rfl) (fun _ _ _ h=>h) (Or.inl ⟨by rfl,?_⟩) ?_ ?_
 rotate_left
 ·intro w'
  go_simp
  with_reducible rfl
 rotate_left
 ·simp only[Act.put,List.setIfInBounds_toArray,List.set_cons_zero,List.set_cons_succ,i64_w,i32_w]
  rfl
 refine pure_ (i:=3) (N:=some 17) (v:= ?_) (a':= ?_) #[true,false,false,true,false,false,false,false,false] rfl rfl (by kernel_rfl) (fun _ _ _ h=>h) (Or.inl ⟨by rfl,?_⟩) ?_ ?_
 rotate_left
 ·intro w'
  go_simp
  with_reducible rfl
 rotate_left
 ·simp only[Act.put,List.setIfInBounds_toArray,List.set_cons_zero,List.set_cons_succ,i64_w,i32_w]
  rfl
 refine take_ (i:=1) (N:=some 15) (v:= ?_) (a':= ?_) #[true,true,false,true,false,false,false,false,false] rfl rfl (by kernel_rfl) (fun _ _ _ h=>h) (Or.inl ⟨by rfl,?_⟩) hHeld ?_ ?_
 rotate_left
 ·rintro w' s0
  go_simp
  with_reducible rfl
 rotate_left
 ·simp only[Act.put,List.setIfInBounds_toArray,List.set_cons_zero,List.set_cons_succ,i64_w,i32_w]
  rfl
 refine take_ (i:=4) (N:=some 18) (v:= ?_) (a':= ?_) #[true,true,false,true,true,false,false,false,false] rfl rfl (by kernel_rfl) (fun _ _ _ h=>h) (Or.inl ⟨by rfl,?_⟩) hHeld ?_ ?_
 rotate_left
 ·rintro w' s0
  go_simp
  with_reducible rfl
 rotate_left
 ·simp only[Act.put,List.setIfInBounds_toArray,List.set_cons_zero,List.set_cons_succ,i64_w,i32_w]
  rfl
 refine join_ (σ:=Value × Value × Nat) 1 #[true,true,true,true,true,true,true,true,false] (fun s_=>[(16,s_.1),(19,s_.2.1),(20, .agg #[s_.1,s_.2.1, .bool false]),(7, .pointer (some ⟨s_.2.2,0,none⟩))]) (fun s_ w'=>w'.cell? ⟨Wk,0,none⟩=some (.int .i64 Zb)∧Below w14.heap.size w14 w'∧Kd.R (Kd.int .i64) 3 w' w14.heap.size (fun _=>True) s_.1 y265∧Kd.R Kd.bool 4 w' w14.heap.size (fun _=>True) s_.2.1 y268∧w14.heap.size≤s_.2.2∧w'.heap[s_.2.2]? =some (.cells #[.slice none 0 0, .slice none 0 0, .bool false] 40 (0,0))) ?_ ?_
 rotate_left
 ·intro hCont
  refine H.makers_ (fuel:=2) 3 #[true,true,true,true,true,true,false,true,false] [7] #[true,true,true,true,true,true,false,false,false] [⟨2,16,(fun v w'=>Kd.R (Kd.int .i64) 3 w' w14.heap.size (fun _=>True) v y265)⟩,⟨5,19,(fun v w'=>Kd.R Kd.bool 4 w' w14.heap.size (fun _=>True) v y268)⟩,⟨7,7,(fun v w'=> ∃ g,v= .pointer (some ⟨g,0,none⟩)∧w14.heap.size≤g∧w'.heap[g]? =some (.cells #[.slice none 0 0, .slice none 0 0, .bool false] 40 (0,0)))⟩] rfl (by simp) (by simp) ?_ ?_ (by kernel_rfl) hHeld ?_ ?_
  ·intro m hm
   simp only[List.mem_cons,List.not_mem_nil,or_false] at hm;rcases hm with rfl|rfl|rfl
   ·refine⟨_,rfl,rfl,by simp,fun a' w' K he hS hb hK=> ?_⟩
    refine Kd.R_make_step (Kd.int .i64) (w0:=w') w14.heap.size 3 (by rfl) (N:=16) rfl 31 (.tmp 15) (.tmp 15) rfl Zb ((he 15 (by simp)).trans rfl) ((he 15 (by simp)).trans rfl) Try.underlying31 (.int .i64 0) 8 info3 rfl (by decide) (by omega) 0 (ok:=fun _=>True) (okp:=fun _=>False) rfl (fun _ hk=>hk.elim) trivial (Yu (by first|(with_reducible assumption)|assumption)) (by have h1_:(Zb:Int).toNat≤35184372088832:=(Yu (by first|(with_reducible assumption)|assumption));omega) (Yo _ _) hb.size (fun v1 w1 hr hb1 hg hat=> ?_);rw[← Ny265.out] at hr;have hbb:Below w'.heap.size w' w1:=⟨hg.os,hg.tape,hg.output,hg.size,fun k hk=>hg.block k hk (by simp)⟩;exact hK v1 w1 (pw_cell_below hbb hS) hbb hr
   ·refine⟨_,rfl,rfl,by simp,fun a' w' K he hS hb hK=> ?_⟩
    refine Kd.R_make_step Kd.bool (w0:=w') w14.heap.size 4 (by rfl) (N:=19) rfl 38 (.tmp 18) (.tmp 18) rfl Zb ((he 18 (by simp)).trans rfl) ((he 18 (by simp)).trans rfl) Try.underlying38 (.bool false) 1 info4 rfl (by decide) (by omega) false (ok:=fun _=>True) (okp:=fun _=>False) rfl (fun _ hk=>hk.elim) trivial (Yu (by first|(with_reducible assumption)|assumption)) (by have h1_:(Zb:Int).toNat≤281474976710656:=(Yu (by first|(with_reducible assumption)|assumption));omega) (Yo _ _) hb.size (fun v1 w1 hr hb1 hg hat=> ?_);rw[← Ny268.out] at hr;have hbb:Below w'.heap.size w' w1:=⟨hg.os,hg.tape,hg.output,hg.size,fun k hk=>hg.block k hk (by simp)⟩;exact hK v1 w1 (pw_cell_below hbb hS) hbb hr
   ·refine⟨_,rfl,rfl,by simp,fun a' w' K he hS hb hK=> ?_⟩
    refine box_step ?hg (N:=7) ?hd (cs:= #[.slice none 0 0, .slice none 0 0, .bool false]) (t:=40) ?hr ?_;(case hd=>rfl);(case hg=>rfl);(case hr=>first|(go_simp;done)|(go_simp;rfl));intro g hg w1 Zf hbb;exact hK _ w1 (pw_cell_below hbb hS) hbb ⟨g,rfl,by rw[hg];exact hb.size,Zf⟩
  ·intro m hm
   simp only[List.mem_cons,List.not_mem_nil,or_false] at hm;rcases hm with rfl|rfl|rfl
   ·exact fun v w1 w2 hb hg=>Ys hg hb
   ·exact fun v w1 w2 hb hg=>Ys hg hb
   ·rintro v w1 w2 hb ⟨g,e,h1,h2⟩
    exact⟨g,e,h1,Yn h2 hb⟩
  ·skip
   intro vs w15 hb15 hHeld hG;have p0:=hG _ (List.mem_cons_self ..);have p1:=hG _ (List.mem_cons_of_mem _ (List.mem_cons_self ..));have p2:=hG _ (List.mem_cons_of_mem _ (List.mem_cons_of_mem _ (List.mem_cons_self ..)));clear hG;dsimp only at p0 p1;obtain⟨A0,k0,e0⟩:=Kd.R_slice p0;obtain⟨A1_,k1,e1⟩:=Kd.R_slice p1;obtain⟨g_,e2,p2a,p2b⟩:=p2;dsimp only at e2;refine norm_ (a':= ?_) ?_ ?_
   rotate_left
   ·simp only[List.map_cons,List.map_nil,putAll,Act.put,List.setIfInBounds_toArray,List.set_cons_zero,List.set_cons_succ,e0,e1,e2]
    rfl
   rw[e0] at p0;rw[e1] at p1;refine pure_ (i:=6) (N:=some 20) (v:= ?_) (a':= ?_) #[true,true,true,true,true,true,true,true,false] rfl rfl (by kernel_rfl) (fun _ _ _ h=>h) (Or.inl ⟨by rfl,?_⟩) ?_ ?_
   rotate_left
   ·intro w'
    go_simp
    with_reducible rfl
   rotate_left
   ·simp only[Act.put,List.setIfInBounds_toArray,List.set_cons_zero,List.set_cons_succ,i64_w,i32_w]
    rfl
   exact norm_ (by(simp only[putAll,Act.put,List.setIfInBounds_toArray,List.set_cons_zero,List.set_cons_succ])<;>rfl) (hCont (.slice A0 y265.length k0, .slice A1_ y268.length k1,g_) _ ⟨hHeld,hb15,p0,p1,p2a,p2b⟩)
  ·skip
   intro vs w15 hb15 hHeld hG;have p0:=hG _ (List.mem_cons_self ..) (by simp);have p1:=hG _ (List.mem_cons_of_mem _ (List.mem_cons_self ..)) (by simp);clear hG;dsimp only at p0 p1;obtain⟨A0,k0,e0⟩:=Kd.R_slice p0;obtain⟨A1_,k1,e1⟩:=Kd.R_slice p1;show wpAnyLast _ _ _ _ _ _ 3 _ _ _;refine norm_ (a':= ?_) ?_ ?_
   rotate_left
   ·show putAll _ [(16,vs 16),(19,vs 19)]=_
    simp only[e0,e1,putAll,Act.put,List.setIfInBounds_toArray,List.set_cons_zero,List.set_cons_succ];rfl
   rw[e0] at p0;rw[e1] at p1;refine pure_ (i:=6) (N:=some 20) (v:= ?_) (a':= ?_) #[true,true,true,true,true,true,true,false,false] rfl rfl (by kernel_rfl) (fun _ _ _ h=>h) (Or.inl ⟨by rfl,?_⟩) ?_ ?_
   rotate_left
   ·intro w'
    go_simp
    with_reducible rfl
   rotate_left
   ·simp only[Act.put,List.setIfInBounds_toArray,List.set_cons_zero,List.set_cons_succ,i64_w,i32_w]
    rfl
   refine one_ (i:=7) (N:=some 7) #[true,true,true,true,true,true,true,true,false] rfl rfl (by kernel_rfl) (by decide) (fun K hK=> ?_);refine box_step ?hg (N:=7) ?hd (cs:= #[.slice none 0 0, .slice none 0 0, .bool false]) (t:=40) ?hr ?_;(case hd=>rfl);(case hg=>rfl);(case hr=>first|(go_simp;done)|(go_simp;rfl));intro g_ hg w16 Zf hbb;refine hK.out _ _ (pw_cell_below hbb hHeld) (fun hHeld=> ?_);exact norm_ (by(simp only[putAll,Act.put,List.setIfInBounds_toArray,List.set_cons_zero,List.set_cons_succ])<;>rfl) (hCont (.slice A0 y265.length k0, .slice A1_ y268.length k1,g_) _ ⟨hHeld,below_then hb15 hb15.size hbb,Ys p0 hbb,Ys p1 hbb,by rw[hg];exact hb15.size,Zf⟩)
 rintro⟨v0,v1,Zz⟩ w22 ⟨hHeld,hb15,p0,p1,p2a,p2b⟩;dsimp only at p0 p1 p2a p2b;refine norm_ (a':= ?_) ?_ ?_
 rotate_left
 ·simp only[putAll,Act.put,List.setIfInBounds_toArray,List.set_cons_zero,List.set_cons_succ]
  rfl
 obtain⟨Ao21,co21,e0⟩:=Kd.R_slice p0;obtain⟨Ao20,co20,e1⟩:=Kd.R_slice p1;subst e0;subst e1;have HO267:=Ya (Kd.R_lower p0 HB.out.size);have HO270:=Ya (Kd.R_lower p1 HB.out.size);have Zk:=Ya p2b;have GE271:Aside0 (w.heap.size≤Zz):=⟨Nat.le_trans HB.out.size p2a⟩;have GW271:=GE271;have Us:Aside0 (Wk≠Zz):=⟨by have:=L0_.out;omega⟩;have NB271_263:Aside0 (Zz≠Wk):=⟨by have:=L0_.out;omega⟩;have Ut:Aside0 (gb264≠Zz):=⟨by have:=L1_.out;omega⟩;have NB271_264:Aside0 (Zz≠gb264):=⟨by have:=L1_.out;omega⟩;have d0_:=Ya (Yk HB.out hb15);have d1_:=Ya (Yn Zl.out hb15);have d2_:=Ya (Yn Zw.out hb15);clear HB Zl Zw p0 p1 p2a p2b hb15 L0_ L1_;have HB:=d0_;have Zl:=d1_;have Zw:=d2_;clear d0_ d1_ d2_;refine last_ (i:=8) (N:=none) #[true,true,true,true,true,true,true,true,true] rfl rfl (by kernel_rfl) (by decide) (fun K hK=> ?_);have hs0:w22.cell? ⟨Zz,0,none⟩=some (.slice none 0 0):=bc Zk 0;have hfs0:=Yf Zk.out 0;have hs1:w22.cell? ⟨Zz,1,none⟩=some (.slice none 0 0):=bc Zk 1;have hfs1:=Yf Zk.out 1;have hs2:w22.cell? ⟨Zz,2,none⟩=some (.bool false):=bc Zk 2;have hfs2:=Yf Zk.out 2;refine skip_ (w1:=(((w22.setCell ⟨Zz,0,none⟩ (.slice Ao21 y265.length co21)).setCell ⟨Zz,1,none⟩ (.slice Ao20 y268.length co20)).setCell ⟨Zz,2,none⟩ (.bool false))) (by rfl) rfl ?_ ?_
 ·go_simp
 refine hK.out _ _ ?_;clear hK K hs0 hs1 hs2 hfs0 hfs1 hfs2 hHeld;refine done_ (by kernel_rfl) ?_;obtain⟨w26,hw⟩: ∃ x_,x_=(((w22.setCell ⟨Zz,0,none⟩ (.slice Ao21 y265.length co21)).setCell ⟨Zz,1,none⟩ (.slice Ao20 y268.length co20)).setCell ⟨Zz,2,none⟩ (.bool false)):=⟨_,rfl⟩;rw[← hw];replace HO267:Aside0 (Kd.R (Kd.int .i64) 3 w26 w.heap.size (fun _=>True) (.slice Ao21 y265.length co21) y265):=⟨(by rw[hw];exact(by(with_reducible repeat(first|apply Yr|apply Yq|apply Yp));exact Kd.R_mono (Kd.R_far (p:=⟨Zz,2,none⟩) (Kd.R_far (p:=⟨Zz,1,none⟩) (Kd.R_far (p:=⟨Zz,0,none⟩) (Kd.R_types HO267.out Zk.out (by decide)) (fun _ hk=>hk.2) (.slice Ao21 y265.length co21)) (fun _ hk=>hk.2) (.slice Ao20 y268.length co20)) (fun _ hk=>hk.2) (.bool false)) (fun _ hk=>trivial)))⟩;replace HO270:Aside0 (Kd.R Kd.bool 4 w26 w.heap.size (fun _=>True) (.slice Ao20 y268.length co20) y268):=⟨(by rw[hw];exact(by(with_reducible repeat(first|apply Yr|apply Yq|apply Yp));exact Kd.R_mono (Kd.R_far (p:=⟨Zz,2,none⟩) (Kd.R_far (p:=⟨Zz,1,none⟩) (Kd.R_far (p:=⟨Zz,0,none⟩) (Kd.R_types HO270.out Zk.out (by decide)) (fun _ hk=>hk.2) (.slice Ao21 y265.length co21)) (fun _ hk=>hk.2) (.slice Ao20 y268.length co20)) (fun _ hk=>hk.2) (.bool false)) (fun _ hk=>trivial)))⟩;replace Zl:Aside0 (w26.heap[Wk]? =some (.cells #[.int .i64 Zb, .bool Zc, .slice Ze Za.length Zd] 24 (0,0))):=⟨(by rw[hw];exact(by(with_reducible repeat(first|refine Yl ?_ _|refine Ym ?_|refine Yj ?_ _));refine blk_far ?_ Us.out _;(with_reducible repeat(first|refine Yl ?_ _|refine Ym ?_|refine Yj ?_ _));refine blk_far ?_ Us.out _;(with_reducible repeat(first|refine Yl ?_ _|refine Ym ?_|refine Yj ?_ _));refine blk_far ?_ Us.out _;(with_reducible repeat(first|refine Yl ?_ _|refine Ym ?_|refine Yj ?_ _));exact Zl.out))⟩;replace Zw:Aside0 (w26.heap[gb264]? =some (.cells #[.slice none 0 0, .slice none 0 0, .bool false] 40 (0,0))):=⟨(by rw[hw];exact(by(with_reducible repeat(first|refine Yl ?_ _|refine Ym ?_|refine Yj ?_ _));refine blk_far ?_ Ut.out _;(with_reducible repeat(first|refine Yl ?_ _|refine Ym ?_|refine Yj ?_ _));refine blk_far ?_ Ut.out _;(with_reducible repeat(first|refine Yl ?_ _|refine Ym ?_|refine Yj ?_ _));refine blk_far ?_ Ut.out _;(with_reducible repeat(first|refine Yl ?_ _|refine Ym ?_|refine Yj ?_ _));exact Zw.out))⟩;replace Zk:Aside0 (w26.heap[Zz]? =some (.cells #[.slice Ao21 y265.length co21, .slice Ao20 y268.length co20, .bool false] 40 (0,0))):=⟨(by rw[hw];exact(by(with_reducible repeat(first|refine Yl ?_ _|refine Ym ?_|refine Yj ?_ _));refine YA (cs:= #[.slice Ao21 y265.length co21, .slice Ao20 y268.length co20, .bool false]) ?_ 2 _ rfl;(with_reducible repeat(first|refine Yl ?_ _|refine Ym ?_|refine Yj ?_ _));refine YA (cs:= #[.slice Ao21 y265.length co21, .slice none 0 0, .bool false]) ?_ 1 _ rfl;(with_reducible repeat(first|refine Yl ?_ _|refine Ym ?_|refine Yj ?_ _));refine YA (cs:= #[.slice none 0 0, .slice none 0 0, .bool false]) ?_ 0 _ rfl;(with_reducible repeat(first|refine Yl ?_ _|refine Ym ?_|refine Yj ?_ _));exact Zk.out))⟩;replace HB:Aside0 (Below w.heap.size w w26):=⟨(by rw[hw];exact bl)⟩;clear hw;have hcz27_0:w26.cell? ⟨Zz,0,none⟩=some (.slice Ao21 y265.length co21):=bc Zk 0;have hcz27_1:w26.cell? ⟨Zz,1,none⟩=some (.slice Ao20 y268.length co20):=bc Zk 1;have hcz27_2:w26.cell? ⟨Zz,2,none⟩=some (.bool false):=bc Zk 2;have hfz27_0:=Yf Zk.out 0;have hfz27_1:=Yf Zk.out 1;have hfz27_2:=Yf Zk.out 2;have p9:0≤(a2:Int):=od;have q9:(a2:Int)<((y268.length:Int):Int):=od;obtain⟨go9,co9,eo9,gb9,gl9,cl9,HG9⟩:=Kd.R_form HO270.out (by omega);(first|cases eo9|(injection eo9 with ea_ en_ ec_;(first|subst ea_|(injection ea_ with ea_;subst ea_));subst ec_;clear en_));have GB9:=Ya gb9;have GG9:=Ya HG9;clear gb9 gl9 HG9;obtain⟨hx9_0,hf9_0⟩:=Kd.R_celln false HO270.out (a2:Int) p9 q9;replace p9:=eq_true p9;replace q9:=eq_true q9;obtain⟨hy28_,hz28_⟩:=Kd.R_celln false HO270.out (a2:Int) (Yu (by first|(with_reducible assumption)|assumption)) (Yu (by first|(with_reducible assumption)|assumption));have HP28:=Kd.R_putg HO270.out (a2:Int) true;go_wp2_with (first|((with_reducible refine gate_store (t:=4) (p:=24) rfl ?_);refine store_event (t:=4) (p:=24) (v:= ?vo_w29) (w1:=(w26.setCell ⟨go9,(a2:Int).toNat,none⟩ (.bool true))) ?hg ?ho ?hn ?hr ?_;(case ho=>rfl);(case hg=>rfl);(case hn=>rfl);(case hr=>first|(go_simp;done)|(go_simp;rfl));intro w29 hw;have hg:w26.grownBy w29 (some go9):=(by rw[hw];exact HP28.2);have hp_:Kd.R Kd.bool 4 w29 w.heap.size (fun _=>True) (.slice (some ⟨go9,0,none⟩) y268.length co20) y272:=(by rw[hw,Ny272.out];exact HP28.1);clear HP28;replace Zl:=Ya (blk_grown (bk Zl) hg (Kd.R_ne HO270.out Zl.out (by decide)));replace Zw:=Ya (blk_grown (bk Zw) hg (Kd.R_ne HO270.out Zw.out (by decide)));replace HO267:=Ya (Kd.R_over' (v:=(.slice (some ⟨go9,0,none⟩) y268.length co20)) (kR HO267) (Kd.R_typed HO270.out) (by decide) hg);replace Zk:=Ya (blk_grown (bk Zk) hg (Kd.R_ne HO270.out Zk.out (by decide)));replace HO270:=Ya (hp_);replace HB:=Ya (by rw[hw];exact Yh (HB.out) GB9.out:Below w.heap.size w w29);clear hg hw hp_;have hcz30_0:w29.cell? ⟨Wk,0,none⟩=some (.int .i64 Zb):=bc Zl 0;have hcz30_1:w29.cell? ⟨Wk,1,none⟩=some (.bool Zc):=bc Zl 1;have hcz30_2:w29.cell? ⟨Wk,2,none⟩=some (.slice Ze Za.length Zd):=bc Zl 2;have hfz30_0:=Yf Zl.out 0;have hfz30_1:=Yf Zl.out 1;have hfz30_2:=Yf Zl.out 2)|((with_reducible refine gate_callee (f:=41) rfl ?_);refine gl (some 27) Try.func41 #[.agg #[.int .i64 Zb, .bool Zc, .slice Ze Za.length Zd], .slice A1 l1.length c1] ?_;(with_reducible refine(ebbtideref07_Steps.calls k Zb Zc _ _ Za _ _ l1 t273 _ ?side1 ?side2 ?side3 ?side4 A10.out).mono ?_);(case side1=>exact kC (Yt Zh.out HB.out));(case side2=>exact Zo.out);(case side3=>exact kC (Yt HR1.out HB.out));(case side4=>exact HC1.out);rintro e w31 ⟨v274,rfl,ho0,hb⟩;refine⟨_,rfl,?_⟩;replace HO267:=Ya (Ys (kR HO267) hb);replace HO270:=Ya (Ys (kR HO270) hb);have HO275:=Ya (Kd.R_lower ho0 (Yi bl));replace Zl:=Ya (Yn (bk Zl) hb);replace Zw:=Ya (Yn (bk Zw) hb);replace Zk:=Ya (Yn (bk Zk) hb);replace HB:=Ya (Yk bl hb);(try clear hb);(try clear ho0)));go_loopg [9] k (fun kq v9 w'=> ∃ (x9_1:Int) (x272000_1:List Int) (x272001_1:List Bool) (x272002_1:Bool) (u272000:Value) (u272001:Value),v9= .int .i64 x9_1∧Aside0 (ebbtideref11_From.l0 kq t273 x9_1 Zb Zc Za x272000_1 x272001_1 x272002_1=some (r1,r2,r3))∧Aside0 (kq≤k)∧Aside0 (Kd.R k79 79 w' w.heap.size (fun _=>True) v274 t273)∧Aside0 (Kd.R (Kd.int .i64) 3 w' w.heap.size (fun _=>True) u272000 x272000_1)∧Aside0 (Kd.R Kd.bool 4 w' w.heap.size (fun _=>True) u272001 x272001_1)∧Aside0 (w'.heap[Wk]? =some (.cells #[.int .i64 Zb, .bool Zc,(.slice Ze Za.length Zd)] 24 (0,0)))∧Aside0 (w'.heap[gb264]? =some (.cells #[(.slice none 0 0),(.slice none 0 0), .bool false] 40 (0,0)))∧Aside0 (w'.heap[Zz]? =some (.cells #[u272000,u272001, .bool x272002_1] 40 (0,0)))∧Aside0 (Below w.heap.size w w'))
 case atStart=>exact⟨(0),(y265),(y272),(false),(.slice Ao21 y265.length co21),(.slice (some ⟨go9,0,none⟩) y268.length co20),(by first|rfl|(simp;done)|(simp[*];done)),H',⟨Nat.le_refl _⟩,⟨HO275.out⟩,⟨HO267.out⟩,⟨HO270.out⟩,⟨Zl.out⟩,⟨Zw.out⟩,⟨Zk.out⟩,⟨HB.out⟩⟩
 case round=>
  clear H';try clear c1
  try clear p2
  try clear c4
  try clear c4b0
  try clear c4b1
  try clear c5
  try clear c5b0
  try clear c5b1
  try clear c6
  try clear c6b0
  try clear c6b1
  try clear c7
  try clear c7b0
  try clear c8
  try clear c8b0
  try clear p9
  try clear q9
  try clear Vy
  try clear Ud
  try clear Jo
  try clear hcz27_0
  try clear hcz27_1
  try clear hcz27_2
  try clear hcz30_0
  try clear hcz30_1
  try clear hcz30_2
  try clear Ue
  try clear Uf
  try clear Jp
  try clear hfz27_0
  try clear hfz27_1
  try clear hfz27_2
  try clear hfz30_0
  try clear hfz30_1
  try clear hfz30_2
  try clear hx9_0
  try clear p9
  try clear q9
  obtain⟨x9_1,x272000_1,x272001_1,x272002_1,u272000,u272001,rfl,HA,HK1,HO_8,HO_272000,HO_272001,Zl,Zw,Zk,HB⟩:=hrel;cases gk with
  |zero=>exact absurd HA.out (by simp[ebbtideref11_From.l0])
  |succ k1=>
   have H:=HA.out;clear HA;simp only[ebbtideref11_From.l0] at H;by_cases c32:x9_1≤Zb
   rotate_left
   ·rw[Yy c32] at H
    have c32b0:decide (x9_1≤Zb)=false:=Yw c32;clear c32;simp only[Option.some.injEq,Prod.mk.injEq] at H;obtain⟨rfl,rfl,rfl⟩:=H;have hnb114:=NB263_264.out;have hnc114:=NB264_263.out;have hnb115:=Us.out;have hnc115:=NB271_263.out;have hcz116_0:wr.cell? ⟨Wk,0,none⟩=some (.int .i64 Zb):=bc Zl 0;have hcz116_1:wr.cell? ⟨Wk,1,none⟩=some (.bool Zc):=bc Zl 1;have hcz116_2:wr.cell? ⟨Wk,2,none⟩=some (.slice Ze Za.length Zd):=bc Zl 2;have hfz116_0:=Yf Zl.out 0;have hfz116_1:=Yf Zl.out 1;have hfz116_2:=Yf Zl.out 2;have hnb117:=NB271_264.out;have hnc117:=Ut.out;have hcz118_0:wr.cell? ⟨Zz,0,none⟩=some (u272000):=bc Zk 0;have hcz118_1:wr.cell? ⟨Zz,1,none⟩=some (u272001):=bc Zk 1;have hcz118_2:wr.cell? ⟨Zz,2,none⟩=some (.bool x272002_1):=bc Zk 2;have hfz118_0:=Yf Zk.out 0;have hfz118_1:=Yf Zk.out 1;have hfz118_2:=Yf Zk.out 2;obtain⟨Ao119,co119,eo119⟩:=Kd.R_slice HO_272000.out;subst eo119;have hcz120_0:wr.cell? ⟨gb264,0,none⟩=some (.slice none 0 0):=bc Zw 0;have hcz120_1:wr.cell? ⟨gb264,1,none⟩=some (.slice none 0 0):=bc Zw 1;have hcz120_2:wr.cell? ⟨gb264,2,none⟩=some (.bool false):=bc Zw 2;have hfz120_0:=Yf Zw.out 0;have hfz120_1:=Yf Zw.out 1;have hfz120_2:=Yf Zw.out 2;obtain⟨Ao121,co121,eo121⟩:=Kd.R_slice HO_272001.out;subst eo121;go_wp2;refine bodyPost_ret (results_cell_row rfl _ _ gb264 40 #[.slice Ao119 x272000_1.length co119, .slice Ao121 x272001_1.length co121, .bool x272002_1] (0,0) _ rfl (by(with_reducible repeat(first|refine Yl ?_ _|refine Ym ?_|refine Yj ?_ _));refine YA (cs:= #[.slice Ao119 x272000_1.length co119, .slice Ao121 x272001_1.length co121, .bool false]) ?_ 2 _ rfl;(with_reducible repeat(first|refine Yl ?_ _|refine Ym ?_|refine Yj ?_ _));refine YA (cs:= #[.slice Ao119 x272000_1.length co119, .slice none 0 0, .bool false]) ?_ 1 _ rfl;(with_reducible repeat(first|refine Yl ?_ _|refine Ym ?_|refine Yj ?_ _));refine YA (cs:= #[.slice none 0 0, .slice none 0 0, .bool false]) ?_ 0 _ rfl;(with_reducible repeat(first|refine Yl ?_ _|refine Ym ?_|refine Yj ?_ _));exact Zw.out) Try.underlying40 rfl (by kernel_rfl)) rfl ?_;exact⟨_,_,by first|rfl|(simp[errW_none,errW_some]<;>rfl)|(simp[*,errW_none,errW_some]<;>rfl),by(with_reducible repeat(first|apply Yr|apply Yq|apply Yp));exact Kd.R_mono (Kd.R_far (p:=⟨gb264,2,none⟩) (Kd.R_far (p:=⟨gb264,1,none⟩) (Kd.R_far (p:=⟨gb264,0,none⟩) (Kd.R_types HO_272000.out Zw.out (by decide)) (fun _ hk=>hk.2) (.slice Ao119 x272000_1.length co119)) (fun _ hk=>hk.2) (.slice Ao121 x272001_1.length co121)) (fun _ hk=>hk.2) (.bool x272002_1)) (fun _ hk=>trivial),by(with_reducible repeat(first|apply Yr|apply Yq|apply Yp));exact Kd.R_mono (Kd.R_far (p:=⟨gb264,2,none⟩) (Kd.R_far (p:=⟨gb264,1,none⟩) (Kd.R_far (p:=⟨gb264,0,none⟩) (Kd.R_types HO_272001.out Zw.out (by decide)) (fun _ hk=>hk.2) (.slice Ao119 x272000_1.length co119)) (fun _ hk=>hk.2) (.slice Ao121 x272001_1.length co121)) (fun _ hk=>hk.2) (.bool x272002_1)) (fun _ hk=>trivial),bl⟩
   rw[Yx c32] at H;have c32b0:decide (x9_1≤Zb)=true:=Yv c32;clear c32;have H':=Ya H;clear H;have hnb33:=NB263_264.out;have hnc33:=NB264_263.out;have hnb34:=Us.out;have hnc34:=NB271_263.out;have hcz35_0:wr.cell? ⟨Wk,0,none⟩=some (.int .i64 Zb):=bc Zl 0;have hcz35_1:wr.cell? ⟨Wk,1,none⟩=some (.bool Zc):=bc Zl 1;have hcz35_2:wr.cell? ⟨Wk,2,none⟩=some (.slice Ze Za.length Zd):=bc Zl 2;have hfz35_0:=Yf Zl.out 0;have hfz35_1:=Yf Zl.out 1;have hfz35_2:=Yf Zl.out 2;have hnb36:=NB271_264.out;have hnc36:=Ut.out;have hcz37_0:wr.cell? ⟨Zz,0,none⟩=some (u272000):=bc Zk 0;have hcz37_1:wr.cell? ⟨Zz,1,none⟩=some (u272001):=bc Zk 1;have hcz37_2:wr.cell? ⟨Zz,2,none⟩=some (.bool x272002_1):=bc Zk 2;have hfz37_0:=Yf Zk.out 0;have hfz37_1:=Yf Zk.out 1;have hfz37_2:=Yf Zk.out 2;go_wp2;go_loopg [10] k1 (fun kq v10 w'=> ∃ (Zm:Int) (Zi:List Int) (Zu:List Bool) (Wd:Bool) (u272000:Value) (u272001:Value),v10= .int .i64 Zm∧Aside0 (ebbtideref11_From.l1 kq t273 x9_1 Zm Zb Zc Za Zi Zu Wd=some (r1,r2,r3))∧Aside0 (kq≤k1)∧Aside0 (Kd.R k79 79 w' w.heap.size (fun _=>True) v274 t273)∧Aside0 (Kd.R (Kd.int .i64) 3 w' w.heap.size (fun _=>True) u272000 Zi)∧Aside0 (Kd.R Kd.bool 4 w' w.heap.size (fun _=>True) u272001 Zu)∧Aside0 (w'.heap[Wk]? =some (.cells #[.int .i64 Zb, .bool Zc,(.slice Ze Za.length Zd)] 24 (0,0)))∧Aside0 (w'.heap[gb264]? =some (.cells #[(.slice none 0 0),(.slice none 0 0), .bool false] 40 (0,0)))∧Aside0 (w'.heap[Zz]? =some (.cells #[u272000,u272001, .bool Wd] 40 (0,0)))∧Aside0 (Below w.heap.size w w'))
   case atStart=>exact⟨(0),(x272000_1),(x272001_1),(true),(u272000),(u272001),(by first|rfl|(simp;done)|(simp[*];done)),H',⟨Nat.le_refl _⟩,⟨by(with_reducible repeat(first|apply Yr|apply Yq|apply Yp));exact Kd.R_mono (Kd.R_far (p:=⟨Zz,2,none⟩) (Kd.R_types HO_8.out Zk.out (by decide)) (fun _ hk=>hk.2) (.bool true)) (fun _ hk=>trivial)⟩,⟨by(with_reducible repeat(first|apply Yr|apply Yq|apply Yp));exact Kd.R_mono (Kd.R_far (p:=⟨Zz,2,none⟩) (Kd.R_types HO_272000.out Zk.out (by decide)) (fun _ hk=>hk.2) (.bool true)) (fun _ hk=>trivial)⟩,⟨by(with_reducible repeat(first|apply Yr|apply Yq|apply Yp));exact Kd.R_mono (Kd.R_far (p:=⟨Zz,2,none⟩) (Kd.R_types HO_272001.out Zk.out (by decide)) (fun _ hk=>hk.2) (.bool true)) (fun _ hk=>trivial)⟩,⟨by(with_reducible repeat(first|refine Yl ?_ _|refine Ym ?_|refine Yj ?_ _));refine blk_far ?_ Us.out _;(with_reducible repeat(first|refine Yl ?_ _|refine Ym ?_|refine Yj ?_ _));exact Zl.out⟩,⟨by(with_reducible repeat(first|refine Yl ?_ _|refine Ym ?_|refine Yj ?_ _));refine blk_far ?_ Ut.out _;(with_reducible repeat(first|refine Yl ?_ _|refine Ym ?_|refine Yj ?_ _));exact Zw.out⟩,⟨by(with_reducible repeat(first|refine Yl ?_ _|refine Ym ?_|refine Yj ?_ _));refine YA (cs:= #[u272000,u272001, .bool x272002_1]) ?_ 2 _ rfl;(with_reducible repeat(first|refine Yl ?_ _|refine Ym ?_|refine Yj ?_ _));exact Zk.out⟩,⟨bl⟩⟩
   case round=>
    clear H';try clear c1
    try clear p2
    try clear c4
    try clear c4b0
    try clear c4b1
    try clear c5
    try clear c5b0
    try clear c5b1
    try clear c6
    try clear c6b0
    try clear c6b1
    try clear c7
    try clear c7b0
    try clear c8
    try clear c8b0
    try clear p9
    try clear q9
    try clear c32
    try clear c32b0
    try clear Vy
    try clear Ud
    try clear Jo
    try clear hcz27_0
    try clear hcz27_1
    try clear hcz27_2
    try clear hcz30_0
    try clear hcz30_1
    try clear hcz30_2
    try clear hcz35_0
    try clear hcz35_1
    try clear hcz35_2
    try clear hcz37_0
    try clear hcz37_1
    try clear hcz37_2
    try clear Ue
    try clear Uf
    try clear Jp
    try clear hfz27_0
    try clear hfz27_1
    try clear hfz27_2
    try clear hfz30_0
    try clear hfz30_1
    try clear hfz30_2
    try clear hfz35_0
    try clear hfz35_1
    try clear hfz35_2
    try clear hfz37_0
    try clear hfz37_1
    try clear hfz37_2
    try clear hx9_0
    try clear p2
    try clear p9
    try clear q9
    obtain⟨Zm,Zi,Zu,Wd,u272000,u272001,rfl,HA,HK2,HO_8,HO_272000,HO_272001,Zl,Zw,Zk,HB⟩:=hrel;cases gk with
    |zero=>exact absurd HA.out (by simp[ebbtideref11_From.l1])
    |succ k2=>
     have H:=HA.out;clear HA;simp only[ebbtideref11_From.l1] at H;by_cases c38:Zm<(t273.length:Int)
     rotate_left
     ·rw[Yy c38] at H
      have c38b0:decide (Zm<(t273.length:Int))=false:=Yw c38;clear c38;have H':=Ya H;clear H;obtain⟨Ao113,co113,eo113⟩:=Kd.R_slice HO_8.out;subst eo113;go_wp2;go_roundg k2
      case measure=>have:=HK1.out;have:=HK2.out;omega
      case rel=>exact⟨(wrap64 (x9_1+1)),(Zi),(Zu),(Wd),(u272000),(u272001),(by first|rfl|(simp;done)|(simp[*];done)),H',⟨by have:=HK1.out;have:=HK2.out;omega⟩,⟨HO_8.out⟩,⟨HO_272000.out⟩,⟨HO_272001.out⟩,⟨Zl.out⟩,⟨Zw.out⟩,⟨Zk.out⟩,⟨HB.out⟩⟩
     rw[Yx c38] at H;have c38b0:decide (Zm<(t273.length:Int))=true:=Yv c38;clear c38;by_cases c39:0≤Zm
     rotate_left
     ·rw[Yy c39] at H
      exact absurd H (by simp)
     rw[Yx c39] at H;have c39b0:decide (0≤Zm)=true:=Yv c39;clear c39;replace H:=Option.bind_eq_some_iff.mp H;obtain⟨t277,A400,H⟩:=H;try dsimp only at H
     have A40:=Ya A400;clear A400;replace H:=Option.bind_eq_some_iff.mp H;obtain⟨t279,A410,H⟩:=H;try dsimp only at H
     have A41:=Ya A410;clear A410;by_cases c42:0≤t277
     rotate_left
     ·rw[Yy c42] at H
      exact absurd H (by simp)
     rw[Yx c42] at H;have c42b0:decide (0≤t277)=true:=Yv c42;clear c42;by_cases c43:t277<(Zi.length:Int)
     rotate_left
     ·rw[Yy c43] at H
      exact absurd H (by simp)
     rw[Yx c43] at H;have c43b0:decide (t277<(Zi.length:Int))=true:=Yv c43;clear c43;replace H:=Option.bind_eq_some_iff.mp H;obtain⟨t282,A440,H⟩:=H;try dsimp only at H
     have A44:=Ya A440;clear A440;by_cases c45:t277<(Zu.length:Int)
     rotate_left
     ·rw[Yy c45] at H
      exact absurd H (by simp)
     rw[Yx c45] at H;have c45b0:decide (t277<(Zu.length:Int))=true:=Yv c45;clear c45;obtain⟨bq46,hbq46⟩: ∃ b_:Bool,b_=(rdOf false Zu t277):=⟨_,rfl⟩;replace H:(if bq46=true then(if 0≤t279 then(if t279<(Zu.length:Int) then(if rdOf false Zu t279=true then(if t279<(Zi.length:Int) then(if (wrap64 ((rd Zi t277)+t282))<(rd Zi t279) then(ebbtideref11_From.l1 k2 t273 x9_1 (wrap64 (Zm+1)) Zb Zc Za (Zi.set (t279:Int).toNat (wrap64 ((rd Zi t277)+t282))) (Zu.set (t279:Int).toNat true) false) else(ebbtideref11_From.l1 k2 t273 x9_1 (wrap64 (Zm+1)) Zb Zc Za Zi Zu Wd)) else(none)) else(if t279<(Zi.length:Int) then(ebbtideref11_From.l1 k2 t273 x9_1 (wrap64 (Zm+1)) Zb Zc Za (Zi.set (t279:Int).toNat (wrap64 ((rd Zi t277)+t282))) (Zu.set (t279:Int).toNat true) false) else(none))) else(none)) else(none)) else(ebbtideref11_From.l1 k2 t273 x9_1 (wrap64 (Zm+1)) Zb Zc Za Zi Zu Wd))=some (r1,r2,r3):=by rw[← hbq46] at H;exact H
     have Nbq46:=Ya hbq46;clear hbq46;by_cases c47:bq46=true
     rotate_left
     ·replace c47:=Bool.eq_false_iff.mpr c47
      subst c47;rw[Yy (show ¬ (false=true) by decide)] at H;have H':=Ya H;clear H;obtain⟨Ao102,co102,eo102⟩:=Kd.R_slice HO_8.out;subst eo102;try go_wp2
      replace HO_8:=Ya (Yp HO_8.out);replace HO_272000:=Ya (Yp HO_272000.out);replace HO_272001:=Ya (Yp HO_272001.out);replace Zl:=Ya (Ym Zl.out);replace Zw:=Ya (Ym Zw.out);replace Zk:=Ya (Ym Zk.out);replace HB:=Ya (Yg HB.out);have p276:0≤(Zm:Int):=od;have q276:Zm<(t273.length:Int):=od;obtain⟨Wl,e276,hx276_0,Ug⟩:=at_T79 (Kd.R_reads' HO_8.out).2.2 Zm p276 q276
      (try rw[← Nbq46.out] at Ug)
      cases e276;replace p276:=eq_true p276;replace q276:=eq_true q276;have p278:0≤(Zm:Int):=od;have q278:Zm<(t273.length:Int):=od;obtain⟨ad278,e278,hx278_0,Uh⟩:=at_T79 (Kd.R_reads' HO_8.out).2.2 Zm p278 q278
      (try rw[← Nbq46.out] at Uh)
      obtain rfl:Wl=ad278:=(by injection e278);replace p278:=eq_true p278;replace q278:=eq_true q278;refine start_ (n:=14) (S:=fun w'=>w'.cell? ⟨Wk,0,none⟩=some (.int .i64 Zb)∧w'.cell? ⟨Wk,1,none⟩=some (.bool Zc)∧w'.cell? ⟨Wk,2,none⟩=some (.slice Ze Za.length Zd)∧w'.cell? (Wl.add ((Zm).toNat * 2))=some (.int .i64 ((rd_T79 t273 Zm).f0))∧w'.cell? ⟨(Wl.add ((Zm).toNat * 2)).block,(Wl.add ((Zm).toNat * 2)).off+1,none⟩=some (.bool ((rd_T79 t273 Zm).f1))∧w'.cell? (Wl.add ((Zm).toNat * 2))=some (.int .i64 ((rd_T79 t273 Zm).f0))∧w'.cell? ⟨(Wl.add ((Zm).toNat * 2)).block,(Wl.add ((Zm).toNat * 2)).off+1,none⟩=some (.bool ((rd_T79 t273 Zm).f1))) (ds:=[]) #[false,false,false,false,false,false,false,false,false,false,false,false,false,false] (by kernel_rfl) rfl rfl ⟨(Yc Zl.out 0).trans rfl,(Yc Zl.out 1).trans rfl,(Yc Zl.out 2).trans rfl,hx276_0,Ug,hx278_0,Uh⟩ (fun hHeld=> ?_);refine with_tabW ebbtideref11_From.tab11 ebbtideref11_From.bits11 (fun HT_ HW_=> ?_);generalize wr.drew=w103 at HO_8 HO_272000 HO_272001 Zl Zw Zk HB hx276_0 Ug hx278_0 Uh hHeld ⊢;refine pu 1 42 (bm 14 2) ?_;refine pu 2 43 (bm 14 6) ?_;refine pu 3 44 (bm 14 14) ?_;refine pu 7 48 (bm 14 142) ?_;refine pu 8 49 (bm 14 398) ?_;refine pu 9 50 (bm 14 910) ?_;refine ta 0 41 (bm 14 911) hHeld ?_;refine ta 4 45 (bm 14 927) hHeld ?_;refine ta 6 47 (bm 14 991) hHeld ?_;refine ta 10 51 (bm 14 2015) hHeld ?_;refine on 5 (some 46) (bm 14 2047) fun K hK=> ?_
      refine gs Try.func42 #[.agg #[.int .i64 Zb, .bool Zc, .slice Ze Za.length Zd], .agg #[.int .i64 ((rd_T79 t273 Zm).f0), .bool ((rd_T79 t273 Zm).f1)]] ?_
      with_reducible refine(ebbtideref07_From.calls Zb Zc _ _ Za ((rd_T79 t273 Zm).f0) ((rd_T79 t273 Zm).f1) t277 _ ?side1 ?side2 (by first|exact A40.out|(have h_:=A40.out;rw[← Nbq50.out] at h_;exact h_)|(have h_:=A40.out;rw[← Nbq46.out] at h_;exact h_))).mono ?_
      (case side1=>exact(Yt Zh.out HB.out))
      (case side2=>exact Zo.out)
      rintro e w104 ⟨rfl,hb⟩;have HS3_:=(hb.cell (Yb _ _ (hHeld.2.2.2.1))).trans (hHeld.2.2.2.1);have HS4_:=(hb.cell (Yb _ _ (hHeld.2.2.2.2.1))).trans (hHeld.2.2.2.2.1);have HS5_:=(hb.cell (Yb _ _ (hHeld.2.2.2.2.2.1))).trans (hHeld.2.2.2.2.2.1);have HS6_:=(hb.cell (Yb _ _ (hHeld.2.2.2.2.2.2))).trans (hHeld.2.2.2.2.2.2);refine⟨_,rfl,?_⟩;replace HO_8:=Ya (Ys HO_8.out hb);replace HO_272000:=Ya (Ys HO_272000.out hb);replace HO_272001:=Ya (Ys HO_272001.out hb);replace Zl:=Ya (Yn Zl.out hb);replace Zw:=Ya (Yn Zw.out hb);replace Zk:=Ya (Yn Zk.out hb);replace HB:=Ya (Yk HB.out hb)
      (try clear hb)
      (try clear hb2)
      (try clear hk)
      (try clear hi)
      refine hK.out _ _ ⟨bc Zl 0,bc Zl 1,bc Zl 2,HS3_,HS4_,HS5_,HS6_⟩ (fun hHeld=> ?_);clear hK K;refine nm ?_;refine on 11 (some 52) (bm 14 4095) fun K hK=> ?_
      refine gs Try.func43 #[.agg #[.int .i64 Zb, .bool Zc, .slice Ze Za.length Zd], .agg #[.int .i64 ((rd_T79 t273 Zm).f0), .bool ((rd_T79 t273 Zm).f1)]] ?_
      with_reducible refine(ebbtideref07_To.calls Zb Zc _ _ Za ((rd_T79 t273 Zm).f0) ((rd_T79 t273 Zm).f1) t279 _ ?side1 ?side2 (by first|exact A41.out|(have h_:=A41.out;rw[← Nbq50.out] at h_;exact h_)|(have h_:=A41.out;rw[← Nbq46.out] at h_;exact h_))).mono ?_
      (case side1=>exact(Yt Zh.out HB.out))
      (case side2=>exact Zo.out)
      rintro e w105 ⟨rfl,hb⟩;have HS3_:=(hb.cell (Yb _ _ (hHeld.2.2.2.1))).trans (hHeld.2.2.2.1);have HS4_:=(hb.cell (Yb _ _ (hHeld.2.2.2.2.1))).trans (hHeld.2.2.2.2.1);have HS5_:=(hb.cell (Yb _ _ (hHeld.2.2.2.2.2.1))).trans (hHeld.2.2.2.2.2.1);have HS6_:=(hb.cell (Yb _ _ (hHeld.2.2.2.2.2.2))).trans (hHeld.2.2.2.2.2.2);refine⟨_,rfl,?_⟩;replace HO_8:=Ya (Ys HO_8.out hb);replace HO_272000:=Ya (Ys HO_272000.out hb);replace HO_272001:=Ya (Ys HO_272001.out hb);replace Zl:=Ya (Yn Zl.out hb);replace Zw:=Ya (Yn Zw.out hb);replace Zk:=Ya (Yn Zk.out hb);replace HB:=Ya (Yk HB.out hb)
      (try clear hb)
      (try clear hb2)
      (try clear hk)
      (try clear hi)
      refine hK.out _ _ ⟨bc Zl 0,bc Zl 1,bc Zl 2,HS3_,HS4_,HS5_,HS6_⟩ (fun hHeld=> ?_);clear hK K;refine nm ?_;refine pu 12 11 (bm 14 8191) ?_;refine pu 13 12 (bm 14 16383) ?_;refine done_ (done_of HT_.out (by kernel_rfl)) ?_;try go_wp2
      replace HO_8:=Ya (Yp HO_8.out);replace HO_272000:=Ya (Yp HO_272000.out);replace HO_272001:=Ya (Yp HO_272001.out);replace Zl:=Ya (Ym Zl.out);replace Zw:=Ya (Ym Zw.out);replace Zk:=Ya (Ym Zk.out);replace HB:=Ya (Yg HB.out);obtain⟨Ao107,co107,eo107⟩:=Kd.R_slice HO_272000.out
      (first|subst eo107|(injection eo107 with f1_ f2_ f3_;have f4_:=f1_.symm;have f5_:=f3_.symm;clear f1_ f2_ f3_;subst f4_;subst f5_))
      have p280:0≤(t277:Int):=od;have q280:t277<(Zi.length:Int):=od;obtain⟨ad280,e280,hx280_0⟩:=Kd.at_int (Kd.R_reads' HO_272000.out).2.2 t277 p280 q280;cases e280;replace p280:=eq_true p280;replace q280:=eq_true q280;have p281:0≤(Zm:Int):=od;have q281:Zm<(t273.length:Int):=od;obtain⟨ad281,e281,hx281_0,Ui⟩:=at_T79 (Kd.R_reads' HO_8.out).2.2 Zm p281 q281
      (try rw[← Nbq46.out] at Ui)
      obtain rfl:Wl=ad281:=(by injection e281);replace p281:=eq_true p281;replace q281:=eq_true q281;refine start_ (n:=13) (S:=fun w'=>w'.cell? ⟨Zz,0,none⟩=some (.slice (some ad280) Zi.length co107)∧w'.cell? ⟨Zz,1,none⟩=some (u272001)∧w'.cell? ⟨Zz,2,none⟩=some (.bool Wd)∧w'.cell? ⟨Wk,0,none⟩=some (.int .i64 Zb)∧w'.cell? ⟨Wk,1,none⟩=some (.bool Zc)∧w'.cell? ⟨Wk,2,none⟩=some (.slice Ze Za.length Zd)∧w'.cell? (ad280.add (t277).toNat)=some (.int .i64 (rd Zi t277))∧w'.cell? (Wl.add ((Zm).toNat * 2))=some (.int .i64 ((rd_T79 t273 Zm).f0))∧w'.cell? ⟨(Wl.add ((Zm).toNat * 2)).block,(Wl.add ((Zm).toNat * 2)).off+1,none⟩=some (.bool ((rd_T79 t273 Zm).f1))) (ds:=[]) #[false,false,false,false,false,false,false,false,false,false,false,false,false] (by kernel_rfl) rfl rfl ⟨(Yc Zk.out 0).trans rfl,(Yc Zk.out 1).trans rfl,(Yc Zk.out 2).trans rfl,(Yc Zl.out 0).trans rfl,(Yc Zl.out 1).trans rfl,(Yc Zl.out 2).trans rfl,hx280_0,hx281_0,Ui⟩ (fun hHeld=> ?_);refine with_tabW ebbtideref11_From.tab12 ebbtideref11_From.bits12 (fun HT_ HW_=> ?_);generalize w105.drew=w106 at HO_8 HO_272000 HO_272001 Zl Zw Zk HB hx280_0 hx281_0 Ui hHeld ⊢;refine pu 0 53 (bm 13 1) ?_;refine pu 2 55 (bm 13 5) ?_;refine pu 6 59 (bm 13 69) ?_;refine pu 7 60 (bm 13 197) ?_;refine pu 8 61 (bm 13 453) ?_;refine ta 1 54 (bm 13 455) hHeld ?_;refine pu 3 56 (bm 13 463) ?_;refine ta 4 57 (bm 13 479) hHeld ?_;refine ta 5 58 (bm 13 511) hHeld ?_;refine ta 9 62 (bm 13 1023) hHeld ?_;refine on 10 (some 63) (bm 13 2047) fun K hK=> ?_
      refine gs Try.func44 #[.agg #[.int .i64 Zb, .bool Zc, .slice Ze Za.length Zd], .agg #[.int .i64 ((rd_T79 t273 Zm).f0), .bool ((rd_T79 t273 Zm).f1)]] ?_
      with_reducible refine(ebbtideref11_Time.calls Zb Zc _ _ Za ((rd_T79 t273 Zm).f0) ((rd_T79 t273 Zm).f1) t282 _ ?side1 ?side2 (by first|exact A44.out|(have h_:=A44.out;rw[← Nbq50.out] at h_;exact h_)|(have h_:=A44.out;rw[← Nbq46.out] at h_;exact h_))).mono ?_
      (case side1=>exact(Yt Zh.out HB.out))
      (case side2=>exact Zo.out)
      rintro e w108 ⟨rfl,hb⟩;have HS6_:=(hb.cell (Yb _ _ (hHeld.2.2.2.2.2.2.1))).trans (hHeld.2.2.2.2.2.2.1);have HS7_:=(hb.cell (Yb _ _ (hHeld.2.2.2.2.2.2.2.1))).trans (hHeld.2.2.2.2.2.2.2.1);have HS8_:=(hb.cell (Yb _ _ (hHeld.2.2.2.2.2.2.2.2))).trans (hHeld.2.2.2.2.2.2.2.2);refine⟨_,rfl,?_⟩;replace HO_8:=Ya (Ys HO_8.out hb);replace HO_272000:=Ya (Ys HO_272000.out hb);replace HO_272001:=Ya (Ys HO_272001.out hb);replace Zl:=Ya (Yn Zl.out hb);replace Zw:=Ya (Yn Zw.out hb);replace Zk:=Ya (Yn Zk.out hb);replace HB:=Ya (Yk HB.out hb)
      (try clear hb)
      (try clear hb2)
      (try clear hk)
      (try clear hi)
      refine hK.out _ _ ⟨bc Zk 0,bc Zk 1,bc Zk 2,bc Zl 0,bc Zl 1,bc Zl 2,HS6_,HS7_,HS8_⟩ (fun hHeld=> ?_);clear hK K;refine nm ?_;refine pu 11 64 (bm 13 4095) ?_;refine pu 12 13 (bm 13 8191) ?_;refine done_ (done_of HT_.out (by kernel_rfl)) ?_;have hnb109:=NB271_263.out;have hnc109:=Us.out;have hnb110:=NB271_264.out;have hnc110:=Ut.out;have hcz111_0:w108.cell? ⟨Zz,0,none⟩=some (.slice (some ad280) Zi.length co107):=bc Zk 0;have hcz111_1:w108.cell? ⟨Zz,1,none⟩=some (u272001):=bc Zk 1;have hcz111_2:w108.cell? ⟨Zz,2,none⟩=some (.bool Wd):=bc Zk 2;have hfz111_0:=Yf Zk.out 0;have hfz111_1:=Yf Zk.out 1;have hfz111_2:=Yf Zk.out 2;obtain⟨Ao112,co112,eo112⟩:=Kd.R_slice HO_272001.out;subst eo112;have p283:0≤(t277:Int):=od;have q283:t277<(Zu.length:Int):=od;obtain⟨ad283,e283,hx283_0⟩:=Kd.at_bool (Kd.R_reads' HO_272001.out).2.2 t277 p283 q283
      (try rw[← Nbq46.out] at hx283_0)
      cases e283;replace p283:=eq_true p283;replace q283:=eq_true q283;try go_wp2
      go_roundg k2
      case measure=>have:=HK1.out;have:=HK2.out;omega
      case rel=>exact⟨(wrap64 (Zm+1)),(Zi),(Zu),(Wd),(.slice (some ad280) Zi.length co107),(.slice (some ad283) Zu.length co112),(by first|rfl|(simp;done)|(simp[*];done)),H',⟨by have:=HK1.out;have:=HK2.out;omega⟩,⟨HO_8.out⟩,⟨HO_272000.out⟩,⟨HO_272001.out⟩,⟨Zl.out⟩,⟨Zw.out⟩,⟨Zk.out⟩,⟨HB.out⟩⟩
     subst c47;first|rw[Yx rfl] at H|rw[Yx trivial] at H
     by_cases c48:0≤t279
     rotate_left
     ·rw[Yy c48] at H
      exact absurd H (by simp)
     rw[Yx c48] at H;have c48b0:decide (0≤t279)=true:=Yv c48;clear c48;by_cases c49:t279<(Zu.length:Int)
     rotate_left
     ·rw[Yy c49] at H
      exact absurd H (by simp)
     rw[Yx c49] at H;have c49b0:decide (t279<(Zu.length:Int))=true:=Yv c49;clear c49;obtain⟨bq50,hbq50⟩: ∃ b_:Bool,b_=(rdOf false Zu t279):=⟨_,rfl⟩;replace H:(if bq50=true then(if t279<(Zi.length:Int) then(if (wrap64 ((rd Zi t277)+t282))<(rd Zi t279) then(ebbtideref11_From.l1 k2 t273 x9_1 (wrap64 (Zm+1)) Zb Zc Za (Zi.set (t279:Int).toNat (wrap64 ((rd Zi t277)+t282))) (Zu.set (t279:Int).toNat true) false) else(ebbtideref11_From.l1 k2 t273 x9_1 (wrap64 (Zm+1)) Zb Zc Za Zi Zu Wd)) else(none)) else(if t279<(Zi.length:Int) then(ebbtideref11_From.l1 k2 t273 x9_1 (wrap64 (Zm+1)) Zb Zc Za (Zi.set (t279:Int).toNat (wrap64 ((rd Zi t277)+t282))) (Zu.set (t279:Int).toNat true) false) else(none)))=some (r1,r2,r3):=by rw[← hbq50] at H;exact H
     have Nbq50:=Ya hbq50;clear hbq50;by_cases c51:bq50=true
     rotate_left
     ·replace c51:=Bool.eq_false_iff.mpr c51
      subst c51;rw[Yy (show ¬ (false=true) by decide)] at H;by_cases c83:t279<(Zi.length:Int)
      rotate_left
      ·rw[Yy c83] at H
       exact absurd H (by simp)
      rw[Yx c83] at H;have c83b0:decide (t279<(Zi.length:Int))=true:=Yv c83;clear c83;obtain⟨y288,hy288⟩: ∃ y_:List Int,y_=(Zi.set (t279:Int).toNat (wrap64 ((rd Zi t277)+t282))):=⟨_,rfl⟩;rw[← hy288] at H;have Ny288:=Ya hy288;clear hy288;obtain⟨y289,hy289⟩: ∃ y_:List Bool,y_=(Zu.set (t279:Int).toNat true):=⟨_,rfl⟩;rw[← hy289] at H;have Ny289:=Ya hy289;clear hy289;have H':=Ya H;clear H;obtain⟨Ao86,co86,eo86⟩:=Kd.R_slice HO_8.out;subst eo86;try go_wp2
      replace HO_8:=Ya (Yp HO_8.out);replace HO_272000:=Ya (Yp HO_272000.out);replace HO_272001:=Ya (Yp HO_272001.out);replace Zl:=Ya (Ym Zl.out);replace Zw:=Ya (Ym Zw.out);replace Zk:=Ya (Ym Zk.out);replace HB:=Ya (Yg HB.out);have p276:0≤(Zm:Int):=od;have q276:Zm<(t273.length:Int):=od;obtain⟨Wl,e276,hx276_0,Ug⟩:=at_T79 (Kd.R_reads' HO_8.out).2.2 Zm p276 q276
      (try rw[← Nbq46.out] at Ug)
      (try rw[← Nbq50.out] at Ug)
      cases e276;replace p276:=eq_true p276;replace q276:=eq_true q276;have p278:0≤(Zm:Int):=od;have q278:Zm<(t273.length:Int):=od;obtain⟨ad278,e278,hx278_0,Uh⟩:=at_T79 (Kd.R_reads' HO_8.out).2.2 Zm p278 q278
      (try rw[← Nbq46.out] at Uh)
      (try rw[← Nbq50.out] at Uh)
      obtain rfl:Wl=ad278:=(by injection e278);replace p278:=eq_true p278;replace q278:=eq_true q278;refine start_ (n:=14) (S:=fun w'=>w'.cell? ⟨Wk,0,none⟩=some (.int .i64 Zb)∧w'.cell? ⟨Wk,1,none⟩=some (.bool Zc)∧w'.cell? ⟨Wk,2,none⟩=some (.slice Ze Za.length Zd)∧w'.cell? (Wl.add ((Zm).toNat * 2))=some (.int .i64 ((rd_T79 t273 Zm).f0))∧w'.cell? ⟨(Wl.add ((Zm).toNat * 2)).block,(Wl.add ((Zm).toNat * 2)).off+1,none⟩=some (.bool ((rd_T79 t273 Zm).f1))∧w'.cell? (Wl.add ((Zm).toNat * 2))=some (.int .i64 ((rd_T79 t273 Zm).f0))∧w'.cell? ⟨(Wl.add ((Zm).toNat * 2)).block,(Wl.add ((Zm).toNat * 2)).off+1,none⟩=some (.bool ((rd_T79 t273 Zm).f1))) (ds:=[]) #[false,false,false,false,false,false,false,false,false,false,false,false,false,false] (by kernel_rfl) rfl rfl ⟨(Yc Zl.out 0).trans rfl,(Yc Zl.out 1).trans rfl,(Yc Zl.out 2).trans rfl,hx276_0,Ug,hx278_0,Uh⟩ (fun hHeld=> ?_);refine with_tabW ebbtideref11_From.tab11 ebbtideref11_From.bits11 (fun HT_ HW_=> ?_);generalize wr.drew=w87 at HO_8 HO_272000 HO_272001 Zl Zw Zk HB hx276_0 Ug hx278_0 Uh hHeld ⊢;refine pu 1 42 (bm 14 2) ?_;refine pu 2 43 (bm 14 6) ?_;refine pu 3 44 (bm 14 14) ?_;refine pu 7 48 (bm 14 142) ?_;refine pu 8 49 (bm 14 398) ?_;refine pu 9 50 (bm 14 910) ?_;refine ta 0 41 (bm 14 911) hHeld ?_;refine ta 4 45 (bm 14 927) hHeld ?_;refine ta 6 47 (bm 14 991) hHeld ?_;refine ta 10 51 (bm 14 2015) hHeld ?_;refine on 5 (some 46) (bm 14 2047) fun K hK=> ?_
      refine gs Try.func42 #[.agg #[.int .i64 Zb, .bool Zc, .slice Ze Za.length Zd], .agg #[.int .i64 ((rd_T79 t273 Zm).f0), .bool ((rd_T79 t273 Zm).f1)]] ?_
      with_reducible refine(ebbtideref07_From.calls Zb Zc _ _ Za ((rd_T79 t273 Zm).f0) ((rd_T79 t273 Zm).f1) t277 _ ?side1 ?side2 (by first|exact A40.out|(have h_:=A40.out;rw[← Nbq50.out] at h_;exact h_)|(have h_:=A40.out;rw[← Nbq46.out] at h_;exact h_))).mono ?_
      (case side1=>exact(Yt Zh.out HB.out))
      (case side2=>exact Zo.out)
      rintro e w88 ⟨rfl,hb⟩;have HS3_:=(hb.cell (Yb _ _ (hHeld.2.2.2.1))).trans (hHeld.2.2.2.1);have HS4_:=(hb.cell (Yb _ _ (hHeld.2.2.2.2.1))).trans (hHeld.2.2.2.2.1);have HS5_:=(hb.cell (Yb _ _ (hHeld.2.2.2.2.2.1))).trans (hHeld.2.2.2.2.2.1);have HS6_:=(hb.cell (Yb _ _ (hHeld.2.2.2.2.2.2))).trans (hHeld.2.2.2.2.2.2);refine⟨_,rfl,?_⟩;replace HO_8:=Ya (Ys HO_8.out hb);replace HO_272000:=Ya (Ys HO_272000.out hb);replace HO_272001:=Ya (Ys HO_272001.out hb);replace Zl:=Ya (Yn Zl.out hb);replace Zw:=Ya (Yn Zw.out hb);replace Zk:=Ya (Yn Zk.out hb);replace HB:=Ya (Yk HB.out hb)
      (try clear hb)
      (try clear hb2)
      (try clear hk)
      (try clear hi)
      refine hK.out _ _ ⟨bc Zl 0,bc Zl 1,bc Zl 2,HS3_,HS4_,HS5_,HS6_⟩ (fun hHeld=> ?_);clear hK K;refine nm ?_;refine on 11 (some 52) (bm 14 4095) fun K hK=> ?_
      refine gs Try.func43 #[.agg #[.int .i64 Zb, .bool Zc, .slice Ze Za.length Zd], .agg #[.int .i64 ((rd_T79 t273 Zm).f0), .bool ((rd_T79 t273 Zm).f1)]] ?_
      with_reducible refine(ebbtideref07_To.calls Zb Zc _ _ Za ((rd_T79 t273 Zm).f0) ((rd_T79 t273 Zm).f1) t279 _ ?side1 ?side2 (by first|exact A41.out|(have h_:=A41.out;rw[← Nbq50.out] at h_;exact h_)|(have h_:=A41.out;rw[← Nbq46.out] at h_;exact h_))).mono ?_
      (case side1=>exact(Yt Zh.out HB.out))
      (case side2=>exact Zo.out)
      rintro e w89 ⟨rfl,hb⟩;have HS3_:=(hb.cell (Yb _ _ (hHeld.2.2.2.1))).trans (hHeld.2.2.2.1);have HS4_:=(hb.cell (Yb _ _ (hHeld.2.2.2.2.1))).trans (hHeld.2.2.2.2.1);have HS5_:=(hb.cell (Yb _ _ (hHeld.2.2.2.2.2.1))).trans (hHeld.2.2.2.2.2.1);have HS6_:=(hb.cell (Yb _ _ (hHeld.2.2.2.2.2.2))).trans (hHeld.2.2.2.2.2.2);refine⟨_,rfl,?_⟩;replace HO_8:=Ya (Ys HO_8.out hb);replace HO_272000:=Ya (Ys HO_272000.out hb);replace HO_272001:=Ya (Ys HO_272001.out hb);replace Zl:=Ya (Yn Zl.out hb);replace Zw:=Ya (Yn Zw.out hb);replace Zk:=Ya (Yn Zk.out hb);replace HB:=Ya (Yk HB.out hb)
      (try clear hb)
      (try clear hb2)
      (try clear hk)
      (try clear hi)
      refine hK.out _ _ ⟨bc Zl 0,bc Zl 1,bc Zl 2,HS3_,HS4_,HS5_,HS6_⟩ (fun hHeld=> ?_);clear hK K;refine nm ?_;refine pu 12 11 (bm 14 8191) ?_;refine pu 13 12 (bm 14 16383) ?_;refine done_ (done_of HT_.out (by kernel_rfl)) ?_;try go_wp2
      replace HO_8:=Ya (Yp HO_8.out);replace HO_272000:=Ya (Yp HO_272000.out);replace HO_272001:=Ya (Yp HO_272001.out);replace Zl:=Ya (Ym Zl.out);replace Zw:=Ya (Ym Zw.out);replace Zk:=Ya (Ym Zk.out);replace HB:=Ya (Yg HB.out);obtain⟨Ao91,co91,eo91⟩:=Kd.R_slice HO_272000.out
      (first|subst eo91|(injection eo91 with f1_ f2_ f3_;have f4_:=f1_.symm;have f5_:=f3_.symm;clear f1_ f2_ f3_;subst f4_;subst f5_))
      have p280:0≤(t277:Int):=od;have q280:t277<(Zi.length:Int):=od;obtain⟨ad280,e280,hx280_0⟩:=Kd.at_int (Kd.R_reads' HO_272000.out).2.2 t277 p280 q280;cases e280;replace p280:=eq_true p280;replace q280:=eq_true q280;have p281:0≤(Zm:Int):=od;have q281:Zm<(t273.length:Int):=od;obtain⟨ad281,e281,hx281_0,Ui⟩:=at_T79 (Kd.R_reads' HO_8.out).2.2 Zm p281 q281
      (try rw[← Nbq46.out] at Ui)
      (try rw[← Nbq50.out] at Ui)
      obtain rfl:Wl=ad281:=(by injection e281);replace p281:=eq_true p281;replace q281:=eq_true q281;refine start_ (n:=13) (S:=fun w'=>w'.cell? ⟨Zz,0,none⟩=some (.slice (some ad280) Zi.length co91)∧w'.cell? ⟨Zz,1,none⟩=some (u272001)∧w'.cell? ⟨Zz,2,none⟩=some (.bool Wd)∧w'.cell? ⟨Wk,0,none⟩=some (.int .i64 Zb)∧w'.cell? ⟨Wk,1,none⟩=some (.bool Zc)∧w'.cell? ⟨Wk,2,none⟩=some (.slice Ze Za.length Zd)∧w'.cell? (ad280.add (t277).toNat)=some (.int .i64 (rd Zi t277))∧w'.cell? (Wl.add ((Zm).toNat * 2))=some (.int .i64 ((rd_T79 t273 Zm).f0))∧w'.cell? ⟨(Wl.add ((Zm).toNat * 2)).block,(Wl.add ((Zm).toNat * 2)).off+1,none⟩=some (.bool ((rd_T79 t273 Zm).f1))) (ds:=[]) #[false,false,false,false,false,false,false,false,false,false,false,false,false] (by kernel_rfl) rfl rfl ⟨(Yc Zk.out 0).trans rfl,(Yc Zk.out 1).trans rfl,(Yc Zk.out 2).trans rfl,(Yc Zl.out 0).trans rfl,(Yc Zl.out 1).trans rfl,(Yc Zl.out 2).trans rfl,hx280_0,hx281_0,Ui⟩ (fun hHeld=> ?_);refine with_tabW ebbtideref11_From.tab12 ebbtideref11_From.bits12 (fun HT_ HW_=> ?_);generalize w89.drew=w90 at HO_8 HO_272000 HO_272001 Zl Zw Zk HB hx280_0 hx281_0 Ui hHeld ⊢;refine pu 0 53 (bm 13 1) ?_;refine pu 2 55 (bm 13 5) ?_;refine pu 6 59 (bm 13 69) ?_;refine pu 7 60 (bm 13 197) ?_;refine pu 8 61 (bm 13 453) ?_;refine ta 1 54 (bm 13 455) hHeld ?_;refine pu 3 56 (bm 13 463) ?_;refine ta 4 57 (bm 13 479) hHeld ?_;refine ta 5 58 (bm 13 511) hHeld ?_;refine ta 9 62 (bm 13 1023) hHeld ?_;refine on 10 (some 63) (bm 13 2047) fun K hK=> ?_
      refine gs Try.func44 #[.agg #[.int .i64 Zb, .bool Zc, .slice Ze Za.length Zd], .agg #[.int .i64 ((rd_T79 t273 Zm).f0), .bool ((rd_T79 t273 Zm).f1)]] ?_
      with_reducible refine(ebbtideref11_Time.calls Zb Zc _ _ Za ((rd_T79 t273 Zm).f0) ((rd_T79 t273 Zm).f1) t282 _ ?side1 ?side2 (by first|exact A44.out|(have h_:=A44.out;rw[← Nbq50.out] at h_;exact h_)|(have h_:=A44.out;rw[← Nbq46.out] at h_;exact h_))).mono ?_
      (case side1=>exact(Yt Zh.out HB.out))
      (case side2=>exact Zo.out)
      rintro e w92 ⟨rfl,hb⟩;have HS6_:=(hb.cell (Yb _ _ (hHeld.2.2.2.2.2.2.1))).trans (hHeld.2.2.2.2.2.2.1);have HS7_:=(hb.cell (Yb _ _ (hHeld.2.2.2.2.2.2.2.1))).trans (hHeld.2.2.2.2.2.2.2.1);have HS8_:=(hb.cell (Yb _ _ (hHeld.2.2.2.2.2.2.2.2))).trans (hHeld.2.2.2.2.2.2.2.2);refine⟨_,rfl,?_⟩;replace HO_8:=Ya (Ys HO_8.out hb);replace HO_272000:=Ya (Ys HO_272000.out hb);replace HO_272001:=Ya (Ys HO_272001.out hb);replace Zl:=Ya (Yn Zl.out hb);replace Zw:=Ya (Yn Zw.out hb);replace Zk:=Ya (Yn Zk.out hb);replace HB:=Ya (Yk HB.out hb)
      (try clear hb)
      (try clear hb2)
      (try clear hk)
      (try clear hi)
      refine hK.out _ _ ⟨bc Zk 0,bc Zk 1,bc Zk 2,bc Zl 0,bc Zl 1,bc Zl 2,HS6_,HS7_,HS8_⟩ (fun hHeld=> ?_);clear hK K;refine nm ?_;refine pu 11 64 (bm 13 4095) ?_;refine pu 12 13 (bm 13 8191) ?_;refine done_ (done_of HT_.out (by kernel_rfl)) ?_;have hnb93:=NB271_263.out;have hnc93:=Us.out;have hnb94:=NB271_264.out;have hnc94:=Ut.out;have hcz95_0:w92.cell? ⟨Zz,0,none⟩=some (.slice (some ad280) Zi.length co91):=bc Zk 0;have hcz95_1:w92.cell? ⟨Zz,1,none⟩=some (u272001):=bc Zk 1;have hcz95_2:w92.cell? ⟨Zz,2,none⟩=some (.bool Wd):=bc Zk 2;have hfz95_0:=Yf Zk.out 0;have hfz95_1:=Yf Zk.out 1;have hfz95_2:=Yf Zk.out 2;obtain⟨Ao96,co96,eo96⟩:=Kd.R_slice HO_272001.out;subst eo96;have p283:0≤(t277:Int):=od;have q283:t277<(Zu.length:Int):=od;obtain⟨ad283,e283,hx283_0⟩:=Kd.at_bool (Kd.R_reads' HO_272001.out).2.2 t277 p283 q283
      (try rw[← Nbq46.out] at hx283_0)
      (try rw[← Nbq50.out] at hx283_0)
      cases e283;replace p283:=eq_true p283;replace q283:=eq_true q283;have p284:0≤(t279:Int):=od;have q284:t279<(Zu.length:Int):=od;obtain⟨ad284,e284,hx284_0⟩:=Kd.at_bool (Kd.R_reads' HO_272001.out).2.2 t279 p284 q284
      (try rw[← Nbq46.out] at hx284_0)
      (try rw[← Nbq50.out] at hx284_0)
      obtain rfl:ad283=ad284:=(by injection e284);replace p284:=eq_true p284;replace q284:=eq_true q284;have p84:0≤(t279:Int):=od;have q84:(t279:Int)<((Zi.length:Int):Int):=od;obtain⟨go84,co84,eo84,gb84,gl84,cl84,HG84⟩:=Kd.R_form HO_272000.out (by omega)
      (first|cases eo84|(injection eo84 with ea_ en_ ec_;(first|subst ea_|(injection ea_ with ea_;subst ea_));subst ec_;clear en_))
      have GB84:=Ya gb84;have GG84:=Ya HG84;clear gb84 gl84 HG84
      (first|simp only[add_plain] at hx280_0|skip)
      (first|simp only[add_plain] at hx285_0|skip)
      obtain⟨hx84_0,hf84_0⟩:=Kd.R_celln 0 HO_272000.out (t279:Int) p84 q84;replace p84:=eq_true p84;replace q84:=eq_true q84;obtain⟨hy97_,hz97_⟩:=Kd.R_celln 0 HO_272000.out (t279:Int) (Yu (by first|(with_reducible assumption)|assumption)) (Yu (by first|(with_reducible assumption)|assumption));have HP97:=Kd.R_putg HO_272000.out (t279:Int) (wrap64 ((rd Zi t277)+t282));have p85:0≤(t279:Int):=od;have q85:(t279:Int)<((Zu.length:Int):Int):=od;obtain⟨go85,co85,eo85,gb85,gl85,cl85,HG85⟩:=Kd.R_form HO_272001.out (by omega);(first|cases eo85|(injection eo85 with ea_ en_ ec_;(first|subst ea_|(injection ea_ with ea_;subst ea_));subst ec_;clear en_));have GB85:=Ya gb85;have GG85:=Ya HG85;clear gb85 gl85 HG85;(first|simp only[add_plain] at hx283_0|skip);(first|simp only[add_plain] at hx284_0|skip);obtain⟨hx85_0,hf85_0⟩:=Kd.R_celln false HO_272001.out (t279:Int) p85 q85;replace p85:=eq_true p85;replace q85:=eq_true q85;try go_wp2_with fail
      have zc0:w92.cell? ⟨Zz,0,none⟩=some (.slice (some ⟨go84,0,none⟩) Zi.length co91):=bc Zk 0;have zc1:w92.cell? ⟨Zz,1,none⟩=some (.slice (some ⟨go85,0,none⟩) Zu.length co96):=bc Zk 1;have ngb271go84_:Zz≠go84:=fun e=>Kd.R_ne HO_272000.out Zk.out (by decide) (congrArg some e)
      have ngo84gb271_:go84≠Zz:=Ne.symm ngb271go84_;have ngb271go85_:Zz≠go85:=fun e=>Kd.R_ne HO_272001.out Zk.out (by decide) (congrArg some e)
      have ngo85gb271_:go85≠Zz:=Ne.symm ngb271go85_;have ngo84go85_:go84≠go85:=fun e=>by obtain⟨c1_,h1_⟩:=Kd.R_typed HO_272000.out _ rfl;obtain⟨c2_,h2_⟩:=Kd.R_typed HO_272001.out _ rfl;rw[← e] at h2_;have t_:=h1_.symm.trans h2_;simp at t_
      have ngo85go84_:go85≠go84:=Ne.symm ngo84go85_;go_region;obtain⟨w98,hw⟩: ∃ x_,x_=(w92.setCell ⟨go84,(t279:Int).toNat,none⟩ (.int .i64 (wrap64 ((rd Zi t277)+t282)))):=⟨_,rfl⟩;rw[← hw];have hg:w92.grownBy w98 (some go84):=(by rw[hw];exact HP97.2);have hp_:Kd.R (Kd.int .i64) 3 w98 w.heap.size (fun _=>True) (.slice (some ⟨go84,0,none⟩) Zi.length co91) y288:=(by rw[hw,Ny288.out];exact HP97.1);clear HP97;replace HO_8:=Ya (Kd.R_over' (v:=(.slice (some ⟨go84,0,none⟩) Zi.length co91)) HO_8.out (Kd.R_typed HO_272000.out) (by decide) hg);replace HO_272001:=Ya (Kd.R_over' (v:=(.slice (some ⟨go84,0,none⟩) Zi.length co91)) HO_272001.out (Kd.R_typed HO_272000.out) (by decide) hg);replace Zl:=Ya (blk_grown Zl.out hg (Kd.R_ne HO_272000.out Zl.out (by decide)));replace Zw:=Ya (blk_grown Zw.out hg (Kd.R_ne HO_272000.out Zw.out (by decide)));replace Zk:=Ya (blk_grown Zk.out hg (Kd.R_ne HO_272000.out Zk.out (by decide)));replace HO_272000:=Ya (hp_);replace HB:=Ya (by rw[hw];exact Yh (HB.out) GB84.out:Below w.heap.size w w98);clear hg hw hp_;obtain⟨hy99_,hz99_⟩:=Kd.R_celln false HO_272001.out (t279:Int) (Yu (by first|(with_reducible assumption)|assumption)) (Yu (by first|(with_reducible assumption)|assumption));have HP99:=Kd.R_putg HO_272001.out (t279:Int) true;obtain⟨w100,hw⟩: ∃ x_,x_=(w98.setCell ⟨go85,(t279:Int).toNat,none⟩ (.bool true)):=⟨_,rfl⟩;rw[← hw];have hg:w98.grownBy w100 (some go85):=(by rw[hw];exact HP99.2);have hp_:Kd.R Kd.bool 4 w100 w.heap.size (fun _=>True) (.slice (some ⟨go85,0,none⟩) Zu.length co96) y289:=(by rw[hw,Ny289.out];exact HP99.1);clear HP99;replace HO_8:=Ya (Kd.R_over' (v:=(.slice (some ⟨go85,0,none⟩) Zu.length co96)) HO_8.out (Kd.R_typed HO_272001.out) (by decide) hg);replace HO_272000:=Ya (Kd.R_over' (v:=(.slice (some ⟨go85,0,none⟩) Zu.length co96)) HO_272000.out (Kd.R_typed HO_272001.out) (by decide) hg);replace Zl:=Ya (blk_grown Zl.out hg (Kd.R_ne HO_272001.out Zl.out (by decide)));replace Zw:=Ya (blk_grown Zw.out hg (Kd.R_ne HO_272001.out Zw.out (by decide)));replace Zk:=Ya (blk_grown Zk.out hg (Kd.R_ne HO_272001.out Zk.out (by decide)));replace HO_272001:=Ya (hp_);replace HB:=Ya (by rw[hw];exact Yh (HB.out) GB85.out:Below w.heap.size w w100);clear hg hw hp_;have u0_:=Ya (Yp HO_8.out);have u1_:=Ya (Yp HO_272000.out);have u2_:=Ya (Yp HO_272001.out);have u3_:=Ya (Ym Zl.out);have u4_:=Ya (Ym Zw.out);have u5_:=Ya (Ym Zk.out);have u6_:=Ya (below_drew HB.out);clear HO_8 HO_272000 HO_272001 Zl Zw Zk HB zc0 zc1;have HO_8:=u0_;have HO_272000:=u1_;have HO_272001:=u2_;have Zl:=u3_;have Zw:=u4_;have Zk:=u5_;have HB:=u6_;clear u0_ u1_ u2_ u3_ u4_ u5_ u6_;generalize w100.drew=w100x at HO_8 HO_272000 HO_272001 Zl Zw Zk HB ⊢;have hcz101_0:w100x.cell? ⟨Zz,0,none⟩=some (.slice (some ⟨go84,0,none⟩) Zi.length co91):=bc Zk 0;have hcz101_1:w100x.cell? ⟨Zz,1,none⟩=some (.slice (some ⟨go85,0,none⟩) Zu.length co96):=bc Zk 1;have hcz101_2:w100x.cell? ⟨Zz,2,none⟩=some (.bool Wd):=bc Zk 2;have hfz101_0:=Yf Zk.out 0;have hfz101_1:=Yf Zk.out 1;have hfz101_2:=Yf Zk.out 2;go_wp2_with fail;go_roundg k2
      case measure=>have:=HK1.out;have:=HK2.out;omega
      case rel=>exact⟨(wrap64 (Zm+1)),(y288),(y289),(false),(.slice (some ⟨go84,0,none⟩) Zi.length co91),(.slice (some ⟨go85,0,none⟩) Zu.length co96),(by first|rfl|(simp;done)|(simp[*];done)),H',⟨by have:=HK1.out;have:=HK2.out;omega⟩,⟨by(with_reducible repeat(first|apply Yr|apply Yq|apply Yp));exact Kd.R_mono (Kd.R_far (p:=⟨Zz,2,none⟩) (Kd.R_types HO_8.out Zk.out (by decide)) (fun _ hk=>hk.2) (.bool false)) (fun _ hk=>trivial)⟩,⟨by(with_reducible repeat(first|apply Yr|apply Yq|apply Yp));exact Kd.R_mono (Kd.R_far (p:=⟨Zz,2,none⟩) (Kd.R_types HO_272000.out Zk.out (by decide)) (fun _ hk=>hk.2) (.bool false)) (fun _ hk=>trivial)⟩,⟨by(with_reducible repeat(first|apply Yr|apply Yq|apply Yp));exact Kd.R_mono (Kd.R_far (p:=⟨Zz,2,none⟩) (Kd.R_types HO_272001.out Zk.out (by decide)) (fun _ hk=>hk.2) (.bool false)) (fun _ hk=>trivial)⟩,⟨by(with_reducible repeat(first|refine Yl ?_ _|refine Ym ?_|refine Yj ?_ _));refine blk_far ?_ Us.out _;(with_reducible repeat(first|refine Yl ?_ _|refine Ym ?_|refine Yj ?_ _));exact Zl.out⟩,⟨by(with_reducible repeat(first|refine Yl ?_ _|refine Ym ?_|refine Yj ?_ _));refine blk_far ?_ Ut.out _;(with_reducible repeat(first|refine Yl ?_ _|refine Ym ?_|refine Yj ?_ _));exact Zw.out⟩,⟨by(with_reducible repeat(first|refine Yl ?_ _|refine Ym ?_|refine Yj ?_ _));refine YA (cs:= #[.slice (some ⟨go84,0,none⟩) Zi.length co91, .slice (some ⟨go85,0,none⟩) Zu.length co96, .bool Wd]) ?_ 2 _ rfl;(with_reducible repeat(first|refine Yl ?_ _|refine Ym ?_|refine Yj ?_ _));exact Zk.out⟩,⟨bl⟩⟩
     subst c51;first|rw[Yx rfl] at H|rw[Yx trivial] at H
     by_cases c52:t279<(Zi.length:Int)
     rotate_left
     ·rw[Yy c52] at H
      exact absurd H (by simp)
     rw[Yx c52] at H;have c52b0:decide (t279<(Zi.length:Int))=true:=Yv c52;clear c52;by_cases c53:(wrap64 ((rd Zi t277)+t282))<(rd Zi t279)
     rotate_left
     ·rw[Yy c53] at H
      have c53b0:decide ((wrap64 ((rd Zi t277)+t282))<(rd Zi t279))=false:=Yw c53;clear c53;have H':=Ya H;clear H;obtain⟨Ao72,co72,eo72⟩:=Kd.R_slice HO_8.out;subst eo72;try go_wp2
      replace HO_8:=Ya (Yp HO_8.out);replace HO_272000:=Ya (Yp HO_272000.out);replace HO_272001:=Ya (Yp HO_272001.out);replace Zl:=Ya (Ym Zl.out);replace Zw:=Ya (Ym Zw.out);replace Zk:=Ya (Ym Zk.out);replace HB:=Ya (Yg HB.out);have p276:0≤(Zm:Int):=od;have q276:Zm<(t273.length:Int):=od;obtain⟨Wl,e276,hx276_0,Ug⟩:=at_T79 (Kd.R_reads' HO_8.out).2.2 Zm p276 q276
      (try rw[← Nbq46.out] at Ug)
      (try rw[← Nbq50.out] at Ug)
      cases e276;replace p276:=eq_true p276;replace q276:=eq_true q276;have p278:0≤(Zm:Int):=od;have q278:Zm<(t273.length:Int):=od;obtain⟨ad278,e278,hx278_0,Uh⟩:=at_T79 (Kd.R_reads' HO_8.out).2.2 Zm p278 q278
      (try rw[← Nbq46.out] at Uh)
      (try rw[← Nbq50.out] at Uh)
      obtain rfl:Wl=ad278:=(by injection e278);replace p278:=eq_true p278;replace q278:=eq_true q278;refine start_ (n:=14) (S:=fun w'=>w'.cell? ⟨Wk,0,none⟩=some (.int .i64 Zb)∧w'.cell? ⟨Wk,1,none⟩=some (.bool Zc)∧w'.cell? ⟨Wk,2,none⟩=some (.slice Ze Za.length Zd)∧w'.cell? (Wl.add ((Zm).toNat * 2))=some (.int .i64 ((rd_T79 t273 Zm).f0))∧w'.cell? ⟨(Wl.add ((Zm).toNat * 2)).block,(Wl.add ((Zm).toNat * 2)).off+1,none⟩=some (.bool ((rd_T79 t273 Zm).f1))∧w'.cell? (Wl.add ((Zm).toNat * 2))=some (.int .i64 ((rd_T79 t273 Zm).f0))∧w'.cell? ⟨(Wl.add ((Zm).toNat * 2)).block,(Wl.add ((Zm).toNat * 2)).off+1,none⟩=some (.bool ((rd_T79 t273 Zm).f1))) (ds:=[]) #[false,false,false,false,false,false,false,false,false,false,false,false,false,false] (by kernel_rfl) rfl rfl ⟨(Yc Zl.out 0).trans rfl,(Yc Zl.out 1).trans rfl,(Yc Zl.out 2).trans rfl,hx276_0,Ug,hx278_0,Uh⟩ (fun hHeld=> ?_);refine with_tabW ebbtideref11_From.tab11 ebbtideref11_From.bits11 (fun HT_ HW_=> ?_);generalize wr.drew=w73 at HO_8 HO_272000 HO_272001 Zl Zw Zk HB hx276_0 Ug hx278_0 Uh hHeld ⊢;refine pu 1 42 (bm 14 2) ?_;refine pu 2 43 (bm 14 6) ?_;refine pu 3 44 (bm 14 14) ?_;refine pu 7 48 (bm 14 142) ?_;refine pu 8 49 (bm 14 398) ?_;refine pu 9 50 (bm 14 910) ?_;refine ta 0 41 (bm 14 911) hHeld ?_;refine ta 4 45 (bm 14 927) hHeld ?_;refine ta 6 47 (bm 14 991) hHeld ?_;refine ta 10 51 (bm 14 2015) hHeld ?_;refine on 5 (some 46) (bm 14 2047) fun K hK=> ?_
      refine gs Try.func42 #[.agg #[.int .i64 Zb, .bool Zc, .slice Ze Za.length Zd], .agg #[.int .i64 ((rd_T79 t273 Zm).f0), .bool ((rd_T79 t273 Zm).f1)]] ?_
      with_reducible refine(ebbtideref07_From.calls Zb Zc _ _ Za ((rd_T79 t273 Zm).f0) ((rd_T79 t273 Zm).f1) t277 _ ?side1 ?side2 (by first|exact A40.out|(have h_:=A40.out;rw[← Nbq50.out] at h_;exact h_)|(have h_:=A40.out;rw[← Nbq46.out] at h_;exact h_))).mono ?_
      (case side1=>exact(Yt Zh.out HB.out))
      (case side2=>exact Zo.out)
      rintro e w74 ⟨rfl,hb⟩;have HS3_:=(hb.cell (Yb _ _ (hHeld.2.2.2.1))).trans (hHeld.2.2.2.1);have HS4_:=(hb.cell (Yb _ _ (hHeld.2.2.2.2.1))).trans (hHeld.2.2.2.2.1);have HS5_:=(hb.cell (Yb _ _ (hHeld.2.2.2.2.2.1))).trans (hHeld.2.2.2.2.2.1);have HS6_:=(hb.cell (Yb _ _ (hHeld.2.2.2.2.2.2))).trans (hHeld.2.2.2.2.2.2);refine⟨_,rfl,?_⟩;replace HO_8:=Ya (Ys HO_8.out hb);replace HO_272000:=Ya (Ys HO_272000.out hb);replace HO_272001:=Ya (Ys HO_272001.out hb);replace Zl:=Ya (Yn Zl.out hb);replace Zw:=Ya (Yn Zw.out hb);replace Zk:=Ya (Yn Zk.out hb);replace HB:=Ya (Yk HB.out hb)
      (try clear hb)
      (try clear hb2)
      (try clear hk)
      (try clear hi)
      refine hK.out _ _ ⟨bc Zl 0,bc Zl 1,bc Zl 2,HS3_,HS4_,HS5_,HS6_⟩ (fun hHeld=> ?_);clear hK K;refine nm ?_;refine on 11 (some 52) (bm 14 4095) fun K hK=> ?_
      refine gs Try.func43 #[.agg #[.int .i64 Zb, .bool Zc, .slice Ze Za.length Zd], .agg #[.int .i64 ((rd_T79 t273 Zm).f0), .bool ((rd_T79 t273 Zm).f1)]] ?_
      with_reducible refine(ebbtideref07_To.calls Zb Zc _ _ Za ((rd_T79 t273 Zm).f0) ((rd_T79 t273 Zm).f1) t279 _ ?side1 ?side2 (by first|exact A41.out|(have h_:=A41.out;rw[← Nbq50.out] at h_;exact h_)|(have h_:=A41.out;rw[← Nbq46.out] at h_;exact h_))).mono ?_
      (case side1=>exact(Yt Zh.out HB.out))
      (case side2=>exact Zo.out)
      rintro e w75 ⟨rfl,hb⟩;have HS3_:=(hb.cell (Yb _ _ (hHeld.2.2.2.1))).trans (hHeld.2.2.2.1);have HS4_:=(hb.cell (Yb _ _ (hHeld.2.2.2.2.1))).trans (hHeld.2.2.2.2.1);have HS5_:=(hb.cell (Yb _ _ (hHeld.2.2.2.2.2.1))).trans (hHeld.2.2.2.2.2.1);have HS6_:=(hb.cell (Yb _ _ (hHeld.2.2.2.2.2.2))).trans (hHeld.2.2.2.2.2.2);refine⟨_,rfl,?_⟩;replace HO_8:=Ya (Ys HO_8.out hb);replace HO_272000:=Ya (Ys HO_272000.out hb);replace HO_272001:=Ya (Ys HO_272001.out hb);replace Zl:=Ya (Yn Zl.out hb);replace Zw:=Ya (Yn Zw.out hb);replace Zk:=Ya (Yn Zk.out hb);replace HB:=Ya (Yk HB.out hb)
      (try clear hb)
      (try clear hb2)
      (try clear hk)
      (try clear hi)
      refine hK.out _ _ ⟨bc Zl 0,bc Zl 1,bc Zl 2,HS3_,HS4_,HS5_,HS6_⟩ (fun hHeld=> ?_);clear hK K;refine nm ?_;refine pu 12 11 (bm 14 8191) ?_;refine pu 13 12 (bm 14 16383) ?_;refine done_ (done_of HT_.out (by kernel_rfl)) ?_;try go_wp2
      replace HO_8:=Ya (Yp HO_8.out);replace HO_272000:=Ya (Yp HO_272000.out);replace HO_272001:=Ya (Yp HO_272001.out);replace Zl:=Ya (Ym Zl.out);replace Zw:=Ya (Ym Zw.out);replace Zk:=Ya (Ym Zk.out);replace HB:=Ya (Yg HB.out);obtain⟨Ao77,co77,eo77⟩:=Kd.R_slice HO_272000.out
      (first|subst eo77|(injection eo77 with f1_ f2_ f3_;have f4_:=f1_.symm;have f5_:=f3_.symm;clear f1_ f2_ f3_;subst f4_;subst f5_))
      have p280:0≤(t277:Int):=od;have q280:t277<(Zi.length:Int):=od;obtain⟨ad280,e280,hx280_0⟩:=Kd.at_int (Kd.R_reads' HO_272000.out).2.2 t277 p280 q280;cases e280;replace p280:=eq_true p280;replace q280:=eq_true q280;have p281:0≤(Zm:Int):=od;have q281:Zm<(t273.length:Int):=od;obtain⟨ad281,e281,hx281_0,Ui⟩:=at_T79 (Kd.R_reads' HO_8.out).2.2 Zm p281 q281
      (try rw[← Nbq46.out] at Ui)
      (try rw[← Nbq50.out] at Ui)
      obtain rfl:Wl=ad281:=(by injection e281);replace p281:=eq_true p281;replace q281:=eq_true q281;refine start_ (n:=13) (S:=fun w'=>w'.cell? ⟨Zz,0,none⟩=some (.slice (some ad280) Zi.length co77)∧w'.cell? ⟨Zz,1,none⟩=some (u272001)∧w'.cell? ⟨Zz,2,none⟩=some (.bool Wd)∧w'.cell? ⟨Wk,0,none⟩=some (.int .i64 Zb)∧w'.cell? ⟨Wk,1,none⟩=some (.bool Zc)∧w'.cell? ⟨Wk,2,none⟩=some (.slice Ze Za.length Zd)∧w'.cell? (ad280.add (t277).toNat)=some (.int .i64 (rd Zi t277))∧w'.cell? (Wl.add ((Zm).toNat * 2))=some (.int .i64 ((rd_T79 t273 Zm).f0))∧w'.cell? ⟨(Wl.add ((Zm).toNat * 2)).block,(Wl.add ((Zm).toNat * 2)).off+1,none⟩=some (.bool ((rd_T79 t273 Zm).f1))) (ds:=[]) #[false,false,false,false,false,false,false,false,false,false,false,false,false] (by kernel_rfl) rfl rfl ⟨(Yc Zk.out 0).trans rfl,(Yc Zk.out 1).trans rfl,(Yc Zk.out 2).trans rfl,(Yc Zl.out 0).trans rfl,(Yc Zl.out 1).trans rfl,(Yc Zl.out 2).trans rfl,hx280_0,hx281_0,Ui⟩ (fun hHeld=> ?_);refine with_tabW ebbtideref11_From.tab12 ebbtideref11_From.bits12 (fun HT_ HW_=> ?_);generalize w75.drew=w76 at HO_8 HO_272000 HO_272001 Zl Zw Zk HB hx280_0 hx281_0 Ui hHeld ⊢;refine pu 0 53 (bm 13 1) ?_;refine pu 2 55 (bm 13 5) ?_;refine pu 6 59 (bm 13 69) ?_;refine pu 7 60 (bm 13 197) ?_;refine pu 8 61 (bm 13 453) ?_;refine ta 1 54 (bm 13 455) hHeld ?_;refine pu 3 56 (bm 13 463) ?_;refine ta 4 57 (bm 13 479) hHeld ?_;refine ta 5 58 (bm 13 511) hHeld ?_;refine ta 9 62 (bm 13 1023) hHeld ?_;refine on 10 (some 63) (bm 13 2047) fun K hK=> ?_
      refine gs Try.func44 #[.agg #[.int .i64 Zb, .bool Zc, .slice Ze Za.length Zd], .agg #[.int .i64 ((rd_T79 t273 Zm).f0), .bool ((rd_T79 t273 Zm).f1)]] ?_
      with_reducible refine(ebbtideref11_Time.calls Zb Zc _ _ Za ((rd_T79 t273 Zm).f0) ((rd_T79 t273 Zm).f1) t282 _ ?side1 ?side2 (by first|exact A44.out|(have h_:=A44.out;rw[← Nbq50.out] at h_;exact h_)|(have h_:=A44.out;rw[← Nbq46.out] at h_;exact h_))).mono ?_
      (case side1=>exact(Yt Zh.out HB.out))
      (case side2=>exact Zo.out)
      rintro e w78 ⟨rfl,hb⟩;have HS6_:=(hb.cell (Yb _ _ (hHeld.2.2.2.2.2.2.1))).trans (hHeld.2.2.2.2.2.2.1);have HS7_:=(hb.cell (Yb _ _ (hHeld.2.2.2.2.2.2.2.1))).trans (hHeld.2.2.2.2.2.2.2.1);have HS8_:=(hb.cell (Yb _ _ (hHeld.2.2.2.2.2.2.2.2))).trans (hHeld.2.2.2.2.2.2.2.2);refine⟨_,rfl,?_⟩;replace HO_8:=Ya (Ys HO_8.out hb);replace HO_272000:=Ya (Ys HO_272000.out hb);replace HO_272001:=Ya (Ys HO_272001.out hb);replace Zl:=Ya (Yn Zl.out hb);replace Zw:=Ya (Yn Zw.out hb);replace Zk:=Ya (Yn Zk.out hb);replace HB:=Ya (Yk HB.out hb)
      (try clear hb)
      (try clear hb2)
      (try clear hk)
      (try clear hi)
      refine hK.out _ _ ⟨bc Zk 0,bc Zk 1,bc Zk 2,bc Zl 0,bc Zl 1,bc Zl 2,HS6_,HS7_,HS8_⟩ (fun hHeld=> ?_);clear hK K;refine nm ?_;refine pu 11 64 (bm 13 4095) ?_;refine pu 12 13 (bm 13 8191) ?_;refine done_ (done_of HT_.out (by kernel_rfl)) ?_;have hnb79:=NB271_263.out;have hnc79:=Us.out;have hnb80:=NB271_264.out;have hnc80:=Ut.out;have hcz81_0:w78.cell? ⟨Zz,0,none⟩=some (.slice (some ad280) Zi.length co77):=bc Zk 0;have hcz81_1:w78.cell? ⟨Zz,1,none⟩=some (u272001):=bc Zk 1;have hcz81_2:w78.cell? ⟨Zz,2,none⟩=some (.bool Wd):=bc Zk 2;have hfz81_0:=Yf Zk.out 0;have hfz81_1:=Yf Zk.out 1;have hfz81_2:=Yf Zk.out 2;obtain⟨Ao82,co82,eo82⟩:=Kd.R_slice HO_272001.out;subst eo82;have p283:0≤(t277:Int):=od;have q283:t277<(Zu.length:Int):=od;obtain⟨ad283,e283,hx283_0⟩:=Kd.at_bool (Kd.R_reads' HO_272001.out).2.2 t277 p283 q283
      (try rw[← Nbq46.out] at hx283_0)
      (try rw[← Nbq50.out] at hx283_0)
      cases e283;replace p283:=eq_true p283;replace q283:=eq_true q283;have p284:0≤(t279:Int):=od;have q284:t279<(Zu.length:Int):=od;obtain⟨ad284,e284,hx284_0⟩:=Kd.at_bool (Kd.R_reads' HO_272001.out).2.2 t279 p284 q284
      (try rw[← Nbq46.out] at hx284_0)
      (try rw[← Nbq50.out] at hx284_0)
      obtain rfl:ad283=ad284:=(by injection e284);replace p284:=eq_true p284;replace q284:=eq_true q284;have p285:0≤(t279:Int):=od;have q285:t279<(Zi.length:Int):=od;obtain⟨ad285,e285,hx285_0⟩:=Kd.at_int (Kd.R_reads' HO_272000.out).2.2 t279 p285 q285;obtain rfl:ad280=ad285:=(by injection e285);replace p285:=eq_true p285;replace q285:=eq_true q285;try go_wp2
      go_roundg k2
      case measure=>have:=HK1.out;have:=HK2.out;omega
      case rel=>exact⟨(wrap64 (Zm+1)),(Zi),(Zu),(Wd),(.slice (some ad280) Zi.length co77),(.slice (some ad283) Zu.length co82),(by first|rfl|(simp;done)|(simp[*];done)),H',⟨by have:=HK1.out;have:=HK2.out;omega⟩,⟨HO_8.out⟩,⟨HO_272000.out⟩,⟨HO_272001.out⟩,⟨Zl.out⟩,⟨Zw.out⟩,⟨Zk.out⟩,⟨HB.out⟩⟩
     rw[Yx c53] at H;have c53b0:decide ((wrap64 ((rd Zi t277)+t282))<(rd Zi t279))=true:=Yv c53;clear c53;obtain⟨y286,hy286⟩: ∃ y_:List Int,y_=(Zi.set (t279:Int).toNat (wrap64 ((rd Zi t277)+t282))):=⟨_,rfl⟩;rw[← hy286] at H;have Ny286:=Ya hy286;clear hy286;obtain⟨y287,hy287⟩: ∃ y_:List Bool,y_=(Zu.set (t279:Int).toNat true):=⟨_,rfl⟩;rw[← hy287] at H;have Ny287:=Ya hy287;clear hy287;have H':=Ya H;clear H;obtain⟨Ao56,co56,eo56⟩:=Kd.R_slice HO_8.out;subst eo56;try go_wp2
     replace HO_8:=Ya (Yp HO_8.out);replace HO_272000:=Ya (Yp HO_272000.out);replace HO_272001:=Ya (Yp HO_272001.out);replace Zl:=Ya (Ym Zl.out);replace Zw:=Ya (Ym Zw.out);replace Zk:=Ya (Ym Zk.out);replace HB:=Ya (Yg HB.out);have p276:0≤(Zm:Int):=od;have q276:Zm<(t273.length:Int):=od;obtain⟨Wl,e276,hx276_0,Ug⟩:=at_T79 (Kd.R_reads' HO_8.out).2.2 Zm p276 q276
     (try rw[← Nbq46.out] at Ug)
     (try rw[← Nbq50.out] at Ug)
     cases e276;replace p276:=eq_true p276;replace q276:=eq_true q276;have p278:0≤(Zm:Int):=od;have q278:Zm<(t273.length:Int):=od;obtain⟨ad278,e278,hx278_0,Uh⟩:=at_T79 (Kd.R_reads' HO_8.out).2.2 Zm p278 q278
     (try rw[← Nbq46.out] at Uh)
     (try rw[← Nbq50.out] at Uh)
     obtain rfl:Wl=ad278:=(by injection e278);replace p278:=eq_true p278;replace q278:=eq_true q278;refine start_ (n:=14) (S:=fun w'=>w'.cell? ⟨Wk,0,none⟩=some (.int .i64 Zb)∧w'.cell? ⟨Wk,1,none⟩=some (.bool Zc)∧w'.cell? ⟨Wk,2,none⟩=some (.slice Ze Za.length Zd)∧w'.cell? (Wl.add ((Zm).toNat * 2))=some (.int .i64 ((rd_T79 t273 Zm).f0))∧w'.cell? ⟨(Wl.add ((Zm).toNat * 2)).block,(Wl.add ((Zm).toNat * 2)).off+1,none⟩=some (.bool ((rd_T79 t273 Zm).f1))∧w'.cell? (Wl.add ((Zm).toNat * 2))=some (.int .i64 ((rd_T79 t273 Zm).f0))∧w'.cell? ⟨(Wl.add ((Zm).toNat * 2)).block,(Wl.add ((Zm).toNat * 2)).off+1,none⟩=some (.bool ((rd_T79 t273 Zm).f1))) (ds:=[]) #[false,false,false,false,false,false,false,false,false,false,false,false,false,false] (by kernel_rfl) rfl rfl ⟨(Yc Zl.out 0).trans rfl,(Yc Zl.out 1).trans rfl,(Yc Zl.out 2).trans rfl,hx276_0,Ug,hx278_0,Uh⟩ (fun hHeld=> ?_);refine with_tabW ebbtideref11_From.tab11 ebbtideref11_From.bits11 (fun HT_ HW_=> ?_);generalize wr.drew=w57 at HO_8 HO_272000 HO_272001 Zl Zw Zk HB hx276_0 Ug hx278_0 Uh hHeld ⊢;refine pu 1 42 (bm 14 2) ?_;refine pu 2 43 (bm 14 6) ?_;refine pu 3 44 (bm 14 14) ?_;refine pu 7 48 (bm 14 142) ?_;refine pu 8 49 (bm 14 398) ?_;refine pu 9 50 (bm 14 910) ?_;refine ta 0 41 (bm 14 911) hHeld ?_;refine ta 4 45 (bm 14 927) hHeld ?_;refine ta 6 47 (bm 14 991) hHeld ?_;refine ta 10 51 (bm 14 2015) hHeld ?_;refine on 5 (some 46) (bm 14 2047) fun K hK=> ?_
     refine gs Try.func42 #[.agg #[.int .i64 Zb, .bool Zc, .slice Ze Za.length Zd], .agg #[.int .i64 ((rd_T79 t273 Zm).f0), .bool ((rd_T79 t273 Zm).f1)]] ?_
     with_reducible refine(ebbtideref07_From.calls Zb Zc _ _ Za ((rd_T79 t273 Zm).f0) ((rd_T79 t273 Zm).f1) t277 _ ?side1 ?side2 (by first|exact A40.out|(have h_:=A40.out;rw[← Nbq50.out] at h_;exact h_)|(have h_:=A40.out;rw[← Nbq46.out] at h_;exact h_))).mono ?_
     (case side1=>exact(Yt Zh.out HB.out))
     (case side2=>exact Zo.out)
     rintro e w58 ⟨rfl,hb⟩;have HS3_:=(hb.cell (Yb _ _ (hHeld.2.2.2.1))).trans (hHeld.2.2.2.1);have HS4_:=(hb.cell (Yb _ _ (hHeld.2.2.2.2.1))).trans (hHeld.2.2.2.2.1);have HS5_:=(hb.cell (Yb _ _ (hHeld.2.2.2.2.2.1))).trans (hHeld.2.2.2.2.2.1);have HS6_:=(hb.cell (Yb _ _ (hHeld.2.2.2.2.2.2))).trans (hHeld.2.2.2.2.2.2);refine⟨_,rfl,?_⟩;replace HO_8:=Ya (Ys HO_8.out hb);replace HO_272000:=Ya (Ys HO_272000.out hb);replace HO_272001:=Ya (Ys HO_272001.out hb);replace Zl:=Ya (Yn Zl.out hb);replace Zw:=Ya (Yn Zw.out hb);replace Zk:=Ya (Yn Zk.out hb);replace HB:=Ya (Yk HB.out hb)
     (try clear hb)
     (try clear hb2)
     (try clear hk)
     (try clear hi)
     refine hK.out _ _ ⟨bc Zl 0,bc Zl 1,bc Zl 2,HS3_,HS4_,HS5_,HS6_⟩ (fun hHeld=> ?_);clear hK K;refine nm ?_;refine on 11 (some 52) (bm 14 4095) fun K hK=> ?_
     refine gs Try.func43 #[.agg #[.int .i64 Zb, .bool Zc, .slice Ze Za.length Zd], .agg #[.int .i64 ((rd_T79 t273 Zm).f0), .bool ((rd_T79 t273 Zm).f1)]] ?_
     with_reducible refine(ebbtideref07_To.calls Zb Zc _ _ Za ((rd_T79 t273 Zm).f0) ((rd_T79 t273 Zm).f1) t279 _ ?side1 ?side2 (by first|exact A41.out|(have h_:=A41.out;rw[← Nbq50.out] at h_;exact h_)|(have h_:=A41.out;rw[← Nbq46.out] at h_;exact h_))).mono ?_
     (case side1=>exact(Yt Zh.out HB.out))
     (case side2=>exact Zo.out)
     rintro e w59 ⟨rfl,hb⟩;have HS3_:=(hb.cell (Yb _ _ (hHeld.2.2.2.1))).trans (hHeld.2.2.2.1);have HS4_:=(hb.cell (Yb _ _ (hHeld.2.2.2.2.1))).trans (hHeld.2.2.2.2.1);have HS5_:=(hb.cell (Yb _ _ (hHeld.2.2.2.2.2.1))).trans (hHeld.2.2.2.2.2.1);have HS6_:=(hb.cell (Yb _ _ (hHeld.2.2.2.2.2.2))).trans (hHeld.2.2.2.2.2.2);refine⟨_,rfl,?_⟩;replace HO_8:=Ya (Ys HO_8.out hb);replace HO_272000:=Ya (Ys HO_272000.out hb);replace HO_272001:=Ya (Ys HO_272001.out hb);replace Zl:=Ya (Yn Zl.out hb);replace Zw:=Ya (Yn Zw.out hb);replace Zk:=Ya (Yn Zk.out hb);replace HB:=Ya (Yk HB.out hb)
     (try clear hb)
     (try clear hb2)
     (try clear hk)
     (try clear hi)
     refine hK.out _ _ ⟨bc Zl 0,bc Zl 1,bc Zl 2,HS3_,HS4_,HS5_,HS6_⟩ (fun hHeld=> ?_);clear hK K;refine nm ?_;refine pu 12 11 (bm 14 8191) ?_;refine pu 13 12 (bm 14 16383) ?_;refine done_ (done_of HT_.out (by kernel_rfl)) ?_;try go_wp2
     replace HO_8:=Ya (Yp HO_8.out);replace HO_272000:=Ya (Yp HO_272000.out);replace HO_272001:=Ya (Yp HO_272001.out);replace Zl:=Ya (Ym Zl.out);replace Zw:=Ya (Ym Zw.out);replace Zk:=Ya (Ym Zk.out);replace HB:=Ya (Yg HB.out);obtain⟨Ao61,co61,eo61⟩:=Kd.R_slice HO_272000.out
     (first|subst eo61|(injection eo61 with f1_ f2_ f3_;have f4_:=f1_.symm;have f5_:=f3_.symm;clear f1_ f2_ f3_;subst f4_;subst f5_))
     have p280:0≤(t277:Int):=od;have q280:t277<(Zi.length:Int):=od;obtain⟨ad280,e280,hx280_0⟩:=Kd.at_int (Kd.R_reads' HO_272000.out).2.2 t277 p280 q280;cases e280;replace p280:=eq_true p280;replace q280:=eq_true q280;have p281:0≤(Zm:Int):=od;have q281:Zm<(t273.length:Int):=od;obtain⟨ad281,e281,hx281_0,Ui⟩:=at_T79 (Kd.R_reads' HO_8.out).2.2 Zm p281 q281
     (try rw[← Nbq46.out] at Ui)
     (try rw[← Nbq50.out] at Ui)
     obtain rfl:Wl=ad281:=(by injection e281);replace p281:=eq_true p281;replace q281:=eq_true q281;refine start_ (n:=13) (S:=fun w'=>w'.cell? ⟨Zz,0,none⟩=some (.slice (some ad280) Zi.length co61)∧w'.cell? ⟨Zz,1,none⟩=some (u272001)∧w'.cell? ⟨Zz,2,none⟩=some (.bool Wd)∧w'.cell? ⟨Wk,0,none⟩=some (.int .i64 Zb)∧w'.cell? ⟨Wk,1,none⟩=some (.bool Zc)∧w'.cell? ⟨Wk,2,none⟩=some (.slice Ze Za.length Zd)∧w'.cell? (ad280.add (t277).toNat)=some (.int .i64 (rd Zi t277))∧w'.cell? (Wl.add ((Zm).toNat * 2))=some (.int .i64 ((rd_T79 t273 Zm).f0))∧w'.cell? ⟨(Wl.add ((Zm).toNat * 2)).block,(Wl.add ((Zm).toNat * 2)).off+1,none⟩=some (.bool ((rd_T79 t273 Zm).f1))) (ds:=[]) #[false,false,false,false,false,false,false,false,false,false,false,false,false] (by kernel_rfl) rfl rfl ⟨(Yc Zk.out 0).trans rfl,(Yc Zk.out 1).trans rfl,(Yc Zk.out 2).trans rfl,(Yc Zl.out 0).trans rfl,(Yc Zl.out 1).trans rfl,(Yc Zl.out 2).trans rfl,hx280_0,hx281_0,Ui⟩ (fun hHeld=> ?_);refine with_tabW ebbtideref11_From.tab12 ebbtideref11_From.bits12 (fun HT_ HW_=> ?_);generalize w59.drew=w60 at HO_8 HO_272000 HO_272001 Zl Zw Zk HB hx280_0 hx281_0 Ui hHeld ⊢;refine pu 0 53 (bm 13 1) ?_;refine pu 2 55 (bm 13 5) ?_;refine pu 6 59 (bm 13 69) ?_;refine pu 7 60 (bm 13 197) ?_;refine pu 8 61 (bm 13 453) ?_;refine ta 1 54 (bm 13 455) hHeld ?_;refine pu 3 56 (bm 13 463) ?_;refine ta 4 57 (bm 13 479) hHeld ?_;refine ta 5 58 (bm 13 511) hHeld ?_;refine ta 9 62 (bm 13 1023) hHeld ?_;refine on 10 (some 63) (bm 13 2047) fun K hK=> ?_
     refine gs Try.func44 #[.agg #[.int .i64 Zb, .bool Zc, .slice Ze Za.length Zd], .agg #[.int .i64 ((rd_T79 t273 Zm).f0), .bool ((rd_T79 t273 Zm).f1)]] ?_
     with_reducible refine(ebbtideref11_Time.calls Zb Zc _ _ Za ((rd_T79 t273 Zm).f0) ((rd_T79 t273 Zm).f1) t282 _ ?side1 ?side2 (by first|exact A44.out|(have h_:=A44.out;rw[← Nbq50.out] at h_;exact h_)|(have h_:=A44.out;rw[← Nbq46.out] at h_;exact h_))).mono ?_
     (case side1=>exact(Yt Zh.out HB.out))
     (case side2=>exact Zo.out)
     rintro e w62 ⟨rfl,hb⟩;have HS6_:=(hb.cell (Yb _ _ (hHeld.2.2.2.2.2.2.1))).trans (hHeld.2.2.2.2.2.2.1);have HS7_:=(hb.cell (Yb _ _ (hHeld.2.2.2.2.2.2.2.1))).trans (hHeld.2.2.2.2.2.2.2.1);have HS8_:=(hb.cell (Yb _ _ (hHeld.2.2.2.2.2.2.2.2))).trans (hHeld.2.2.2.2.2.2.2.2);refine⟨_,rfl,?_⟩;replace HO_8:=Ya (Ys HO_8.out hb);replace HO_272000:=Ya (Ys HO_272000.out hb);replace HO_272001:=Ya (Ys HO_272001.out hb);replace Zl:=Ya (Yn Zl.out hb);replace Zw:=Ya (Yn Zw.out hb);replace Zk:=Ya (Yn Zk.out hb);replace HB:=Ya (Yk HB.out hb)
     (try clear hb)
     (try clear hb2)
     (try clear hk)
     (try clear hi)
     refine hK.out _ _ ⟨bc Zk 0,bc Zk 1,bc Zk 2,bc Zl 0,bc Zl 1,bc Zl 2,HS6_,HS7_,HS8_⟩ (fun hHeld=> ?_);clear hK K;refine nm ?_;refine pu 11 64 (bm 13 4095) ?_;refine pu 12 13 (bm 13 8191) ?_;refine done_ (done_of HT_.out (by kernel_rfl)) ?_;have hnb63:=NB271_263.out;have hnc63:=Us.out;have hnb64:=NB271_264.out;have hnc64:=Ut.out;have hcz65_0:w62.cell? ⟨Zz,0,none⟩=some (.slice (some ad280) Zi.length co61):=bc Zk 0;have hcz65_1:w62.cell? ⟨Zz,1,none⟩=some (u272001):=bc Zk 1;have hcz65_2:w62.cell? ⟨Zz,2,none⟩=some (.bool Wd):=bc Zk 2;have hfz65_0:=Yf Zk.out 0;have hfz65_1:=Yf Zk.out 1;have hfz65_2:=Yf Zk.out 2;obtain⟨Ao66,co66,eo66⟩:=Kd.R_slice HO_272001.out;subst eo66;have p283:0≤(t277:Int):=od;have q283:t277<(Zu.length:Int):=od;obtain⟨ad283,e283,hx283_0⟩:=Kd.at_bool (Kd.R_reads' HO_272001.out).2.2 t277 p283 q283
     (try rw[← Nbq46.out] at hx283_0)
     (try rw[← Nbq50.out] at hx283_0)
     cases e283;replace p283:=eq_true p283;replace q283:=eq_true q283;have p284:0≤(t279:Int):=od;have q284:t279<(Zu.length:Int):=od;obtain⟨ad284,e284,hx284_0⟩:=Kd.at_bool (Kd.R_reads' HO_272001.out).2.2 t279 p284 q284
     (try rw[← Nbq46.out] at hx284_0)
     (try rw[← Nbq50.out] at hx284_0)
     obtain rfl:ad283=ad284:=(by injection e284);replace p284:=eq_true p284;replace q284:=eq_true q284;have p285:0≤(t279:Int):=od;have q285:t279<(Zi.length:Int):=od;obtain⟨ad285,e285,hx285_0⟩:=Kd.at_int (Kd.R_reads' HO_272000.out).2.2 t279 p285 q285;obtain rfl:ad280=ad285:=(by injection e285);replace p285:=eq_true p285;replace q285:=eq_true q285;have p54:0≤(t279:Int):=od;have q54:(t279:Int)<((Zi.length:Int):Int):=od;obtain⟨go54,co54,eo54,gb54,gl54,cl54,HG54⟩:=Kd.R_form HO_272000.out (by omega)
     (first|cases eo54|(injection eo54 with ea_ en_ ec_;(first|subst ea_|(injection ea_ with ea_;subst ea_));subst ec_;clear en_))
     have GB54:=Ya gb54;have GG54:=Ya HG54;clear gb54 gl54 HG54
     (first|simp only[add_plain] at hx280_0|skip)
     (first|simp only[add_plain] at hx285_0|skip)
     obtain⟨hx54_0,hf54_0⟩:=Kd.R_celln 0 HO_272000.out (t279:Int) p54 q54;replace p54:=eq_true p54;replace q54:=eq_true q54;obtain⟨hy67_,hz67_⟩:=Kd.R_celln 0 HO_272000.out (t279:Int) (Yu (by first|(with_reducible assumption)|assumption)) (Yu (by first|(with_reducible assumption)|assumption));have HP67:=Kd.R_putg HO_272000.out (t279:Int) (wrap64 ((rd Zi t277)+t282));have p55:0≤(t279:Int):=od;have q55:(t279:Int)<((Zu.length:Int):Int):=od;obtain⟨go55,co55,eo55,gb55,gl55,cl55,HG55⟩:=Kd.R_form HO_272001.out (by omega);(first|cases eo55|(injection eo55 with ea_ en_ ec_;(first|subst ea_|(injection ea_ with ea_;subst ea_));subst ec_;clear en_));have GB55:=Ya gb55;have GG55:=Ya HG55;clear gb55 gl55 HG55;(first|simp only[add_plain] at hx283_0|skip);(first|simp only[add_plain] at hx284_0|skip);obtain⟨hx55_0,hf55_0⟩:=Kd.R_celln false HO_272001.out (t279:Int) p55 q55;replace p55:=eq_true p55;replace q55:=eq_true q55;try go_wp2_with fail
     have zc0:w62.cell? ⟨Zz,0,none⟩=some (.slice (some ⟨go54,0,none⟩) Zi.length co61):=bc Zk 0;have zc1:w62.cell? ⟨Zz,1,none⟩=some (.slice (some ⟨go55,0,none⟩) Zu.length co66):=bc Zk 1;have ngb271go54_:Zz≠go54:=fun e=>Kd.R_ne HO_272000.out Zk.out (by decide) (congrArg some e)
     have ngo54gb271_:go54≠Zz:=Ne.symm ngb271go54_;have ngb271go55_:Zz≠go55:=fun e=>Kd.R_ne HO_272001.out Zk.out (by decide) (congrArg some e)
     have ngo55gb271_:go55≠Zz:=Ne.symm ngb271go55_;have ngo54go55_:go54≠go55:=fun e=>by obtain⟨c1_,h1_⟩:=Kd.R_typed HO_272000.out _ rfl;obtain⟨c2_,h2_⟩:=Kd.R_typed HO_272001.out _ rfl;rw[← e] at h2_;have t_:=h1_.symm.trans h2_;simp at t_
     have ngo55go54_:go55≠go54:=Ne.symm ngo54go55_;go_region;obtain⟨w68,hw⟩: ∃ x_,x_=(w62.setCell ⟨go54,(t279:Int).toNat,none⟩ (.int .i64 (wrap64 ((rd Zi t277)+t282)))):=⟨_,rfl⟩;rw[← hw];have hg:w62.grownBy w68 (some go54):=(by rw[hw];exact HP67.2);have hp_:Kd.R (Kd.int .i64) 3 w68 w.heap.size (fun _=>True) (.slice (some ⟨go54,0,none⟩) Zi.length co61) y286:=(by rw[hw,Ny286.out];exact HP67.1);clear HP67;replace HO_8:=Ya (Kd.R_over' (v:=(.slice (some ⟨go54,0,none⟩) Zi.length co61)) HO_8.out (Kd.R_typed HO_272000.out) (by decide) hg);replace HO_272001:=Ya (Kd.R_over' (v:=(.slice (some ⟨go54,0,none⟩) Zi.length co61)) HO_272001.out (Kd.R_typed HO_272000.out) (by decide) hg);replace Zl:=Ya (blk_grown Zl.out hg (Kd.R_ne HO_272000.out Zl.out (by decide)));replace Zw:=Ya (blk_grown Zw.out hg (Kd.R_ne HO_272000.out Zw.out (by decide)));replace Zk:=Ya (blk_grown Zk.out hg (Kd.R_ne HO_272000.out Zk.out (by decide)));replace HO_272000:=Ya (hp_);replace HB:=Ya (by rw[hw];exact Yh (HB.out) GB54.out:Below w.heap.size w w68);clear hg hw hp_;obtain⟨hy69_,hz69_⟩:=Kd.R_celln false HO_272001.out (t279:Int) (Yu (by first|(with_reducible assumption)|assumption)) (Yu (by first|(with_reducible assumption)|assumption));have HP69:=Kd.R_putg HO_272001.out (t279:Int) true;obtain⟨w70,hw⟩: ∃ x_,x_=(w68.setCell ⟨go55,(t279:Int).toNat,none⟩ (.bool true)):=⟨_,rfl⟩;rw[← hw];have hg:w68.grownBy w70 (some go55):=(by rw[hw];exact HP69.2);have hp_:Kd.R Kd.bool 4 w70 w.heap.size (fun _=>True) (.slice (some ⟨go55,0,none⟩) Zu.length co66) y287:=(by rw[hw,Ny287.out];exact HP69.1);clear HP69;replace HO_8:=Ya (Kd.R_over' (v:=(.slice (some ⟨go55,0,none⟩) Zu.length co66)) HO_8.out (Kd.R_typed HO_272001.out) (by decide) hg);replace HO_272000:=Ya (Kd.R_over' (v:=(.slice (some ⟨go55,0,none⟩) Zu.length co66)) HO_272000.out (Kd.R_typed HO_272001.out) (by decide) hg);replace Zl:=Ya (blk_grown Zl.out hg (Kd.R_ne HO_272001.out Zl.out (by decide)));replace Zw:=Ya (blk_grown Zw.out hg (Kd.R_ne HO_272001.out Zw.out (by decide)));replace Zk:=Ya (blk_grown Zk.out hg (Kd.R_ne HO_272001.out Zk.out (by decide)));replace HO_272001:=Ya (hp_);replace HB:=Ya (by rw[hw];exact Yh (HB.out) GB55.out:Below w.heap.size w w70);clear hg hw hp_;have u0_:=Ya (Yp HO_8.out);have u1_:=Ya (Yp HO_272000.out);have u2_:=Ya (Yp HO_272001.out);have u3_:=Ya (Ym Zl.out);have u4_:=Ya (Ym Zw.out);have u5_:=Ya (Ym Zk.out);have u6_:=Ya (below_drew HB.out);clear HO_8 HO_272000 HO_272001 Zl Zw Zk HB zc0 zc1;have HO_8:=u0_;have HO_272000:=u1_;have HO_272001:=u2_;have Zl:=u3_;have Zw:=u4_;have Zk:=u5_;have HB:=u6_;clear u0_ u1_ u2_ u3_ u4_ u5_ u6_;generalize w70.drew=w70x at HO_8 HO_272000 HO_272001 Zl Zw Zk HB ⊢;have hcz71_0:w70x.cell? ⟨Zz,0,none⟩=some (.slice (some ⟨go54,0,none⟩) Zi.length co61):=bc Zk 0;have hcz71_1:w70x.cell? ⟨Zz,1,none⟩=some (.slice (some ⟨go55,0,none⟩) Zu.length co66):=bc Zk 1;have hcz71_2:w70x.cell? ⟨Zz,2,none⟩=some (.bool Wd):=bc Zk 2;have hfz71_0:=Yf Zk.out 0;have hfz71_1:=Yf Zk.out 1;have hfz71_2:=Yf Zk.out 2;go_wp2_with fail;go_roundg k2
     case measure=>have:=HK1.out;have:=HK2.out;omega
     case rel=>exact⟨(wrap64 (Zm+1)),(y286),(y287),(false),(.slice (some ⟨go54,0,none⟩) Zi.length co61),(.slice (some ⟨go55,0,none⟩) Zu.length co66),(by first|rfl|(simp;done)|(simp[*];done)),H',⟨by have:=HK1.out;have:=HK2.out;omega⟩,⟨by(with_reducible repeat(first|apply Yr|apply Yq|apply Yp));exact Kd.R_mono (Kd.R_far (p:=⟨Zz,2,none⟩) (Kd.R_types HO_8.out Zk.out (by decide)) (fun _ hk=>hk.2) (.bool false)) (fun _ hk=>trivial)⟩,⟨by(with_reducible repeat(first|apply Yr|apply Yq|apply Yp));exact Kd.R_mono (Kd.R_far (p:=⟨Zz,2,none⟩) (Kd.R_types HO_272000.out Zk.out (by decide)) (fun _ hk=>hk.2) (.bool false)) (fun _ hk=>trivial)⟩,⟨by(with_reducible repeat(first|apply Yr|apply Yq|apply Yp));exact Kd.R_mono (Kd.R_far (p:=⟨Zz,2,none⟩) (Kd.R_types HO_272001.out Zk.out (by decide)) (fun _ hk=>hk.2) (.bool false)) (fun _ hk=>trivial)⟩,⟨by(with_reducible repeat(first|refine Yl ?_ _|refine Ym ?_|refine Yj ?_ _));refine blk_far ?_ Us.out _;(with_reducible repeat(first|refine Yl ?_ _|refine Ym ?_|refine Yj ?_ _));exact Zl.out⟩,⟨by(with_reducible repeat(first|refine Yl ?_ _|refine Ym ?_|refine Yj ?_ _));refine blk_far ?_ Ut.out _;(with_reducible repeat(first|refine Yl ?_ _|refine Ym ?_|refine Yj ?_ _));exact Zw.out⟩,⟨by(with_reducible repeat(first|refine Yl ?_ _|refine Ym ?_|refine Yj ?_ _));refine YA (cs:= #[.slice (some ⟨go54,0,none⟩) Zi.length co61, .slice (some ⟨go55,0,none⟩) Zu.length co66, .bool Wd]) ?_ 2 _ rfl;(with_reducible repeat(first|refine Yl ?_ _|refine Ym ?_|refine Yj ?_ _));exact Zk.out⟩,⟨bl⟩⟩
end P
namespace P
attribute [local go_sem] max2_int min2_int max_two min_two max_three min_three max_four min_four
def static_Flowing_To.f (Zb:Int) (Zc:Bool) (Za:List (S50)) (Xx:List Int) (Zj:Int) (Xh:Bool):Option (Int):=(static_Flowing_From.f Zb Zc Za Xx Zj (!Xh)).bind fun t725=>(some t725)
set_option maxHeartbeats 8000000 in
set_option maxRecDepth 100000 in
theorem static_Flowing_To.calls (Zb:Int) (Zc:Bool) (Ze:Option Addr) (Zd:Nat) (Za:List (S50)) (Ul:Option Addr) (Um:Nat) (Xx:List Int) (Zj:Int) (Xh:Bool) (r:Int) (w:World) (Zp:Kd.C k50 w Ze Za.length Za) (Zq:Za.length≤Zd) (hr0_3:Kd.C (Kd.int .i64) w Ul Xx.length Xx) (hc0_3:Xx.length≤Um) (h:static_Flowing_To.f Zb Zc Za Xx Zj Xh=some r):
  Calls Try.prog 93 #[.agg #[.int .i64 Zb, .bool Zc, .slice Ze Za.length Zd, .slice Ul Xx.length Um], .agg #[.int .i64 Zj, .bool Xh]] w fun e w'=>e= .returned (.int .i64 r)∧Below w.heap.size w w':=by
 have hu104:=Try.underlying104;have hu79:=Try.underlying79;have Zh:=Ya Zp;have Zo:=Ya Zq;clear Zp Zq;have HR0_3:=Ya hr0_3;have HC0_3:=Ya hc0_3;clear hr0_3 hc0_3;have HB:=Ya (Yo w.heap.size w);have H:=h;unfold static_Flowing_To.f at H;clear h;replace H:=Option.bind_eq_some_iff.mp H;obtain⟨t725,A30,H⟩:=H;try dsimp only at H
 have A3:=Ya A30;clear A30;obtain rfl:=Option.some.inj H;go_enter Try.func93,Try.ntmps93;go_wp2_with (first|(refine bx 2 104 #[.int .i64 Zb, .bool Zc, .slice Ze Za.length Zd, .slice Ul Xx.length Um] ?_;intro gb723 hg w4 Zf hb;have BK723:=Ya (Zf);have GW723:=Ya ((sz hg));have GE723:=Ya ((sz hg));replace HB:=Ya (Yk bl hb);clear hb Zf hg)|(refine bx 3 79 #[.int .i64 Zj, .bool Xh] ?_;intro gb724 hg w5 Zf hb;have BK724:=Ya (Zf);have GW724:=Ya ((sz hg));have GE724:=Ya ((sz hg));replace HB:=Ya (Yk bl hb);have NB723_724:=Ya (by rw[hg];exact Nat.ne_of_lt (blk_lt (bk BK723)):gb723≠gb724);have NB724_723:=Ya (by rw[hg];exact Nat.ne_of_gt (blk_lt (bk BK723)):gb724≠gb723);replace BK723:=Ya (Yn (bk BK723) hb);clear hb Zf hg;have hnb6:=NB724_723.out;have hnc6:=NB723_724.out;have hcz7_0:w5.cell? ⟨gb724,0,none⟩=some (.int .i64 Zj):=bc BK724 0;have hcz7_1:w5.cell? ⟨gb724,1,none⟩=some (.bool Xh):=bc BK724 1;have hfz7_0:=Yf BK724.out 0;have hfz7_1:=Yf BK724.out 1;have Jq:w5.cell? ⟨gb723,0,none⟩=some (.int .i64 Zb):=bc BK723 0;have Jr:w5.cell? ⟨gb723,1,none⟩=some (.bool Zc):=bc BK723 1;have hcz8_2:w5.cell? ⟨gb723,2,none⟩=some (.slice Ze Za.length Zd):=bc BK723 2;have hcz8_3:w5.cell? ⟨gb723,3,none⟩=some (.slice Ul Xx.length Um):=bc BK723 3;have Js:=Yf BK723.out 0;have Jt:=Yf BK723.out 1;have hfz8_2:=Yf BK723.out 2;have hfz8_3:=Yf BK723.out 3)|((with_reducible refine gate_callee (f:=87) rfl ?_);refine gl (some 11) Try.func87 #[.agg #[.int .i64 Zb, .bool Zc, .slice Ze Za.length Zd, .slice Ul Xx.length Um], .agg #[.int .i64 Zj, .bool (!Xh)]] ?_;(with_reducible refine(static_Flowing_From.calls Zb Zc _ _ Za _ _ Xx Zj (!Xh) t725 _ ?side1 ?side2 ?side3 ?side4 A3.out).mono ?_);(case side1=>exact Yt Zh.out bl);(case side2=>exact Zo.out);(case side3=>exact Yt HR0_3.out bl);(case side4=>exact HC0_3.out);rintro e w9 ⟨rfl,hb⟩;refine⟨_,rfl,?_⟩;replace BK723:=Ya (Yn (g:=gb723) (o:= .cells #[.int .i64 Zb, .bool Zc, .slice Ze Za.length Zd, .slice Ul Xx.length Um] 104 (0,0)) (by(with_reducible repeat(first|refine Yl ?_ _|refine Ym ?_|refine Yj ?_ _));refine blk_far ?_ NB723_724.out _;(with_reducible repeat(first|refine Yl ?_ _|refine Ym ?_|refine Yj ?_ _));exact BK723.out) hb);replace BK724:=Ya (Yn (g:=gb724) (o:= .cells #[.int .i64 Zj, .bool (!Xh)] 79 (0,0)) (by(with_reducible repeat(first|refine Yl ?_ _|refine Ym ?_|refine Yj ?_ _));refine YA (cs:= #[.int .i64 Zj, .bool Xh]) ?_ 1 _ rfl;(with_reducible repeat(first|refine Yl ?_ _|refine Ym ?_|refine Yj ?_ _));exact BK724.out) hb);replace HB:=Ya (Yk bl hb);(try clear hb)));go_ret;exact⟨by first|rfl|(simp[errW_none,errW_some]<;>rfl)|(simp[*,errW_none,errW_some]<;>rfl),HB.out⟩
end P
namespace P
attribute [local go_sem] max2_int min2_int max_two min_two max_three min_three max_four min_four
def static_Flowing_Time.f (Zb:Int) (Zc:Bool) (Za:List (S50)) (Xx:List Int) (Zj:Int) (Xh:Bool):Option (Int):=if Xh=true then(if 0≤Zj then(if Zj<(Za.length:Int) then(some (wrap64 (-((rd_T50 Za Zj).f3)))) else(none)) else(none)) else(if 0≤Zj then(if Zj<(Za.length:Int) then(some ((rd_T50 Za Zj).f3)) else(none)) else(none))
set_option maxHeartbeats 8000000 in
set_option maxRecDepth 100000 in
theorem static_Flowing_Time.calls (Zb:Int) (Zc:Bool) (Ze:Option Addr) (Zd:Nat) (Za:List (S50)) (Ul:Option Addr) (Um:Nat) (Xx:List Int) (Zj:Int) (Xh:Bool) (r:Int) (w:World) (Zp:Kd.C k50 w Ze Za.length Za) (Zq:Za.length≤Zd) (hr0_3:Kd.C (Kd.int .i64) w Ul Xx.length Xx) (hc0_3:Xx.length≤Um) (h:static_Flowing_Time.f Zb Zc Za Xx Zj Xh=some r):
  Calls Try.prog 94 #[.agg #[.int .i64 Zb, .bool Zc, .slice Ze Za.length Zd, .slice Ul Xx.length Um], .agg #[.int .i64 Zj, .bool Xh]] w fun e w'=>e= .returned (.int .i64 r)∧Below w.heap.size w w':=by
 have hu104:=Try.underlying104;have hu79:=Try.underlying79;have Zh:=Ya Zp;have Zo:=Ya Zq;clear Zp Zq;have HR0_3:=Ya hr0_3;have HC0_3:=Ya hc0_3;clear hr0_3 hc0_3;have HB:=Ya (Yo w.heap.size w);have H:(if Xh=true then(if 0≤Zj then(if Zj<(Za.length:Int) then(some (wrap64 (-((rd_T50 Za Zj).f3)))) else(none)) else(none)) else(if 0≤Zj then(if Zj<(Za.length:Int) then(some ((rd_T50 Za Zj).f3)) else(none)) else(none)))=some r:=h;clear h;by_cases c3:Xh=true
 ·subst c3
  have H1:(if 0≤Zj then(if Zj<(Za.length:Int) then(some (wrap64 (-((rd_T50 Za Zj).f3)))) else(none)) else(none))=some r:=by first|(rw[Yx rfl] at H;exact H)|(rw[Yx trivial] at H;exact H)
  clear H;have H:=H1;clear H1;by_cases c4:0≤Zj
  rotate_left
  ·rw[Yy c4] at H
   exact absurd H (by simp)
  rw[Yx c4] at H;have c4b0:decide (0≤Zj)=true:=Yv c4;clear c4;by_cases c5:Zj<(Za.length:Int)
  rotate_left
  ·rw[Yy c5] at H
   exact absurd H (by simp)
  rw[Yx c5] at H;have c5b0:decide (Zj<(Za.length:Int))=true:=Yv c5;clear c5;obtain rfl:=Option.some.inj H;go_enter Try.func94,Try.ntmps94;go_wp2_with (first|((with_reducible refine gate_dst (N:=2) rfl ?_);refine Yz ?hg (N:=2) ?hd (cs:= #[.int .i64 Zb, .bool Zc, .slice Ze Za.length Zd, .slice Ul Xx.length Um]) (t:=104) ?hr ?_;(case hd=>rfl);(case hg=>rfl);(case hr=>first|(go_simp;done)|(go_simp;rfl));intro gb726 hg w6 Zf hb;have n0_:=Ya (Yk (by repeat(first|(with_reducible first|exact HB.out|apply Ye|apply Yd|apply Yg)|exact HB.out)) hb);have n1_:=Ya (Zf);have n2_:=Ya ((by rw[hg];exact(Yi (by repeat(first|(with_reducible first|exact HB.out|apply Ye|apply Yd|apply Yg)|exact HB.out))):w.heap.size≤gb726));have n3_:=Ya ((by rw[hg];exact(Yi (by repeat(first|(with_reducible first|exact HB.out|apply Ye|apply Yd|apply Yg)|exact HB.out))):w.heap.size≤gb726));clear HB;have HB:=n0_;have Jd:=n1_;have GW726:=n2_;have GE726:=n3_;clear n0_ n1_ n2_ n3_;clear hb Zf hg)|((with_reducible refine gate_dst (N:=3) rfl ?_);refine Yz ?hg (N:=3) ?hd (cs:= #[.int .i64 Zj, .bool true]) (t:=79) ?hr ?_;(case hd=>rfl);(case hg=>rfl);(case hr=>first|(go_simp;done)|(go_simp;rfl));intro gb727 hg w7 Zf hb;have n0_:=Ya (Yn (g:=gb726) (o:= .cells #[.int .i64 Zb, .bool Zc, .slice Ze Za.length Zd, .slice Ul Xx.length Um] 104 (0,0)) (by(with_reducible repeat(first|refine Yl ?_ _|refine Ym ?_|refine Yj ?_ _));exact Jd.out) hb);have n1_:=Ya (Yk (by repeat(first|(with_reducible first|exact HB.out|apply Ye|apply Yd|apply Yg|refine Yh ?_ GE726.out)|exact HB.out)) hb);have n2_:=Ya (Zf);have n3_:=Ya ((by rw[hg];exact(Yi (by repeat(first|(with_reducible first|exact HB.out|apply Ye|apply Yd|apply Yg|refine Yh ?_ GE726.out)|exact HB.out))):w.heap.size≤gb727));have n4_:=Ya ((by rw[hg];exact(Yi (by repeat(first|(with_reducible first|exact HB.out|apply Ye|apply Yd|apply Yg|refine Yh ?_ GE726.out)|exact HB.out))):w.heap.size≤gb727));have n5_:=Ya ((by rw[hg];exact Nat.ne_of_lt (blk_lt (g:=gb726) (o:= .cells #[.int .i64 Zb, .bool Zc, .slice Ze Za.length Zd, .slice Ul Xx.length Um] 104 (0,0)) (by(with_reducible repeat(first|refine Yl ?_ _|refine Ym ?_|refine Yj ?_ _));exact Jd.out)):gb726≠gb727));have n6_:=Ya ((by rw[hg];exact Nat.ne_of_gt (blk_lt (g:=gb726) (o:= .cells #[.int .i64 Zb, .bool Zc, .slice Ze Za.length Zd, .slice Ul Xx.length Um] 104 (0,0)) (by(with_reducible repeat(first|refine Yl ?_ _|refine Ym ?_|refine Yj ?_ _));exact Jd.out)):gb727≠gb726));clear Jd;clear HB;have Jd:=n0_;have HB:=n1_;have BK727:=n2_;have GW727:=n3_;have GE727:=n4_;have NB726_727:=n5_;have NB727_726:=n6_;clear n0_ n1_ n2_ n3_ n4_ n5_ n6_;clear hb Zf hg;have hnb8:=NB727_726.out;have hnc8:=NB726_727.out;have hcz9_0:w7.cell? ⟨gb727,0,none⟩=some (.int .i64 Zj):=(Yc BK727.out 0).trans rfl;have hcz9_1:w7.cell? ⟨gb727,1,none⟩=some (.bool true):=(Yc BK727.out 1).trans rfl;have hfz9_0:=Yf BK727.out 0;have hfz9_1:=Yf BK727.out 1;have Wu:w7.cell? ⟨gb726,0,none⟩=some (.int .i64 Zb):=(Yc Jd.out 0).trans rfl;have Wv:w7.cell? ⟨gb726,1,none⟩=some (.bool Zc):=(Yc Jd.out 1).trans rfl;have Vl:w7.cell? ⟨gb726,2,none⟩=some (.slice Ze Za.length Zd):=(Yc Jd.out 2).trans rfl;have hcz10_3:w7.cell? ⟨gb726,3,none⟩=some (.slice Ul Xx.length Um):=(Yc Jd.out 3).trans rfl;have Ww:=Yf Jd.out 0;have Wx:=Yf Jd.out 1;have Vm:=Yf Jd.out 2;have hfz10_3:=Yf Jd.out 3;have p728:0≤(Zj:Int):=Yu (by first|(with_reducible assumption)|assumption);have q728:Zj<(Za.length:Int):=Yu (by first|(with_reducible assumption)|assumption);obtain⟨ad728,e728,hx728_0,hx728_1,hx728_2,hx728_3⟩:=at_T50 Zh.out Zj p728 q728;cases e728;replace hx728_0:=(HB.out.cell (Yb w _ hx728_0)).trans hx728_0;replace hx728_1:=(HB.out.cell (Yb w _ hx728_1)).trans hx728_1;replace hx728_2:=(HB.out.cell (Yb w _ hx728_2)).trans hx728_2;replace hx728_3:=(HB.out.cell (Yb w _ hx728_3)).trans hx728_3;replace p728:=eq_true p728;replace q728:=eq_true q728));go_ret;exact⟨by first|rfl|(simp[errW_none,errW_some]<;>rfl)|(simp[*,errW_none,errW_some]<;>rfl),by repeat(first|(with_reducible first|exact HB.out|apply Ye|apply Yd|apply Yg|refine Yh ?_ GE726.out|refine Yh ?_ GE727.out)|exact HB.out)⟩
 replace c3:=Bool.eq_false_iff.mpr c3;subst c3;have H1:(if 0≤Zj then(if Zj<(Za.length:Int) then(some ((rd_T50 Za Zj).f3)) else(none)) else(none))=some r:=by rw[Yy (show ¬ (false=true) by decide)] at H;exact H
 clear H;have H:=H1;clear H1;by_cases c11:0≤Zj
 rotate_left
 ·rw[Yy c11] at H
  exact absurd H (by simp)
 rw[Yx c11] at H;have c11b0:decide (0≤Zj)=true:=Yv c11;clear c11;by_cases c12:Zj<(Za.length:Int)
 rotate_left
 ·rw[Yy c12] at H
  exact absurd H (by simp)
 rw[Yx c12] at H;have c12b0:decide (Zj<(Za.length:Int))=true:=Yv c12;clear c12;obtain rfl:=Option.some.inj H;go_enter Try.func94,Try.ntmps94;go_wp2_with (first|((with_reducible refine gate_dst (N:=2) rfl ?_);refine Yz ?hg (N:=2) ?hd (cs:= #[.int .i64 Zb, .bool Zc, .slice Ze Za.length Zd, .slice Ul Xx.length Um]) (t:=104) ?hr ?_;(case hd=>rfl);(case hg=>rfl);(case hr=>first|(go_simp;done)|(go_simp;rfl));intro gb726 hg w13 Zf hb;have n0_:=Ya (Yk (by repeat(first|(with_reducible first|exact HB.out|apply Ye|apply Yd|apply Yg)|exact HB.out)) hb);have n1_:=Ya (Zf);have n2_:=Ya ((by rw[hg];exact(Yi (by repeat(first|(with_reducible first|exact HB.out|apply Ye|apply Yd|apply Yg)|exact HB.out))):w.heap.size≤gb726));have n3_:=Ya ((by rw[hg];exact(Yi (by repeat(first|(with_reducible first|exact HB.out|apply Ye|apply Yd|apply Yg)|exact HB.out))):w.heap.size≤gb726));clear HB;have HB:=n0_;have Jd:=n1_;have GW726:=n2_;have GE726:=n3_;clear n0_ n1_ n2_ n3_;clear hb Zf hg)|((with_reducible refine gate_dst (N:=3) rfl ?_);refine Yz ?hg (N:=3) ?hd (cs:= #[.int .i64 Zj, .bool false]) (t:=79) ?hr ?_;(case hd=>rfl);(case hg=>rfl);(case hr=>first|(go_simp;done)|(go_simp;rfl));intro gb727 hg w14 Zf hb;have n0_:=Ya (Yn (g:=gb726) (o:= .cells #[.int .i64 Zb, .bool Zc, .slice Ze Za.length Zd, .slice Ul Xx.length Um] 104 (0,0)) (by(with_reducible repeat(first|refine Yl ?_ _|refine Ym ?_|refine Yj ?_ _));exact Jd.out) hb);have n1_:=Ya (Yk (by repeat(first|(with_reducible first|exact HB.out|apply Ye|apply Yd|apply Yg|refine Yh ?_ GE726.out)|exact HB.out)) hb);have n2_:=Ya (Zf);have n3_:=Ya ((by rw[hg];exact(Yi (by repeat(first|(with_reducible first|exact HB.out|apply Ye|apply Yd|apply Yg|refine Yh ?_ GE726.out)|exact HB.out))):w.heap.size≤gb727));have n4_:=Ya ((by rw[hg];exact(Yi (by repeat(first|(with_reducible first|exact HB.out|apply Ye|apply Yd|apply Yg|refine Yh ?_ GE726.out)|exact HB.out))):w.heap.size≤gb727));have n5_:=Ya ((by rw[hg];exact Nat.ne_of_lt (blk_lt (g:=gb726) (o:= .cells #[.int .i64 Zb, .bool Zc, .slice Ze Za.length Zd, .slice Ul Xx.length Um] 104 (0,0)) (by(with_reducible repeat(first|refine Yl ?_ _|refine Ym ?_|refine Yj ?_ _));exact Jd.out)):gb726≠gb727));have n6_:=Ya ((by rw[hg];exact Nat.ne_of_gt (blk_lt (g:=gb726) (o:= .cells #[.int .i64 Zb, .bool Zc, .slice Ze Za.length Zd, .slice Ul Xx.length Um] 104 (0,0)) (by(with_reducible repeat(first|refine Yl ?_ _|refine Ym ?_|refine Yj ?_ _));exact Jd.out)):gb727≠gb726));clear Jd;clear HB;have Jd:=n0_;have HB:=n1_;have BK727:=n2_;have GW727:=n3_;have GE727:=n4_;have NB726_727:=n5_;have NB727_726:=n6_;clear n0_ n1_ n2_ n3_ n4_ n5_ n6_;clear hb Zf hg;have hnb15:=NB727_726.out;have hnc15:=NB726_727.out;have hcz16_0:w14.cell? ⟨gb727,0,none⟩=some (.int .i64 Zj):=(Yc BK727.out 0).trans rfl;have hcz16_1:w14.cell? ⟨gb727,1,none⟩=some (.bool false):=(Yc BK727.out 1).trans rfl;have hfz16_0:=Yf BK727.out 0;have hfz16_1:=Yf BK727.out 1;have Vz:w14.cell? ⟨gb726,0,none⟩=some (.int .i64 Zb):=(Yc Jd.out 0).trans rfl;have Ua:w14.cell? ⟨gb726,1,none⟩=some (.bool Zc):=(Yc Jd.out 1).trans rfl;have hcz17_2:w14.cell? ⟨gb726,2,none⟩=some (.slice Ze Za.length Zd):=(Yc Jd.out 2).trans rfl;have hcz17_3:w14.cell? ⟨gb726,3,none⟩=some (.slice Ul Xx.length Um):=(Yc Jd.out 3).trans rfl;have Ub:=Yf Jd.out 0;have Uc:=Yf Jd.out 1;have hfz17_2:=Yf Jd.out 2;have hfz17_3:=Yf Jd.out 3;have p729:0≤(Zj:Int):=Yu (by first|(with_reducible assumption)|assumption);have q729:Zj<(Za.length:Int):=Yu (by first|(with_reducible assumption)|assumption);obtain⟨ad729,e729,hx729_0,hx729_1,hx729_2,hx729_3⟩:=at_T50 Zh.out Zj p729 q729;cases e729;replace hx729_0:=(HB.out.cell (Yb w _ hx729_0)).trans hx729_0;replace hx729_1:=(HB.out.cell (Yb w _ hx729_1)).trans hx729_1;replace hx729_2:=(HB.out.cell (Yb w _ hx729_2)).trans hx729_2;replace hx729_3:=(HB.out.cell (Yb w _ hx729_3)).trans hx729_3;replace p729:=eq_true p729;replace q729:=eq_true q729));go_ret;exact⟨by first|rfl|(simp[errW_none,errW_some]<;>rfl)|(simp[*,errW_none,errW_some]<;>rfl),by repeat(first|(with_reducible first|exact HB.out|apply Ye|apply Yd|apply Yg|refine Yh ?_ GE726.out|refine Yh ?_ GE727.out)|exact HB.out)⟩
end P
end Go.Proofs.Ytoedkglggapggaa
