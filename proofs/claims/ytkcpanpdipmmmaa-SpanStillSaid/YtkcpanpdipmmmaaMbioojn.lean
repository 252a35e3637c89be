/- What the law's row needs of these texts, taken out of them by wip/tool/mini.py: P0 P14 P15 P16 P71 P90 P91 P94 P47 QBfsLaw QWayLaw QDownLaw QMakers P48 P49 P46 QBfLaw QSortArr QSortLaw P21 P23. -/
import Derived.Test.YtkcpanpdipmmmaaProg
import Derived.Below
import Derived.Deep.Draws
import Derived.Deep.AppendLies
import Derived.Maps.AppendAt
import Derived.OwnWalk
import Derived.Laws.BytesArg
import Derived.Laws.MakeOwn
import Derived.Laws.OwnMore
import Derived.Deep.OwnRows
import Derived.Tactics
import Derived.Lib.ConvBytes
import Derived.Laws.Slices
import Derived.WalkKit
import Derived.KernelRfl
import Derived.RowKit3
import Derived.Deep.LoopGhost
import Derived.Deep.QuietTactic
import Derived.BigQuiet
import Derived.WideLaws
import Derived.Deep.DeepCutAuto
import Derived.Deep.CutBlock
import Derived.Deep.RegionHeld3
import Derived.Laws.Rows
import Derived.Lib.AppendStr
import Derived.ArgAppend
import Derived.Laws.IdiomCopy
import Derived.OrdersHeld
import Derived.Laws.BitsLemmas
import Derived.RowKit
import Derived.Test.YtkcpanpdipmmmaaVebhacm
import Derived.Laws.StructEq
import Derived.RegionTactic
import Derived.ChangeAlike
import Derived.BigRegion
import Derived.LoopTactic
import Derived.Laws.AppendOwn
set_option linter.unusedVariables false
set_option linter.unusedSimpArgs false
open Go.RowKit Go.Proofs.YtkcpanpdipmmmaaW.PrintWords Go.Proofs.YtkcpanpdipmmmaaW.PrintLast Go.Proofs.YtkcpanpdipmmmaaW.PrintMore
namespace Go.Proofs.Ytkcpanpdipmmmaa
namespace P
attribute [local go_sem] max2_int min2_int max_two min_two max_three min_three max_four min_four
def errW:Option Int→Value
 |none=> .nilIface
 |some c=> .iface 0 (.int .i64 c)
theorem errW_none:errW none= .nilIface:=rfl
theorem errW_some (c:Int):errW (some c)= .iface 0 (.int .i64 c):=rfl
theorem info3:(Try.prog.info? 3).map (fun i=>(i.zero,i.size,i.bytes))=some (some (.int .i64 0),1,8):=by kernel_rfl
theorem info4:(Try.prog.info? 4).map (fun i=>(i.zero,i.size,i.bytes))=some (some (.bool false),1,1):=by kernel_rfl
theorem info38:(Try.prog.info? 38).map (fun i=>(i.zero,i.size,i.bytes))=some (some (.agg #[(.int .i64 0),(.bool false)]),2,16):=by kernel_rfl
theorem info74:(Try.prog.info? 74).map (fun i=>(i.zero,i.size,i.bytes))=some (some (.agg #[(.int .i64 0),(.int .i64 0),(.int .i64 0),(.int .i64 0)]),4,32):=by kernel_rfl
structure S74 where
 f0:Int
 f1:Int
 f2:Int
 f3:Int
def z74:S74:=⟨(0:Int),(0:Int),(0:Int),(0:Int)⟩
def k74:Kd S74:=Kd.iso (Kd.pair (Kd.int .i64) (Kd.pair (Kd.int .i64) (Kd.pair (Kd.int .i64) (Kd.int .i64)))) (fun x:S74=>(x.f0,x.f1,x.f2,x.f3))
theorem k74_open {w:World} {x:S74} {cs:List Value} (h:k74.K w x cs):cs=[.int .i64 x.f0, .int .i64 x.f1, .int .i64 x.f2, .int .i64 x.f3]:=by
 obtain⟨_,_,rfl,rfl,⟨_,_,rfl,rfl,⟨_,_,rfl,rfl,rfl⟩⟩⟩:=h
 exact rfl
theorem k74_mkM (w:World) (base:Nat) (ok:Nat→Prop) (x:S74)  :k74.M w base ok x [.int .i64 x.f0, .int .i64 x.f1, .int .i64 x.f2, .int .i64 x.f3]:=⟨[.int .i64 x.f0],[.int .i64 x.f1, .int .i64 x.f2, .int .i64 x.f3],rfl,rfl,⟨[.int .i64 x.f1],[.int .i64 x.f2, .int .i64 x.f3],rfl,rfl,⟨[.int .i64 x.f2],[.int .i64 x.f3],rfl,rfl,rfl⟩⟩⟩
def rd_T74 (xs:List S74) (i:Int):S74:=xs.getD i.toNat z74
theorem at_T74 {w:World} {A:Option Addr} {n:Nat} {xs:List S74} (h:Kd.C k74 w A n xs) (i:Int) (h0:0≤i) (h1:i<n): ∃ ad ,A=some ad∧w.cell? (ad.add (i.toNat * 4))=some (.int .i64 (rd_T74 xs i).f0)∧w.cell? ⟨(ad.add (i.toNat * 4)).block,(ad.add (i.toNat * 4)).off+1,none⟩=some (.int .i64 (rd_T74 xs i).f1)∧w.cell? ⟨(ad.add (i.toNat * 4)).block,(ad.add (i.toNat * 4)).off+2,none⟩=some (.int .i64 (rd_T74 xs i).f2)∧w.cell? ⟨(ad.add (i.toNat * 4)).block,(ad.add (i.toNat * 4)).off+3,none⟩=some (.int .i64 (rd_T74 xs i).f3):=by
 obtain⟨ad,c,e,_,hK,hc0⟩:=Kd.C_get h z74 i h0 h1
 have hc: ∀ j u,c[j]? =some u→w.cell? (ad.add (i.toNat * 4+j))=some u:=hc0
 obtain rfl:=k74_open hK
 exact⟨ad,e,hc 0 _ rfl,by rw[← add_field _ _ 1 (by omega)];exact hc 1 _ rfl,by rw[← add_field _ _ 2 (by omega)];exact hc 2 _ rfl,by rw[← add_field _ _ 3 (by omega)];exact hc 3 _ rfl⟩
structure S38 where
 f0:Int
 f1:Bool
def z38:S38:=⟨(0:Int),false⟩
def k38:Kd S38:=Kd.iso (Kd.pair (Kd.int .i64) Kd.bool) (fun x:S38=>(x.f0,x.f1))
theorem k38_open {w:World} {x:S38} {cs:List Value} (h:k38.K w x cs):cs=[.int .i64 x.f0, .bool x.f1]:=by
 obtain⟨_,_,rfl,rfl,rfl⟩:=h
 exact rfl
theorem k38_mkM (w:World) (base:Nat) (ok:Nat→Prop) (x:S38)  :k38.M w base ok x [.int .i64 x.f0, .bool x.f1]:=⟨[.int .i64 x.f0],[.bool x.f1],rfl,rfl,rfl⟩
def rd_T38 (xs:List S38) (i:Int):S38:=xs.getD i.toNat z38
theorem at_T38 {w:World} {A:Option Addr} {n:Nat} {xs:List S38} (h:Kd.C k38 w A n xs) (i:Int) (h0:0≤i) (h1:i<n): ∃ ad ,A=some ad∧w.cell? (ad.add (i.toNat * 2))=some (.int .i64 (rd_T38 xs i).f0)∧w.cell? ⟨(ad.add (i.toNat * 2)).block,(ad.add (i.toNat * 2)).off+1,none⟩=some (.bool (rd_T38 xs i).f1):=by
 obtain⟨ad,c,e,_,hK,hc0⟩:=Kd.C_get h z38 i h0 h1
 have hc: ∀ j u,c[j]? =some u→w.cell? (ad.add (i.toNat * 2+j))=some u:=hc0
 obtain rfl:=k38_open hK
 exact⟨ad,e,hc 0 _ rfl,by rw[← add_field _ _ 1 (by omega)];exact hc 1 _ rfl⟩
def rd_L4 (xs:List (List S38)) (i:Int):(List S38):=xs.getD i.toNat ([]:List S38)
theorem at_L4 {w:World} {A:Option Addr} {n:Nat} {xs:List (List S38)} (h:Kd.C (Kd.slice 38 k38) w A n xs) (i:Int) (h0:0≤i) (h1:i<n): ∃ ad A0 c0,A=some ad∧w.cell? (ad.add i.toNat)=some (.slice A0 (rd_L4 xs i).length c0)∧(rd_L4 xs i).length≤c0∧k38.C w A0 (rd_L4 xs i).length (rd_L4 xs i):=by
 obtain⟨ad,c,e,_,hK,hc0⟩:=Kd.C_get h ([]:List S38) i h0 h1
 have hc: ∀ j u,c[j]? =some u→w.cell? (ad.add (i.toNat * 1+j))=some u:=hc0
 obtain⟨A0,c0,rfl,l0,g0⟩:=hK
 exact⟨ad,A0,c0,e,by have hq:=hc 0 _ rfl;rwa [Nat.mul_one,Nat.add_zero] at hq,l0,g0⟩
structure S135 where
 f0:Int
 f1:Int
 f2:Int
 f3:Int
def z135:S135:=⟨(0:Int),(0:Int),(0:Int),(0:Int)⟩
def k135:Kd S135:=Kd.iso (Kd.pair (Kd.int .u8) (Kd.pair (Kd.int .u8) (Kd.pair (Kd.int .u8) (Kd.int .u8)))) (fun x:S135=>(x.f0,x.f1,x.f2,x.f3))
theorem k135_open {w:World} {x:S135} {cs:List Value} (h:k135.K w x cs):cs=[.int .u8 x.f0, .int .u8 x.f1, .int .u8 x.f2, .int .u8 x.f3]:=by
 obtain⟨_,_,rfl,rfl,⟨_,_,rfl,rfl,⟨_,_,rfl,rfl,rfl⟩⟩⟩:=h
 exact rfl
def rd_T135 (xs:List S135) (i:Int):S135:=xs.getD i.toNat z135
theorem at_T135 {w:World} {A:Option Addr} {n:Nat} {xs:List S135} (h:Kd.C k135 w A n xs) (i:Int) (h0:0≤i) (h1:i<n): ∃ ad ,A=some ad∧w.cell? (ad.add (i.toNat * 4))=some (.int .u8 (rd_T135 xs i).f0)∧w.cell? ⟨(ad.add (i.toNat * 4)).block,(ad.add (i.toNat * 4)).off+1,none⟩=some (.int .u8 (rd_T135 xs i).f1)∧w.cell? ⟨(ad.add (i.toNat * 4)).block,(ad.add (i.toNat * 4)).off+2,none⟩=some (.int .u8 (rd_T135 xs i).f2)∧w.cell? ⟨(ad.add (i.toNat * 4)).block,(ad.add (i.toNat * 4)).off+3,none⟩=some (.int .u8 (rd_T135 xs i).f3):=by
 obtain⟨ad,c,e,_,hK,hc0⟩:=Kd.C_get h z135 i h0 h1
 have hc: ∀ j u,c[j]? =some u→w.cell? (ad.add (i.toNat * 4+j))=some u:=hc0
 obtain rfl:=k135_open hK
 exact⟨ad,e,hc 0 _ rfl,by rw[← add_field _ _ 1 (by omega)];exact hc 1 _ rfl,by rw[← add_field _ _ 2 (by omega)];exact hc 2 _ rfl,by rw[← add_field _ _ 3 (by omega)];exact hc 3 _ rfl⟩
def rd_L7 (xs:List (List Int)) (i:Int):(List Int):=xs.getD i.toNat ([]:List Int)
theorem at_L7 {w:World} {A:Option Addr} {n:Nat} {xs:List (List Int)} (h:Kd.C (Kd.slice 3 (Kd.int .i64)) w A n xs) (i:Int) (h0:0≤i) (h1:i<n): ∃ ad A0 c0,A=some ad∧w.cell? (ad.add i.toNat)=some (.slice A0 (rd_L7 xs i).length c0)∧(rd_L7 xs i).length≤c0∧(Kd.int .i64).C w A0 (rd_L7 xs i).length (rd_L7 xs i):=by
 obtain⟨ad,c,e,_,hK,hc0⟩:=Kd.C_get h ([]:List Int) i h0 h1
 have hc: ∀ j u,c[j]? =some u→w.cell? (ad.add (i.toNat * 1+j))=some u:=hc0
 obtain⟨A0,c0,rfl,l0,g0⟩:=hK
 exact⟨ad,A0,c0,e,by have hq:=hc 0 _ rfl;rwa [Nat.mul_one,Nat.add_zero] at hq,l0,g0⟩
end P
namespace P
attribute [local go_sem] max2_int min2_int max_two min_two max_three min_three max_four min_four
def netfmt_nodes.f (a0:Int):Option (Int):=if a0<1 then(some 51) else(if a0>50 then(some 2) else(some 0))
set_option maxHeartbeats 8000000 in
set_option maxRecDepth 100000 in
theorem netfmt_nodes.calls (a0:Int) (r:Int) (w:World) (h:netfmt_nodes.f a0=some r):
  Calls Try.prog 156 #[.int .i64 a0] w fun e w'=>e= .returned (.int .i64 r)∧Drawn0 w w':=by
 have H:(if a0<1 then(some 51) else(if a0>50 then(some 2) else(some 0)))=some r:=h
 clear h
 by_cases c2:a0<1
 ·rw[Yx c2] at H
  have c2b0:decide (a0<1)=true:=Yv c2
  clear c2
  obtain rfl:=Option.some.inj H
  go_enter Try.func156,Try.ntmps156
  go_wp2
  go_ret
  exact⟨by first|rfl|(simp;done)|(simp[*];done),by repeat(first|exact Drawn0.refl _|apply Drawn0.step)⟩
 rw[Yy c2] at H
 have c2b0:decide (a0<1)=false:=Yw c2
 clear c2
 by_cases c3:a0>50
 rotate_left
 ·rw[Yy c3] at H
  have c3b0:decide (50<a0)=false:=Yw c3
  clear c3
  obtain rfl:=Option.some.inj H
  go_enter Try.func156,Try.ntmps156
  go_wp2
  go_ret
  exact⟨by first|rfl|(simp;done)|(simp[*];done),by repeat(first|exact Drawn0.refl _|apply Drawn0.step)⟩
 rw[Yx c3] at H
 have c3b0:decide (50<a0)=true:=Yv c3
 clear c3
 obtain rfl:=Option.some.inj H
 go_enter Try.func156,Try.ntmps156
 go_wp2
 go_ret
 exact⟨by first|rfl|(simp;done)|(simp[*];done),by repeat(first|exact Drawn0.refl _|apply Drawn0.step)⟩
end P
namespace P
attribute [local go_sem] max2_int min2_int max_two min_two max_three min_three max_four min_four
def netfmt_arc.j0:Nat→Bool→Int→Int→Int→Int→Option (Int)
 |0,_,_,_,_,_=>none
 |k+1,x5,x179000,x179001,x179002,x179003=>if x5=true then(some 51) else(if x179002>1048576 then(some 2) else(if x179003>1048576 then(some 2) else(some 0)))
def netfmt_arc.f (k:Nat) (a0:Int) (Zg:Int) (Xt:Int) (Ue:Int) (Uc:Int):Option (Int):=if (mn (mn (mn Zg Xt) Ue) Uc)<0 then(netfmt_arc.j0 k true Zg Xt Ue Uc) else(netfmt_arc.j0 k (decide ((mx Zg Xt)≥a0)) Zg Xt Ue Uc)
set_option maxHeartbeats 8000000 in
set_option maxRecDepth 100000 in
theorem netfmt_arc.calls (k:Nat) (a0:Int) (Zg:Int) (Xt:Int) (Ue:Int) (Uc:Int) (r:Int) (w:World) (h:netfmt_arc.f k a0 Zg Xt Ue Uc=some r):
  Calls Try.prog 157 #[.int .i64 a0, .agg #[.int .i64 Zg, .int .i64 Xt, .int .i64 Ue, .int .i64 Uc]] w fun e w'=>e= .returned (.int .i64 r)∧Below w.heap.size w w':=by
 have hu74:=Try.underlying74
 have HB:=Ya (Yo w.heap.size w)
 have H:(if (mn (mn (mn Zg Xt) Ue) Uc)<0 then(netfmt_arc.j0 k true Zg Xt Ue Uc) else(netfmt_arc.j0 k (decide ((mx Zg Xt)≥a0)) Zg Xt Ue Uc))=some r:=h
 clear h
 have HC3:=Ya H
 clear H
 go_enter Try.func157,Try.ntmps157
 go_upto_region 1 with (first|((with_reducible refine gate_dst (N:=3) rfl ?_);(try (refine gate_guard (by rfl) ?_;dsimp only));refine Yz ?hg (N:=3) ?hd (cs:= #[.int .i64 Zg, .int .i64 Xt, .int .i64 Ue, .int .i64 Uc]) (t:=74) ?hr ?_;(case hd=>rfl);(case hg=>rfl);(case hr=>first|(go_simp;done)|(go_simp;rfl));intro Vt hg w4 Zf hb;have n0_:=Ya (Yk (by repeat(first|(with_reducible first|exact HB.out|apply Ye|apply Yd|apply Yg)|exact HB.out)) hb);have n1_:=Ya (Zf);have n2_:=Ya ((by rw[hg];exact(Yi (by repeat(first|(with_reducible first|exact HB.out|apply Ye|apply Yd|apply Yg)|exact HB.out))):w.heap.size≤Vt));have n3_:=Ya ((by rw[hg];exact(Yi (by repeat(first|(with_reducible first|exact HB.out|apply Ye|apply Yd|apply Yg)|exact HB.out))):w.heap.size≤Vt));clear HB;have HB:=n0_;have Xv:=n1_;have GW178:=n2_;have GE178:=n3_;clear n0_ n1_ n2_ n3_;clear hb Zf hg))
 (try simp only[Act.put,List.setIfInBounds_toArray,List.set_cons_zero,List.set_cons_succ])
 go_cut [5] (fun v5 wc=> ∃ (kq:Nat) (x5_2:Bool),v5= .bool x5_2∧Aside0 (netfmt_arc.j0 kq x5_2 Zg Xt Ue Uc=some r)∧Aside0 (kq≤k)∧Aside0 (wc.heap[Vt]? =some (.cells #[.int .i64 Zg, .int .i64 Xt, .int .i64 Ue, .int .i64 Uc] 74 (0,0)))∧Aside0 (Below w.heap.size w wc))
 case first=>
  have H:=HC3.out
  clear HC3
  obtain⟨ji5,hji5⟩: ∃ j_:Int,(mn Zg Xt)=j_:=⟨_,rfl⟩
  replace H:(if (mn (mn (ji5) Ue) Uc)<0 then(netfmt_arc.j0 k true Zg Xt Ue Uc) else(netfmt_arc.j0 k (decide ((mx Zg Xt)≥a0)) Zg Xt Ue Uc))=some r:=by first|(rw[hji5] at H;exact H)|(simp only[hji5] at H ⊢;exact H)
  have hji5_:(if Xt<Zg then Xt else Zg)=ji5:=hji5
  obtain⟨ji6,hji6⟩: ∃ j_:Int,(mn (ji5) Ue)=j_:=⟨_,rfl⟩
  replace H:(if (mn (ji6) Uc)<0 then(netfmt_arc.j0 k true Zg Xt Ue Uc) else(netfmt_arc.j0 k (decide ((mx Zg Xt)≥a0)) Zg Xt Ue Uc))=some r:=by first|(rw[hji6] at H;exact H)|(simp only[hji6] at H ⊢;exact H)
  have hji6_:(if Ue<(ji5) then Ue else(ji5))=ji6:=hji6
  obtain⟨ji7,hji7⟩: ∃ j_:Int,(mn (ji6) Uc)=j_:=⟨_,rfl⟩
  replace H:(if (ji7)<0 then(netfmt_arc.j0 k true Zg Xt Ue Uc) else(netfmt_arc.j0 k (decide ((mx Zg Xt)≥a0)) Zg Xt Ue Uc))=some r:=by first|(rw[hji7] at H;exact H)|(simp only[hji7] at H ⊢;exact H)
  have hji7_:(if Uc<(ji6) then Uc else(ji6))=ji7:=hji7
  by_cases c8:(ji7)<0
  ·rw[Yx c8] at H
   have c8b0:decide ((ji7)<0)=true:=Yv c8
   clear c8
   (first|rw[c8b0]|(simp only[i64_w,i32_w];rw[c8b0])|skip)
   have H':=Ya H
   clear H
   have Jr:w4.cell? ⟨Vt,0,none⟩=some (.int .i64 Zg):=(Yc Xv.out 0).trans rfl
   have Js:w4.cell? ⟨Vt,1,none⟩=some (.int .i64 Xt):=(Yc Xv.out 1).trans rfl
   have hcz9_2:w4.cell? ⟨Vt,2,none⟩=some (.int .i64 Ue):=(Yc Xv.out 2).trans rfl
   have hcz9_3:w4.cell? ⟨Vt,3,none⟩=some (.int .i64 Uc):=(Yc Xv.out 3).trans rfl
   have Jt:=Yf Xv.out 0
   have Ju:=Yf Xv.out 1
   have hfz9_2:=Yf Xv.out 2
   have hfz9_3:=Yf Xv.out 3
   go_wp2
   go_meet
   case rel=>exact⟨_,(true),(by first|rfl|(simp;done)|(simp[*];done)),H',⟨by first|omega|exact Nat.le_refl _⟩,⟨by(with_reducible repeat(first|refine Yl ?_ _|refine Ym ?_|refine Yj ?_ _));exact Xv.out⟩,⟨by repeat(first|(with_reducible first|exact HB.out|apply Ye|apply Yd|apply Yg|refine Yh ?_ GE178.out)|exact HB.out)⟩⟩
  rw[Yy c8] at H
  have c8b0:decide ((ji7)<0)=false:=Yw c8
  clear c8
  (first|rw[c8b0]|(simp only[i64_w,i32_w];rw[c8b0])|skip)
  obtain⟨ji10,hji10⟩: ∃ j_:Int,(mx Zg Xt)=j_:=⟨_,rfl⟩
  replace H:(netfmt_arc.j0 k (decide ((ji10)≥a0)) Zg Xt Ue Uc)=some r:=by first|(rw[hji10] at H;exact H)|(simp only[hji10] at H ⊢;exact H)
  have hji10_:(if Zg<Xt then Xt else Zg)=ji10:=hji10
  have H':=Ya H
  clear H
  have Jx:w4.cell? ⟨Vt,0,none⟩=some (.int .i64 Zg):=(Yc Xv.out 0).trans rfl
  have Jy:w4.cell? ⟨Vt,1,none⟩=some (.int .i64 Xt):=(Yc Xv.out 1).trans rfl
  have Jz:w4.cell? ⟨Vt,2,none⟩=some (.int .i64 Ue):=(Yc Xv.out 2).trans rfl
  have hcz11_3:w4.cell? ⟨Vt,3,none⟩=some (.int .i64 Uc):=(Yc Xv.out 3).trans rfl
  have hfz11_0:=Yf Xv.out 0
  have hfz11_1:=Yf Xv.out 1
  have hfz11_2:=Yf Xv.out 2
  have hfz11_3:=Yf Xv.out 3
  go_wp2
  go_meet
  case rel=>exact⟨_,(decide ((ji10)≥a0)),(by first|rfl|(simp;done)|(simp only[← hji10]<;>(first|rfl|simp))|(simp[*];done)),H',⟨by first|omega|exact Nat.le_refl _⟩,⟨by(with_reducible repeat(first|refine Yl ?_ _|refine Ym ?_|refine Yj ?_ _));exact Xv.out⟩,⟨by repeat(first|(with_reducible first|exact HB.out|apply Ye|apply Yd|apply Yg|refine Yh ?_ GE178.out)|exact HB.out)⟩⟩
 case rest=>
  clear HC3
  try clear c1
  try clear p2
  try clear c8
  try clear c8b0
  try clear Jx
  try clear Jy
  try clear Jz
  try clear hcz11_3
  try clear Jr
  try clear Js
  try clear hcz9_2
  try clear hcz9_3
  try clear hfz11_0
  try clear hfz11_1
  try clear hfz11_2
  try clear hfz11_3
  try clear Jt
  try clear Ju
  try clear hfz9_2
  try clear hfz9_3
  obtain⟨kq,x5_2,rfl,HA,HJ2,Xv,HB⟩:=hcut
  cases kq with
  |zero=>exact absurd HA.out (by simp[netfmt_arc.j0])
  |succ kj2=>
   have H:=HA.out
   clear HA
   simp only[netfmt_arc.j0] at H
   by_cases c12:x5_2=true
   ·subst c12
    have H1:(some 51)=some r:=by first|(rw[Yx rfl] at H;exact H)|(rw[Yx trivial] at H;exact H)
    clear H
    have H:=H1
    clear H1
    obtain rfl:=Option.some.inj H
    go_wp2
    go_ret
    exact⟨by first|rfl|(simp[errW_none,errW_some]<;>rfl)|(simp[*,errW_none,errW_some]<;>rfl),by repeat(first|(with_reducible first|exact HB.out|apply Ye|apply Yd|apply Yg|refine Yh ?_ GE178.out)|exact HB.out)⟩
   replace c12:=Bool.eq_false_iff.mpr c12
   subst c12
   have H1:(if Ue>1048576 then(some 2) else(if Uc>1048576 then(some 2) else(some 0)))=some r:=by rw[Yy (show ¬ (false=true) by decide)] at H;exact H
   clear H
   have H:=H1
   clear H1
   by_cases c13:Ue>1048576
   ·rw[Yx c13] at H
    have c13b0:decide (1048576<Ue)=true:=Yv c13
    clear c13
    obtain rfl:=Option.some.inj H
    have hcz14_0:wc.cell? ⟨Vt,0,none⟩=some (.int .i64 Zg):=(Yc Xv.out 0).trans rfl
    have hcz14_1:wc.cell? ⟨Vt,1,none⟩=some (.int .i64 Xt):=(Yc Xv.out 1).trans rfl
    have hcz14_2:wc.cell? ⟨Vt,2,none⟩=some (.int .i64 Ue):=(Yc Xv.out 2).trans rfl
    have hcz14_3:wc.cell? ⟨Vt,3,none⟩=some (.int .i64 Uc):=(Yc Xv.out 3).trans rfl
    have hfz14_0:=Yf Xv.out 0
    have hfz14_1:=Yf Xv.out 1
    have hfz14_2:=Yf Xv.out 2
    have hfz14_3:=Yf Xv.out 3
    go_wp2
    go_ret
    exact⟨by first|rfl|(simp[errW_none,errW_some]<;>rfl)|(simp[*,errW_none,errW_some]<;>rfl),by repeat(first|(with_reducible first|exact HB.out|apply Ye|apply Yd|apply Yg|refine Yh ?_ GE178.out)|exact HB.out)⟩
   rw[Yy c13] at H
   have c13b0:decide (1048576<Ue)=false:=Yw c13
   clear c13
   by_cases c15:Uc>1048576
   rotate_left
   ·rw[Yy c15] at H
    have c15b0:decide (1048576<Uc)=false:=Yw c15
    clear c15
    obtain rfl:=Option.some.inj H
    have Uh:wc.cell? ⟨Vt,0,none⟩=some (.int .i64 Zg):=(Yc Xv.out 0).trans rfl
    have Ui:wc.cell? ⟨Vt,1,none⟩=some (.int .i64 Xt):=(Yc Xv.out 1).trans rfl
    have Jk:wc.cell? ⟨Vt,2,none⟩=some (.int .i64 Ue):=(Yc Xv.out 2).trans rfl
    have hcz17_3:wc.cell? ⟨Vt,3,none⟩=some (.int .i64 Uc):=(Yc Xv.out 3).trans rfl
    have Uj:=Yf Xv.out 0
    have Uk:=Yf Xv.out 1
    have Jl:=Yf Xv.out 2
    have hfz17_3:=Yf Xv.out 3
    go_wp2
    go_ret
    exact⟨by first|rfl|(simp[errW_none,errW_some]<;>rfl)|(simp[*,errW_none,errW_some]<;>rfl),by repeat(first|(with_reducible first|exact HB.out|apply Ye|apply Yd|apply Yg|refine Yh ?_ GE178.out)|exact HB.out)⟩
   rw[Yx c15] at H
   have c15b0:decide (1048576<Uc)=true:=Yv c15
   clear c15
   obtain rfl:=Option.some.inj H
   have hcz16_0:wc.cell? ⟨Vt,0,none⟩=some (.int .i64 Zg):=(Yc Xv.out 0).trans rfl
   have hcz16_1:wc.cell? ⟨Vt,1,none⟩=some (.int .i64 Xt):=(Yc Xv.out 1).trans rfl
   have hcz16_2:wc.cell? ⟨Vt,2,none⟩=some (.int .i64 Ue):=(Yc Xv.out 2).trans rfl
   have hcz16_3:wc.cell? ⟨Vt,3,none⟩=some (.int .i64 Uc):=(Yc Xv.out 3).trans rfl
   have hfz16_0:=Yf Xv.out 0
   have hfz16_1:=Yf Xv.out 1
   have hfz16_2:=Yf Xv.out 2
   have hfz16_3:=Yf Xv.out 3
   go_wp2
   go_ret
   exact⟨by first|rfl|(simp[errW_none,errW_some]<;>rfl)|(simp[*,errW_none,errW_some]<;>rfl),by repeat(first|(with_reducible first|exact HB.out|apply Ye|apply Yd|apply Yg|refine Yh ?_ GE178.out)|exact HB.out)⟩
end P
namespace P
attribute [local go_sem] max2_int min2_int max_two min_two max_three min_three max_four min_four
def netfmt_Check.l0:Nat→List (S74)→Int→Int→Int→Bool→List (S74)→Option (Int)
 |0,_,_,_,_,_,_=>none
 |k+1,x18,x19,x20,x180000,x180001,x180002=>if x20<x19 then(if 0≤x20 then(if x20<(x18.length:Int) then((netfmt_arc.f k x180000 ((rd_T74 x18 x20).f0) ((rd_T74 x18 x20).f1) ((rd_T74 x18 x20).f2) ((rd_T74 x18 x20).f3)).bind fun t183=>(if t183=0 then(netfmt_Check.l0 k x18 x19 (wrap64 (x20+1)) x180000 x180001 x180002) else(some t183))) else(none)) else(none)) else(some 0)
def netfmt_Check.f (k:Nat) (Zc:Int) (Zb:Bool) (Za:List (S74)):Option (Int):=(netfmt_nodes.f Zc).bind fun t180=>(if t180=0 then(if (Za.length:Int)>200 then(some 2) else(netfmt_Check.l0 k Za (Za.length:Int) 0 Zc Zb Za)) else(some t180))
set_option maxHeartbeats 8000000 in
set_option maxRecDepth 100000 in
theorem netfmt_Check.calls (k:Nat) (Zc:Int) (Zb:Bool) (Ze:Option Addr) (Zd:Nat) (Za:List (S74)) (r:Int) (w:World) (Zq:Kd.C k74 w Ze Za.length Za) (Zr:Za.length≤Zd) (h:netfmt_Check.f k Zc Zb Za=some r):
  Calls Try.prog 127 #[.agg #[.int .i64 Zc, .bool Zb, .slice Ze Za.length Zd]] w fun e w'=>e= .returned (.int .i64 r)∧Below w.heap.size w w':=by
 have hu24:=Try.underlying24
 have hu74:=Try.underlying74
 have Zl:=Ya Zq
 have Xd:=Ya Zr
 clear Zq Zr
 have HB:=Ya (Yo w.heap.size w)
 have H:((netfmt_nodes.f Zc).bind fun t180=>(if t180=0 then(if (Za.length:Int)>200 then(some 2) else(netfmt_Check.l0 k Za (Za.length:Int) 0 Zc Zb Za)) else(some t180)))=some r:=h
 clear h
 replace H:=Option.bind_eq_some_iff.mp H
 obtain⟨t180,A20,H⟩:=H
 replace H:(if t180=0 then(if (Za.length:Int)>200 then(some 2) else(netfmt_Check.l0 k Za (Za.length:Int) 0 Zc Zb Za)) else(some t180))=some r:=H
 have A2:=Ya A20
 clear A20
 by_cases c3:t180=0
 rotate_left
 ·rw[Yy c3] at H
  have c3b0:(t180 == 0)=false:=beq_eq_false_iff_ne.mpr c3
  have c3b1:(t180 != 0)=true:=bne_iff_ne.mpr c3
  obtain rfl:=Option.some.inj H
  go_enter Try.func127,Try.ntmps127
  go_wp2_with (first|((with_reducible refine gate_dst (N:=1) rfl ?_);refine Yz ?hg (N:=1) ?hd (cs:= #[.int .i64 Zc, .bool Zb, .slice Ze Za.length Zd]) (t:=24) ?hr ?_;(case hd=>rfl);(case hg=>rfl);(case hr=>first|(go_simp;done)|(go_simp;rfl));intro Wj hg w24 Zf hb;have n0_:=Ya (Yk (by repeat(first|(with_reducible first|exact HB.out|apply Ye|apply Yd|apply Yg)|exact HB.out)) hb);have n1_:=Ya (Zf);have n2_:=Ya ((by rw[hg];exact(Yi (by repeat(first|(with_reducible first|exact HB.out|apply Ye|apply Yd|apply Yg)|exact HB.out))):w.heap.size≤Wj));have n3_:=Ya ((by rw[hg];exact(Yi (by repeat(first|(with_reducible first|exact HB.out|apply Ye|apply Yd|apply Yg)|exact HB.out))):w.heap.size≤Wj));clear HB;have HB:=n0_;have Xn:=n1_;have GW179:=n2_;have Jg:=n3_;clear n0_ n1_ n2_ n3_;clear hb Zf hg;have hcz25_0:w24.cell? ⟨Wj,0,none⟩=some (.int .i64 Zc):=(Yc Xn.out 0).trans rfl;have hcz25_1:w24.cell? ⟨Wj,1,none⟩=some (.bool Zb):=(Yc Xn.out 1).trans rfl;have hcz25_2:w24.cell? ⟨Wj,2,none⟩=some (.slice Ze Za.length Zd):=(Yc Xn.out 2).trans rfl;have hfz25_0:=Yf Xn.out 0;have hfz25_1:=Yf Xn.out 1;have hfz25_2:=Yf Xn.out 2)|((with_reducible refine gate_callee (f:=156) rfl ?_);refine goesL_ (some 9) rfl rfl Try.func156 (by kernel_rfl) rfl #[.int .i64 Zc] rfl (by(try simp only[List.map_toArray,List.map_cons,List.map_nil]);first|done|rfl|(simp only[List.length_drop,List.length_take];rfl)) ?_;(with_reducible refine(netfmt_nodes.calls Zc t180 _ A2.out).mono ?_);rintro e w' ⟨rfl,⟨nd,rfl⟩⟩;refine⟨_,rfl,?_⟩))
  go_ret
  exact⟨by first|rfl|(simp[errW_none,errW_some]<;>rfl)|(simp[*,errW_none,errW_some]<;>rfl),by repeat(first|(with_reducible first|exact HB.out|apply Ye|apply Yd|apply Yg|refine Yh ?_ Jg.out)|exact HB.out)⟩
 rw[Yx c3] at H
 have c3b0:(t180 == 0)=true:=beq_iff_eq.mpr c3
 have c3b1:(t180 != 0)=false:=bne_eq_false_iff_eq.mpr c3
 clear c3
 by_cases c4:(Za.length:Int)>200
 ·rw[Yx c4] at H
  have c4b0:decide (200<(Za.length:Int))=true:=Yv c4
  have c4b1:decide (200<Za.length)=true:=Yv (by omega)
  clear c4
  obtain rfl:=Option.some.inj H
  go_enter Try.func127,Try.ntmps127
  go_wp2_with (first|((with_reducible refine gate_dst (N:=1) rfl ?_);refine Yz ?hg (N:=1) ?hd (cs:= #[.int .i64 Zc, .bool Zb, .slice Ze Za.length Zd]) (t:=24) ?hr ?_;(case hd=>rfl);(case hg=>rfl);(case hr=>first|(go_simp;done)|(go_simp;rfl));intro Wj hg w5 Zf hb;have n0_:=Ya (Yk (by repeat(first|(with_reducible first|exact HB.out|apply Ye|apply Yd|apply Yg)|exact HB.out)) hb);have n1_:=Ya (Zf);have n2_:=Ya ((by rw[hg];exact(Yi (by repeat(first|(with_reducible first|exact HB.out|apply Ye|apply Yd|apply Yg)|exact HB.out))):w.heap.size≤Wj));have n3_:=Ya ((by rw[hg];exact(Yi (by repeat(first|(with_reducible first|exact HB.out|apply Ye|apply Yd|apply Yg)|exact HB.out))):w.heap.size≤Wj));clear HB;have HB:=n0_;have Xn:=n1_;have GW179:=n2_;have Jg:=n3_;clear n0_ n1_ n2_ n3_;clear hb Zf hg;have hcz6_0:w5.cell? ⟨Wj,0,none⟩=some (.int .i64 Zc):=(Yc Xn.out 0).trans rfl;have hcz6_1:w5.cell? ⟨Wj,1,none⟩=some (.bool Zb):=(Yc Xn.out 1).trans rfl;have hcz6_2:w5.cell? ⟨Wj,2,none⟩=some (.slice Ze Za.length Zd):=(Yc Xn.out 2).trans rfl;have hfz6_0:=Yf Xn.out 0;have hfz6_1:=Yf Xn.out 1;have hfz6_2:=Yf Xn.out 2)|((with_reducible refine gate_callee (f:=156) rfl ?_);refine goesL_ (some 9) rfl rfl Try.func156 (by kernel_rfl) rfl #[.int .i64 Zc] rfl (by(try simp only[List.map_toArray,List.map_cons,List.map_nil]);first|done|rfl|(simp only[List.length_drop,List.length_take];rfl)) ?_;(with_reducible refine(netfmt_nodes.calls Zc t180 _ A2.out).mono ?_);rintro e w' ⟨rfl,⟨nd,rfl⟩⟩;refine⟨_,rfl,?_⟩))
  go_ret
  exact⟨by first|rfl|(simp[errW_none,errW_some]<;>rfl)|(simp[*,errW_none,errW_some]<;>rfl),by repeat(first|(with_reducible first|exact HB.out|apply Ye|apply Yd|apply Yg|refine Yh ?_ Jg.out)|exact HB.out)⟩
 rw[Yy c4] at H
 have c4b0:decide (200<(Za.length:Int))=false:=Yw c4
 have c4b1:decide (200<Za.length)=false:=Yw (by omega)
 clear c4
 have H':=Ya H
 clear H
 go_enter Try.func127,Try.ntmps127
 go_wp2_with (first|((with_reducible refine gate_dst (N:=1) rfl ?_);refine Yz ?hg (N:=1) ?hd (cs:= #[.int .i64 Zc, .bool Zb, .slice Ze Za.length Zd]) (t:=24) ?hr ?_;(case hd=>rfl);(case hg=>rfl);(case hr=>first|(go_simp;done)|(go_simp;rfl));intro Wj hg w7 Zf hb;have n0_:=Ya (Yk (by repeat(first|(with_reducible first|exact HB.out|apply Ye|apply Yd|apply Yg)|exact HB.out)) hb);have n1_:=Ya (Zf);have n2_:=Ya ((by rw[hg];exact(Yi (by repeat(first|(with_reducible first|exact HB.out|apply Ye|apply Yd|apply Yg)|exact HB.out))):w.heap.size≤Wj));have n3_:=Ya ((by rw[hg];exact(Yi (by repeat(first|(with_reducible first|exact HB.out|apply Ye|apply Yd|apply Yg)|exact HB.out))):w.heap.size≤Wj));clear HB;have HB:=n0_;have Xn:=n1_;have GW179:=n2_;have Jg:=n3_;clear n0_ n1_ n2_ n3_;clear hb Zf hg;have hcz8_0:w7.cell? ⟨Wj,0,none⟩=some (.int .i64 Zc):=(Yc Xn.out 0).trans rfl;have hcz8_1:w7.cell? ⟨Wj,1,none⟩=some (.bool Zb):=(Yc Xn.out 1).trans rfl;have hcz8_2:w7.cell? ⟨Wj,2,none⟩=some (.slice Ze Za.length Zd):=(Yc Xn.out 2).trans rfl;have hfz8_0:=Yf Xn.out 0;have hfz8_1:=Yf Xn.out 1;have hfz8_2:=Yf Xn.out 2)|((with_reducible refine gate_callee (f:=156) rfl ?_);refine goesL_ (some 9) rfl rfl Try.func156 (by kernel_rfl) rfl #[.int .i64 Zc] rfl (by(try simp only[List.map_toArray,List.map_cons,List.map_nil]);first|done|rfl|(simp only[List.length_drop,List.length_take];rfl)) ?_;(with_reducible refine(netfmt_nodes.calls Zc t180 _ A2.out).mono ?_);rintro e w' ⟨rfl,⟨nd,rfl⟩⟩;refine⟨_,rfl,?_⟩))
 go_loopg [20] k (fun kq v20 w'=> ∃ (Xk:Int),v20= .int .i64 Xk∧Aside0 (netfmt_Check.l0 kq Za (Za.length:Int) Xk Zc Zb Za=some r)∧Aside0 (kq≤k)∧Aside0 (w'.heap[Wj]? =some (.cells #[.int .i64 Zc, .bool Zb,(.slice Ze Za.length Zd)] 24 (0,0)))∧Aside0 (Below w.heap.size w w'))
 case atStart=>exact⟨(0),(by first|rfl|(simp;done)|(simp[*];done)),H',⟨Nat.le_refl _⟩,⟨by(with_reducible repeat(first|refine Yl ?_ _|refine Ym ?_|refine Yj ?_ _));exact Xn.out⟩,⟨by repeat(first|(with_reducible first|exact HB.out|apply Ye|apply Yd|apply Yg|refine Yh ?_ Jg.out)|exact HB.out)⟩⟩
 case round=>
  clear H'
  try clear c1
  try clear p2
  try clear c3
  try clear c3b0
  try clear c3b1
  try clear c4
  try clear c4b0
  try clear c4b1
  try clear hcz6_0
  try clear hcz6_1
  try clear hcz6_2
  try clear hcz8_0
  try clear hcz8_1
  try clear hcz8_2
  try clear hfz6_0
  try clear hfz6_1
  try clear hfz6_2
  try clear hfz8_0
  try clear hfz8_1
  try clear hfz8_2
  obtain⟨Xk,rfl,HA,HK1,Xn,HB⟩:=hrel
  cases gk with
  |zero=>exact absurd HA.out (by simp[netfmt_Check.l0])
  |succ k1=>
   have H:=HA.out
   clear HA
   simp only[netfmt_Check.l0] at H
   by_cases c9:Xk<(Za.length:Int)
   rotate_left
   ·rw[Yy c9] at H
    have c9b0:decide (Xk<(Za.length:Int))=false:=Yw c9
    clear c9
    obtain rfl:=Option.some.inj H
    go_wp2
    go_ret
    exact⟨by first|rfl|(simp[errW_none,errW_some]<;>rfl)|(simp[*,errW_none,errW_some]<;>rfl),by repeat(first|(with_reducible first|exact HB.out|apply Ye|apply Yd|apply Yg|refine Yh ?_ Jg.out)|exact HB.out)⟩
   rw[Yx c9] at H
   have c9b0:decide (Xk<(Za.length:Int))=true:=Yv c9
   clear c9
   by_cases c10:0≤Xk
   rotate_left
   ·rw[Yy c10] at H
    exact absurd H (by simp)
   rw[Yx c10] at H
   have c10b0:decide (0≤Xk)=true:=Yv c10
   clear c10
   by_cases c11:Xk<(Za.length:Int)
   rotate_left
   ·rw[Yy c11] at H
    exact absurd H (by simp)
   rw[Yx c11] at H
   have c11b0:decide (Xk<(Za.length:Int))=true:=Yv c11
   clear c11
   replace H:=Option.bind_eq_some_iff.mp H
   obtain⟨t183,A120,H⟩:=H
   replace H:(if t183=0 then(netfmt_Check.l0 k1 Za (Za.length:Int) (wrap64 (Xk+1)) Zc Zb Za) else(some t183))=some r:=H
   have A12:=Ya A120
   clear A120
   by_cases c13:t183=0
   rotate_left
   ·rw[Yy c13] at H
    have c13b0:(t183 == 0)=false:=beq_eq_false_iff_ne.mpr c13
    have c13b1:(t183 != 0)=true:=bne_iff_ne.mpr c13
    obtain rfl:=Option.some.inj H
    have p181:0≤(Xk:Int):=Yu (by first|(with_reducible assumption)|assumption)
    have q181:Xk<(Za.length:Int):=Yu (by first|(with_reducible assumption)|assumption)
    obtain⟨ad181,e181,hx181_0,hx181_1,hx181_2,hx181_3⟩:=at_T74 Zl.out Xk p181 q181
    cases e181
    replace hx181_0:=(HB.out.cell (Yb w _ hx181_0)).trans hx181_0
    replace hx181_1:=(HB.out.cell (Yb w _ hx181_1)).trans hx181_1
    replace hx181_2:=(HB.out.cell (Yb w _ hx181_2)).trans hx181_2
    replace hx181_3:=(HB.out.cell (Yb w _ hx181_3)).trans hx181_3
    replace p181:=eq_true p181
    replace q181:=eq_true q181
    go_wp2_with (first|((with_reducible refine gate_dst (N:=5) rfl ?_);refine Yz ?hg (N:=5) ?hd (cs:= #[.int .i64 0, .int .i64 0, .int .i64 0, .int .i64 0]) (t:=74) ?hr ?_;(case hd=>rfl);(case hg=>rfl);(case hr=>first|(go_simp;done)|(go_simp;rfl));intro Un hg w19 Zf hb;have n0_:=Ya (Yn (g:=Wj) (o:= .cells #[.int .i64 Zc, .bool Zb, .slice (some ad181) Za.length Zd] 24 (0,0)) (by(with_reducible repeat(first|refine Yl ?_ _|refine Ym ?_|refine Yj ?_ _));exact Xn.out) hb);have n1_:=Ya (Yk (by repeat(first|(with_reducible first|exact HB.out|apply Ye|apply Yd|apply Yg|refine Yh ?_ Jg.out)|exact HB.out)) hb);have n2_:=Ya (Zf);have n3_:=Ya ((by rw[hg];exact(Yi (by repeat(first|(with_reducible first|exact HB.out|apply Ye|apply Yd|apply Yg|refine Yh ?_ Jg.out)|exact HB.out))):w.heap.size≤Un));have n4_:=Ya ((by rw[hg];exact(Yi (by repeat(first|(with_reducible first|exact HB.out|apply Ye|apply Yd|apply Yg|refine Yh ?_ Jg.out)|exact HB.out))):w.heap.size≤Un));have n5_:=Ya ((by rw[hg];exact Nat.ne_of_lt (blk_lt (g:=Wj) (o:= .cells #[.int .i64 Zc, .bool Zb, .slice (some ad181) Za.length Zd] 24 (0,0)) (by(with_reducible repeat(first|refine Yl ?_ _|refine Ym ?_|refine Yj ?_ _));exact Xn.out)):Wj≠Un));have n6_:=Ya ((by rw[hg];exact Nat.ne_of_gt (blk_lt (g:=Wj) (o:= .cells #[.int .i64 Zc, .bool Zb, .slice (some ad181) Za.length Zd] 24 (0,0)) (by(with_reducible repeat(first|refine Yl ?_ _|refine Ym ?_|refine Yj ?_ _));exact Xn.out)):Un≠Wj));clear Xn;clear HB;have Xn:=n0_;have HB:=n1_;have Vu:=n2_;have GW182:=n3_;have GE182:=n4_;have Vb:=n5_;have NB182_179:=n6_;clear n0_ n1_ n2_ n3_ n4_ n5_ n6_;clear hb Zf hg;have hnb20:=NB182_179.out;have hnc20:=Vb.out;have hcz21_0:w19.cell? ⟨Un,0,none⟩=some (.int .i64 0):=(Yc Vu.out 0).trans rfl;have hcz21_1:w19.cell? ⟨Un,1,none⟩=some (.int .i64 0):=(Yc Vu.out 1).trans rfl;have hcz21_2:w19.cell? ⟨Un,2,none⟩=some (.int .i64 0):=(Yc Vu.out 2).trans rfl;have hcz21_3:w19.cell? ⟨Un,3,none⟩=some (.int .i64 0):=(Yc Vu.out 3).trans rfl;have hfz21_0:=Yf Vu.out 0;have hfz21_1:=Yf Vu.out 1;have hfz21_2:=Yf Vu.out 2;have hfz21_3:=Yf Vu.out 3;have hcz22_0:w19.cell? ⟨Wj,0,none⟩=some (.int .i64 Zc):=(Yc Xn.out 0).trans rfl;have hcz22_1:w19.cell? ⟨Wj,1,none⟩=some (.bool Zb):=(Yc Xn.out 1).trans rfl;have hcz22_2:w19.cell? ⟨Wj,2,none⟩=some (.slice (some ad181) Za.length Zd):=(Yc Xn.out 2).trans rfl;have hfz22_0:=Yf Xn.out 0;have hfz22_1:=Yf Xn.out 1;have hfz22_2:=Yf Xn.out 2)|((with_reducible refine gate_callee (f:=157) rfl ?_);refine goesL_ (some 27) rfl rfl Try.func157 (by kernel_rfl) rfl #[.int .i64 Zc, .agg #[.int .i64 ((rd_T74 Za Xk).f0), .int .i64 ((rd_T74 Za Xk).f1), .int .i64 ((rd_T74 Za Xk).f2), .int .i64 ((rd_T74 Za Xk).f3)]] rfl (by(try simp only[List.map_toArray,List.map_cons,List.map_nil]);first|done|rfl|(simp only[List.length_drop,List.length_take];rfl)) ?_;(with_reducible refine(netfmt_arc.calls k1 Zc ((rd_T74 Za Xk).f0) ((rd_T74 Za Xk).f1) ((rd_T74 Za Xk).f2) ((rd_T74 Za Xk).f3) t183 _ A12.out).mono ?_);rintro e w23 ⟨rfl,hb⟩;refine⟨_,rfl,?_⟩;have n0_:=Ya (Yn (g:=Wj) (o:= .cells #[.int .i64 Zc, .bool Zb, .slice (some ad181) Za.length Zd] 24 (0,0)) (by(with_reducible repeat(first|refine Yl ?_ _|refine Ym ?_|refine Yj ?_ _));refine blk_far ?_ Vb.out _;(with_reducible repeat(first|refine Yl ?_ _|refine Ym ?_|refine Yj ?_ _));refine blk_far ?_ Vb.out _;(with_reducible repeat(first|refine Yl ?_ _|refine Ym ?_|refine Yj ?_ _));refine blk_far ?_ Vb.out _;(with_reducible repeat(first|refine Yl ?_ _|refine Ym ?_|refine Yj ?_ _));refine blk_far ?_ Vb.out _;(with_reducible repeat(first|refine Yl ?_ _|refine Ym ?_|refine Yj ?_ _));exact Xn.out) hb);have n1_:=Ya (Yn (g:=Un) (o:= .cells #[.int .i64 ((rd_T74 Za Xk).f0), .int .i64 ((rd_T74 Za Xk).f1), .int .i64 ((rd_T74 Za Xk).f2), .int .i64 ((rd_T74 Za Xk).f3)] 74 (0,0)) (by(with_reducible repeat(first|refine Yl ?_ _|refine Ym ?_|refine Yj ?_ _));refine YA (cs:= #[.int .i64 ((rd_T74 Za Xk).f0), .int .i64 ((rd_T74 Za Xk).f1), .int .i64 ((rd_T74 Za Xk).f2), .int .i64 0]) ?_ 3 _ rfl;(with_reducible repeat(first|refine Yl ?_ _|refine Ym ?_|refine Yj ?_ _));refine YA (cs:= #[.int .i64 ((rd_T74 Za Xk).f0), .int .i64 ((rd_T74 Za Xk).f1), .int .i64 0, .int .i64 0]) ?_ 2 _ rfl;(with_reducible repeat(first|refine Yl ?_ _|refine Ym ?_|refine Yj ?_ _));refine YA (cs:= #[.int .i64 ((rd_T74 Za Xk).f0), .int .i64 0, .int .i64 0, .int .i64 0]) ?_ 1 _ rfl;(with_reducible repeat(first|refine Yl ?_ _|refine Ym ?_|refine Yj ?_ _));refine YA (cs:= #[.int .i64 0, .int .i64 0, .int .i64 0, .int .i64 0]) ?_ 0 _ rfl;(with_reducible repeat(first|refine Yl ?_ _|refine Ym ?_|refine Yj ?_ _));exact Vu.out) hb);have n2_:=Ya (Yk (by repeat(first|(with_reducible first|exact HB.out|apply Ye|apply Yd|apply Yg|refine Yh ?_ Jg.out|refine Yh ?_ GE182.out)|exact HB.out)) hb);clear Xn;clear Vu;clear HB;have Xn:=n0_;have Vu:=n1_;have HB:=n2_;clear n0_ n1_ n2_;(try clear hb);(try clear hb2);(try clear hk);(try clear hi)))
    go_ret
    exact⟨by first|rfl|(simp[errW_none,errW_some]<;>rfl)|(simp[*,errW_none,errW_some]<;>rfl),by repeat(first|(with_reducible first|exact HB.out|apply Ye|apply Yd|apply Yg|refine Yh ?_ Jg.out|refine Yh ?_ GE182.out)|exact HB.out)⟩
   rw[Yx c13] at H
   have c13b0:(t183 == 0)=true:=beq_iff_eq.mpr c13
   have c13b1:(t183 != 0)=false:=bne_eq_false_iff_eq.mpr c13
   clear c13
   have H':=Ya H
   clear H
   have p181:0≤(Xk:Int):=Yu (by first|(with_reducible assumption)|assumption)
   have q181:Xk<(Za.length:Int):=Yu (by first|(with_reducible assumption)|assumption)
   obtain⟨ad181,e181,hx181_0,hx181_1,hx181_2,hx181_3⟩:=at_T74 Zl.out Xk p181 q181
   cases e181
   replace hx181_0:=(HB.out.cell (Yb w _ hx181_0)).trans hx181_0
   replace hx181_1:=(HB.out.cell (Yb w _ hx181_1)).trans hx181_1
   replace hx181_2:=(HB.out.cell (Yb w _ hx181_2)).trans hx181_2
   replace hx181_3:=(HB.out.cell (Yb w _ hx181_3)).trans hx181_3
   replace p181:=eq_true p181
   replace q181:=eq_true q181
   go_wp2_with (first|((with_reducible refine gate_dst (N:=5) rfl ?_);refine Yz ?hg (N:=5) ?hd (cs:= #[.int .i64 0, .int .i64 0, .int .i64 0, .int .i64 0]) (t:=74) ?hr ?_;(case hd=>rfl);(case hg=>rfl);(case hr=>first|(go_simp;done)|(go_simp;rfl));intro Un hg w14 Zf hb;have n0_:=Ya (Yn (g:=Wj) (o:= .cells #[.int .i64 Zc, .bool Zb, .slice (some ad181) Za.length Zd] 24 (0,0)) (by(with_reducible repeat(first|refine Yl ?_ _|refine Ym ?_|refine Yj ?_ _));exact Xn.out) hb);have n1_:=Ya (Yk (by repeat(first|(with_reducible first|exact HB.out|apply Ye|apply Yd|apply Yg|refine Yh ?_ Jg.out)|exact HB.out)) hb);have n2_:=Ya (Zf);have n3_:=Ya ((by rw[hg];exact(Yi (by repeat(first|(with_reducible first|exact HB.out|apply Ye|apply Yd|apply Yg|refine Yh ?_ Jg.out)|exact HB.out))):w.heap.size≤Un));have n4_:=Ya ((by rw[hg];exact(Yi (by repeat(first|(with_reducible first|exact HB.out|apply Ye|apply Yd|apply Yg|refine Yh ?_ Jg.out)|exact HB.out))):w.heap.size≤Un));have n5_:=Ya ((by rw[hg];exact Nat.ne_of_lt (blk_lt (g:=Wj) (o:= .cells #[.int .i64 Zc, .bool Zb, .slice (some ad181) Za.length Zd] 24 (0,0)) (by(with_reducible repeat(first|refine Yl ?_ _|refine Ym ?_|refine Yj ?_ _));exact Xn.out)):Wj≠Un));have n6_:=Ya ((by rw[hg];exact Nat.ne_of_gt (blk_lt (g:=Wj) (o:= .cells #[.int .i64 Zc, .bool Zb, .slice (some ad181) Za.length Zd] 24 (0,0)) (by(with_reducible repeat(first|refine Yl ?_ _|refine Ym ?_|refine Yj ?_ _));exact Xn.out)):Un≠Wj));clear Xn;clear HB;have Xn:=n0_;have HB:=n1_;have Vu:=n2_;have GW182:=n3_;have GE182:=n4_;have Vb:=n5_;have NB182_179:=n6_;clear n0_ n1_ n2_ n3_ n4_ n5_ n6_;clear hb Zf hg;have hnb15:=NB182_179.out;have hnc15:=Vb.out;have hcz16_0:w14.cell? ⟨Un,0,none⟩=some (.int .i64 0):=(Yc Vu.out 0).trans rfl;have hcz16_1:w14.cell? ⟨Un,1,none⟩=some (.int .i64 0):=(Yc Vu.out 1).trans rfl;have hcz16_2:w14.cell? ⟨Un,2,none⟩=some (.int .i64 0):=(Yc Vu.out 2).trans rfl;have hcz16_3:w14.cell? ⟨Un,3,none⟩=some (.int .i64 0):=(Yc Vu.out 3).trans rfl;have hfz16_0:=Yf Vu.out 0;have hfz16_1:=Yf Vu.out 1;have hfz16_2:=Yf Vu.out 2;have hfz16_3:=Yf Vu.out 3;have Uh:w14.cell? ⟨Wj,0,none⟩=some (.int .i64 Zc):=(Yc Xn.out 0).trans rfl;have Ui:w14.cell? ⟨Wj,1,none⟩=some (.bool Zb):=(Yc Xn.out 1).trans rfl;have Jk:w14.cell? ⟨Wj,2,none⟩=some (.slice (some ad181) Za.length Zd):=(Yc Xn.out 2).trans rfl;have Uj:=Yf Xn.out 0;have Uk:=Yf Xn.out 1;have Jl:=Yf Xn.out 2)|((with_reducible refine gate_callee (f:=157) rfl ?_);refine goesL_ (some 27) rfl rfl Try.func157 (by kernel_rfl) rfl #[.int .i64 Zc, .agg #[.int .i64 ((rd_T74 Za Xk).f0), .int .i64 ((rd_T74 Za Xk).f1), .int .i64 ((rd_T74 Za Xk).f2), .int .i64 ((rd_T74 Za Xk).f3)]] rfl (by(try simp only[List.map_toArray,List.map_cons,List.map_nil]);first|done|rfl|(simp only[List.length_drop,List.length_take];rfl)) ?_;(with_reducible refine(netfmt_arc.calls k1 Zc ((rd_T74 Za Xk).f0) ((rd_T74 Za Xk).f1) ((rd_T74 Za Xk).f2) ((rd_T74 Za Xk).f3) t183 _ A12.out).mono ?_);rintro e w18 ⟨rfl,hb⟩;refine⟨_,rfl,?_⟩;have n0_:=Ya (Yn (g:=Wj) (o:= .cells #[.int .i64 Zc, .bool Zb, .slice (some ad181) Za.length Zd] 24 (0,0)) (by(with_reducible repeat(first|refine Yl ?_ _|refine Ym ?_|refine Yj ?_ _));refine blk_far ?_ Vb.out _;(with_reducible repeat(first|refine Yl ?_ _|refine Ym ?_|refine Yj ?_ _));refine blk_far ?_ Vb.out _;(with_reducible repeat(first|refine Yl ?_ _|refine Ym ?_|refine Yj ?_ _));refine blk_far ?_ Vb.out _;(with_reducible repeat(first|refine Yl ?_ _|refine Ym ?_|refine Yj ?_ _));refine blk_far ?_ Vb.out _;(with_reducible repeat(first|refine Yl ?_ _|refine Ym ?_|refine Yj ?_ _));exact Xn.out) hb);have n1_:=Ya (Yn (g:=Un) (o:= .cells #[.int .i64 ((rd_T74 Za Xk).f0), .int .i64 ((rd_T74 Za Xk).f1), .int .i64 ((rd_T74 Za Xk).f2), .int .i64 ((rd_T74 Za Xk).f3)] 74 (0,0)) (by(with_reducible repeat(first|refine Yl ?_ _|refine Ym ?_|refine Yj ?_ _));refine YA (cs:= #[.int .i64 ((rd_T74 Za Xk).f0), .int .i64 ((rd_T74 Za Xk).f1), .int .i64 ((rd_T74 Za Xk).f2), .int .i64 0]) ?_ 3 _ rfl;(with_reducible repeat(first|refine Yl ?_ _|refine Ym ?_|refine Yj ?_ _));refine YA (cs:= #[.int .i64 ((rd_T74 Za Xk).f0), .int .i64 ((rd_T74 Za Xk).f1), .int .i64 0, .int .i64 0]) ?_ 2 _ rfl;(with_reducible repeat(first|refine Yl ?_ _|refine Ym ?_|refine Yj ?_ _));refine YA (cs:= #[.int .i64 ((rd_T74 Za Xk).f0), .int .i64 0, .int .i64 0, .int .i64 0]) ?_ 1 _ rfl;(with_reducible repeat(first|refine Yl ?_ _|refine Ym ?_|refine Yj ?_ _));refine YA (cs:= #[.int .i64 0, .int .i64 0, .int .i64 0, .int .i64 0]) ?_ 0 _ rfl;(with_reducible repeat(first|refine Yl ?_ _|refine Ym ?_|refine Yj ?_ _));exact Vu.out) hb);have n2_:=Ya (Yk (by repeat(first|(with_reducible first|exact HB.out|apply Ye|apply Yd|apply Yg|refine Yh ?_ Jg.out|refine Yh ?_ GE182.out)|exact HB.out)) hb);clear Xn;clear Vu;clear HB;have Xn:=n0_;have Vu:=n1_;have HB:=n2_;clear n0_ n1_ n2_;(try clear hb);(try clear hb2);(try clear hk);(try clear hi)))
   go_roundg k1
   case measure=>have:=HK1.out;omega
   case rel=>exact⟨(wrap64 (Xk+1)),(by first|rfl|(simp;done)|(simp[*];done)),H',⟨by have:=HK1.out;omega⟩,⟨by(with_reducible repeat(first|refine Yl ?_ _|refine Ym ?_|refine Yj ?_ _));exact Xn.out⟩,⟨by repeat(first|(with_reducible first|exact HB.out|apply Ye|apply Yd|apply Yg|refine Yh ?_ Jg.out|refine Yh ?_ GE182.out)|exact HB.out)⟩⟩
end P
namespace P
attribute [local go_sem] max2_int min2_int max_two min_two max_three min_three max_four min_four
def static_Ends.f (k:Nat) (Zc:Int) (Zb:Bool) (Za:List (S74)) (a1:Int) (a2:Int):Option (Int):=(netfmt_Check.f k Zc Zb Za).bind fun t491=>(if t491=0 then(if (mn a1 a2)<0 then(some 70) else(if (mx a1 a2)≥Zc then(some 70) else(if a1=a2 then(some 70) else(some 0)))) else(some t491))
set_option maxHeartbeats 8000000 in
set_option maxRecDepth 100000 in
theorem static_Ends.calls (k:Nat) (Zc:Int) (Zb:Bool) (Ze:Option Addr) (Zd:Nat) (Za:List (S74)) (a1:Int) (a2:Int) (r:Int) (w:World) (Zq:Kd.C k74 w Ze Za.length Za) (Zr:Za.length≤Zd) (h:static_Ends.f k Zc Zb Za a1 a2=some r):
  Calls Try.prog 111 #[.agg #[.int .i64 Zc, .bool Zb, .slice Ze Za.length Zd], .int .i64 a1, .int .i64 a2] w fun e w'=>e= .returned (.int .i64 r)∧Below w.heap.size w w':=by
 have hu24:=Try.underlying24
 have Zl:=Ya Zq
 have Xd:=Ya Zr
 clear Zq Zr
 have HB:=Ya (Yo w.heap.size w)
 have H:((netfmt_Check.f k Zc Zb Za).bind fun t491=>(if t491=0 then(if (mn a1 a2)<0 then(some 70) else(if (mx a1 a2)≥Zc then(some 70) else(if a1=a2 then(some 70) else(some 0)))) else(some t491)))=some r:=h
 clear h
 replace H:=Option.bind_eq_some_iff.mp H
 obtain⟨t491,A40,H⟩:=H
 replace H:(if t491=0 then(if (mn a1 a2)<0 then(some 70) else(if (mx a1 a2)≥Zc then(some 70) else(if a1=a2 then(some 70) else(some 0)))) else(some t491))=some r:=H
 have A4:=Ya A40
 clear A40
 by_cases c5:t491=0
 rotate_left
 ·rw[Yy c5] at H
  have c5b0:(t491 == 0)=false:=beq_eq_false_iff_ne.mpr c5
  have c5b1:(t491 != 0)=true:=bne_iff_ne.mpr c5
  obtain rfl:=Option.some.inj H
  go_enter Try.func111,Try.ntmps111
  go_wp2_with (first|((with_reducible refine gate_dst (N:=3) rfl ?_);(try (refine gate_guard (by rfl) ?_;dsimp only));refine Yz ?hg (N:=3) ?hd (cs:= #[.int .i64 Zc, .bool Zb, .slice Ze Za.length Zd]) (t:=24) ?hr ?_;(case hd=>rfl);(case hg=>rfl);(case hr=>first|(go_simp;done)|(go_simp;rfl));intro Xw hg w26 Zf hb;have n0_:=Ya (Yk (by repeat(first|(with_reducible first|exact HB.out|apply Ye|apply Yd|apply Yg)|exact HB.out)) hb);have n1_:=Ya (Zf);have n2_:=Ya ((by rw[hg];exact(Yi (by repeat(first|(with_reducible first|exact HB.out|apply Ye|apply Yd|apply Yg)|exact HB.out))):w.heap.size≤Xw));have n3_:=Ya ((by rw[hg];exact(Yi (by repeat(first|(with_reducible first|exact HB.out|apply Ye|apply Yd|apply Yg)|exact HB.out))):w.heap.size≤Xw));clear HB;have HB:=n0_;have Zy:=n1_;have GW490:=n2_;have GE490:=n3_;clear n0_ n1_ n2_ n3_;clear hb Zf hg;have hcz27_0:w26.cell? ⟨Xw,0,none⟩=some (.int .i64 Zc):=(Yc Zy.out 0).trans rfl;have hcz27_1:w26.cell? ⟨Xw,1,none⟩=some (.bool Zb):=(Yc Zy.out 1).trans rfl;have hcz27_2:w26.cell? ⟨Xw,2,none⟩=some (.slice Ze Za.length Zd):=(Yc Zy.out 2).trans rfl;have hfz27_0:=Yf Zy.out 0;have hfz27_1:=Yf Zy.out 1;have hfz27_2:=Yf Zy.out 2)|((with_reducible refine gate_callee (f:=127) rfl ?_);refine goesL_ (some 9) rfl rfl Try.func127 (by kernel_rfl) rfl #[.agg #[.int .i64 Zc, .bool Zb, .slice Ze Za.length Zd]] rfl (by(try simp only[List.map_toArray,List.map_cons,List.map_nil]);first|done|rfl|(simp only[List.length_drop,List.length_take];rfl)) ?_;(with_reducible refine(netfmt_Check.calls k Zc Zb _ _ Za t491 _ ?side1 ?side2 A4.out).mono ?_);(case side1=>repeat(first|exact(Yt Zl.out HB.out)|(with_reducible refine Kd.C_alloc ?_ _)|(with_reducible refine Kd.C_drewN ?_ _)|(with_reducible refine Kd.C_drew ?_)));(case side2=>exact Xd.out);rintro e w28 ⟨rfl,hb⟩;refine⟨_,rfl,?_⟩;have n0_:=Ya (Yn (g:=Xw) (o:= .cells #[.int .i64 Zc, .bool Zb, .slice Ze Za.length Zd] 24 (0,0)) (by(with_reducible repeat(first|refine Yl ?_ _|refine Ym ?_|refine Yj ?_ _));exact Zy.out) hb);have n1_:=Ya (Yk (by repeat(first|(with_reducible first|exact HB.out|apply Ye|apply Yd|apply Yg|refine Yh ?_ GE490.out)|exact HB.out)) hb);clear Zy;clear HB;have Zy:=n0_;have HB:=n1_;clear n0_ n1_;(try clear hb);(try clear hb2);(try clear hk);(try clear hi)))
  go_ret
  exact⟨by first|rfl|(simp[errW_none,errW_some]<;>rfl)|(simp[*,errW_none,errW_some]<;>rfl),by repeat(first|(with_reducible first|exact HB.out|apply Ye|apply Yd|apply Yg|refine Yh ?_ GE490.out)|exact HB.out)⟩
 rw[Yx c5] at H
 have c5b0:(t491 == 0)=true:=beq_iff_eq.mpr c5
 have c5b1:(t491 != 0)=false:=bne_eq_false_iff_eq.mpr c5
 clear c5
 obtain⟨ji6,hji6⟩: ∃ j_:Int,(mn a1 a2)=j_:=⟨_,rfl⟩
 replace H:(if (ji6)<0 then(some 70) else(if (mx a1 a2)≥Zc then(some 70) else(if a1=a2 then(some 70) else(some 0))))=some r:=by first|(rw[hji6] at H;exact H)|(simp only[hji6] at H ⊢;exact H)
 (try rw[hji6] at A4)
 have hji6_:(if a2<a1 then a2 else a1)=ji6:=hji6
 by_cases c7:(ji6)<0
 ·rw[Yx c7] at H
  have c7b0:decide ((ji6)<0)=true:=Yv c7
  clear c7
  obtain rfl:=Option.some.inj H
  go_enter Try.func111,Try.ntmps111
  go_wp2_with (first|((with_reducible refine gate_dst (N:=3) rfl ?_);(try (refine gate_guard (by rfl) ?_;dsimp only));refine Yz ?hg (N:=3) ?hd (cs:= #[.int .i64 Zc, .bool Zb, .slice Ze Za.length Zd]) (t:=24) ?hr ?_;(case hd=>rfl);(case hg=>rfl);(case hr=>first|(go_simp;done)|(go_simp;rfl));intro Xw hg w8 Zf hb;have n0_:=Ya (Yk (by repeat(first|(with_reducible first|exact HB.out|apply Ye|apply Yd|apply Yg)|exact HB.out)) hb);have n1_:=Ya (Zf);have n2_:=Ya ((by rw[hg];exact(Yi (by repeat(first|(with_reducible first|exact HB.out|apply Ye|apply Yd|apply Yg)|exact HB.out))):w.heap.size≤Xw));have n3_:=Ya ((by rw[hg];exact(Yi (by repeat(first|(with_reducible first|exact HB.out|apply Ye|apply Yd|apply Yg)|exact HB.out))):w.heap.size≤Xw));clear HB;have HB:=n0_;have Zy:=n1_;have GW490:=n2_;have GE490:=n3_;clear n0_ n1_ n2_ n3_;clear hb Zf hg;have Jr:w8.cell? ⟨Xw,0,none⟩=some (.int .i64 Zc):=(Yc Zy.out 0).trans rfl;have Js:w8.cell? ⟨Xw,1,none⟩=some (.bool Zb):=(Yc Zy.out 1).trans rfl;have hcz9_2:w8.cell? ⟨Xw,2,none⟩=some (.slice Ze Za.length Zd):=(Yc Zy.out 2).trans rfl;have Jt:=Yf Zy.out 0;have Ju:=Yf Zy.out 1;have hfz9_2:=Yf Zy.out 2)|((with_reducible refine gate_callee (f:=127) rfl ?_);refine goesL_ (some 9) rfl rfl Try.func127 (by kernel_rfl) rfl #[.agg #[.int .i64 Zc, .bool Zb, .slice Ze Za.length Zd]] rfl (by(try simp only[List.map_toArray,List.map_cons,List.map_nil]);first|done|rfl|(simp only[List.length_drop,List.length_take];rfl)) ?_;(with_reducible refine(netfmt_Check.calls k Zc Zb _ _ Za t491 _ ?side1 ?side2 A4.out).mono ?_);(case side1=>repeat(first|exact(Yt Zl.out HB.out)|(with_reducible refine Kd.C_alloc ?_ _)|(with_reducible refine Kd.C_drewN ?_ _)|(with_reducible refine Kd.C_drew ?_)));(case side2=>exact Xd.out);rintro e w10 ⟨rfl,hb⟩;refine⟨_,rfl,?_⟩;have n0_:=Ya (Yn (g:=Xw) (o:= .cells #[.int .i64 Zc, .bool Zb, .slice Ze Za.length Zd] 24 (0,0)) (by(with_reducible repeat(first|refine Yl ?_ _|refine Ym ?_|refine Yj ?_ _));exact Zy.out) hb);have n1_:=Ya (Yk (by repeat(first|(with_reducible first|exact HB.out|apply Ye|apply Yd|apply Yg|refine Yh ?_ GE490.out)|exact HB.out)) hb);clear Zy;clear HB;have Zy:=n0_;have HB:=n1_;clear n0_ n1_;(try clear hb);(try clear hb2);(try clear hk);(try clear hi)))
  go_ret
  exact⟨by first|rfl|(simp[errW_none,errW_some]<;>rfl)|(simp only[← hji6];first|rfl|(simp[errW_none,errW_some]<;>rfl))|(simp[*,errW_none,errW_some]<;>rfl),by repeat(first|(with_reducible first|exact HB.out|apply Ye|apply Yd|apply Yg|refine Yh ?_ GE490.out)|exact HB.out)⟩
 rw[Yy c7] at H
 have c7b0:decide ((ji6)<0)=false:=Yw c7
 clear c7
 obtain⟨ji11,hji11⟩: ∃ j_:Int,(mx a1 a2)=j_:=⟨_,rfl⟩
 replace H:(if (ji11)≥Zc then(some 70) else(if a1=a2 then(some 70) else(some 0)))=some r:=by first|(rw[hji11] at H;exact H)|(simp only[hji11] at H ⊢;exact H)
 (try rw[hji11] at A4)
 have hji11_:(if a1<a2 then a2 else a1)=ji11:=hji11
 by_cases c12:(ji11)≥Zc
 ·rw[Yx c12] at H
  have c12b0:decide (Zc≤(ji11))=true:=Yv c12
  clear c12
  obtain rfl:=Option.some.inj H
  go_enter Try.func111,Try.ntmps111
  go_wp2_with (first|((with_reducible refine gate_dst (N:=3) rfl ?_);(try (refine gate_guard (by rfl) ?_;dsimp only));refine Yz ?hg (N:=3) ?hd (cs:= #[.int .i64 Zc, .bool Zb, .slice Ze Za.length Zd]) (t:=24) ?hr ?_;(case hd=>rfl);(case hg=>rfl);(case hr=>first|(go_simp;done)|(go_simp;rfl));intro Xw hg w13 Zf hb;have n0_:=Ya (Yk (by repeat(first|(with_reducible first|exact HB.out|apply Ye|apply Yd|apply Yg)|exact HB.out)) hb);have n1_:=Ya (Zf);have n2_:=Ya ((by rw[hg];exact(Yi (by repeat(first|(with_reducible first|exact HB.out|apply Ye|apply Yd|apply Yg)|exact HB.out))):w.heap.size≤Xw));have n3_:=Ya ((by rw[hg];exact(Yi (by repeat(first|(with_reducible first|exact HB.out|apply Ye|apply Yd|apply Yg)|exact HB.out))):w.heap.size≤Xw));clear HB;have HB:=n0_;have Zy:=n1_;have GW490:=n2_;have GE490:=n3_;clear n0_ n1_ n2_ n3_;clear hb Zf hg;have hcz14_0:w13.cell? ⟨Xw,0,none⟩=some (.int .i64 Zc):=(Yc Zy.out 0).trans rfl;have hcz14_1:w13.cell? ⟨Xw,1,none⟩=some (.bool Zb):=(Yc Zy.out 1).trans rfl;have hcz14_2:w13.cell? ⟨Xw,2,none⟩=some (.slice Ze Za.length Zd):=(Yc Zy.out 2).trans rfl;have hfz14_0:=Yf Zy.out 0;have hfz14_1:=Yf Zy.out 1;have hfz14_2:=Yf Zy.out 2)|((with_reducible refine gate_callee (f:=127) rfl ?_);refine goesL_ (some 9) rfl rfl Try.func127 (by kernel_rfl) rfl #[.agg #[.int .i64 Zc, .bool Zb, .slice Ze Za.length Zd]] rfl (by(try simp only[List.map_toArray,List.map_cons,List.map_nil]);first|done|rfl|(simp only[List.length_drop,List.length_take];rfl)) ?_;(with_reducible refine(netfmt_Check.calls k Zc Zb _ _ Za t491 _ ?side1 ?side2 A4.out).mono ?_);(case side1=>repeat(first|exact(Yt Zl.out HB.out)|(with_reducible refine Kd.C_alloc ?_ _)|(with_reducible refine Kd.C_drewN ?_ _)|(with_reducible refine Kd.C_drew ?_)));(case side2=>exact Xd.out);rintro e w15 ⟨rfl,hb⟩;refine⟨_,rfl,?_⟩;have n0_:=Ya (Yn (g:=Xw) (o:= .cells #[.int .i64 Zc, .bool Zb, .slice Ze Za.length Zd] 24 (0,0)) (by(with_reducible repeat(first|refine Yl ?_ _|refine Ym ?_|refine Yj ?_ _));exact Zy.out) hb);have n1_:=Ya (Yk (by repeat(first|(with_reducible first|exact HB.out|apply Ye|apply Yd|apply Yg|refine Yh ?_ GE490.out)|exact HB.out)) hb);clear Zy;clear HB;have Zy:=n0_;have HB:=n1_;clear n0_ n1_;(try clear hb);(try clear hb2);(try clear hk);(try clear hi);have hcz16_0:w15.cell? ⟨Xw,0,none⟩=some (.int .i64 Zc):=(Yc Zy.out 0).trans rfl;have hcz16_1:w15.cell? ⟨Xw,1,none⟩=some (.bool Zb):=(Yc Zy.out 1).trans rfl;have hcz16_2:w15.cell? ⟨Xw,2,none⟩=some (.slice Ze Za.length Zd):=(Yc Zy.out 2).trans rfl;have hfz16_0:=Yf Zy.out 0;have hfz16_1:=Yf Zy.out 1;have hfz16_2:=Yf Zy.out 2))
  go_ret
  exact⟨by first|rfl|(simp[errW_none,errW_some]<;>rfl)|(simp only[← hji6, ← hji11];first|rfl|(simp[errW_none,errW_some]<;>rfl))|(simp[*,errW_none,errW_some]<;>rfl),by repeat(first|(with_reducible first|exact HB.out|apply Ye|apply Yd|apply Yg|refine Yh ?_ GE490.out)|exact HB.out)⟩
 rw[Yy c12] at H
 have c12b0:decide (Zc≤(ji11))=false:=Yw c12
 clear c12
 by_cases c17:a1=a2
 rotate_left
 ·rw[Yy c17] at H
  have c17b0:(a1 == a2)=false:=beq_eq_false_iff_ne.mpr c17
  have c17b1:(a1 != a2)=true:=bne_iff_ne.mpr c17
  obtain rfl:=Option.some.inj H
  go_enter Try.func111,Try.ntmps111
  go_wp2_with (first|((with_reducible refine gate_dst (N:=3) rfl ?_);(try (refine gate_guard (by rfl) ?_;dsimp only));refine Yz ?hg (N:=3) ?hd (cs:= #[.int .i64 Zc, .bool Zb, .slice Ze Za.length Zd]) (t:=24) ?hr ?_;(case hd=>rfl);(case hg=>rfl);(case hr=>first|(go_simp;done)|(go_simp;rfl));intro Xw hg w22 Zf hb;have n0_:=Ya (Yk (by repeat(first|(with_reducible first|exact HB.out|apply Ye|apply Yd|apply Yg)|exact HB.out)) hb);have n1_:=Ya (Zf);have n2_:=Ya ((by rw[hg];exact(Yi (by repeat(first|(with_reducible first|exact HB.out|apply Ye|apply Yd|apply Yg)|exact HB.out))):w.heap.size≤Xw));have n3_:=Ya ((by rw[hg];exact(Yi (by repeat(first|(with_reducible first|exact HB.out|apply Ye|apply Yd|apply Yg)|exact HB.out))):w.heap.size≤Xw));clear HB;have HB:=n0_;have Zy:=n1_;have GW490:=n2_;have GE490:=n3_;clear n0_ n1_ n2_ n3_;clear hb Zf hg;have hcz23_0:w22.cell? ⟨Xw,0,none⟩=some (.int .i64 Zc):=(Yc Zy.out 0).trans rfl;have hcz23_1:w22.cell? ⟨Xw,1,none⟩=some (.bool Zb):=(Yc Zy.out 1).trans rfl;have hcz23_2:w22.cell? ⟨Xw,2,none⟩=some (.slice Ze Za.length Zd):=(Yc Zy.out 2).trans rfl;have hfz23_0:=Yf Zy.out 0;have hfz23_1:=Yf Zy.out 1;have hfz23_2:=Yf Zy.out 2)|((with_reducible refine gate_callee (f:=127) rfl ?_);refine goesL_ (some 9) rfl rfl Try.func127 (by kernel_rfl) rfl #[.agg #[.int .i64 Zc, .bool Zb, .slice Ze Za.length Zd]] rfl (by(try simp only[List.map_toArray,List.map_cons,List.map_nil]);first|done|rfl|(simp only[List.length_drop,List.length_take];rfl)) ?_;(with_reducible refine(netfmt_Check.calls k Zc Zb _ _ Za t491 _ ?side1 ?side2 A4.out).mono ?_);(case side1=>repeat(first|exact(Yt Zl.out HB.out)|(with_reducible refine Kd.C_alloc ?_ _)|(with_reducible refine Kd.C_drewN ?_ _)|(with_reducible refine Kd.C_drew ?_)));(case side2=>exact Xd.out);rintro e w24 ⟨rfl,hb⟩;refine⟨_,rfl,?_⟩;have n0_:=Ya (Yn (g:=Xw) (o:= .cells #[.int .i64 Zc, .bool Zb, .slice Ze Za.length Zd] 24 (0,0)) (by(with_reducible repeat(first|refine Yl ?_ _|refine Ym ?_|refine Yj ?_ _));exact Zy.out) hb);have n1_:=Ya (Yk (by repeat(first|(with_reducible first|exact HB.out|apply Ye|apply Yd|apply Yg|refine Yh ?_ GE490.out)|exact HB.out)) hb);clear Zy;clear HB;have Zy:=n0_;have HB:=n1_;clear n0_ n1_;(try clear hb);(try clear hb2);(try clear hk);(try clear hi);have hcz25_0:w24.cell? ⟨Xw,0,none⟩=some (.int .i64 Zc):=(Yc Zy.out 0).trans rfl;have hcz25_1:w24.cell? ⟨Xw,1,none⟩=some (.bool Zb):=(Yc Zy.out 1).trans rfl;have hcz25_2:w24.cell? ⟨Xw,2,none⟩=some (.slice Ze Za.length Zd):=(Yc Zy.out 2).trans rfl;have hfz25_0:=Yf Zy.out 0;have hfz25_1:=Yf Zy.out 1;have hfz25_2:=Yf Zy.out 2))
  go_ret
  exact⟨by first|rfl|(simp[errW_none,errW_some]<;>rfl)|(simp only[← hji6, ← hji11];first|rfl|(simp[errW_none,errW_some]<;>rfl))|(simp[*,errW_none,errW_some]<;>rfl),by repeat(first|(with_reducible first|exact HB.out|apply Ye|apply Yd|apply Yg|refine Yh ?_ GE490.out)|exact HB.out)⟩
 rw[Yx c17] at H
 have c17b0:(a1 == a2)=true:=beq_iff_eq.mpr c17
 have c17b1:(a1 != a2)=false:=bne_eq_false_iff_eq.mpr c17
 clear c17
 obtain rfl:=Option.some.inj H
 go_enter Try.func111,Try.ntmps111
 go_wp2_with (first|((with_reducible refine gate_dst (N:=3) rfl ?_);(try (refine gate_guard (by rfl) ?_;dsimp only));refine Yz ?hg (N:=3) ?hd (cs:= #[.int .i64 Zc, .bool Zb, .slice Ze Za.length Zd]) (t:=24) ?hr ?_;(case hd=>rfl);(case hg=>rfl);(case hr=>first|(go_simp;done)|(go_simp;rfl));intro Xw hg w18 Zf hb;have n0_:=Ya (Yk (by repeat(first|(with_reducible first|exact HB.out|apply Ye|apply Yd|apply Yg)|exact HB.out)) hb);have n1_:=Ya (Zf);have n2_:=Ya ((by rw[hg];exact(Yi (by repeat(first|(with_reducible first|exact HB.out|apply Ye|apply Yd|apply Yg)|exact HB.out))):w.heap.size≤Xw));have n3_:=Ya ((by rw[hg];exact(Yi (by repeat(first|(with_reducible first|exact HB.out|apply Ye|apply Yd|apply Yg)|exact HB.out))):w.heap.size≤Xw));clear HB;have HB:=n0_;have Zy:=n1_;have GW490:=n2_;have GE490:=n3_;clear n0_ n1_ n2_ n3_;clear hb Zf hg;have hcz19_0:w18.cell? ⟨Xw,0,none⟩=some (.int .i64 Zc):=(Yc Zy.out 0).trans rfl;have hcz19_1:w18.cell? ⟨Xw,1,none⟩=some (.bool Zb):=(Yc Zy.out 1).trans rfl;have hcz19_2:w18.cell? ⟨Xw,2,none⟩=some (.slice Ze Za.length Zd):=(Yc Zy.out 2).trans rfl;have hfz19_0:=Yf Zy.out 0;have hfz19_1:=Yf Zy.out 1;have hfz19_2:=Yf Zy.out 2)|((with_reducible refine gate_callee (f:=127) rfl ?_);refine goesL_ (some 9) rfl rfl Try.func127 (by kernel_rfl) rfl #[.agg #[.int .i64 Zc, .bool Zb, .slice Ze Za.length Zd]] rfl (by(try simp only[List.map_toArray,List.map_cons,List.map_nil]);first|done|rfl|(simp only[List.length_drop,List.length_take];rfl)) ?_;(with_reducible refine(netfmt_Check.calls k Zc Zb _ _ Za t491 _ ?side1 ?side2 A4.out).mono ?_);(case side1=>repeat(first|exact(Yt Zl.out HB.out)|(with_reducible refine Kd.C_alloc ?_ _)|(with_reducible refine Kd.C_drewN ?_ _)|(with_reducible refine Kd.C_drew ?_)));(case side2=>exact Xd.out);rintro e w20 ⟨rfl,hb⟩;refine⟨_,rfl,?_⟩;have n0_:=Ya (Yn (g:=Xw) (o:= .cells #[.int .i64 Zc, .bool Zb, .slice Ze Za.length Zd] 24 (0,0)) (by(with_reducible repeat(first|refine Yl ?_ _|refine Ym ?_|refine Yj ?_ _));exact Zy.out) hb);have n1_:=Ya (Yk (by repeat(first|(with_reducible first|exact HB.out|apply Ye|apply Yd|apply Yg|refine Yh ?_ GE490.out)|exact HB.out)) hb);clear Zy;clear HB;have Zy:=n0_;have HB:=n1_;clear n0_ n1_;(try clear hb);(try clear hb2);(try clear hk);(try clear hi);have hcz21_0:w20.cell? ⟨Xw,0,none⟩=some (.int .i64 Zc):=(Yc Zy.out 0).trans rfl;have hcz21_1:w20.cell? ⟨Xw,1,none⟩=some (.bool Zb):=(Yc Zy.out 1).trans rfl;have hcz21_2:w20.cell? ⟨Xw,2,none⟩=some (.slice Ze Za.length Zd):=(Yc Zy.out 2).trans rfl;have hfz21_0:=Yf Zy.out 0;have hfz21_1:=Yf Zy.out 1;have hfz21_2:=Yf Zy.out 2))
 go_ret
 exact⟨by first|rfl|(simp[errW_none,errW_some]<;>rfl)|(simp only[← hji6, ← hji11];first|rfl|(simp[errW_none,errW_some]<;>rfl))|(simp[*,errW_none,errW_some]<;>rfl),by repeat(first|(with_reducible first|exact HB.out|apply Ye|apply Yd|apply Yg|refine Yh ?_ GE490.out)|exact HB.out)⟩
end P
namespace P
attribute [local go_sem] max2_int min2_int max_two min_two max_three min_three max_four min_four
def span_Horizon.f (a0:Int):Option (Int):=if a0<0 then(some 1) else(if a0>1024 then(some 2) else(some 0))
set_option maxHeartbeats 8000000 in
set_option maxRecDepth 100000 in
theorem span_Horizon.calls (a0:Int) (r:Int) (w:World) (h:span_Horizon.f a0=some r):
  Calls Try.prog 149 #[.int .i64 a0] w fun e w'=>e= .returned (.int .i64 r)∧Drawn0 w w':=by
 have H:(if a0<0 then(some 1) else(if a0>1024 then(some 2) else(some 0)))=some r:=h
 clear h
 by_cases c2:a0<0
 ·rw[Yx c2] at H
  have c2b0:decide (a0<0)=true:=Yv c2
  clear c2
  obtain rfl:=Option.some.inj H
  go_enter Try.func149,Try.ntmps149
  go_wp2
  go_ret
  exact⟨by first|rfl|(simp;done)|(simp[*];done),by repeat(first|exact Drawn0.refl _|apply Drawn0.step)⟩
 rw[Yy c2] at H
 have c2b0:decide (a0<0)=false:=Yw c2
 clear c2
 by_cases c3:a0>1024
 rotate_left
 ·rw[Yy c3] at H
  have c3b0:decide (1024<a0)=false:=Yw c3
  clear c3
  obtain rfl:=Option.some.inj H
  go_enter Try.func149,Try.ntmps149
  go_wp2
  go_ret
  exact⟨by first|rfl|(simp;done)|(simp[*];done),by repeat(first|exact Drawn0.refl _|apply Drawn0.step)⟩
 rw[Yx c3] at H
 have c3b0:decide (1024<a0)=true:=Yv c3
 clear c3
 obtain rfl:=Option.some.inj H
 go_enter Try.func149,Try.ntmps149
 go_wp2
 go_ret
 exact⟨by first|rfl|(simp;done)|(simp[*];done),by repeat(first|exact Drawn0.refl _|apply Drawn0.step)⟩
end P
namespace P
attribute [local go_sem] max2_int min2_int max_two min_two max_three min_three max_four min_four
def span_Asked.f (k:Nat) (Zc:Int) (Zb:Bool) (Za:List (S74)) (a1:Int) (a2:Int) (a3:Int):Option (Int):=(static_Ends.f k Zc Zb Za a1 a2).bind fun t703=>(if t703=0 then((span_Horizon.f a3).bind fun t704=>(some t704)) else(some t703))
set_option maxHeartbeats 8000000 in
set_option maxRecDepth 100000 in
theorem span_Asked.calls (k:Nat) (Zc:Int) (Zb:Bool) (Ze:Option Addr) (Zd:Nat) (Za:List (S74)) (a1:Int) (a2:Int) (a3:Int) (r:Int) (w:World) (Zq:Kd.C k74 w Ze Za.length Za) (Zr:Za.length≤Zd) (h:span_Asked.f k Zc Zb Za a1 a2 a3=some r):
  Calls Try.prog 114 #[.agg #[.int .i64 Zc, .bool Zb, .slice Ze Za.length Zd], .int .i64 a1, .int .i64 a2, .int .i64 a3] w fun e w'=>e= .returned (.int .i64 r)∧Below w.heap.size w w':=by
 have hu24:=Try.underlying24
 have Zl:=Ya Zq
 have Xd:=Ya Zr
 clear Zq Zr
 have HB:=Ya (Yo w.heap.size w)
 have H:((static_Ends.f k Zc Zb Za a1 a2).bind fun t703=>(if t703=0 then((span_Horizon.f a3).bind fun t704=>(some t704)) else(some t703)))=some r:=h
 clear h
 replace H:=Option.bind_eq_some_iff.mp H
 obtain⟨t703,A50,H⟩:=H
 replace H:(if t703=0 then((span_Horizon.f a3).bind fun t704=>(some t704)) else(some t703))=some r:=H
 have A5:=Ya A50
 clear A50
 by_cases c6:t703=0
 rotate_left
 ·rw[Yy c6] at H
  have c6b0:(t703 == 0)=false:=beq_eq_false_iff_ne.mpr c6
  have c6b1:(t703 != 0)=true:=bne_iff_ne.mpr c6
  obtain rfl:=Option.some.inj H
  go_enter Try.func114,Try.ntmps114
  go_wp2_with (first|((with_reducible refine gate_dst (N:=4) rfl ?_);refine Yz ?hg (N:=4) ?hd (cs:= #[.int .i64 Zc, .bool Zb, .slice Ze Za.length Zd]) (t:=24) ?hr ?_;(case hd=>rfl);(case hg=>rfl);(case hr=>first|(go_simp;done)|(go_simp;rfl));intro gb702 hg w11 Zf hb;have n0_:=Ya (Yk (by repeat(first|(with_reducible first|exact HB.out|apply Ye|apply Yd|apply Yg)|exact HB.out)) hb);have n1_:=Ya (Zf);have n2_:=Ya ((by rw[hg];exact(Yi (by repeat(first|(with_reducible first|exact HB.out|apply Ye|apply Yd|apply Yg)|exact HB.out))):w.heap.size≤gb702));have n3_:=Ya ((by rw[hg];exact(Yi (by repeat(first|(with_reducible first|exact HB.out|apply Ye|apply Yd|apply Yg)|exact HB.out))):w.heap.size≤gb702));clear HB;have HB:=n0_;have Uo:=n1_;have GW702:=n2_;have GE702:=n3_;clear n0_ n1_ n2_ n3_;clear hb Zf hg;have hcz12_0:w11.cell? ⟨gb702,0,none⟩=some (.int .i64 Zc):=(Yc Uo.out 0).trans rfl;have hcz12_1:w11.cell? ⟨gb702,1,none⟩=some (.bool Zb):=(Yc Uo.out 1).trans rfl;have hcz12_2:w11.cell? ⟨gb702,2,none⟩=some (.slice Ze Za.length Zd):=(Yc Uo.out 2).trans rfl;have hfz12_0:=Yf Uo.out 0;have hfz12_1:=Yf Uo.out 1;have hfz12_2:=Yf Uo.out 2)|((with_reducible refine gate_callee (f:=111) rfl ?_);refine goesL_ (some 13) rfl rfl Try.func111 (by kernel_rfl) rfl #[.agg #[.int .i64 Zc, .bool Zb, .slice Ze Za.length Zd], .int .i64 a1, .int .i64 a2] rfl (by(try simp only[List.map_toArray,List.map_cons,List.map_nil]);first|done|rfl|(simp only[List.length_drop,List.length_take];rfl)) ?_;(with_reducible refine(static_Ends.calls k Zc Zb _ _ Za a1 a2 t703 _ ?side1 ?side2 A5.out).mono ?_);(case side1=>repeat(first|exact(Yt Zl.out HB.out)|(with_reducible refine Kd.C_alloc ?_ _)|(with_reducible refine Kd.C_drewN ?_ _)|(with_reducible refine Kd.C_drew ?_)));(case side2=>exact Xd.out);rintro e w13 ⟨rfl,hb⟩;refine⟨_,rfl,?_⟩;have n0_:=Ya (Yn (g:=gb702) (o:= .cells #[.int .i64 Zc, .bool Zb, .slice Ze Za.length Zd] 24 (0,0)) (by(with_reducible repeat(first|refine Yl ?_ _|refine Ym ?_|refine Yj ?_ _));exact Uo.out) hb);have n1_:=Ya (Yk (by repeat(first|(with_reducible first|exact HB.out|apply Ye|apply Yd|apply Yg|refine Yh ?_ GE702.out)|exact HB.out)) hb);clear Uo;clear HB;have Uo:=n0_;have HB:=n1_;clear n0_ n1_;(try clear hb);(try clear hb2);(try clear hk);(try clear hi)))
  go_ret
  exact⟨by first|rfl|(simp[errW_none,errW_some]<;>rfl)|(simp[*,errW_none,errW_some]<;>rfl),by repeat(first|(with_reducible first|exact HB.out|apply Ye|apply Yd|apply Yg|refine Yh ?_ GE702.out)|exact HB.out)⟩
 rw[Yx c6] at H
 have c6b0:(t703 == 0)=true:=beq_iff_eq.mpr c6
 have c6b1:(t703 != 0)=false:=bne_eq_false_iff_eq.mpr c6
 clear c6
 replace H:=Option.bind_eq_some_iff.mp H
 obtain⟨t704,A70,H⟩:=H
 replace H:(some t704)=some r:=H
 have A7:=Ya A70
 clear A70
 obtain rfl:=Option.some.inj H
 go_enter Try.func114,Try.ntmps114
 go_wp2_with (first|((with_reducible refine gate_dst (N:=4) rfl ?_);refine Yz ?hg (N:=4) ?hd (cs:= #[.int .i64 Zc, .bool Zb, .slice Ze Za.length Zd]) (t:=24) ?hr ?_;(case hd=>rfl);(case hg=>rfl);(case hr=>first|(go_simp;done)|(go_simp;rfl));intro gb702 hg w8 Zf hb;have n0_:=Ya (Yk (by repeat(first|(with_reducible first|exact HB.out|apply Ye|apply Yd|apply Yg)|exact HB.out)) hb);have n1_:=Ya (Zf);have n2_:=Ya ((by rw[hg];exact(Yi (by repeat(first|(with_reducible first|exact HB.out|apply Ye|apply Yd|apply Yg)|exact HB.out))):w.heap.size≤gb702));have n3_:=Ya ((by rw[hg];exact(Yi (by repeat(first|(with_reducible first|exact HB.out|apply Ye|apply Yd|apply Yg)|exact HB.out))):w.heap.size≤gb702));clear HB;have HB:=n0_;have Uo:=n1_;have GW702:=n2_;have GE702:=n3_;clear n0_ n1_ n2_ n3_;clear hb Zf hg;have Jr:w8.cell? ⟨gb702,0,none⟩=some (.int .i64 Zc):=(Yc Uo.out 0).trans rfl;have Js:w8.cell? ⟨gb702,1,none⟩=some (.bool Zb):=(Yc Uo.out 1).trans rfl;have hcz9_2:w8.cell? ⟨gb702,2,none⟩=some (.slice Ze Za.length Zd):=(Yc Uo.out 2).trans rfl;have Jt:=Yf Uo.out 0;have Ju:=Yf Uo.out 1;have hfz9_2:=Yf Uo.out 2)|((with_reducible refine gate_callee (f:=111) rfl ?_);refine goesL_ (some 13) rfl rfl Try.func111 (by kernel_rfl) rfl #[.agg #[.int .i64 Zc, .bool Zb, .slice Ze Za.length Zd], .int .i64 a1, .int .i64 a2] rfl (by(try simp only[List.map_toArray,List.map_cons,List.map_nil]);first|done|rfl|(simp only[List.length_drop,List.length_take];rfl)) ?_;(with_reducible refine(static_Ends.calls k Zc Zb _ _ Za a1 a2 t703 _ ?side1 ?side2 A5.out).mono ?_);(case side1=>repeat(first|exact(Yt Zl.out HB.out)|(with_reducible refine Kd.C_alloc ?_ _)|(with_reducible refine Kd.C_drewN ?_ _)|(with_reducible refine Kd.C_drew ?_)));(case side2=>exact Xd.out);rintro e w10 ⟨rfl,hb⟩;refine⟨_,rfl,?_⟩;have n0_:=Ya (Yn (g:=gb702) (o:= .cells #[.int .i64 Zc, .bool Zb, .slice Ze Za.length Zd] 24 (0,0)) (by(with_reducible repeat(first|refine Yl ?_ _|refine Ym ?_|refine Yj ?_ _));exact Uo.out) hb);have n1_:=Ya (Yk (by repeat(first|(with_reducible first|exact HB.out|apply Ye|apply Yd|apply Yg|refine Yh ?_ GE702.out)|exact HB.out)) hb);clear Uo;clear HB;have Uo:=n0_;have HB:=n1_;clear n0_ n1_;(try clear hb);(try clear hb2);(try clear hk);(try clear hi))|((with_reducible refine gate_callee (f:=149) rfl ?_);refine goesL_ (some 18) rfl rfl Try.func149 (by kernel_rfl) rfl #[.int .i64 a3] rfl (by(try simp only[List.map_toArray,List.map_cons,List.map_nil]);first|done|rfl|(simp only[List.length_drop,List.length_take];rfl)) ?_;(with_reducible refine(span_Horizon.calls a3 t704 _ A7.out).mono ?_);rintro e w' ⟨rfl,⟨nd,rfl⟩⟩;refine⟨_,rfl,?_⟩))
 go_ret
 exact⟨by first|rfl|(simp[errW_none,errW_some]<;>rfl)|(simp[*,errW_none,errW_some]<;>rfl),by repeat(first|(with_reducible first|exact HB.out|apply Ye|apply Yd|apply Yg|refine Yh ?_ GE702.out)|exact HB.out)⟩
end P
namespace P
attribute [local go_sem] max2_int min2_int max_two min_two max_three min_three max_four min_four
def span_paid.l0:Nat→List Int→Int→List (S74)→Int→Int→Option (Int)
 |0,_,_,_,_,_=>none
 |k+1,x1,x5,x9,x10,x11=>if x11<x10 then(if 0≤x11 then(if x11<(x9.length:Int) then(if x11<(x1.length:Int) then(span_paid.l0 k x1 (wrap64 (x5+(wrap64 ((rd x1 x11) * ((rd_T74 x9 x11).f3))))) x9 x10 (wrap64 (x11+1))) else(none)) else(none)) else(none)) else(some x5)
def span_paid.f (k:Nat) (Zc:Int) (Zb:Bool) (Za:List (S74)) (l1:List Int):Option (Int):=span_paid.l0 k l1 0 Za (Za.length:Int) 0
set_option maxHeartbeats 8000000 in
set_option maxRecDepth 100000 in
theorem span_paid.calls (k:Nat) (Zc:Int) (Zb:Bool) (Ze:Option Addr) (Zd:Nat) (Za:List (S74)) (A1:Option Addr) (c1:Nat) (l1:List Int) (r:Int) (w:World) (Zq:Kd.C k74 w Ze Za.length Za) (Zr:Za.length≤Zd) (hr1:Kd.C (Kd.int .i64) w A1 l1.length l1) (hc1:l1.length≤c1) (h:span_paid.f k Zc Zb Za l1=some r):
  Calls Try.prog 116 #[.agg #[.int .i64 Zc, .bool Zb, .slice Ze Za.length Zd], .slice A1 l1.length c1] w fun e w'=>e= .returned (.int .i64 r)∧Below w.heap.size w w':=by
 have hu24:=Try.underlying24
 have hu74:=Try.underlying74
 have Zl:=Ya Zq
 have Xd:=Ya Zr
 clear Zq Zr
 have HR1:=Ya hr1
 have HC1:=Ya hc1
 clear hr1 hc1
 have HB:=Ya (Yo w.heap.size w)
 have H:(span_paid.l0 k l1 0 Za (Za.length:Int) 0)=some r:=h
 clear h
 have H':=Ya H
 clear H
 go_enter Try.func116,Try.ntmps116
 go_wp2_with (first|((with_reducible refine gate_dst (N:=2) rfl ?_);refine Yz ?hg (N:=2) ?hd (cs:= #[.int .i64 Zc, .bool Zb, .slice Ze Za.length Zd]) (t:=24) ?hr ?_;(case hd=>rfl);(case hg=>rfl);(case hr=>first|(go_simp;done)|(go_simp;rfl));intro Wo hg w3 Zf hb;have n0_:=Ya (Yk (by repeat(first|(with_reducible first|exact HB.out|apply Ye|apply Yd|apply Yg)|exact HB.out)) hb);have n1_:=Ya (Zf);have n2_:=Ya ((by rw[hg];exact(Yi (by repeat(first|(with_reducible first|exact HB.out|apply Ye|apply Yd|apply Yg)|exact HB.out))):w.heap.size≤Wo));have n3_:=Ya ((by rw[hg];exact(Yi (by repeat(first|(with_reducible first|exact HB.out|apply Ye|apply Yd|apply Yg)|exact HB.out))):w.heap.size≤Wo));clear HB;have HB:=n0_;have Wg:=n1_;have GW726:=n2_;have GE726:=n3_;clear n0_ n1_ n2_ n3_;clear hb Zf hg;have hcz4_0:w3.cell? ⟨Wo,0,none⟩=some (.int .i64 Zc):=(Yc Wg.out 0).trans rfl;have hcz4_1:w3.cell? ⟨Wo,1,none⟩=some (.bool Zb):=(Yc Wg.out 1).trans rfl;have hcz4_2:w3.cell? ⟨Wo,2,none⟩=some (.slice Ze Za.length Zd):=(Yc Wg.out 2).trans rfl;have hfz4_0:=Yf Wg.out 0;have hfz4_1:=Yf Wg.out 1;have hfz4_2:=Yf Wg.out 2))
 repeat(go_quiet (first|((with_reducible refine gate_dst (N:=2) rfl ?_);refine Yz ?hg (N:=2) ?hd (cs:= #[.int .i64 Zc, .bool Zb, .slice Ze Za.length Zd]) (t:=24) ?hr ?_;(case hd=>rfl);(case hg=>rfl);(case hr=>first|(go_simp;done)|(go_simp;rfl));intro Wo hg w3 Zf hb;have n0_:=Ya (Yk (by repeat(first|(with_reducible first|exact HB.out|apply Ye|apply Yd|apply Yg)|exact HB.out)) hb);have n1_:=Ya (Zf);have n2_:=Ya ((by rw[hg];exact(Yi (by repeat(first|(with_reducible first|exact HB.out|apply Ye|apply Yd|apply Yg)|exact HB.out))):w.heap.size≤Wo));have n3_:=Ya ((by rw[hg];exact(Yi (by repeat(first|(with_reducible first|exact HB.out|apply Ye|apply Yd|apply Yg)|exact HB.out))):w.heap.size≤Wo));clear HB;have HB:=n0_;have Wg:=n1_;have GW726:=n2_;have GE726:=n3_;clear n0_ n1_ n2_ n3_;clear hb Zf hg;have hcz4_0:w3.cell? ⟨Wo,0,none⟩=some (.int .i64 Zc):=(Yc Wg.out 0).trans rfl;have hcz4_1:w3.cell? ⟨Wo,1,none⟩=some (.bool Zb):=(Yc Wg.out 1).trans rfl;have hcz4_2:w3.cell? ⟨Wo,2,none⟩=some (.slice Ze Za.length Zd):=(Yc Wg.out 2).trans rfl;have hfz4_0:=Yf Wg.out 0;have hfz4_1:=Yf Wg.out 1;have hfz4_2:=Yf Wg.out 2));try go_wp2_with (first|((with_reducible refine gate_dst (N:=2) rfl ?_);refine Yz ?hg (N:=2) ?hd (cs:= #[.int .i64 Zc, .bool Zb, .slice Ze Za.length Zd]) (t:=24) ?hr ?_;(case hd=>rfl);(case hg=>rfl);(case hr=>first|(go_simp;done)|(go_simp;rfl));intro Wo hg w3 Zf hb;have n0_:=Ya (Yk (by repeat(first|(with_reducible first|exact HB.out|apply Ye|apply Yd|apply Yg)|exact HB.out)) hb);have n1_:=Ya (Zf);have n2_:=Ya ((by rw[hg];exact(Yi (by repeat(first|(with_reducible first|exact HB.out|apply Ye|apply Yd|apply Yg)|exact HB.out))):w.heap.size≤Wo));have n3_:=Ya ((by rw[hg];exact(Yi (by repeat(first|(with_reducible first|exact HB.out|apply Ye|apply Yd|apply Yg)|exact HB.out))):w.heap.size≤Wo));clear HB;have HB:=n0_;have Wg:=n1_;have GW726:=n2_;have GE726:=n3_;clear n0_ n1_ n2_ n3_;clear hb Zf hg;have hcz4_0:w3.cell? ⟨Wo,0,none⟩=some (.int .i64 Zc):=(Yc Wg.out 0).trans rfl;have hcz4_1:w3.cell? ⟨Wo,1,none⟩=some (.bool Zb):=(Yc Wg.out 1).trans rfl;have hcz4_2:w3.cell? ⟨Wo,2,none⟩=some (.slice Ze Za.length Zd):=(Yc Wg.out 2).trans rfl;have hfz4_0:=Yf Wg.out 0;have hfz4_1:=Yf Wg.out 1;have hfz4_2:=Yf Wg.out 2)))
 go_loopg [5,11] k (fun kq v5 v11 w'=> ∃ (x5_1:Int) (Xo:Int),v5= .int .i64 x5_1∧v11= .int .i64 Xo∧Aside0 (span_paid.l0 kq l1 x5_1 Za (Za.length:Int) Xo=some r)∧Aside0 (kq≤k)∧Aside0 (w'.heap[Wo]? =some (.cells #[.int .i64 Zc, .bool Zb,(.slice Ze Za.length Zd)] 24 (0,0)))∧Aside0 (Below w.heap.size w w'))
 case atStart=>exact⟨(0),(0),(by first|rfl|(simp;done)|(simp[*];done)),(by first|rfl|(simp;done)|(simp[*];done)),H',⟨Nat.le_refl _⟩,⟨by(with_reducible repeat(first|refine Yl ?_ _|refine Ym ?_|refine Yj ?_ _));exact Wg.out⟩,⟨by repeat(first|(with_reducible first|exact HB.out|apply Ye|apply Yd|apply Yg|refine Yh ?_ GE726.out)|exact HB.out)⟩⟩
 case round=>
  clear H'
  try clear c1
  try clear p2
  try clear hcz4_0
  try clear hcz4_1
  try clear hcz4_2
  try clear hfz4_0
  try clear hfz4_1
  try clear hfz4_2
  obtain⟨x5_1,Xo,rfl,rfl,HA,HK1,Wg,HB⟩:=hrel
  cases gk with
  |zero=>exact absurd HA.out (by simp[span_paid.l0])
  |succ k1=>
   have H:=HA.out
   clear HA
   simp only[span_paid.l0] at H
   by_cases c5:Xo<(Za.length:Int)
   rotate_left
   ·rw[Yy c5] at H
    have c5b0:decide (Xo<(Za.length:Int))=false:=Yw c5
    clear c5
    obtain rfl:=Option.some.inj H
    go_wp2
    repeat(go_quiet (fail);try go_wp2)
    go_ret
    exact⟨by first|rfl|(simp[errW_none,errW_some]<;>rfl)|(simp[*,errW_none,errW_some]<;>rfl),by repeat(first|(with_reducible first|exact HB.out|apply Ye|apply Yd|apply Yg|refine Yh ?_ GE726.out)|exact HB.out)⟩
   rw[Yx c5] at H
   have c5b0:decide (Xo<(Za.length:Int))=true:=Yv c5
   clear c5
   by_cases c6:0≤Xo
   rotate_left
   ·rw[Yy c6] at H
    exact absurd H (by simp)
   rw[Yx c6] at H
   have c6b0:decide (0≤Xo)=true:=Yv c6
   clear c6
   by_cases c7:Xo<(Za.length:Int)
   rotate_left
   ·rw[Yy c7] at H
    exact absurd H (by simp)
   rw[Yx c7] at H
   have c7b0:decide (Xo<(Za.length:Int))=true:=Yv c7
   clear c7
   by_cases c8:Xo<(l1.length:Int)
   rotate_left
   ·rw[Yy c8] at H
    exact absurd H (by simp)
   rw[Yx c8] at H
   have c8b0:decide (Xo<(l1.length:Int))=true:=Yv c8
   clear c8
   have H':=Ya H
   clear H
   have p727:0≤(Xo:Int):=Yu (by first|(with_reducible assumption)|assumption)
   have q727:Xo<(Za.length:Int):=Yu (by first|(with_reducible assumption)|assumption)
   obtain⟨ad727,e727,hx727_0,hx727_1,hx727_2,hx727_3⟩:=at_T74 Zl.out Xo p727 q727
   cases e727
   replace hx727_0:=(HB.out.cell (Yb w _ hx727_0)).trans hx727_0
   replace hx727_1:=(HB.out.cell (Yb w _ hx727_1)).trans hx727_1
   replace hx727_2:=(HB.out.cell (Yb w _ hx727_2)).trans hx727_2
   replace hx727_3:=(HB.out.cell (Yb w _ hx727_3)).trans hx727_3
   replace p727:=eq_true p727
   replace q727:=eq_true q727
   go_wp2_with (first|((with_reducible refine gate_dst (N:=7) rfl ?_);refine Yz ?hg (N:=7) ?hd (cs:= #[.int .i64 0, .int .i64 0, .int .i64 0, .int .i64 0]) (t:=74) ?hr ?_;(case hd=>rfl);(case hg=>rfl);(case hr=>first|(go_simp;done)|(go_simp;rfl));intro Xc hg w9 Zf hb;have n0_:=Ya (Yn (g:=Wo) (o:= .cells #[.int .i64 Zc, .bool Zb, .slice (some ad727) Za.length Zd] 24 (0,0)) (by(with_reducible repeat(first|refine Yl ?_ _|refine Ym ?_|refine Yj ?_ _));exact Wg.out) hb);have n1_:=Ya (Yk (by repeat(first|(with_reducible first|exact HB.out|apply Ye|apply Yd|apply Yg|refine Yh ?_ GE726.out)|exact HB.out)) hb);have n2_:=Ya (Zf);have n3_:=Ya ((by rw[hg];exact(Yi (by repeat(first|(with_reducible first|exact HB.out|apply Ye|apply Yd|apply Yg|refine Yh ?_ GE726.out)|exact HB.out))):w.heap.size≤Xc));have n4_:=Ya ((by rw[hg];exact(Yi (by repeat(first|(with_reducible first|exact HB.out|apply Ye|apply Yd|apply Yg|refine Yh ?_ GE726.out)|exact HB.out))):w.heap.size≤Xc));have n5_:=Ya ((by rw[hg];exact Nat.ne_of_lt (blk_lt (g:=Wo) (o:= .cells #[.int .i64 Zc, .bool Zb, .slice (some ad727) Za.length Zd] 24 (0,0)) (by(with_reducible repeat(first|refine Yl ?_ _|refine Ym ?_|refine Yj ?_ _));exact Wg.out)):Wo≠Xc));have n6_:=Ya ((by rw[hg];exact Nat.ne_of_gt (blk_lt (g:=Wo) (o:= .cells #[.int .i64 Zc, .bool Zb, .slice (some ad727) Za.length Zd] 24 (0,0)) (by(with_reducible repeat(first|refine Yl ?_ _|refine Ym ?_|refine Yj ?_ _));exact Wg.out)):Xc≠Wo));clear Wg;clear HB;have Wg:=n0_;have HB:=n1_;have Vi:=n2_;have GW728:=n3_;have GE728:=n4_;have Vz:=n5_;have NB728_726:=n6_;clear n0_ n1_ n2_ n3_ n4_ n5_ n6_;clear hb Zf hg;have hnb10:=NB728_726.out;have hnc10:=Vz.out;have Jx:w9.cell? ⟨Xc,0,none⟩=some (.int .i64 0):=(Yc Vi.out 0).trans rfl;have Jy:w9.cell? ⟨Xc,1,none⟩=some (.int .i64 0):=(Yc Vi.out 1).trans rfl;have Jz:w9.cell? ⟨Xc,2,none⟩=some (.int .i64 0):=(Yc Vi.out 2).trans rfl;have hcz11_3:w9.cell? ⟨Xc,3,none⟩=some (.int .i64 0):=(Yc Vi.out 3).trans rfl;have hfz11_0:=Yf Vi.out 0;have hfz11_1:=Yf Vi.out 1;have hfz11_2:=Yf Vi.out 2;have hfz11_3:=Yf Vi.out 3;have p729:0≤(Xo:Int):=Yu (by first|(with_reducible assumption)|assumption);have q729:Xo<(l1.length:Int):=Yu (by first|(with_reducible assumption)|assumption);obtain⟨ad729,e729,Zo⟩:=Kd.at_int HR1.out Xo p729 q729;cases e729;have hn729_0:ad729.block≠Xc:=Nat.ne_of_lt (Nat.lt_of_lt_of_le (by have:=Yb _ _ Zo;first|rwa [add_block] at this|exact this) GW728.out);have hn729_1:ad729.block≠Xc:=Nat.ne_of_lt (Nat.lt_of_lt_of_le (by have:=Yb _ _ Zo;first|rwa [add_block] at this|exact this) GW728.out);have hn729_2:ad729.block≠Xc:=Nat.ne_of_lt (Nat.lt_of_lt_of_le (by have:=Yb _ _ Zo;first|rwa [add_block] at this|exact this) GW728.out);have hn729_3:ad729.block≠Xc:=Nat.ne_of_lt (Nat.lt_of_lt_of_le (by have:=Yb _ _ Zo;first|rwa [add_block] at this|exact this) GW728.out);replace Zo:=(HB.out.cell (Yb w _ Zo)).trans Zo;replace Zo:=(cell_far (p:=⟨Xc,0,none⟩) (by first|(rw[add_block];exact hn729_0)|(show (Addr.add _ _).block≠_;rw[add_block];exact hn729_0)|exact hn729_0) (.int .i64 ((rd_T74 Za Xo).f0))).trans Zo;replace Zo:=(cell_far (p:=⟨Xc,1,none⟩) (by first|(rw[add_block];exact hn729_1)|(show (Addr.add _ _).block≠_;rw[add_block];exact hn729_1)|exact hn729_1) (.int .i64 ((rd_T74 Za Xo).f1))).trans Zo;replace Zo:=(cell_far (p:=⟨Xc,2,none⟩) (by first|(rw[add_block];exact hn729_2)|(show (Addr.add _ _).block≠_;rw[add_block];exact hn729_2)|exact hn729_2) (.int .i64 ((rd_T74 Za Xo).f2))).trans Zo;replace Zo:=(cell_far (p:=⟨Xc,3,none⟩) (by first|(rw[add_block];exact hn729_3)|(show (Addr.add _ _).block≠_;rw[add_block];exact hn729_3)|exact hn729_3) (.int .i64 ((rd_T74 Za Xo).f3))).trans Zo;(try have hy729_0:=fun(n_:Nat)=>(show ((((((w9.drewN n_).setCell ⟨Xc,0,none⟩ (.int .i64 ((rd_T74 Za Xo).f0))).setCell ⟨Xc,1,none⟩ (.int .i64 ((rd_T74 Za Xo).f1))).setCell ⟨Xc,2,none⟩ (.int .i64 ((rd_T74 Za Xo).f2))).setCell ⟨Xc,3,none⟩ (.int .i64 ((rd_T74 Za Xo).f3)))).cell? _=some _ from Zo));clear hn729_0;clear hn729_1;clear hn729_2;clear hn729_3;replace p729:=eq_true p729;replace q729:=eq_true q729))
   repeat(go_quiet (first|((with_reducible refine gate_dst (N:=7) rfl ?_);refine Yz ?hg (N:=7) ?hd (cs:= #[.int .i64 0, .int .i64 0, .int .i64 0, .int .i64 0]) (t:=74) ?hr ?_;(case hd=>rfl);(case hg=>rfl);(case hr=>first|(go_simp;done)|(go_simp;rfl));intro Xc hg w9 Zf hb;have n0_:=Ya (Yn (g:=Wo) (o:= .cells #[.int .i64 Zc, .bool Zb, .slice (some ad727) Za.length Zd] 24 (0,0)) (by(with_reducible repeat(first|refine Yl ?_ _|refine Ym ?_|refine Yj ?_ _));exact Wg.out) hb);have n1_:=Ya (Yk (by repeat(first|(with_reducible first|exact HB.out|apply Ye|apply Yd|apply Yg|refine Yh ?_ GE726.out)|exact HB.out)) hb);have n2_:=Ya (Zf);have n3_:=Ya ((by rw[hg];exact(Yi (by repeat(first|(with_reducible first|exact HB.out|apply Ye|apply Yd|apply Yg|refine Yh ?_ GE726.out)|exact HB.out))):w.heap.size≤Xc));have n4_:=Ya ((by rw[hg];exact(Yi (by repeat(first|(with_reducible first|exact HB.out|apply Ye|apply Yd|apply Yg|refine Yh ?_ GE726.out)|exact HB.out))):w.heap.size≤Xc));have n5_:=Ya ((by rw[hg];exact Nat.ne_of_lt (blk_lt (g:=Wo) (o:= .cells #[.int .i64 Zc, .bool Zb, .slice (some ad727) Za.length Zd] 24 (0,0)) (by(with_reducible repeat(first|refine Yl ?_ _|refine Ym ?_|refine Yj ?_ _));exact Wg.out)):Wo≠Xc));have n6_:=Ya ((by rw[hg];exact Nat.ne_of_gt (blk_lt (g:=Wo) (o:= .cells #[.int .i64 Zc, .bool Zb, .slice (some ad727) Za.length Zd] 24 (0,0)) (by(with_reducible repeat(first|refine Yl ?_ _|refine Ym ?_|refine Yj ?_ _));exact Wg.out)):Xc≠Wo));clear Wg;clear HB;have Wg:=n0_;have HB:=n1_;have Vi:=n2_;have GW728:=n3_;have GE728:=n4_;have Vz:=n5_;have NB728_726:=n6_;clear n0_ n1_ n2_ n3_ n4_ n5_ n6_;clear hb Zf hg;have hnb10:=NB728_726.out;have hnc10:=Vz.out;have Jx:w9.cell? ⟨Xc,0,none⟩=some (.int .i64 0):=(Yc Vi.out 0).trans rfl;have Jy:w9.cell? ⟨Xc,1,none⟩=some (.int .i64 0):=(Yc Vi.out 1).trans rfl;have Jz:w9.cell? ⟨Xc,2,none⟩=some (.int .i64 0):=(Yc Vi.out 2).trans rfl;have hcz11_3:w9.cell? ⟨Xc,3,none⟩=some (.int .i64 0):=(Yc Vi.out 3).trans rfl;have hfz11_0:=Yf Vi.out 0;have hfz11_1:=Yf Vi.out 1;have hfz11_2:=Yf Vi.out 2;have hfz11_3:=Yf Vi.out 3;have p729:0≤(Xo:Int):=Yu (by first|(with_reducible assumption)|assumption);have q729:Xo<(l1.length:Int):=Yu (by first|(with_reducible assumption)|assumption);obtain⟨ad729,e729,Zo⟩:=Kd.at_int HR1.out Xo p729 q729;cases e729;have hn729_0:ad729.block≠Xc:=Nat.ne_of_lt (Nat.lt_of_lt_of_le (by have:=Yb _ _ Zo;first|rwa [add_block] at this|exact this) GW728.out);have hn729_1:ad729.block≠Xc:=Nat.ne_of_lt (Nat.lt_of_lt_of_le (by have:=Yb _ _ Zo;first|rwa [add_block] at this|exact this) GW728.out);have hn729_2:ad729.block≠Xc:=Nat.ne_of_lt (Nat.lt_of_lt_of_le (by have:=Yb _ _ Zo;first|rwa [add_block] at this|exact this) GW728.out);have hn729_3:ad729.block≠Xc:=Nat.ne_of_lt (Nat.lt_of_lt_of_le (by have:=Yb _ _ Zo;first|rwa [add_block] at this|exact this) GW728.out);replace Zo:=(HB.out.cell (Yb w _ Zo)).trans Zo;replace Zo:=(cell_far (p:=⟨Xc,0,none⟩) (by first|(rw[add_block];exact hn729_0)|(show (Addr.add _ _).block≠_;rw[add_block];exact hn729_0)|exact hn729_0) (.int .i64 ((rd_T74 Za Xo).f0))).trans Zo;replace Zo:=(cell_far (p:=⟨Xc,1,none⟩) (by first|(rw[add_block];exact hn729_1)|(show (Addr.add _ _).block≠_;rw[add_block];exact hn729_1)|exact hn729_1) (.int .i64 ((rd_T74 Za Xo).f1))).trans Zo;replace Zo:=(cell_far (p:=⟨Xc,2,none⟩) (by first|(rw[add_block];exact hn729_2)|(show (Addr.add _ _).block≠_;rw[add_block];exact hn729_2)|exact hn729_2) (.int .i64 ((rd_T74 Za Xo).f2))).trans Zo;replace Zo:=(cell_far (p:=⟨Xc,3,none⟩) (by first|(rw[add_block];exact hn729_3)|(show (Addr.add _ _).block≠_;rw[add_block];exact hn729_3)|exact hn729_3) (.int .i64 ((rd_T74 Za Xo).f3))).trans Zo;(try have hy729_0:=fun(n_:Nat)=>(show ((((((w9.drewN n_).setCell ⟨Xc,0,none⟩ (.int .i64 ((rd_T74 Za Xo).f0))).setCell ⟨Xc,1,none⟩ (.int .i64 ((rd_T74 Za Xo).f1))).setCell ⟨Xc,2,none⟩ (.int .i64 ((rd_T74 Za Xo).f2))).setCell ⟨Xc,3,none⟩ (.int .i64 ((rd_T74 Za Xo).f3)))).cell? _=some _ from Zo));clear hn729_0;clear hn729_1;clear hn729_2;clear hn729_3;replace p729:=eq_true p729;replace q729:=eq_true q729));try go_wp2_with (first|((with_reducible refine gate_dst (N:=7) rfl ?_);refine Yz ?hg (N:=7) ?hd (cs:= #[.int .i64 0, .int .i64 0, .int .i64 0, .int .i64 0]) (t:=74) ?hr ?_;(case hd=>rfl);(case hg=>rfl);(case hr=>first|(go_simp;done)|(go_simp;rfl));intro Xc hg w9 Zf hb;have n0_:=Ya (Yn (g:=Wo) (o:= .cells #[.int .i64 Zc, .bool Zb, .slice (some ad727) Za.length Zd] 24 (0,0)) (by(with_reducible repeat(first|refine Yl ?_ _|refine Ym ?_|refine Yj ?_ _));exact Wg.out) hb);have n1_:=Ya (Yk (by repeat(first|(with_reducible first|exact HB.out|apply Ye|apply Yd|apply Yg|refine Yh ?_ GE726.out)|exact HB.out)) hb);have n2_:=Ya (Zf);have n3_:=Ya ((by rw[hg];exact(Yi (by repeat(first|(with_reducible first|exact HB.out|apply Ye|apply Yd|apply Yg|refine Yh ?_ GE726.out)|exact HB.out))):w.heap.size≤Xc));have n4_:=Ya ((by rw[hg];exact(Yi (by repeat(first|(with_reducible first|exact HB.out|apply Ye|apply Yd|apply Yg|refine Yh ?_ GE726.out)|exact HB.out))):w.heap.size≤Xc));have n5_:=Ya ((by rw[hg];exact Nat.ne_of_lt (blk_lt (g:=Wo) (o:= .cells #[.int .i64 Zc, .bool Zb, .slice (some ad727) Za.length Zd] 24 (0,0)) (by(with_reducible repeat(first|refine Yl ?_ _|refine Ym ?_|refine Yj ?_ _));exact Wg.out)):Wo≠Xc));have n6_:=Ya ((by rw[hg];exact Nat.ne_of_gt (blk_lt (g:=Wo) (o:= .cells #[.int .i64 Zc, .bool Zb, .slice (some ad727) Za.length Zd] 24 (0,0)) (by(with_reducible repeat(first|refine Yl ?_ _|refine Ym ?_|refine Yj ?_ _));exact Wg.out)):Xc≠Wo));clear Wg;clear HB;have Wg:=n0_;have HB:=n1_;have Vi:=n2_;have GW728:=n3_;have GE728:=n4_;have Vz:=n5_;have NB728_726:=n6_;clear n0_ n1_ n2_ n3_ n4_ n5_ n6_;clear hb Zf hg;have hnb10:=NB728_726.out;have hnc10:=Vz.out;have Jx:w9.cell? ⟨Xc,0,none⟩=some (.int .i64 0):=(Yc Vi.out 0).trans rfl;have Jy:w9.cell? ⟨Xc,1,none⟩=some (.int .i64 0):=(Yc Vi.out 1).trans rfl;have Jz:w9.cell? ⟨Xc,2,none⟩=some (.int .i64 0):=(Yc Vi.out 2).trans rfl;have hcz11_3:w9.cell? ⟨Xc,3,none⟩=some (.int .i64 0):=(Yc Vi.out 3).trans rfl;have hfz11_0:=Yf Vi.out 0;have hfz11_1:=Yf Vi.out 1;have hfz11_2:=Yf Vi.out 2;have hfz11_3:=Yf Vi.out 3;have p729:0≤(Xo:Int):=Yu (by first|(with_reducible assumption)|assumption);have q729:Xo<(l1.length:Int):=Yu (by first|(with_reducible assumption)|assumption);obtain⟨ad729,e729,Zo⟩:=Kd.at_int HR1.out Xo p729 q729;cases e729;have hn729_0:ad729.block≠Xc:=Nat.ne_of_lt (Nat.lt_of_lt_of_le (by have:=Yb _ _ Zo;first|rwa [add_block] at this|exact this) GW728.out);have hn729_1:ad729.block≠Xc:=Nat.ne_of_lt (Nat.lt_of_lt_of_le (by have:=Yb _ _ Zo;first|rwa [add_block] at this|exact this) GW728.out);have hn729_2:ad729.block≠Xc:=Nat.ne_of_lt (Nat.lt_of_lt_of_le (by have:=Yb _ _ Zo;first|rwa [add_block] at this|exact this) GW728.out);have hn729_3:ad729.block≠Xc:=Nat.ne_of_lt (Nat.lt_of_lt_of_le (by have:=Yb _ _ Zo;first|rwa [add_block] at this|exact this) GW728.out);replace Zo:=(HB.out.cell (Yb w _ Zo)).trans Zo;replace Zo:=(cell_far (p:=⟨Xc,0,none⟩) (by first|(rw[add_block];exact hn729_0)|(show (Addr.add _ _).block≠_;rw[add_block];exact hn729_0)|exact hn729_0) (.int .i64 ((rd_T74 Za Xo).f0))).trans Zo;replace Zo:=(cell_far (p:=⟨Xc,1,none⟩) (by first|(rw[add_block];exact hn729_1)|(show (Addr.add _ _).block≠_;rw[add_block];exact hn729_1)|exact hn729_1) (.int .i64 ((rd_T74 Za Xo).f1))).trans Zo;replace Zo:=(cell_far (p:=⟨Xc,2,none⟩) (by first|(rw[add_block];exact hn729_2)|(show (Addr.add _ _).block≠_;rw[add_block];exact hn729_2)|exact hn729_2) (.int .i64 ((rd_T74 Za Xo).f2))).trans Zo;replace Zo:=(cell_far (p:=⟨Xc,3,none⟩) (by first|(rw[add_block];exact hn729_3)|(show (Addr.add _ _).block≠_;rw[add_block];exact hn729_3)|exact hn729_3) (.int .i64 ((rd_T74 Za Xo).f3))).trans Zo;(try have hy729_0:=fun(n_:Nat)=>(show ((((((w9.drewN n_).setCell ⟨Xc,0,none⟩ (.int .i64 ((rd_T74 Za Xo).f0))).setCell ⟨Xc,1,none⟩ (.int .i64 ((rd_T74 Za Xo).f1))).setCell ⟨Xc,2,none⟩ (.int .i64 ((rd_T74 Za Xo).f2))).setCell ⟨Xc,3,none⟩ (.int .i64 ((rd_T74 Za Xo).f3)))).cell? _=some _ from Zo));clear hn729_0;clear hn729_1;clear hn729_2;clear hn729_3;replace p729:=eq_true p729;replace q729:=eq_true q729)))
   go_roundg k1
   case measure=>have:=HK1.out;omega
   case rel=>exact⟨(wrap64 (x5_1+(wrap64 ((rd l1 Xo) * ((rd_T74 Za Xo).f3))))),(wrap64 (Xo+1)),(by first|rfl|(simp;done)|(simp[*];done)),(by first|rfl|(simp;done)|(simp[*];done)),H',⟨by have:=HK1.out;omega⟩,⟨by(with_reducible repeat(first|refine Yl ?_ _|refine Ym ?_|refine Yj ?_ _));refine blk_far ?_ Vz.out _;(with_reducible repeat(first|refine Yl ?_ _|refine Ym ?_|refine Yj ?_ _));refine blk_far ?_ Vz.out _;(with_reducible repeat(first|refine Yl ?_ _|refine Ym ?_|refine Yj ?_ _));refine blk_far ?_ Vz.out _;(with_reducible repeat(first|refine Yl ?_ _|refine Ym ?_|refine Yj ?_ _));refine blk_far ?_ Vz.out _;(with_reducible repeat(first|refine Yl ?_ _|refine Ym ?_|refine Yj ?_ _));exact Wg.out⟩,⟨by repeat(first|(with_reducible first|exact HB.out|apply Ye|apply Yd|apply Yg|refine Yh ?_ GE726.out|refine Yh ?_ GE728.out)|exact HB.out)⟩⟩
end P
namespace P
attribute [local go_sem] max2_int min2_int max_two min_two max_three min_three max_four min_four
def static_Flowing_From.f (Zc:Int) (Zb:Bool) (Za:List (S74)) (Zs:List Int) (Zg:Int) (Xt:Bool):Option (Int):=if Xt=true then(if 0≤Zg then(if Zg<(Za.length:Int) then(some ((rd_T74 Za Zg).f1)) else(none)) else(none)) else(if 0≤Zg then(if Zg<(Za.length:Int) then(some ((rd_T74 Za Zg).f0)) else(none)) else(none))
set_option maxHeartbeats 8000000 in
set_option maxRecDepth 100000 in
theorem static_Flowing_From.calls (Zc:Int) (Zb:Bool) (Ze:Option Addr) (Zd:Nat) (Za:List (S74)) (Xq:Option Addr) (Xr:Nat) (Zs:List Int) (Zg:Int) (Xt:Bool) (r:Int) (w:World) (Zq:Kd.C k74 w Ze Za.length Za) (Zr:Za.length≤Zd) (hr0_3:Kd.C (Kd.int .i64) w Xq Zs.length Zs) (hc0_3:Zs.length≤Xr) (h:static_Flowing_From.f Zc Zb Za Zs Zg Xt=some r):
  Calls Try.prog 106 #[.agg #[.int .i64 Zc, .bool Zb, .slice Ze Za.length Zd, .slice Xq Zs.length Xr], .agg #[.int .i64 Zg, .bool Xt]] w fun e w'=>e= .returned (.int .i64 r)∧Below w.heap.size w w':=by
 have hu115:=Try.underlying115
 have hu38:=Try.underlying38
 have Zl:=Ya Zq
 have Xd:=Ya Zr
 clear Zq Zr
 have HR0_3:=Ya hr0_3
 have HC0_3:=Ya hc0_3
 clear hr0_3 hc0_3
 have HB:=Ya (Yo w.heap.size w)
 have H:(if Xt=true then(if 0≤Zg then(if Zg<(Za.length:Int) then(some ((rd_T74 Za Zg).f1)) else(none)) else(none)) else(if 0≤Zg then(if Zg<(Za.length:Int) then(some ((rd_T74 Za Zg).f0)) else(none)) else(none)))=some r:=h
 clear h
 by_cases c3:Xt=true
 ·subst c3
  have H1:(if 0≤Zg then(if Zg<(Za.length:Int) then(some ((rd_T74 Za Zg).f1)) else(none)) else(none))=some r:=by first|(rw[Yx rfl] at H;exact H)|(rw[Yx trivial] at H;exact H)
  clear H
  have H:=H1
  clear H1
  by_cases c4:0≤Zg
  rotate_left
  ·rw[Yy c4] at H
   exact absurd H (by simp)
  rw[Yx c4] at H
  have c4b0:decide (0≤Zg)=true:=Yv c4
  clear c4
  by_cases c5:Zg<(Za.length:Int)
  rotate_left
  ·rw[Yy c5] at H
   exact absurd H (by simp)
  rw[Yx c5] at H
  have c5b0:decide (Zg<(Za.length:Int))=true:=Yv c5
  clear c5
  obtain rfl:=Option.some.inj H
  go_enter Try.func106,Try.ntmps106
  go_wp2_with (first|((with_reducible refine gate_dst (N:=2) rfl ?_);refine Yz ?hg (N:=2) ?hd (cs:= #[.int .i64 Zc, .bool Zb, .slice Ze Za.length Zd, .slice Xq Zs.length Xr]) (t:=115) ?hr ?_;(case hd=>rfl);(case hg=>rfl);(case hr=>first|(go_simp;done)|(go_simp;rfl));intro Vv hg w6 Zf hb;have n0_:=Ya (Yk (by repeat(first|(with_reducible first|exact HB.out|apply Ye|apply Yd|apply Yg)|exact HB.out)) hb);have n1_:=Ya (Zf);have n2_:=Ya ((by rw[hg];exact(Yi (by repeat(first|(with_reducible first|exact HB.out|apply Ye|apply Yd|apply Yg)|exact HB.out))):w.heap.size≤Vv));have n3_:=Ya ((by rw[hg];exact(Yi (by repeat(first|(with_reducible first|exact HB.out|apply Ye|apply Yd|apply Yg)|exact HB.out))):w.heap.size≤Vv));clear HB;have HB:=n0_;have Vc:=n1_;have GW380:=n2_;have GE380:=n3_;clear n0_ n1_ n2_ n3_;clear hb Zf hg)|((with_reducible refine gate_dst (N:=3) rfl ?_);refine Yz ?hg (N:=3) ?hd (cs:= #[.int .i64 Zg, .bool true]) (t:=38) ?hr ?_;(case hd=>rfl);(case hg=>rfl);(case hr=>first|(go_simp;done)|(go_simp;rfl));intro gb381 hg w7 Zf hb;have n0_:=Ya (Yn (g:=Vv) (o:= .cells #[.int .i64 Zc, .bool Zb, .slice Ze Za.length Zd, .slice Xq Zs.length Xr] 115 (0,0)) (by(with_reducible repeat(first|refine Yl ?_ _|refine Ym ?_|refine Yj ?_ _));exact Vc.out) hb);have n1_:=Ya (Yk (by repeat(first|(with_reducible first|exact HB.out|apply Ye|apply Yd|apply Yg|refine Yh ?_ GE380.out)|exact HB.out)) hb);have n2_:=Ya (Zf);have n3_:=Ya ((by rw[hg];exact(Yi (by repeat(first|(with_reducible first|exact HB.out|apply Ye|apply Yd|apply Yg|refine Yh ?_ GE380.out)|exact HB.out))):w.heap.size≤gb381));have n4_:=Ya ((by rw[hg];exact(Yi (by repeat(first|(with_reducible first|exact HB.out|apply Ye|apply Yd|apply Yg|refine Yh ?_ GE380.out)|exact HB.out))):w.heap.size≤gb381));have n5_:=Ya ((by rw[hg];exact Nat.ne_of_lt (blk_lt (g:=Vv) (o:= .cells #[.int .i64 Zc, .bool Zb, .slice Ze Za.length Zd, .slice Xq Zs.length Xr] 115 (0,0)) (by(with_reducible repeat(first|refine Yl ?_ _|refine Ym ?_|refine Yj ?_ _));exact Vc.out)):Vv≠gb381));have n6_:=Ya ((by rw[hg];exact Nat.ne_of_gt (blk_lt (g:=Vv) (o:= .cells #[.int .i64 Zc, .bool Zb, .slice Ze Za.length Zd, .slice Xq Zs.length Xr] 115 (0,0)) (by(with_reducible repeat(first|refine Yl ?_ _|refine Ym ?_|refine Yj ?_ _));exact Vc.out)):gb381≠Vv));clear Vc;clear HB;have Vc:=n0_;have HB:=n1_;have BK381:=n2_;have GW381:=n3_;have GE381:=n4_;have NB380_381:=n5_;have NB381_380:=n6_;clear n0_ n1_ n2_ n3_ n4_ n5_ n6_;clear hb Zf hg;have hnb8:=NB381_380.out;have hnc8:=NB380_381.out;have Jr:w7.cell? ⟨gb381,0,none⟩=some (.int .i64 Zg):=(Yc BK381.out 0).trans rfl;have Js:w7.cell? ⟨gb381,1,none⟩=some (.bool true):=(Yc BK381.out 1).trans rfl;have Jt:=Yf BK381.out 0;have Ju:=Yf BK381.out 1;have Uz:w7.cell? ⟨Vv,0,none⟩=some (.int .i64 Zc):=(Yc Vc.out 0).trans rfl;have Ja:w7.cell? ⟨Vv,1,none⟩=some (.bool Zb):=(Yc Vc.out 1).trans rfl;have Jb:w7.cell? ⟨Vv,2,none⟩=some (.slice Ze Za.length Zd):=(Yc Vc.out 2).trans rfl;have hcz10_3:w7.cell? ⟨Vv,3,none⟩=some (.slice Xq Zs.length Xr):=(Yc Vc.out 3).trans rfl;have Jc:=Yf Vc.out 0;have Jd:=Yf Vc.out 1;have Je:=Yf Vc.out 2;have hfz10_3:=Yf Vc.out 3;have p382:0≤(Zg:Int):=Yu (by first|(with_reducible assumption)|assumption);have q382:Zg<(Za.length:Int):=Yu (by first|(with_reducible assumption)|assumption);obtain⟨ad382,e382,hx382_0,hx382_1,hx382_2,hx382_3⟩:=at_T74 Zl.out Zg p382 q382;cases e382;replace hx382_0:=(HB.out.cell (Yb w _ hx382_0)).trans hx382_0;replace hx382_1:=(HB.out.cell (Yb w _ hx382_1)).trans hx382_1;replace hx382_2:=(HB.out.cell (Yb w _ hx382_2)).trans hx382_2;replace hx382_3:=(HB.out.cell (Yb w _ hx382_3)).trans hx382_3;replace p382:=eq_true p382;replace q382:=eq_true q382))
  go_ret
  exact⟨by first|rfl|(simp[errW_none,errW_some]<;>rfl)|(simp[*,errW_none,errW_some]<;>rfl),by repeat(first|(with_reducible first|exact HB.out|apply Ye|apply Yd|apply Yg|refine Yh ?_ GE380.out|refine Yh ?_ GE381.out)|exact HB.out)⟩
 replace c3:=Bool.eq_false_iff.mpr c3
 subst c3
 have H1:(if 0≤Zg then(if Zg<(Za.length:Int) then(some ((rd_T74 Za Zg).f0)) else(none)) else(none))=some r:=by rw[Yy (show ¬ (false=true) by decide)] at H;exact H
 clear H
 have H:=H1
 clear H1
 by_cases c11:0≤Zg
 rotate_left
 ·rw[Yy c11] at H
  exact absurd H (by simp)
 rw[Yx c11] at H
 have c11b0:decide (0≤Zg)=true:=Yv c11
 clear c11
 by_cases c12:Zg<(Za.length:Int)
 rotate_left
 ·rw[Yy c12] at H
  exact absurd H (by simp)
 rw[Yx c12] at H
 have c12b0:decide (Zg<(Za.length:Int))=true:=Yv c12
 clear c12
 obtain rfl:=Option.some.inj H
 go_enter Try.func106,Try.ntmps106
 go_wp2_with (first|((with_reducible refine gate_dst (N:=2) rfl ?_);refine Yz ?hg (N:=2) ?hd (cs:= #[.int .i64 Zc, .bool Zb, .slice Ze Za.length Zd, .slice Xq Zs.length Xr]) (t:=115) ?hr ?_;(case hd=>rfl);(case hg=>rfl);(case hr=>first|(go_simp;done)|(go_simp;rfl));intro Vv hg w13 Zf hb;have n0_:=Ya (Yk (by repeat(first|(with_reducible first|exact HB.out|apply Ye|apply Yd|apply Yg)|exact HB.out)) hb);have n1_:=Ya (Zf);have n2_:=Ya ((by rw[hg];exact(Yi (by repeat(first|(with_reducible first|exact HB.out|apply Ye|apply Yd|apply Yg)|exact HB.out))):w.heap.size≤Vv));have n3_:=Ya ((by rw[hg];exact(Yi (by repeat(first|(with_reducible first|exact HB.out|apply Ye|apply Yd|apply Yg)|exact HB.out))):w.heap.size≤Vv));clear HB;have HB:=n0_;have Vc:=n1_;have GW380:=n2_;have GE380:=n3_;clear n0_ n1_ n2_ n3_;clear hb Zf hg)|((with_reducible refine gate_dst (N:=3) rfl ?_);refine Yz ?hg (N:=3) ?hd (cs:= #[.int .i64 Zg, .bool false]) (t:=38) ?hr ?_;(case hd=>rfl);(case hg=>rfl);(case hr=>first|(go_simp;done)|(go_simp;rfl));intro gb381 hg w14 Zf hb;have n0_:=Ya (Yn (g:=Vv) (o:= .cells #[.int .i64 Zc, .bool Zb, .slice Ze Za.length Zd, .slice Xq Zs.length Xr] 115 (0,0)) (by(with_reducible repeat(first|refine Yl ?_ _|refine Ym ?_|refine Yj ?_ _));exact Vc.out) hb);have n1_:=Ya (Yk (by repeat(first|(with_reducible first|exact HB.out|apply Ye|apply Yd|apply Yg|refine Yh ?_ GE380.out)|exact HB.out)) hb);have n2_:=Ya (Zf);have n3_:=Ya ((by rw[hg];exact(Yi (by repeat(first|(with_reducible first|exact HB.out|apply Ye|apply Yd|apply Yg|refine Yh ?_ GE380.out)|exact HB.out))):w.heap.size≤gb381));have n4_:=Ya ((by rw[hg];exact(Yi (by repeat(first|(with_reducible first|exact HB.out|apply Ye|apply Yd|apply Yg|refine Yh ?_ GE380.out)|exact HB.out))):w.heap.size≤gb381));have n5_:=Ya ((by rw[hg];exact Nat.ne_of_lt (blk_lt (g:=Vv) (o:= .cells #[.int .i64 Zc, .bool Zb, .slice Ze Za.length Zd, .slice Xq Zs.length Xr] 115 (0,0)) (by(with_reducible repeat(first|refine Yl ?_ _|refine Ym ?_|refine Yj ?_ _));exact Vc.out)):Vv≠gb381));have n6_:=Ya ((by rw[hg];exact Nat.ne_of_gt (blk_lt (g:=Vv) (o:= .cells #[.int .i64 Zc, .bool Zb, .slice Ze Za.length Zd, .slice Xq Zs.length Xr] 115 (0,0)) (by(with_reducible repeat(first|refine Yl ?_ _|refine Ym ?_|refine Yj ?_ _));exact Vc.out)):gb381≠Vv));clear Vc;clear HB;have Vc:=n0_;have HB:=n1_;have BK381:=n2_;have GW381:=n3_;have GE381:=n4_;have NB380_381:=n5_;have NB381_380:=n6_;clear n0_ n1_ n2_ n3_ n4_ n5_ n6_;clear hb Zf hg;have hnb15:=NB381_380.out;have hnc15:=NB380_381.out;have hcz16_0:w14.cell? ⟨gb381,0,none⟩=some (.int .i64 Zg):=(Yc BK381.out 0).trans rfl;have hcz16_1:w14.cell? ⟨gb381,1,none⟩=some (.bool false):=(Yc BK381.out 1).trans rfl;have hfz16_0:=Yf BK381.out 0;have hfz16_1:=Yf BK381.out 1;have Uh:w14.cell? ⟨Vv,0,none⟩=some (.int .i64 Zc):=(Yc Vc.out 0).trans rfl;have Ui:w14.cell? ⟨Vv,1,none⟩=some (.bool Zb):=(Yc Vc.out 1).trans rfl;have Jk:w14.cell? ⟨Vv,2,none⟩=some (.slice Ze Za.length Zd):=(Yc Vc.out 2).trans rfl;have hcz17_3:w14.cell? ⟨Vv,3,none⟩=some (.slice Xq Zs.length Xr):=(Yc Vc.out 3).trans rfl;have Uj:=Yf Vc.out 0;have Uk:=Yf Vc.out 1;have Jl:=Yf Vc.out 2;have hfz17_3:=Yf Vc.out 3;have p383:0≤(Zg:Int):=Yu (by first|(with_reducible assumption)|assumption);have q383:Zg<(Za.length:Int):=Yu (by first|(with_reducible assumption)|assumption);obtain⟨ad383,e383,hx383_0,hx383_1,hx383_2,hx383_3⟩:=at_T74 Zl.out Zg p383 q383;cases e383;replace hx383_0:=(HB.out.cell (Yb w _ hx383_0)).trans hx383_0;replace hx383_1:=(HB.out.cell (Yb w _ hx383_1)).trans hx383_1;replace hx383_2:=(HB.out.cell (Yb w _ hx383_2)).trans hx383_2;replace hx383_3:=(HB.out.cell (Yb w _ hx383_3)).trans hx383_3;replace p383:=eq_true p383;replace q383:=eq_true q383))
 go_ret
 exact⟨by first|rfl|(simp[errW_none,errW_some]<;>rfl)|(simp[*,errW_none,errW_some]<;>rfl),by repeat(first|(with_reducible first|exact HB.out|apply Ye|apply Yd|apply Yg|refine Yh ?_ GE380.out|refine Yh ?_ GE381.out)|exact HB.out)⟩
end P
namespace H
theorem pigeonN (n:Nat): ∀ L:List Nat,L.Nodup→(∀ x,x∈L→x<n)→L.length≤n:=by
 induction n with
 |zero=>
  intro L _ h
  cases L with
  |nil=>simp
  |cons x L=>exact absurd (h x List.mem_cons_self) (Nat.not_lt_zero _)
 |succ n ih=>
  intro L hn h
  by_cases hm:n∈L
  ·have h1:=ih (L.erase n) (hn.erase n) (fun x hx=>by
    have h2:=(hn.mem_erase_iff).1 hx
    have:=h x h2.2
    have:=h2.1
    omega)
   rw[List.length_erase_of_mem hm] at h1
   omega
  ·have:=ih L hn (fun x hx=>by
    have h1:=h x hx
    have:x≠n:=fun e=>hm (e▸hx)
    omega)
   omega
section
variable {α:Type}
structure Fd (α:Type) where
 v:Nat
 by_:α
 lv:Nat
def nodes (st:List (Fd α)):List Nat:=st.map Fd.v
def vis (to_:α→Nat) (lv:Nat) (st:List (Fd α)) (e:α):List (Fd α):=if to_ e∈nodes st then st else st ++ [⟨to_ e,e,lv+1⟩]
def proc (to_:α→Nat) (es:Nat→List α) (st:List (Fd α)) (x:Fd α):List (Fd α):=(es x.v).foldl (vis to_ x.lv) st
def bfs (to_:α→Nat) (es:Nat→List α):Nat→Nat→List (Fd α)→List (Fd α)
 |0,_,st=>st
 |n+1,i,st=>match st[i]? with
  |none=>st
  |some x=>bfs to_ es n (i+1) (proc to_ es st x)
theorem vis_pre (to_:α→Nat) (lv:Nat) (st:List (Fd α)) (e:α): ∃ r,vis to_ lv st e=st ++ r:=by
 unfold vis
 split
 ·exact⟨[],(List.append_nil _).symm⟩
 ·exact⟨_,rfl⟩
theorem fold_pre (to_:α→Nat) (lv:Nat) (l:List α) (st:List (Fd α)): ∃ r,l.foldl (vis to_ lv) st=st ++ r:=by
 induction l generalizing st with
 |nil=>exact⟨[],(List.append_nil _).symm⟩
 |cons e l ih=>
  obtain⟨r,hr⟩:=vis_pre to_ lv st e
  obtain⟨q,hq⟩:=ih (vis to_ lv st e)
  exact⟨r ++ q,by rw[List.foldl_cons,hq,hr,List.append_assoc]⟩
theorem bfs_pre (to_:α→Nat) (es:Nat→List α) (n i:Nat) (st:List (Fd α)): ∃ r,bfs to_ es n i st=st ++ r:=by
 induction n generalizing i st with
 |zero=>exact⟨[],(List.append_nil _).symm⟩
 |succ n ih=>
  unfold bfs
  cases st[i]? with
  |none=>exact⟨[],(List.append_nil _).symm⟩
  |some x=>
   obtain⟨r,hr⟩:=fold_pre to_ x.lv (es x.v) st
   obtain⟨q,hq⟩:=ih (i+1) (proc to_ es st x)
   exact⟨r ++ q,by show bfs to_ es n (i+1) (proc to_ es st x)=_;rw[hq];unfold proc;rw[hr,List.append_assoc]⟩
structure Fds (from_ to_:α→Nat) (es:Nat→List α) (s:Nat) (st:List (Fd α)):Prop where
 nodup:(nodes st).Nodup
 head: ∃ x r,st=x::r∧x.v=s∧x.lv=0
 by_ok: ∀ (j:Nat) (x:Fd α),st[j+1]? =some x→to_ x.by_=x.v∧ ∃ (k:Nat) (y:Fd α),k≤j∧st[k]? =some y∧x.by_∈es y.v∧x.lv=y.lv+1
 up: ∀ (j:Nat) (x y:Fd α),st[j]? =some x→st[j+1]? =some y→x.lv≤y.lv
theorem mem_nodes {st:List (Fd α)} {v:Nat} :v∈nodes st↔ ∃ (j:Nat) (x:Fd α),st[j]? =some x∧x.v=v:=by
 unfold nodes
 rw[List.mem_map]
 constructor
 ·rintro⟨x,hx,rfl⟩
  obtain⟨j,hj⟩:=List.getElem?_of_mem hx
  exact⟨j,x,hj,rfl⟩
 ·rintro⟨j,x,hj,rfl⟩
  exact⟨x,List.mem_of_getElem? hj,rfl⟩
theorem Fds.vis {from_ to_:α→Nat} {es:Nat→List α} {s:Nat} {st:List (Fd α)} (h:Fds from_ to_ es s st) {i:Nat} {x:Fd α} (hx:st[i]? =some x) (hm: ∀ y,y∈st→y.lv≤x.lv+1) {e:α} (he:e∈es x.v):
  Fds from_ to_ es s (vis to_ x.lv st e)∧ ∀ y,y∈H.vis to_ x.lv st e→y.lv≤x.lv+1:=by
 unfold H.vis
 split
 ·exact⟨h,hm⟩
 ·rename_i hn
  have hil:=(List.getElem?_eq_some_iff.1 hx).1
  have hsm: ∀ (j:Nat) (y:Fd α),(st ++ [⟨to_ e,e,x.lv+1⟩])[j]? =some y→(j<st.length∧st[j]? =some y)∨(j=st.length∧y=⟨to_ e,e,x.lv+1⟩):=by
   intro j y hy
   rcases Nat.lt_or_ge j st.length with hj|hj
   ·rw[List.getElem?_append_left hj] at hy;exact .inl ⟨hj,hy⟩
   ·rw[List.getElem?_append_right hj] at hy
    have hj0:j - st.length=0:=by
     have:=(List.getElem?_eq_some_iff.1 hy).1
     simp at this
     omega
    rw[hj0] at hy
    injection hy with hy
    exact .inr ⟨by omega,hy.symm⟩
  refine⟨⟨?_,?_,?_,?_⟩,?_⟩
  ·show (nodes (st ++ [_])).Nodup
   unfold nodes
   rw[List.map_append]
   refine List.nodup_append.2 ⟨h.nodup,by simp,?_⟩
   intro a ha b hb
   simp at hb
   subst hb
   intro e'
   subst e'
   exact hn ha
  ·obtain⟨y,r,hr,h1,h2⟩:=h.head
   exact⟨y,r ++ [_],by rw[hr];rfl,h1,h2⟩
  ·intro j y hy
   rcases hsm _ _ hy with ⟨hj,hy⟩|⟨hj,rfl⟩
   ·obtain⟨h1,k,z,hk,hz,h2,h3⟩:=h.by_ok j y hy
    exact⟨h1,k,z,hk,by rw[List.getElem?_append_left (by omega)];exact hz,h2,h3⟩
   ·exact⟨rfl,i,x,by omega,by rw[List.getElem?_append_left hil];exact hx,he,rfl⟩
  ·intro j y z hy hz
   rcases hsm _ _ hz with ⟨hj,hz⟩|⟨hj,rfl⟩
   ·rw[List.getElem?_append_left (by omega)] at hy
    exact h.up j y z hy hz
   ·rw[List.getElem?_append_left (by omega)] at hy
    exact hm y (List.mem_of_getElem? hy)
  ·intro y hy
   rcases List.mem_append.1 hy with hy|hy
   ·exact hm y hy
   ·rw[List.mem_singleton.1 hy]
    exact Nat.le_refl _
theorem Fds.fold {from_ to_:α→Nat} {es:Nat→List α} {s:Nat} {x:Fd α} (l:List α): ∀ {st:List (Fd α)} (h:Fds from_ to_ es s st) {i:Nat} (hx:st[i]? =some x) (hm: ∀ y,y∈st→y.lv≤x.lv+1) (he: ∀ e,e∈l→e∈es x.v),
  Fds from_ to_ es s (l.foldl (H.vis to_ x.lv) st)∧ ∀ y,y∈l.foldl (H.vis to_ x.lv) st→y.lv≤x.lv+1:=by
 induction l with
 |nil=>intro st h i hx hm he;exact⟨h,hm⟩
 |cons e l ih=>
  intro st h i hx hm he
  obtain⟨h1,h2⟩:=h.vis hx hm (he e List.mem_cons_self)
  obtain⟨r,hr⟩:=vis_pre to_ x.lv st e
  have hx':(H.vis to_ x.lv st e)[i]? =some x:=by rw[hr,List.getElem?_append_left (List.getElem?_eq_some_iff.1 hx).1];exact hx
  exact ih h1 hx' h2 (fun e he'=>he e (List.mem_cons_of_mem _ he'))
theorem fold_mem (to_:α→Nat) (lv:Nat) (l:List α) (st:List (Fd α)) {e:α} (he:e∈l):to_ e∈nodes (l.foldl (vis to_ lv) st):=by
 induction l generalizing st with
 |nil=>cases he
 |cons f l ih=>
  rcases List.mem_cons.1 he with rfl|he
  ·obtain⟨r,hr⟩:=fold_pre to_ lv l (vis to_ lv st e)
   rw[List.foldl_cons,hr]
   have:to_ e∈nodes (vis to_ lv st e):=by
    unfold vis
    split
    ·assumption
    ·unfold nodes;rw[List.map_append];exact List.mem_append_right _ (by simp)
   unfold nodes at this ⊢
   rw[List.map_append]
   exact List.mem_append_left _ this
  ·exact ih _ he
structure Upto (from_ to_:α→Nat) (es:Nat→List α) (s i:Nat) (st:List (Fd α)):Prop where
 fds:Fds from_ to_ es s st
 most: ∀ (x:Fd α),st[i]? =some x→ ∀ y,y∈st→y.lv≤x.lv+1
 seen: ∀ (j:Nat) (x:Fd α),j<i→st[j]? =some x→ ∀ e,e∈es x.v→ ∃ (k:Nat) (y:Fd α),st[k]? =some y∧y.v=to_ e∧y.lv≤x.lv+1
theorem upto_start (from_ to_:α→Nat) (es:Nat→List α) (s:Nat) (e0:α):Upto from_ to_ es s 0 [⟨s,e0,0⟩]:=by
 refine⟨⟨by simp[nodes],⟨_,[],rfl,rfl,rfl⟩,?_,?_⟩,?_,?_⟩
 ·intro j x h;simp at h
 ·intro j x y h1 h2;simp at h2
 ·intro x h y hy
  rw[List.mem_singleton.1 hy]
  exact Nat.zero_le _
 ·intro j x h;exact absurd h (Nat.not_lt_zero _)
theorem Upto.next {from_ to_:α→Nat} {es:Nat→List α} {s i:Nat} {st:List (Fd α)} (h:Upto from_ to_ es s i st) {x:Fd α} (hx:st[i]? =some x):Upto from_ to_ es s (i+1) (proc to_ es st x):=by
 obtain⟨h1,h2⟩:=Fds.fold (es x.v) h.fds hx (h.most x hx) (fun e he=>he)
 obtain⟨r,hr⟩:=fold_pre to_ x.lv (es x.v) st
 have hil:=(List.getElem?_eq_some_iff.1 hx).1
 have hx':(proc to_ es st x)[i]? =some x:=by unfold proc;rw[hr,List.getElem?_append_left hil];exact hx
 refine⟨h1,?_,?_⟩
 ·intro y hy z hz
  have h3:=h1.up i x y hx' hy
  have h4:=h2 z hz
  omega
 ·intro j y hj hy e he
  rcases Nat.lt_or_ge j i with hji|hji
  ·unfold proc at hy ⊢
   rw[hr,List.getElem?_append_left (by omega)] at hy
   obtain⟨k,z,hk,hv,hl⟩:=h.seen j y hji hy e he
   exact⟨k,z,by rw[hr,List.getElem?_append_left (List.getElem?_eq_some_iff.1 hk).1];exact hk,hv,hl⟩
  ·have hji':j=i:=by omega
   subst hji'
   rw[hx'] at hy
   injection hy with hy
   subst hy
   obtain⟨k,z,hk,hv⟩:=mem_nodes.1 (fold_mem to_ x.lv (es x.v) st he)
   exact⟨k,z,hk,hv,h2 z (List.mem_of_getElem? hk)⟩
theorem bfs_done {from_ to_:α→Nat} {es:Nat→List α} {s N:Nat} (hN: ∀ (u:Nat) (e:α),e∈es u→to_ e<N) (hs:s<N) (n:Nat): ∀ (i:Nat) (st:List (Fd α)),Upto from_ to_ es s i st→N≤i+n→Upto from_ to_ es s (bfs to_ es n i st).length (bfs to_ es n i st):=by
 have hlen: ∀ (st:List (Fd α)),Fds from_ to_ es s st→st.length≤N:=by
  intro st h
  have:(nodes st).length≤N:=by
   refine pigeonN N _ h.nodup ?_
   intro v hv
   obtain⟨j,x,hj,rfl⟩:=mem_nodes.1 hv
   cases j with
   |zero=>
    obtain⟨y,r,hr,h1,_⟩:=h.head
    rw[hr] at hj
    injection hj with hj
    rw[← hj,h1]
    exact hs
   |succ j=>
    obtain⟨h1,k,y,_,_,h2,_⟩:=h.by_ok j x hj
    rw[← h1]
    exact hN _ _ h2
  unfold nodes at this
  rw[List.length_map] at this
  exact this
 induction n with
 |zero=>
  intro i st h hi
  have hl:=hlen st h.fds
  show Upto from_ to_ es s st.length st
  exact⟨h.fds,fun x hx=>by have:=(List.getElem?_eq_some_iff.1 hx).1;omega,fun j x hj hx=>h.seen j x (by omega) hx⟩
 |succ n ih=>
  intro i st h hi
  unfold bfs
  cases hx:st[i]? with
  |none=>
   have hl:=List.getElem?_eq_none_iff.1 hx
   show Upto from_ to_ es s st.length st
   exact⟨h.fds,fun x hx=>by have:=(List.getElem?_eq_some_iff.1 hx).1;omega,fun j x hj hx=>h.seen j x (by omega) hx⟩
  |some x=>exact ih (i+1) _ (h.next hx) (by omega)
end
end H
namespace H
section
variable {α:Type}
def fnd (st:List (Fd α)) (v:Nat):Option (Fd α):=st.find? fun x=>x.v == v
theorem fnd_some {st:List (Fd α)} {v:Nat} {x:Fd α} (h:fnd st v=some x):x∈st∧x.v=v:=by
 have h1:=List.find?_some h
 exact⟨List.mem_of_find?_eq_some h,by simpa using h1⟩
theorem fnd_none {st:List (Fd α)} {v:Nat} :fnd st v=none↔v ∉ nodes st:=by
 unfold fnd nodes
 rw[List.find?_eq_none]
 constructor
 ·intro h hm
  obtain⟨x,hx,rfl⟩:=List.mem_map.1 hm
  exact h x hx (by simp)
 ·intro h x hx e
  exact h (List.mem_map.2 ⟨x,hx,by simpa using e⟩)
theorem nodup_inj {st:List (Fd α)} (h:(nodes st).Nodup) {x y:Fd α} (hx:x∈st) (hy:y∈st) (e:x.v=y.v):x=y:=by
 induction st with
 |nil=>cases hx
 |cons z st ih=>
  have h':z.v ∉ nodes st∧(nodes st).Nodup:=List.nodup_cons.1 h
  rcases List.mem_cons.1 hx with h1|h1<;>rcases List.mem_cons.1 hy with h2|h2
  ·rw[h1,h2]
  ·exact(h'.1 (List.mem_map.2 ⟨y,h2,by rw[← e,h1]⟩)).elim
  ·exact(h'.1 (List.mem_map.2 ⟨x,h1,by rw[e,h2]⟩)).elim
  ·exact ih h'.2 h1 h2
theorem fnd_of {st:List (Fd α)} (h:(nodes st).Nodup) {x:Fd α} (hx:x∈st):fnd st x.v=some x:=by
 cases hf:fnd st x.v with
 |none=>exact absurd (List.mem_map.2 ⟨x,hx,rfl⟩) (fnd_none.1 hf)
 |some y=>
  obtain⟨h1,h2⟩:=fnd_some hf
  rw[nodup_inj h h1 hx h2]
theorem nodes_app (st r:List (Fd α)):nodes (st ++ r)=nodes st ++ nodes r:=List.map_append
def backL (fr:α→Nat) (st:List (Fd α)) (s:Nat):Nat→Nat→List α
 |0,_=>[]
 |k+1,v=>if v=s then [] else match fnd st v with
  |none=>[]
  |some x=>x.by_::backL fr st s k (fr x.by_)
def Leads (to_:α→Nat) (es:Nat→List α):Nat→List α→Nat→Prop
 |u,[],t=>u=t
 |u,e::L,t=>e∈es u∧Leads to_ es (to_ e) L t
theorem Leads.snoc {to_:α→Nat} {es:Nat→List α} {L:List α} {e:α} : ∀ {u v:Nat},Leads to_ es u L v→e∈es v→Leads to_ es u (L ++ [e]) (to_ e):=by
 induction L with
 |nil=>intro u v h he;cases h;exact⟨he,rfl⟩
 |cons f L ih=>intro u v h he;exact⟨h.1,ih h.2 he⟩
theorem Fds.mem_lv {fr to_:α→Nat} {es:Nat→List α} {s:Nat} {st:List (Fd α)} (h:Fds fr to_ es s st) {x:Fd α} (hx:x∈st):
  (x.v=s∧x.lv=0)∨(x.v≠s∧to_ x.by_=x.v∧ ∃ y,y∈st∧x.by_∈es y.v∧x.lv=y.lv+1):=by
 obtain⟨j,hj⟩:=List.getElem?_of_mem hx
 obtain⟨z,r,hr,h1,h2⟩:=h.head
 have hz:z∈st:=by rw[hr];exact List.mem_cons_self
 cases j with
 |zero=>
  rw[hr] at hj
  injection hj with hj
  rw[← hj]
  exact .inl ⟨h1,h2⟩
 |succ j=>
  obtain⟨h3,k,y,_,hy,h4,h5⟩:=h.by_ok j x hj
  refine .inr ⟨?_,h3,y,List.mem_of_getElem? hy,h4,h5⟩
  intro e
  have:=nodup_inj h.nodup hx hz (by rw[e,h1])
  rw[this,h2] at h5
  omega
theorem lv_lt {fr to_:α→Nat} {es:Nat→List α} {s:Nat} {st:List (Fd α)} (h:Fds fr to_ es s st) {x:Fd α} (hx:x∈st):x.lv<st.length:=by
 obtain⟨z,r,hr,h1,h2⟩:=h.head
 have aux: ∀ (j:Nat) (y:Fd α),st[j]? =some y→y.lv≤j:=by
  intro j
  induction j using Nat.strongRecOn with
  |_ j ih=>
   intro y hy
   cases j with
   |zero=>
    rw[hr] at hy
    injection hy with hy
    rw[← hy,h2]
    exact Nat.le_refl _
   |succ j=>
    obtain⟨_,k,w,hk,hw,_,h5⟩:=h.by_ok j y hy
    have:=ih k (by omega) w hw
    omega
 obtain⟨j,hj⟩:=List.getElem?_of_mem hx
 have:=aux j x hj
 have:=(List.getElem?_eq_some_iff.1 hj).1
 omega
theorem backL_spec {fr to_:α→Nat} {es:Nat→List α} {s:Nat} {st:List (Fd α)} (h:Fds fr to_ es s st) (hes: ∀ u e,e∈es u→fr e=u) (k:Nat): ∀ {x:Fd α},x∈st→x.lv≤k→
  (backL fr st s k x.v).length=x.lv∧Leads to_ es s (backL fr st s k x.v).reverse x.v:=by
 induction k with
 |zero=>
  intro x hx hk
  rcases h.mem_lv hx with ⟨h1,h2⟩|⟨_,_,y,_,_,h5⟩
  ·exact⟨by rw[h2];rfl,h1.symm⟩
  ·omega
 |succ k ih=>
  intro x hx hk
  unfold backL
  rcases h.mem_lv hx with ⟨h1,h2⟩|⟨h1,h3,y,hy,h4,h5⟩
  ·rw[Yx h1,h2]
   exact⟨rfl,h1.symm⟩
  ·rw[Yy h1,fnd_of h.nodup hx]
   show (_::_).length=_∧Leads to_ es s (_::_).reverse _
   rw[hes _ _ h4]
   obtain⟨i1,i2⟩:=ih hy (by omega)
   refine⟨by rw[List.length_cons,i1,h5],?_⟩
   rw[List.reverse_cons, ← h3]
   exact i2.snoc h4
theorem backL_lv {fr to_:α→Nat} {es:Nat→List α} {s:Nat} {st:List (Fd α)} (h:Fds fr to_ es s st) (hes: ∀ u e,e∈es u→fr e=u) (k:Nat): ∀ {x:Fd α},x∈st→ ∀ e,e∈backL fr st s k x.v→
  ∃ y z,y∈st∧z∈st∧y.v=to_ e∧z.v=fr e∧y.lv=z.lv+1∧e∈es z.v:=by
 induction k with
 |zero=>intro x hx e he;cases he
 |succ k ih=>
  intro x hx e he
  unfold backL at he
  rcases h.mem_lv hx with ⟨h1,h2⟩|⟨h1,h3,y,hy,h4,h5⟩
  ·rw[Yx h1] at he;cases he
  ·rw[Yy h1,fnd_of h.nodup hx] at he
   rcases List.mem_cons.1 he with rfl|he
   ·exact⟨x,y,hx,hy,h3.symm,(hes _ _ h4).symm,h5,h4⟩
   ·rw[hes _ _ h4] at he
    exact ih hy e he
def dOf (n:Nat) (st:List (Fd α)):List Int:=(List.range n).map fun v=>match fnd st v with
 |some x=>(x.lv:Int)
 |none=> -1
def bOf (z:α) (n:Nat) (st:List (Fd α)):List α:=(List.range n).map fun v=>match fnd st v with
 |some x=>x.by_
 |none=>z
theorem dOf_len (n:Nat) (st:List (Fd α)):(dOf n st).length=n:=by simp[dOf]
theorem bOf_len (z:α) (n:Nat) (st:List (Fd α)):(bOf z n st).length=n:=by simp[bOf]
theorem dOf_get {n v:Nat} (st:List (Fd α)) (d:Int) (hv:v<n):(dOf n st).getD v d=match fnd st v with
  |some x=>(x.lv:Int)
  |none=> -1:=by
 unfold dOf
 rw[List.getD_eq_getElem?_getD,List.getElem?_map,List.getElem?_range hv]
 rfl
theorem dOf_neg {n v:Nat} (st:List (Fd α)) (d:Int) (hv:v<n):(dOf n st).getD v d<0↔v ∉ nodes st:=by
 rw[dOf_get st d hv, ← fnd_none]
 cases fnd st v with
 |none=>simp
 |some x=>simp
theorem dOf_mem {n:Nat} {st:List (Fd α)} (h:(nodes st).Nodup) {x:Fd α} (hx:x∈st) (d:Int) (hv:x.v<n):(dOf n st).getD x.v d=x.lv:=by
 rw[dOf_get st d hv,fnd_of h hx]
theorem set_map_range {β:Type} (n w:Nat) (f:Nat→β) (b:β):((List.range n).map f).set w b=(List.range n).map fun v=>if v=w then b else f v:=by
 apply List.ext_getElem?
 intro i
 rw[List.getElem?_set]
 simp only[List.length_map,List.length_range,List.getElem?_map]
 by_cases e:w=i
 ·subst e
  by_cases hw:w<n
  ·rw[Yx rfl,Yx hw,List.getElem?_range hw]
   simp
  ·rw[Yx rfl,Yy hw,List.getElem?_eq_none (by simp;omega)]
   rfl
 ·rw[Yy e]
  by_cases hi:i<n
  ·rw[List.getElem?_range hi]
   simp[Ne.symm e]
  ·rw[List.getElem?_eq_none (by simp;omega)]
   rfl
theorem dOf_snoc (n:Nat) {st:List (Fd α)} {x:Fd α} (h:x.v ∉ nodes st):dOf n (st ++ [x])=(dOf n st).set x.v (x.lv:Int):=by
 unfold dOf
 rw[set_map_range]
 apply List.map_congr_left
 intro v hv
 by_cases e:v=x.v
 ·subst e
  rw[Yx rfl]
  have h1:=fnd_none.2 h
  unfold fnd at h1 ⊢
  rw[List.find?_append,h1]
  simp
 ·rw[Yy e]
  unfold fnd
  rw[List.find?_append]
  cases hf:st.find? (fun y=>y.v == v) with
  |some y=>rfl
  |none=>simp[Ne.symm e]
theorem bOf_snoc (z:α) (n:Nat) {st:List (Fd α)} {x:Fd α} (h:x.v ∉ nodes st):bOf z n (st ++ [x])=(bOf z n st).set x.v x.by_:=by
 unfold bOf
 rw[set_map_range]
 apply List.map_congr_left
 intro v hv
 by_cases e:v=x.v
 ·subst e
  rw[Yx rfl]
  have h1:=fnd_none.2 h
  unfold fnd at h1 ⊢
  rw[List.find?_append,h1]
  simp
 ·rw[Yy e]
  unfold fnd
  rw[List.find?_append]
  cases hf:st.find? (fun y=>y.v == v) with
  |some y=>rfl
  |none=>simp[Ne.symm e]
theorem dOf_one (n s:Nat) (z:α):dOf n [⟨s,z,0⟩]=(List.replicate n (-1:Int)).set s 0:=by
 have h1:(List.replicate n (-1:Int))=dOf n ([]:List (Fd α)):=by
  unfold dOf
  apply List.ext_getElem (by simp)
  intro i h1 h2
  simp[fnd]
 rw[h1,show ([⟨s,z,0⟩]:List (Fd α))=[] ++ [⟨s,z,0⟩] from rfl,dOf_snoc n (by simp[nodes])]
 rfl
theorem bOf_one (n s:Nat) (z:α):bOf z n [⟨s,z,0⟩]=List.replicate n z:=by
 unfold bOf
 apply List.ext_getElem (by simp)
 intro i h1 h2
 simp only[List.getElem_map,List.getElem_range,List.getElem_replicate]
 unfold fnd
 rw[List.find?_cons]
 cases (s == i)<;>rfl
def bfsN (to_:α→Nat) (es:Nat→List α) (z:α) (n s:Nat):List (Fd α):=bfs to_ es n 0 [⟨s,z,0⟩]
theorem bfsN_upto {fr to_:α→Nat} {es:Nat→List α} {z:α} {n s:Nat} (hN: ∀ (u:Nat) (e:α),e∈es u→to_ e<n) (hs:s<n):Upto fr to_ es s (bfsN to_ es z n s).length (bfsN to_ es z n s):=
 bfs_done hN hs n 0 _ (upto_start fr to_ es s z) (by omega)
theorem bfsN_closed {to_:α→Nat} {es:Nat→List α} {z:α} {n s:Nat} (hN: ∀ (u:Nat) (e:α),e∈es u→to_ e<n) (hs:s<n) {x:Fd α} (hx:x∈bfsN to_ es z n s) {e:α} (he:e∈es x.v):
  ∃ y,y∈bfsN to_ es z n s∧y.v=to_ e∧y.lv≤x.lv+1:=by
 obtain⟨j,hj⟩:=List.getElem?_of_mem hx
 obtain⟨k,y,hk,h1,h2⟩:=(bfsN_upto (fr:=fun _=>0) (z:=z) hN hs).seen j x (List.getElem?_eq_some_iff.1 hj).1 hj e he
 exact⟨y,List.mem_of_getElem? hk,h1,h2⟩
theorem fds_lt {fr to_:α→Nat} {es:Nat→List α} {n s:Nat} {st:List (Fd α)} (h:Fds fr to_ es s st) (hN: ∀ (u:Nat) (e:α),e∈es u→to_ e<n) (hs:s<n): ∀ v,v∈nodes st→v<n:=by
 intro v hv
 obtain⟨x,hx,rfl⟩:=List.mem_map.1 hv
 rcases h.mem_lv hx with ⟨h1,_⟩|⟨_,h3,y,_,h4,_⟩
 ·rw[h1];exact hs
 ·rw[← h3];exact hN _ _ h4
theorem fds_len {fr to_:α→Nat} {es:Nat→List α} {n s:Nat} {st:List (Fd α)} (h:Fds fr to_ es s st) (hN: ∀ (u:Nat) (e:α),e∈es u→to_ e<n) (hs:s<n):st.length≤n:=by
 have:=pigeonN n (nodes st) h.nodup (fds_lt h hN hs)
 unfold nodes at this
 rwa [List.length_map] at this
end
end H
namespace H
section
variable {α:Type}
structure Net_ (α:Type) where
 rows:Nat→List α
 to_:α→Nat
 fr:α→Nat
 D:Nat→Int
 ok:α→Bool
def Net_.adm (g:Net_ α) (u:Nat) (e:α):Bool:=decide (g.D (g.to_ e)=g.D u+1) && g.ok e
def scanG (p:α→Bool):List α→Nat→Option (Nat × α)
 |[],_=>none
 |e::r,j=>if p e then some (j,e) else scanG p r (j+1)
theorem scanG_some {p:α→Bool} : ∀ {r:List α} {i j:Nat} {e:α},scanG p r i=some (j,e)→i≤j∧r[j - i]? =some e∧p e=true∧ ∀ q,q<j - i→ ∀ x,r[q]? =some x→p x=false
 |[],_,_,_,h=>by cases h
 |x::r,i,j,e,h=>by
  unfold scanG at h
  by_cases hp:p x=true
  ·rw[Yx hp] at h
   injection h with h
   injection h with h1 h2
   subst h1
   subst h2
   exact⟨Nat.le_refl _,by simp,hp,fun q hq=>by omega⟩
  ·rw[Yy hp] at h
   obtain⟨h1,h2,h3,h4⟩:=scanG_some h
   refine⟨by omega,?_,h3,fun q hq y hy=> ?_⟩
   ·rw[show j - i=(j - (i+1))+1 by omega,List.getElem?_cons_succ]
    exact h2
   ·cases q with
    |zero=>simp at hy;rw[← hy];simpa using hp
    |succ q=>rw[List.getElem?_cons_succ] at hy;exact h4 q (by omega) y hy
theorem scanG_none {p:α→Bool} : ∀ {r:List α} {i:Nat},scanG p r i=none→ ∀ x,x∈r→p x=false
 |[],_,_,x,hx=>by cases hx
 |y::r,i,h,x,hx=>by
  unfold scanG at h
  by_cases hp:p y=true
  ·rw[Yx hp] at h;cases h
  ·rw[Yy hp] at h
   rcases List.mem_cons.1 hx with rfl|hx
   ·simpa using hp
   ·exact scanG_none h x hx
def downG (g:Net_ α) (s t:Nat):Nat→Nat→List α→List Nat→Option (List α) × List Nat
 |0,_,_,nx=>(none,nx)
 |k+1,v,way,nx=>
  if v=t then(some way,nx) else
  match scanG (g.adm v) ((g.rows v).drop (nx.getD v 0)) (nx.getD v 0) with
  |some (j,e)=>downG g s t k (g.to_ e) (way ++ [e]) (nx.set v j)
  |none=>if v=s then(none,nx.set v (g.rows v).length) else match way.getLast? with
   |none=>(none,nx)
   |some e=>downG g s t k (g.fr e) way.dropLast ((nx.set v (g.rows v).length).set (g.fr e) ((nx.set v (g.rows v).length).getD (g.fr e) 0+1))
def remG (g:Net_ α) (nx:List Nat):Nat→Nat
 |0=>0
 |n+1=>remG g nx n+((g.rows n).length - nx.getD n 0)
theorem remG_set (g:Net_ α) (nx:List Nat) (v j:Nat) (hv:v<nx.length) (h1:nx.getD v 0≤j) (h2:j≤(g.rows v).length) (n:Nat):remG g (nx.set v j) n+(if v<n then j - nx.getD v 0 else 0)=remG g nx n:=by
 induction n with
 |zero=>simp[remG]
 |succ n ih=>
  unfold remG
  by_cases e:v=n
  ·subst e
   have e1:(nx.set v j).getD v 0=j:=by rw[List.getD_eq_getElem?_getD,List.getElem?_set_self hv];rfl
   rw[e1,Yx (by omega)]
   rw[Yy (by omega)] at ih
   omega
  ·have e1:(nx.set v j).getD n 0=nx.getD n 0:=by rw[List.getD_eq_getElem?_getD,List.getElem?_set_ne e, ← List.getD_eq_getElem?_getD]
   rw[e1]
   by_cases h:v<n
   ·rw[Yx h] at ih;rw[Yx (by omega)];omega
   ·rw[Yy h] at ih;rw[Yy (by omega)];omega
structure DInv (g:Net_ α) (s n v:Nat) (way:List α) (nx:List Nat):Prop where
 vn:v<n
 len:nx.length=n
 le: ∀ u,u<n→nx.getD u 0≤(g.rows u).length
 trail:Leads g.to_ g.rows s way v
 adm: ∀ e,e∈way→g.adm (g.fr e) e=true
 at_: ∀ e,e∈way→(g.rows (g.fr e))[nx.getD (g.fr e) 0]? =some e
structure Net_.Fine (g:Net_ α) (s n:Nat):Prop where
 hfr: ∀ u e,e∈g.rows u→g.fr e=u
 hto: ∀ u e,e∈g.rows u→g.to_ e<n
 sn:s<n
 hs:g.D s=0
 hD: ∀ v,v<n→g.D v<n
theorem adm_lv {g:Net_ α} {u:Nat} {e:α} (h:g.adm u e=true):g.D (g.to_ e)=g.D u+1∧g.ok e=true:=by
 unfold Net_.adm at h
 rw[Bool.and_eq_true,decide_eq_true_eq] at h
 exact h
theorem leads_lv {g:Net_ α} (hfr: ∀ u e,e∈g.rows u→g.fr e=u): ∀ {way:List α} {s v:Nat},Leads g.to_ g.rows s way v→(∀ e,e∈way→g.adm (g.fr e) e=true)→g.D s≤g.D v∧ ∀ e,e∈way→g.D s≤g.D (g.fr e)∧g.D (g.fr e)<g.D v
 |[],s,v,h,_=>by cases h;exact⟨Int.le_refl _,fun e he=>by cases he⟩
 |x::way,s,v,h,ha=>by
  have hx:=adm_lv (ha x List.mem_cons_self)
  rw[hfr _ _ h.1] at hx
  obtain⟨h1,h2⟩:=leads_lv hfr h.2 (fun e he=>ha e (List.mem_cons_of_mem _ he))
  refine⟨by omega,fun e he=> ?_⟩
  rcases List.mem_cons.1 he with rfl|he
  ·rw[hfr _ _ h.1];omega
  ·have:=h2 e he;omega
theorem leads_last {to_:α→Nat} {es:Nat→List α} : ∀ {way:List α} {s v:Nat} {e:α},Leads to_ es s way v→way.getLast? =some e→ ∃ u,Leads to_ es s way.dropLast u∧e∈es u∧to_ e=v
 |[],_,_,_,_,h=>by simp at h
 |[x],s,v,e,h,hl=>by
  simp at hl
  subst hl
  exact⟨s,rfl,h.1,h.2⟩
 |x::y::way,s,v,e,h,hl=>by
  obtain⟨u,h1,h2,h3⟩:=leads_last h.2 (by simpa using hl)
  exact⟨u,⟨h.1,h1⟩,h2,h3⟩
theorem dropLast_mem {way:List α} {e:α} (h:e∈way.dropLast):e∈way:=List.dropLast_subset _ h
def Useless (g:Net_ α) (t n:Nat) (nx:List Nat) (w:Nat):Prop:=w≠t∧w<n∧nx.getD w 0=(g.rows w).length
def Dead (g:Net_ α) (t n:Nat) (nx:List Nat):Prop:= ∀ u,u<n→ ∀ j,j<nx.getD u 0→ ∀ e,(g.rows u)[j]? =some e→g.adm u e=true→Useless g t n nx (g.to_ e)
theorem getD_setN (nx:List Nat) (v j u:Nat) (hv:v<nx.length):(nx.set v j).getD u 0=if u=v then j else nx.getD u 0:=by
 by_cases e:u=v
 ·subst e
  rw[Yx rfl,List.getD_eq_getElem?_getD,List.getElem?_set_self hv];rfl
 ·rw[Yy e,List.getD_eq_getElem?_getD,List.getElem?_set_ne (Ne.symm e), ← List.getD_eq_getElem?_getD]
theorem DInv.go {g:Net_ α} {s n v:Nat} {way:List α} {nx:List Nat} (hg:g.Fine s n) (h:DInv g s n v way nx) {j:Nat} {e:α} (hj:nx.getD v 0≤j) (he:(g.rows v)[j]? =some e) (ha:g.adm v e=true):
  DInv g s n (g.to_ e) (way ++ [e]) (nx.set v j):=by
 have hm:e∈g.rows v:=List.mem_of_getElem? he
 have hv:=h.vn
 have hl:=h.len
 have hjl:=(List.getElem?_eq_some_iff.1 he).1
 have hlv:=(leads_lv hg.hfr h.trail h.adm).2
 refine⟨hg.hto _ _ hm,by rw[List.length_set];exact hl,fun u hu=> ?_,h.trail.snoc hm,fun x hx=> ?_,fun x hx=> ?_⟩
 ·rw[getD_setN _ _ _ _ (by omega)]
  split
  ·rename_i eu;subst eu;omega
  ·exact h.le u hu
 ·rcases List.mem_append.1 hx with hx|hx
  ·exact h.adm x hx
  ·rw[List.mem_singleton.1 hx,hg.hfr _ _ hm];exact ha
 ·rw[getD_setN _ _ _ _ (by omega)]
  rcases List.mem_append.1 hx with hx|hx
  ·have:=hlv x hx
   rw[Yy (fun e=>by rw[e] at this;omega)]
   exact h.at_ x hx
  ·rw[List.mem_singleton.1 hx,hg.hfr _ _ hm,Yx rfl];exact he
theorem DInv.back {g:Net_ α} {s n v:Nat} {way:List α} {nx:List Nat} (hg:g.Fine s n) (h:DInv g s n v way nx) {e:α} (hl:way.getLast? =some e):
  DInv g s n (g.fr e) way.dropLast ((nx.set v (g.rows v).length).set (g.fr e) ((nx.set v (g.rows v).length).getD (g.fr e) 0+1))∧g.fr e≠v∧g.to_ e=v∧g.D v=g.D (g.fr e)+1∧g.fr e<n∧e∈way:=by
 obtain⟨u,h1,h2,h3⟩:=leads_last h.trail hl
 have hm:e∈way:=List.mem_of_getLast? hl
 have eu:=hg.hfr _ _ h2
 subst eu
 have ha:=adm_lv (h.adm e hm)
 rw[h3] at ha
 have hlen:=h.len
 have hv:=h.vn
 have hne:g.fr e≠v:=fun e'=>by rw[e'] at ha;omega
 have hat:=h.at_ e hm
 have hat2:=(List.getElem?_eq_some_iff.1 hat).1
 have hun:g.fr e<n:=by
  cases hd:way.dropLast with
  |nil=>
   rw[hd] at h1
   have:s=g.fr e:=h1
   rw[← this]
   exact hg.sn
  |cons x r=>
   obtain⟨w,q1,q2,q3⟩:=leads_last h1 (e:=(way.dropLast.getLast?).getD x) (by rw[hd];simp[List.getLast?_cons])
   rw[← q3]
   exact hg.hto _ _ q2
 have hlv:=(leads_lv hg.hfr h1 (fun x hx=>h.adm x (dropLast_mem hx))).2
 refine⟨⟨hun,by rw[List.length_set,List.length_set];exact hlen,fun w hw=> ?_,h1,fun x hx=>h.adm x (dropLast_mem hx),fun x hx=> ?_⟩,hne,h3,ha.1,hun,hm⟩
 ·rw[getD_setN _ _ _ _ (by rw[List.length_set];omega),getD_setN _ _ _ _ (by omega),getD_setN _ _ _ _ (by omega),Yy hne]
  split
  ·rename_i ew;subst ew;omega
  ·split
   ·rename_i ew;subst ew;exact Nat.le_refl _
   ·exact h.le w hw
 ·have hx1:=hlv x hx
  have hx2:=(leads_lv hg.hfr h.trail h.adm).2 x (dropLast_mem hx)
  rw[getD_setN _ _ _ _ (by rw[List.length_set];omega),Yy (fun e'=>by rw[e'] at hx1;omega),getD_setN _ _ _ _ (by omega),Yy (fun e'=>by rw[e'] at hx2;omega)]
  exact h.at_ x (dropLast_mem hx)
def downM (g:Net_ α) (n v:Nat) (nx:List Nat):Nat:=remG g nx n * (n+1)+(n - (g.D v).toNat)
theorem downM_go {g:Net_ α} {s n v:Nat} {way:List α} {nx:List Nat} (hg:g.Fine s n) (h:DInv g s n v way nx) {j:Nat} {e:α} (hj:nx.getD v 0≤j) (he:(g.rows v)[j]? =some e) (ha:g.adm v e=true):
  downM g n (g.to_ e) (nx.set v j)<downM g n v nx:=by
 have hm:e∈g.rows v:=List.mem_of_getElem? he
 have hjl:=(List.getElem?_eq_some_iff.1 he).1
 have hv:=h.vn
 have hl:=h.len
 have h1:=remG_set g nx v j (by omega) hj (by omega) n
 have h2:remG g (nx.set v j) n * (n+1)≤remG g nx n * (n+1):=Nat.mul_le_mul_right _ (by omega)
 have h3:=(adm_lv ha).1
 have h4:=hg.hD _ (hg.hto _ _ hm)
 have h5:=(leads_lv hg.hfr h.trail h.adm).1
 have h6:=hg.hs
 unfold downM
 omega
theorem downM_back {g:Net_ α} {s n v:Nat} {way:List α} {nx:List Nat} (hg:g.Fine s n) (h:DInv g s n v way nx) {e:α} (hl:way.getLast? =some e):
  downM g n (g.fr e) ((nx.set v (g.rows v).length).set (g.fr e) ((nx.set v (g.rows v).length).getD (g.fr e) 0+1))<downM g n v nx:=by
 obtain⟨_,hne,h3,hD,hun,hm⟩:=h.back hg hl
 have hv:=h.vn
 have hlen:=h.len
 have hat2:=(List.getElem?_eq_some_iff.1 (h.at_ e hm)).1
 have e1:(nx.set v (g.rows v).length).getD (g.fr e) 0=nx.getD (g.fr e) 0:=by rw[getD_setN _ _ _ _ (by omega),Yy hne]
 have h1:=remG_set g nx v (g.rows v).length (by omega) (h.le v hv) (Nat.le_refl _) n
 have h2:=remG_set g (nx.set v (g.rows v).length) (g.fr e) (nx.getD (g.fr e) 0+1) (by rw[List.length_set];omega) (by rw[e1];omega) (by omega) n
 rw[Yx hun,e1] at h2
 rw[e1]
 have h4:remG g ((nx.set v (g.rows v).length).set (g.fr e) (nx.getD (g.fr e) 0+1)) n+1≤remG g nx n:=by omega
 have h5:=Nat.mul_le_mul_right (n+1) h4
 rw[Nat.add_mul,Nat.one_mul] at h5
 have h6:=(leads_lv hg.hfr h.trail h.adm).2 e hm
 have h7:=hg.hs
 have h8:=hg.hD v hv
 unfold downM
 omega
structure Found (g:Net_ α) (s t n:Nat) (r:Option (List α) × List Nat):Prop where
 len:r.2.length=n
 le: ∀ u,u<n→r.2.getD u 0≤(g.rows u).length
 way: ∀ L,r.1=some L→Leads g.to_ g.rows s L t∧ ∀ e,e∈L→g.adm (g.fr e) e=true
 none_:r.1=none→r.2.getD s 0=(g.rows s).length
theorem drop_head {r:List α} {i j:Nat} (h:i≤j):(r.drop i)[j - i]? =r[j]? :=by
 rw[List.getElem?_drop];congr 1;omega
theorem downG_found {g:Net_ α} {s t n:Nat} (hg:g.Fine s n) (k:Nat): ∀ {v:Nat} {way:List α} {nx:List Nat},DInv g s n v way nx→downM g n v nx<k→Found g s t n (downG g s t k v way nx):=by
 induction k with
 |zero=>intro v way nx h hk;omega
 |succ k ih=>
  intro v way nx h hk
  unfold downG
  by_cases hvt:v=t
  ·rw[Yx hvt]
   exact⟨h.len,h.le,fun L hL=>by injection hL with hL;subst hL;exact⟨hvt▸h.trail,h.adm⟩,fun e=>by cases e⟩
  ·rw[Yy hvt]
   cases hs:scanG (g.adm v) ((g.rows v).drop (nx.getD v 0)) (nx.getD v 0) with
   |some p=>
    obtain⟨j,e⟩:=p
    obtain⟨h1,h2,h3,_⟩:=scanG_some hs
    rw[drop_head h1] at h2
    have:=downM_go hg h h1 h2 h3
    exact ih (h.go hg h1 h2 h3) (by omega)
   |none=>
    have hv:=h.vn
    have hl:=h.len
    by_cases hvs:v=s
    ·show Found g s t n (if v=s then _ else _)
     rw[Yx hvs]
     refine⟨by rw[List.length_set];exact h.len,fun u hu=> ?_,fun L hL=>(by cases hL),fun _=> ?_⟩
     ·show (nx.set v _).getD u 0≤_
      rw[getD_setN _ _ _ _ (by omega)]
      split
      ·rename_i e;subst e;exact Nat.le_refl _
      ·exact h.le u hu
     ·show (nx.set v _).getD s 0=_
      rw[getD_setN _ _ _ _ (by omega),Yx hvs.symm,hvs]
    ·show Found g s t n (if v=s then _ else _)
     rw[Yy hvs]
     cases hw:way.getLast? with
     |none=>
      rw[List.getLast?_eq_none_iff] at hw
      subst hw
      exact absurd h.trail.symm hvs
     |some e=>
      have:=downM_back hg h hw
      exact ih (h.back hg hw).1 (by omega)
theorem downG_dead {g:Net_ α} {s t n:Nat} (hg:g.Fine s n) (k:Nat): ∀ {v:Nat} {way:List α} {nx:List Nat},DInv g s n v way nx→downM g n v nx<k→Dead g t n nx→Dead g t n (downG g s t k v way nx).2:=by
 induction k with
 |zero=>intro v way nx h hk;omega
 |succ k ih=>
  intro v way nx h hk hd
  unfold downG
  by_cases hvt:v=t
  ·rw[Yx hvt];exact hd
  ·rw[Yy hvt]
   have hv:=h.vn
   have hl:=h.len
   cases hs:scanG (g.adm v) ((g.rows v).drop (nx.getD v 0)) (nx.getD v 0) with
   |some p=>
    obtain⟨j,e⟩:=p
    obtain⟨h1,h2,h3,h4⟩:=scanG_some hs
    rw[drop_head h1] at h2
    have hjl:=(List.getElem?_eq_some_iff.1 h2).1
    have:=downM_go hg h h1 h2 h3
    refine ih (h.go hg h1 h2 h3) (by omega) ?_
    have hu: ∀ w,Useless g t n nx w→Useless g t n (nx.set v j) w:=by
     rintro w ⟨a,b,c⟩
     refine⟨a,b,?_⟩
     rw[getD_setN _ _ _ _ (by omega)]
     split
     ·rename_i ew;subst ew;omega
     ·exact c
    intro u hu2 q hq x hx hax
    rw[getD_setN _ _ _ _ (by omega)] at hq
    by_cases ev:u=v
    ·subst ev
     rw[Yx rfl] at hq
     by_cases hq2:q<nx.getD u 0
     ·exact hu _ (hd u hu2 q hq2 x hx hax)
     ·exfalso
      have:=h4 (q - nx.getD u 0) (by omega) x (by rw[drop_head (by omega)];exact hx)
      rw[this] at hax;cases hax
    ·rw[Yy ev] at hq
     exact hu _ (hd u hu2 q hq x hx hax)
   |none=>
    have hsn:=scanG_none hs
    have hd1:Dead g t n (nx.set v (g.rows v).length)∧Useless g t n (nx.set v (g.rows v).length) v:=by
     have hu: ∀ w,Useless g t n nx w→Useless g t n (nx.set v (g.rows v).length) w:=by
      rintro w ⟨a,b,c⟩
      refine⟨a,b,?_⟩
      rw[getD_setN _ _ _ _ (by omega)]
      split
      ·rename_i ew;subst ew;rfl
      ·exact c
     refine⟨fun u hu2 q hq x hx hax=> ?_,hvt,hv,by rw[getD_setN _ _ _ _ (by omega),Yx rfl]⟩
     rw[getD_setN _ _ _ _ (by omega)] at hq
     by_cases ev:u=v
     ·subst ev
      by_cases hq2:q<nx.getD u 0
      ·exact hu _ (hd u hu2 q hq2 x hx hax)
      ·exfalso
       have:=hsn x (List.mem_of_getElem? (i:=q - nx.getD u 0) (by rw[drop_head (by omega)];exact hx))
       rw[this] at hax;cases hax
     ·rw[Yy ev] at hq
      exact hu _ (hd u hu2 q hq x hx hax)
    by_cases hvs:v=s
    ·show Dead g t n (if v=s then _ else _:Option (List α) × List Nat).2
     rw[Yx hvs]
     exact hd1.1
    ·show Dead g t n (if v=s then _ else _:Option (List α) × List Nat).2
     rw[Yy hvs]
     cases hw:way.getLast? with
     |none=>exact hd
     |some e=>
      have hlt:=downM_back hg h hw
      obtain⟨hb,hne,hto,hDv,hun,hm⟩:=h.back hg hw
      refine ih hb (by omega) ?_
      have hat:=h.at_ e hm
      have hat2:=(List.getElem?_eq_some_iff.1 hat).1
      have e1:(nx.set v (g.rows v).length).getD (g.fr e) 0=nx.getD (g.fr e) 0:=by rw[getD_setN _ _ _ _ (by omega),Yy hne]
      have hu: ∀ w,Useless g t n (nx.set v (g.rows v).length) w→Useless g t n ((nx.set v (g.rows v).length).set (g.fr e) ((nx.set v (g.rows v).length).getD (g.fr e) 0+1)) w:=by
       rintro w ⟨a,b,c⟩
       refine⟨a,b,?_⟩
       rw[getD_setN _ _ _ _ (by rw[List.length_set];omega)]
       split
       ·rename_i ew;subst ew;omega
       ·exact c
      intro u hu2 q hq x hx hax
      rw[getD_setN _ _ _ _ (by rw[List.length_set];omega)] at hq
      by_cases ev:u=g.fr e
      ·subst ev
       rw[Yx rfl,e1] at hq
       by_cases hq2:q<nx.getD (g.fr e) 0
       ·exact hu _ (hd1.1 _ hu2 q (by rw[e1];exact hq2) x hx hax)
       ·have:q=nx.getD (g.fr e) 0:=by omega
        subst this
        rw[hat] at hx
        injection hx with hx
        subst hx
        rw[hto]
        exact hu _ hd1.2
      ·rw[Yy ev] at hq
       exact hu _ (hd1.1 u hu2 q hq x hx hax)
theorem dead_way {g:Net_ α} {t n:Nat} {nx:List Nat} (hfr: ∀ u e,e∈g.rows u→g.fr e=u) (hd:Dead g t n nx): ∀ {L:List α} {u:Nat},Leads g.to_ g.rows u L t→(∀ e,e∈L→g.adm (g.fr e) e=true)→ ¬ Useless g t n nx u
 |[],u,h,_,hu=>hu.1 h
 |x::L,u,h,ha,hu=>by
  obtain⟨j,hj⟩:=List.getElem?_of_mem h.1
  have hjl:=(List.getElem?_eq_some_iff.1 hj).1
  have hx:=ha x List.mem_cons_self
  rw[hfr _ _ h.1] at hx
  exact dead_way hfr hd h.2 (fun e he=>ha e (List.mem_cons_of_mem _ he)) (hd u hu.2.1 j (by rw[hu.2.2];exact hjl) x hj hx)
end
end H
namespace H
open Go.RowKit Go.Proofs.YtkcpanpdipmmmaaW.PrintWords Go.Proofs.YtkcpanpdipmmmaaW.PrintLast
structure Mk where
 i:Nat
 N:Nat
 G:Value→World→Prop
def allB (md:Region.Mode) (ops:Array Oper) (bad:List Nat) (lb l':Array Bool):Nat→Array Bool→List Nat→Bool
 |0,l,rs=>rs.isEmpty && l == l'
 |n+1,l,rs=>(rs == bad && l == lb) || (Region.ready md ops l == rs && rs.all fun i=>allB md ops bad lb l' n (l.setIfInBounds i true) (rs.erase i))
structure Same (a' a:Act) (D:List Nat) (vs:Nat→Value):Prop where
 defers:a'.defers=a.defers
 size:a'.tmps.size=a.tmps.size
 at_: ∀ t,t<a.tmps.size→a'.tmps[t]? =if t∈D then some (vs t) else a.tmps[t]?
theorem Same.refl (a:Act) (vs:Nat→Value):Same a a [] vs:=⟨rfl,rfl,fun t _=>by rw[if_neg (by simp)]⟩
theorem Same.eq {a1 a2 a:Act} {D E:List Nat} {vs:Nat→Value} (h1:Same a1 a D vs) (h2:Same a2 a E vs) (hDE: ∀ t,t∈D↔t∈E):a1=a2:=by
 obtain⟨t1,d1⟩:=a1
 obtain⟨t2,d2⟩:=a2
 have e1:d1=d2:=h1.defers.trans h2.defers.symm
 have e2:t1=t2:=by
  apply Array.ext_getElem?
  intro t
  rcases Nat.lt_or_ge t a.tmps.size with h|h
  ·have h3:=h1.at_ t h
   have h4:=h2.at_ t h
   refine h3.trans (Eq.trans ?_ h4.symm)
   by_cases hd:t∈D
   ·rw[if_pos hd,if_pos ((hDE t).1 hd)]
   ·rw[if_neg hd,if_neg (fun h=>hd ((hDE t).2 h))]
  ·have s1:t1.size≤t:=by have:=h1.size;exact Nat.le_trans (Nat.le_of_eq this) h
   have s2:t2.size≤t:=by have:=h2.size;exact Nat.le_trans (Nat.le_of_eq this) h
   rw[Array.getElem?_eq_none s1,Array.getElem?_eq_none s2]
 rw[e1,e2]
theorem Same.put {a' a:Act} {D:List Nat} {vs:Nat→Value} (h:Same a' a D vs) (N:Nat) (v:Value):Same (a'.put (some N) v) a (N::D) (fun t=>if t=N then v else vs t):=by
 refine⟨h.defers,by simp[Act.put,h.size],fun t ht=> ?_⟩
 show (a'.tmps.setIfInBounds N v)[t]? =_
 by_cases e:N=t
 ·subst e
  rw[Array.getElem?_setIfInBounds_self_of_lt (by rw[h.size];exact ht),if_pos (by simp),if_pos rfl]
 ·rw[Array.getElem?_setIfInBounds_ne e,h.at_ t ht]
  by_cases hD:t∈D
  ·rw[if_pos hD,if_pos (List.mem_cons_of_mem _ hD),if_neg (fun h=>e h.symm)]
  ·rw[if_neg hD,if_neg (by simp[hD,Ne.symm e])]
theorem Same.eval {a' a:Act} {D:List Nat} {vs:Nat→Value} (h:Same a' a D vs) {t:Nat} (ht:t ∉ D):a'.eval (.tmp t)=a.eval (.tmp t):=by
 have:a'.tmps[t]? =a.tmps[t]? :=by
  rcases Nat.lt_or_ge t a.tmps.size with hl|hl
  ·rw[h.at_ t hl,if_neg ht]
  ·rw[Array.getElem?_eq_none (by rw[h.size];exact hl),Array.getElem?_eq_none hl]
 simp only[Act.eval,Array.getD_eq_getD_getElem?,this]
theorem putAll_same (ms:List Mk) (a0:Act) (vs:Nat→Value): ∀ (a:Act) (D:List Nat),Same a a0 D vs→Same (putAll a (ms.map fun m=>(m.N,vs m.N))) a0 (ms.map Mk.N ++ D) vs:=by
 induction ms with
 |nil=>intro a D h;exact h
 |cons m ms ih=>
  intro a D h
  have h1:=h.put m.N (vs m.N)
  have h2:Same (a.put (some m.N) (vs m.N)) a0 (m.N::D) vs:=by
   have e:(fun t=>if t=m.N then vs m.N else vs t)=vs:=by funext t;split<;>simp_all
   rw[e] at h1
   exact h1
  have h3:=ih _ _ h2
  refine⟨h3.defers,h3.size,fun t ht=> ?_⟩
  rw[show putAll a ((m::ms).map fun m=>(m.N,vs m.N))=putAll (a.put (some m.N) (vs m.N)) (ms.map fun m=>(m.N,vs m.N)) from rfl,h3.at_ t ht]
  have this:(t∈ms.map Mk.N ++ m.N::D)↔(t∈(m::ms).map Mk.N ++ D):=by
   simp only[List.mem_append,List.mem_cons,List.map_cons]
   constructor
   ·rintro(h|h|h)
    ·exact .inl (.inr h)
    ·exact .inl (.inl h)
    ·exact .inr h
   ·rintro((h|h)|h)
    ·exact .inr (.inl h)
    ·exact .inl h
    ·exact .inr (.inr h)
  by_cases hd:t∈ms.map Mk.N ++ m.N::D
  ·rw[if_pos hd,if_pos (this.1 hd)]
  ·rw[if_neg hd,if_neg (fun h=>hd (this.2 h))]
theorem inj_nodup {ms:List Mk} (h:(ms.map Mk.N).Nodup): ∀ m,m∈ms→ ∀ m',m'∈ms→m.N=m'.N→m=m':=by
 induction ms with
 |nil=>intro m hm;cases hm
 |cons x ms ih=>
  rw[List.map_cons,List.nodup_cons] at h
  intro m hm m' hm' e
  rcases List.mem_cons.1 hm with h1|h1<;>rcases List.mem_cons.1 hm' with h2|h2
  ·rw[h1,h2]
  ·exact absurd (List.mem_map.2 ⟨m',h2,by rw[← e,h1]⟩) h.1
  ·exact absurd (List.mem_map.2 ⟨m,h1,by rw[e,h2]⟩) h.1
  ·exact ih h.2 m h1 m' h2 e
section
variable {P:Program} {ops:Array Oper} {Q:Exit→Act→World→Prop} {md:Region.Mode} {S:World→Prop} {ds:List Nat}
theorem makers_ {fuel:Nat} {l:Array Bool} {a:Act} {w:World} (n:Nat) (l':Array Bool) (bad:List Nat) (lb:Array Bool) (ms:List Mk) (hn:ms.length=n) (hnd:(ms.map Mk.N).Nodup) (hni:(ms.map Mk.i).Nodup)
  (hops: ∀ m,m∈ms→ ∃ oi,ops[m.i]? =some oi∧oi.dst=some m.N∧m.i ∉ ds∧ ∀ (a':Act) (w':World) (K:Act→World→Prop),(∀ t,t ∉ ms.map Mk.N→a'.eval (.tmp t)=a.eval (.tmp t))→S w'→Below w.heap.size w w'→
   (∀ v w'',S w''→Below w'.heap.size w' w''→m.G v w''→K (a'.put (some m.N) v) w'')→if Region.wanted oi (yielded ops a'.tmps)=true then Oper.wp P oi a' w' K Q else K (a'.put (some m.N) undef) w')
  (hstab: ∀ m,m∈ms→ ∀ v w1 w2,Below w1.heap.size w1 w2→m.G v w1→m.G v w2) (hc:allB md ops bad lb l' n l (ms.map Mk.i)=true) (hS:S w)
  (h: ∀ (vs:Nat→Value) (w':World),Below w.heap.size w w'→S w'→(∀ m,m∈ms→m.G (vs m.N) w')→wpAnyLast P md ops Q S ds fuel l' (putAll a (ms.map fun m=>(m.N,vs m.N))) w')
  (hbad: ∀ (vs:Nat→Value) (w':World),Below w.heap.size w w'→S w'→(∀ m,m∈ms→m.i ∉ bad→m.G (vs m.N) w')→wpAnyLast P md ops Q S ds (fuel+bad.length) lb (putAll a ((ms.filter fun m=> !bad.contains m.i).map fun m=>(m.N,vs m.N))) w'):
  wpAnyLast P md ops Q S ds (fuel+n) l a w:=by
 subst hn
 have hinj:=inj_nodup hnd
 have aux: ∀ (n:Nat) (rs:List Mk) (l:Array Bool) (a':Act) (w':World) (D:List Nat) (vs:Nat→Value),rs.length=n→(rs.map Mk.i).Nodup→(∀ m,m∈rs→m∈ms)→(∀ m,m∈rs→m.N ∉ D)→(∀ m,m∈ms→m∈rs∨m.N∈D)→(∀ t,t∈D→t∈ms.map Mk.N)→
   Same a' a D vs→(∀ m,m∈ms→m.N∈D→m.G (vs m.N) w')→Below w.heap.size w w'→S w'→allB md ops bad lb l' n l (rs.map Mk.i)=true→wpAnyLast P md ops Q S ds (fuel+n) l a' w':=by
  intro n
  induction n with
  |zero=>
   intro rs l a' w' D vs hn hnr hsub hout hcov hD hs hG hb hS hc
   have hr:rs=[]:=List.eq_nil_of_length_eq_zero hn
   subst hr
   unfold allB at hc
   simp only[List.map_nil,List.isEmpty_nil,Bool.true_and,beq_iff_eq] at hc
   subst hc
   have hall: ∀ m,m∈ms→m.N∈D:=fun m hm=>(hcov m hm).elim (fun h=>by cases h) id
   have e:=Same.eq hs (putAll_same ms a vs a [] (Same.refl a vs)) (fun t=>⟨fun ht=>by rw[List.append_nil];exact hD t ht,fun ht=>by
    rw[List.append_nil] at ht
    obtain⟨m,hm,rfl⟩:=List.mem_map.1 ht
    exact hall m hm⟩)
   rw[e]
   exact h vs w' hb hS (fun m hm=>hG m hm (hall m hm))
  |succ n ih=>
   intro rs l a' w' D vs hn hnr hsub hout hcov hD hs hG hb hS hc
   unfold allB at hc
   rw[Bool.or_eq_true] at hc
   rcases hc with hc|hc
   ·rw[Bool.and_eq_true,beq_iff_eq,beq_iff_eq] at hc
    obtain⟨hbd,hl⟩:=hc
    subst hl
    have hin: ∀ m,m∈ms→(m.i ∉ bad↔m.N∈D):=by
     intro m hm
     constructor
     ·intro hnb
      rcases hcov m hm with h1|h1
      ·exact absurd (hbd▸List.mem_map_of_mem h1) hnb
      ·exact h1
     ·intro hND hb2
      rw[← hbd] at hb2
      obtain⟨x,hx,e⟩:=List.mem_map.1 hb2
      obtain⟨o1,h1,h2,_⟩:=hops x (hsub x hx)
      obtain⟨o2,h3,h4,_⟩:=hops m hm
      rw[e,h3] at h1
      injection h1 with h1
      subst h1
      rw[h4] at h2
      injection h2 with h2
      exact hout x hx (h2▸hND)
    have e:=Same.eq hs (putAll_same (ms.filter fun m=> !bad.contains m.i) a vs a [] (Same.refl a vs)) (fun t=>by
     rw[List.append_nil]
     constructor
     ·intro ht
      obtain⟨m,hm,rfl⟩:=List.mem_map.1 (hD t ht)
      exact List.mem_map_of_mem (List.mem_filter.2 ⟨hm,by simpa using (hin m hm).2 ht⟩)
     ·intro ht
      obtain⟨m,hm,rfl⟩:=List.mem_map.1 ht
      obtain⟨h1,h2⟩:=List.mem_filter.1 hm
      exact(hin m h1).1 (by simpa using h2))
    have hlen:n+1=bad.length:=by rw[← hbd,List.length_map];exact hn.symm
    rw[e,hlen]
    exact hbad vs w' hb hS (fun m hm hnb=>hG m hm ((hin m hm).1 hnb))
   rw[Bool.and_eq_true,beq_iff_eq,List.all_eq_true] at hc
   obtain⟨hrdy,hnext⟩:=hc
   refine wpAnyLast_ready (rs:=rs.map Mk.i) hrdy (by intro e;have:=congrArg List.length e;rw[List.length_map] at this;simp at this;rw[this] at hn;simp at hn) ?_
   intro i hi
   obtain⟨m,hm,rfl⟩:=List.mem_map.1 hi
   obtain⟨oi,ho,hd,hnd',hop⟩:=hops m (hsub m hm)
   refine wpOp_step ho (fun K' hK=> ?_)
   rw[hd]
   refine hop a' w' K' (fun t ht=>hs.eval (fun h=>ht (hD t h))) hS hb (fun v w'' hS2 hb2 hg=> ?_)
   refine hK _ _ ⟨fun _ _=>hS2,?_⟩
   have hlen:(rs.eraseP (fun x=>x.i == m.i)).length=n:=by
    rw[List.length_eraseP_of_mem hm (by simp)]
    omega
   have hmap:(rs.map Mk.i).erase m.i=(rs.eraseP (fun x=>x.i == m.i)).map Mk.i:=by
    rw[List.erase_eq_eraseP',List.eraseP_map]
    rfl
   have hgone: ∀ x,x∈rs.eraseP (fun x=>x.i == m.i)→x.i≠m.i:=by
    intro x hx
    have h1:x.i∈(rs.map Mk.i).erase m.i:=by rw[hmap];exact List.mem_map_of_mem hx
    exact(hnr.mem_erase_iff.1 h1).1
   refine ih (rs.eraseP (fun x=>x.i == m.i)) (l.setIfInBounds m.i true) _ w'' (m.N::D) (fun t=>if t=m.N then v else vs t) hlen (by rw[← hmap];exact hnr.erase _) (fun x hx=>hsub x (List.mem_of_mem_eraseP hx)) ?_ ?_ ?_ (hs.put m.N v) ?_ (below_then hb hb.size hb2) hS2 ?_
   ·intro x hx hxD
    rcases List.mem_cons.1 hxD with h|h
    ·have:=hinj x (hsub x (List.mem_of_mem_eraseP hx)) m (hsub m hm) h
     exact hgone x hx (by rw[this])
    ·exact hout x (List.mem_of_mem_eraseP hx) h
   ·intro x hx
    by_cases e:x.i=m.i
    ·right
     obtain⟨ox,hox,hdx,_⟩:=hops x hx
     rw[e,ho] at hox
     injection hox with hox
     subst hox
     rw[hd] at hdx
     injection hdx with hdx
     rw[hdx]
     exact List.mem_cons_self
    ·rcases hcov x hx with h|h
     ·left
      exact(List.mem_eraseP_of_neg (by simpa using e)).2 h
     ·right
      exact List.mem_cons_of_mem _ h
   ·intro t ht
    rcases List.mem_cons.1 ht with rfl|ht
    ·exact List.mem_map_of_mem (hsub m hm)
    ·exact hD t ht
   ·intro x hx hxD
    by_cases e:x.N=m.N
    ·have hxm:=hinj x hx m (hsub m hm) e
     subst hxm
     show x.G (if x.N=x.N then v else vs x.N) w''
     rw[if_pos rfl]
     exact hg
    ·show x.G (if x.N=m.N then v else vs x.N) w''
     rw[if_neg e]
     refine hstab x hx _ w' w'' hb2 (hG x hx ?_)
     rcases List.mem_cons.1 hxD with h|h
     ·exact absurd h e
     ·exact h
   ·have:=hnext m.i (List.mem_map_of_mem hm)
    rw[hmap] at this
    exact this
 exact aux ms.length ms l a w [] (fun _=>undef) rfl hni (fun m hm=>hm) (fun m hm h=>by cases h) (fun m hm=> .inl hm) (fun t ht=>by cases ht) (Same.refl a _) (fun m _ h=>by cases h) (Below.refl _ _) hS hc
end
end H
namespace P
attribute [local go_sem] max2_int min2_int max_two min_two max_three min_three max_four min_four
def static_Flowing_To.f (Zc:Int) (Zb:Bool) (Za:List (S74)) (Zs:List Int) (Zg:Int) (Xt:Bool):Option (Int):=(static_Flowing_From.f Zc Zb Za Zs Zg (!Xt)).bind fun t386=>(some t386)
set_option maxHeartbeats 8000000 in
set_option maxRecDepth 100000 in
theorem static_Flowing_To.calls (Zc:Int) (Zb:Bool) (Ze:Option Addr) (Zd:Nat) (Za:List (S74)) (Xq:Option Addr) (Xr:Nat) (Zs:List Int) (Zg:Int) (Xt:Bool) (r:Int) (w:World) (Zq:Kd.C k74 w Ze Za.length Za) (Zr:Za.length≤Zd) (hr0_3:Kd.C (Kd.int .i64) w Xq Zs.length Zs) (hc0_3:Zs.length≤Xr) (h:static_Flowing_To.f Zc Zb Za Zs Zg Xt=some r):
  Calls Try.prog 105 #[.agg #[.int .i64 Zc, .bool Zb, .slice Ze Za.length Zd, .slice Xq Zs.length Xr], .agg #[.int .i64 Zg, .bool Xt]] w fun e w'=>e= .returned (.int .i64 r)∧Below w.heap.size w w':=by
 have hu115:=Try.underlying115
 have hu38:=Try.underlying38
 have Zl:=Ya Zq
 have Xd:=Ya Zr
 clear Zq Zr
 have HR0_3:=Ya hr0_3
 have HC0_3:=Ya hc0_3
 clear hr0_3 hc0_3
 have HB:=Ya (Yo w.heap.size w)
 have H:((static_Flowing_From.f Zc Zb Za Zs Zg (!Xt)).bind fun t386=>(some t386))=some r:=h
 clear h
 replace H:=Option.bind_eq_some_iff.mp H
 obtain⟨t386,A30,H⟩:=H
 replace H:(some t386)=some r:=H
 have A3:=Ya A30
 clear A30
 obtain rfl:=Option.some.inj H
 go_enter Try.func105,Try.ntmps105
 go_wp2_with (first|((with_reducible refine gate_dst (N:=2) rfl ?_);refine Yz ?hg (N:=2) ?hd (cs:= #[.int .i64 Zc, .bool Zb, .slice Ze Za.length Zd, .slice Xq Zs.length Xr]) (t:=115) ?hr ?_;(case hd=>rfl);(case hg=>rfl);(case hr=>first|(go_simp;done)|(go_simp;rfl));intro gb384 hg w4 Zf hb;have n0_:=Ya (Yk (by repeat(first|(with_reducible first|exact HB.out|apply Ye|apply Yd|apply Yg)|exact HB.out)) hb);have n1_:=Ya (Zf);have n2_:=Ya ((by rw[hg];exact(Yi (by repeat(first|(with_reducible first|exact HB.out|apply Ye|apply Yd|apply Yg)|exact HB.out))):w.heap.size≤gb384));have n3_:=Ya ((by rw[hg];exact(Yi (by repeat(first|(with_reducible first|exact HB.out|apply Ye|apply Yd|apply Yg)|exact HB.out))):w.heap.size≤gb384));clear HB;have HB:=n0_;have Jh:=n1_;have GW384:=n2_;have GE384:=n3_;clear n0_ n1_ n2_ n3_;clear hb Zf hg)|((with_reducible refine gate_dst (N:=3) rfl ?_);refine Yz ?hg (N:=3) ?hd (cs:= #[.int .i64 Zg, .bool Xt]) (t:=38) ?hr ?_;(case hd=>rfl);(case hg=>rfl);(case hr=>first|(go_simp;done)|(go_simp;rfl));intro gb385 hg w5 Zf hb;have n0_:=Ya (Yn (g:=gb384) (o:= .cells #[.int .i64 Zc, .bool Zb, .slice Ze Za.length Zd, .slice Xq Zs.length Xr] 115 (0,0)) (by(with_reducible repeat(first|refine Yl ?_ _|refine Ym ?_|refine Yj ?_ _));exact Jh.out) hb);have n1_:=Ya (Yk (by repeat(first|(with_reducible first|exact HB.out|apply Ye|apply Yd|apply Yg|refine Yh ?_ GE384.out)|exact HB.out)) hb);have n2_:=Ya (Zf);have n3_:=Ya ((by rw[hg];exact(Yi (by repeat(first|(with_reducible first|exact HB.out|apply Ye|apply Yd|apply Yg|refine Yh ?_ GE384.out)|exact HB.out))):w.heap.size≤gb385));have n4_:=Ya ((by rw[hg];exact(Yi (by repeat(first|(with_reducible first|exact HB.out|apply Ye|apply Yd|apply Yg|refine Yh ?_ GE384.out)|exact HB.out))):w.heap.size≤gb385));have n5_:=Ya ((by rw[hg];exact Nat.ne_of_lt (blk_lt (g:=gb384) (o:= .cells #[.int .i64 Zc, .bool Zb, .slice Ze Za.length Zd, .slice Xq Zs.length Xr] 115 (0,0)) (by(with_reducible repeat(first|refine Yl ?_ _|refine Ym ?_|refine Yj ?_ _));exact Jh.out)):gb384≠gb385));have n6_:=Ya ((by rw[hg];exact Nat.ne_of_gt (blk_lt (g:=gb384) (o:= .cells #[.int .i64 Zc, .bool Zb, .slice Ze Za.length Zd, .slice Xq Zs.length Xr] 115 (0,0)) (by(with_reducible repeat(first|refine Yl ?_ _|refine Ym ?_|refine Yj ?_ _));exact Jh.out)):gb385≠gb384));clear Jh;clear HB;have Jh:=n0_;have HB:=n1_;have BK385:=n2_;have GW385:=n3_;have GE385:=n4_;have NB384_385:=n5_;have NB385_384:=n6_;clear n0_ n1_ n2_ n3_ n4_ n5_ n6_;clear hb Zf hg;have hnb6:=NB385_384.out;have hnc6:=NB384_385.out;have hcz7_0:w5.cell? ⟨gb385,0,none⟩=some (.int .i64 Zg):=(Yc BK385.out 0).trans rfl;have hcz7_1:w5.cell? ⟨gb385,1,none⟩=some (.bool Xt):=(Yc BK385.out 1).trans rfl;have hfz7_0:=Yf BK385.out 0;have hfz7_1:=Yf BK385.out 1;have hcz8_0:w5.cell? ⟨gb384,0,none⟩=some (.int .i64 Zc):=(Yc Jh.out 0).trans rfl;have hcz8_1:w5.cell? ⟨gb384,1,none⟩=some (.bool Zb):=(Yc Jh.out 1).trans rfl;have hcz8_2:w5.cell? ⟨gb384,2,none⟩=some (.slice Ze Za.length Zd):=(Yc Jh.out 2).trans rfl;have hcz8_3:w5.cell? ⟨gb384,3,none⟩=some (.slice Xq Zs.length Xr):=(Yc Jh.out 3).trans rfl;have hfz8_0:=Yf Jh.out 0;have hfz8_1:=Yf Jh.out 1;have hfz8_2:=Yf Jh.out 2;have hfz8_3:=Yf Jh.out 3)|((with_reducible refine gate_callee (f:=106) rfl ?_);refine goesL_ (some 11) rfl rfl Try.func106 (by kernel_rfl) rfl #[.agg #[.int .i64 Zc, .bool Zb, .slice Ze Za.length Zd, .slice Xq Zs.length Xr], .agg #[.int .i64 Zg, .bool (!Xt)]] rfl (by(try simp only[List.map_toArray,List.map_cons,List.map_nil]);first|done|rfl|(simp only[List.length_drop,List.length_take];rfl)) ?_;(with_reducible refine(static_Flowing_From.calls Zc Zb _ _ Za _ _ Zs Zg (!Xt) t386 _ ?side1 ?side2 ?side3 ?side4 A3.out).mono ?_);(case side1=>exact Yt Zl.out (by repeat(first|(with_reducible first|exact HB.out|apply Ye|apply Yd|apply Yg|refine Yh ?_ GE384.out|refine Yh ?_ GE385.out)|exact HB.out)));(case side2=>exact Xd.out);(case side3=>exact Yt HR0_3.out (by repeat(first|(with_reducible first|exact HB.out|apply Ye|apply Yd|apply Yg|refine Yh ?_ GE384.out|refine Yh ?_ GE385.out)|exact HB.out)));(case side4=>exact HC0_3.out);rintro e w9 ⟨rfl,hb⟩;refine⟨_,rfl,?_⟩;have n0_:=Ya (Yn (g:=gb384) (o:= .cells #[.int .i64 Zc, .bool Zb, .slice Ze Za.length Zd, .slice Xq Zs.length Xr] 115 (0,0)) (by(with_reducible repeat(first|refine Yl ?_ _|refine Ym ?_|refine Yj ?_ _));refine blk_far ?_ NB384_385.out _;(with_reducible repeat(first|refine Yl ?_ _|refine Ym ?_|refine Yj ?_ _));exact Jh.out) hb);have n1_:=Ya (Yn (g:=gb385) (o:= .cells #[.int .i64 Zg, .bool (!Xt)] 38 (0,0)) (by(with_reducible repeat(first|refine Yl ?_ _|refine Ym ?_|refine Yj ?_ _));refine YA (cs:= #[.int .i64 Zg, .bool Xt]) ?_ 1 _ rfl;(with_reducible repeat(first|refine Yl ?_ _|refine Ym ?_|refine Yj ?_ _));exact BK385.out) hb);have n2_:=Ya (Yk (by repeat(first|(with_reducible first|exact HB.out|apply Ye|apply Yd|apply Yg|refine Yh ?_ GE384.out|refine Yh ?_ GE385.out)|exact HB.out)) hb);clear Jh;clear BK385;clear HB;have Jh:=n0_;have BK385:=n1_;have HB:=n2_;clear n0_ n1_ n2_;(try clear hb);(try clear hb2);(try clear hk);(try clear hi)))
 go_ret
 exact⟨by first|rfl|(simp[errW_none,errW_some]<;>rfl)|(simp[*,errW_none,errW_some]<;>rfl),by repeat(first|(with_reducible first|exact HB.out|apply Ye|apply Yd|apply Yg|refine Yh ?_ GE384.out|refine Yh ?_ GE385.out)|exact HB.out)⟩
end P
namespace P
attribute [local go_sem] max2_int min2_int max_two min_two max_three min_three max_four min_four
def static_Flowing_Time.f (Zc:Int) (Zb:Bool) (Za:List (S74)) (Zs:List Int) (Zg:Int) (Xt:Bool):Option (Int):=if Xt=true then(if 0≤Zg then(if Zg<(Za.length:Int) then(some (wrap64 (-((rd_T74 Za Zg).f3)))) else(none)) else(none)) else(if 0≤Zg then(if Zg<(Za.length:Int) then(some ((rd_T74 Za Zg).f3)) else(none)) else(none))
set_option maxHeartbeats 8000000 in
set_option maxRecDepth 100000 in
theorem static_Flowing_Time.calls (Zc:Int) (Zb:Bool) (Ze:Option Addr) (Zd:Nat) (Za:List (S74)) (Xq:Option Addr) (Xr:Nat) (Zs:List Int) (Zg:Int) (Xt:Bool) (r:Int) (w:World) (Zq:Kd.C k74 w Ze Za.length Za) (Zr:Za.length≤Zd) (hr0_3:Kd.C (Kd.int .i64) w Xq Zs.length Zs) (hc0_3:Zs.length≤Xr) (h:static_Flowing_Time.f Zc Zb Za Zs Zg Xt=some r):
  Calls Try.prog 107 #[.agg #[.int .i64 Zc, .bool Zb, .slice Ze Za.length Zd, .slice Xq Zs.length Xr], .agg #[.int .i64 Zg, .bool Xt]] w fun e w'=>e= .returned (.int .i64 r)∧Below w.heap.size w w':=by
 have hu115:=Try.underlying115
 have hu38:=Try.underlying38
 have Zl:=Ya Zq
 have Xd:=Ya Zr
 clear Zq Zr
 have HR0_3:=Ya hr0_3
 have HC0_3:=Ya hc0_3
 clear hr0_3 hc0_3
 have HB:=Ya (Yo w.heap.size w)
 have H:(if Xt=true then(if 0≤Zg then(if Zg<(Za.length:Int) then(some (wrap64 (-((rd_T74 Za Zg).f3)))) else(none)) else(none)) else(if 0≤Zg then(if Zg<(Za.length:Int) then(some ((rd_T74 Za Zg).f3)) else(none)) else(none)))=some r:=h
 clear h
 by_cases c3:Xt=true
 ·subst c3
  have H1:(if 0≤Zg then(if Zg<(Za.length:Int) then(some (wrap64 (-((rd_T74 Za Zg).f3)))) else(none)) else(none))=some r:=by first|(rw[Yx rfl] at H;exact H)|(rw[Yx trivial] at H;exact H)
  clear H
  have H:=H1
  clear H1
  by_cases c4:0≤Zg
  rotate_left
  ·rw[Yy c4] at H
   exact absurd H (by simp)
  rw[Yx c4] at H
  have c4b0:decide (0≤Zg)=true:=Yv c4
  clear c4
  by_cases c5:Zg<(Za.length:Int)
  rotate_left
  ·rw[Yy c5] at H
   exact absurd H (by simp)
  rw[Yx c5] at H
  have c5b0:decide (Zg<(Za.length:Int))=true:=Yv c5
  clear c5
  obtain rfl:=Option.some.inj H
  go_enter Try.func107,Try.ntmps107
  go_wp2_with (first|((with_reducible refine gate_dst (N:=2) rfl ?_);refine Yz ?hg (N:=2) ?hd (cs:= #[.int .i64 Zc, .bool Zb, .slice Ze Za.length Zd, .slice Xq Zs.length Xr]) (t:=115) ?hr ?_;(case hd=>rfl);(case hg=>rfl);(case hr=>first|(go_simp;done)|(go_simp;rfl));intro Vw hg w6 Zf hb;have n0_:=Ya (Yk (by repeat(first|(with_reducible first|exact HB.out|apply Ye|apply Yd|apply Yg)|exact HB.out)) hb);have n1_:=Ya (Zf);have n2_:=Ya ((by rw[hg];exact(Yi (by repeat(first|(with_reducible first|exact HB.out|apply Ye|apply Yd|apply Yg)|exact HB.out))):w.heap.size≤Vw));have n3_:=Ya ((by rw[hg];exact(Yi (by repeat(first|(with_reducible first|exact HB.out|apply Ye|apply Yd|apply Yg)|exact HB.out))):w.heap.size≤Vw));clear HB;have HB:=n0_;have Vd:=n1_;have GW387:=n2_;have GE387:=n3_;clear n0_ n1_ n2_ n3_;clear hb Zf hg)|((with_reducible refine gate_dst (N:=3) rfl ?_);refine Yz ?hg (N:=3) ?hd (cs:= #[.int .i64 Zg, .bool true]) (t:=38) ?hr ?_;(case hd=>rfl);(case hg=>rfl);(case hr=>first|(go_simp;done)|(go_simp;rfl));intro gb388 hg w7 Zf hb;have n0_:=Ya (Yn (g:=Vw) (o:= .cells #[.int .i64 Zc, .bool Zb, .slice Ze Za.length Zd, .slice Xq Zs.length Xr] 115 (0,0)) (by(with_reducible repeat(first|refine Yl ?_ _|refine Ym ?_|refine Yj ?_ _));exact Vd.out) hb);have n1_:=Ya (Yk (by repeat(first|(with_reducible first|exact HB.out|apply Ye|apply Yd|apply Yg|refine Yh ?_ GE387.out)|exact HB.out)) hb);have n2_:=Ya (Zf);have n3_:=Ya ((by rw[hg];exact(Yi (by repeat(first|(with_reducible first|exact HB.out|apply Ye|apply Yd|apply Yg|refine Yh ?_ GE387.out)|exact HB.out))):w.heap.size≤gb388));have n4_:=Ya ((by rw[hg];exact(Yi (by repeat(first|(with_reducible first|exact HB.out|apply Ye|apply Yd|apply Yg|refine Yh ?_ GE387.out)|exact HB.out))):w.heap.size≤gb388));have n5_:=Ya ((by rw[hg];exact Nat.ne_of_lt (blk_lt (g:=Vw) (o:= .cells #[.int .i64 Zc, .bool Zb, .slice Ze Za.length Zd, .slice Xq Zs.length Xr] 115 (0,0)) (by(with_reducible repeat(first|refine Yl ?_ _|refine Ym ?_|refine Yj ?_ _));exact Vd.out)):Vw≠gb388));have n6_:=Ya ((by rw[hg];exact Nat.ne_of_gt (blk_lt (g:=Vw) (o:= .cells #[.int .i64 Zc, .bool Zb, .slice Ze Za.length Zd, .slice Xq Zs.length Xr] 115 (0,0)) (by(with_reducible repeat(first|refine Yl ?_ _|refine Ym ?_|refine Yj ?_ _));exact Vd.out)):gb388≠Vw));clear Vd;clear HB;have Vd:=n0_;have HB:=n1_;have BK388:=n2_;have GW388:=n3_;have GE388:=n4_;have NB387_388:=n5_;have NB388_387:=n6_;clear n0_ n1_ n2_ n3_ n4_ n5_ n6_;clear hb Zf hg;have hnb8:=NB388_387.out;have hnc8:=NB387_388.out;have Jr:w7.cell? ⟨gb388,0,none⟩=some (.int .i64 Zg):=(Yc BK388.out 0).trans rfl;have Js:w7.cell? ⟨gb388,1,none⟩=some (.bool true):=(Yc BK388.out 1).trans rfl;have Jt:=Yf BK388.out 0;have Ju:=Yf BK388.out 1;have Uz:w7.cell? ⟨Vw,0,none⟩=some (.int .i64 Zc):=(Yc Vd.out 0).trans rfl;have Ja:w7.cell? ⟨Vw,1,none⟩=some (.bool Zb):=(Yc Vd.out 1).trans rfl;have Jb:w7.cell? ⟨Vw,2,none⟩=some (.slice Ze Za.length Zd):=(Yc Vd.out 2).trans rfl;have hcz10_3:w7.cell? ⟨Vw,3,none⟩=some (.slice Xq Zs.length Xr):=(Yc Vd.out 3).trans rfl;have Jc:=Yf Vd.out 0;have Jd:=Yf Vd.out 1;have Je:=Yf Vd.out 2;have hfz10_3:=Yf Vd.out 3;have p389:0≤(Zg:Int):=Yu (by first|(with_reducible assumption)|assumption);have q389:Zg<(Za.length:Int):=Yu (by first|(with_reducible assumption)|assumption);obtain⟨ad389,e389,hx389_0,hx389_1,hx389_2,hx389_3⟩:=at_T74 Zl.out Zg p389 q389;cases e389;replace hx389_0:=(HB.out.cell (Yb w _ hx389_0)).trans hx389_0;replace hx389_1:=(HB.out.cell (Yb w _ hx389_1)).trans hx389_1;replace hx389_2:=(HB.out.cell (Yb w _ hx389_2)).trans hx389_2;replace hx389_3:=(HB.out.cell (Yb w _ hx389_3)).trans hx389_3;replace p389:=eq_true p389;replace q389:=eq_true q389))
  go_ret
  exact⟨by first|rfl|(simp[errW_none,errW_some]<;>rfl)|(simp[*,errW_none,errW_some]<;>rfl),by repeat(first|(with_reducible first|exact HB.out|apply Ye|apply Yd|apply Yg|refine Yh ?_ GE387.out|refine Yh ?_ GE388.out)|exact HB.out)⟩
 replace c3:=Bool.eq_false_iff.mpr c3
 subst c3
 have H1:(if 0≤Zg then(if Zg<(Za.length:Int) then(some ((rd_T74 Za Zg).f3)) else(none)) else(none))=some r:=by rw[Yy (show ¬ (false=true) by decide)] at H;exact H
 clear H
 have H:=H1
 clear H1
 by_cases c11:0≤Zg
 rotate_left
 ·rw[Yy c11] at H
  exact absurd H (by simp)
 rw[Yx c11] at H
 have c11b0:decide (0≤Zg)=true:=Yv c11
 clear c11
 by_cases c12:Zg<(Za.length:Int)
 rotate_left
 ·rw[Yy c12] at H
  exact absurd H (by simp)
 rw[Yx c12] at H
 have c12b0:decide (Zg<(Za.length:Int))=true:=Yv c12
 clear c12
 obtain rfl:=Option.some.inj H
 go_enter Try.func107,Try.ntmps107
 go_wp2_with (first|((with_reducible refine gate_dst (N:=2) rfl ?_);refine Yz ?hg (N:=2) ?hd (cs:= #[.int .i64 Zc, .bool Zb, .slice Ze Za.length Zd, .slice Xq Zs.length Xr]) (t:=115) ?hr ?_;(case hd=>rfl);(case hg=>rfl);(case hr=>first|(go_simp;done)|(go_simp;rfl));intro Vw hg w13 Zf hb;have n0_:=Ya (Yk (by repeat(first|(with_reducible first|exact HB.out|apply Ye|apply Yd|apply Yg)|exact HB.out)) hb);have n1_:=Ya (Zf);have n2_:=Ya ((by rw[hg];exact(Yi (by repeat(first|(with_reducible first|exact HB.out|apply Ye|apply Yd|apply Yg)|exact HB.out))):w.heap.size≤Vw));have n3_:=Ya ((by rw[hg];exact(Yi (by repeat(first|(with_reducible first|exact HB.out|apply Ye|apply Yd|apply Yg)|exact HB.out))):w.heap.size≤Vw));clear HB;have HB:=n0_;have Vd:=n1_;have GW387:=n2_;have GE387:=n3_;clear n0_ n1_ n2_ n3_;clear hb Zf hg)|((with_reducible refine gate_dst (N:=3) rfl ?_);refine Yz ?hg (N:=3) ?hd (cs:= #[.int .i64 Zg, .bool false]) (t:=38) ?hr ?_;(case hd=>rfl);(case hg=>rfl);(case hr=>first|(go_simp;done)|(go_simp;rfl));intro gb388 hg w14 Zf hb;have n0_:=Ya (Yn (g:=Vw) (o:= .cells #[.int .i64 Zc, .bool Zb, .slice Ze Za.length Zd, .slice Xq Zs.length Xr] 115 (0,0)) (by(with_reducible repeat(first|refine Yl ?_ _|refine Ym ?_|refine Yj ?_ _));exact Vd.out) hb);have n1_:=Ya (Yk (by repeat(first|(with_reducible first|exact HB.out|apply Ye|apply Yd|apply Yg|refine Yh ?_ GE387.out)|exact HB.out)) hb);have n2_:=Ya (Zf);have n3_:=Ya ((by rw[hg];exact(Yi (by repeat(first|(with_reducible first|exact HB.out|apply Ye|apply Yd|apply Yg|refine Yh ?_ GE387.out)|exact HB.out))):w.heap.size≤gb388));have n4_:=Ya ((by rw[hg];exact(Yi (by repeat(first|(with_reducible first|exact HB.out|apply Ye|apply Yd|apply Yg|refine Yh ?_ GE387.out)|exact HB.out))):w.heap.size≤gb388));have n5_:=Ya ((by rw[hg];exact Nat.ne_of_lt (blk_lt (g:=Vw) (o:= .cells #[.int .i64 Zc, .bool Zb, .slice Ze Za.length Zd, .slice Xq Zs.length Xr] 115 (0,0)) (by(with_reducible repeat(first|refine Yl ?_ _|refine Ym ?_|refine Yj ?_ _));exact Vd.out)):Vw≠gb388));have n6_:=Ya ((by rw[hg];exact Nat.ne_of_gt (blk_lt (g:=Vw) (o:= .cells #[.int .i64 Zc, .bool Zb, .slice Ze Za.length Zd, .slice Xq Zs.length Xr] 115 (0,0)) (by(with_reducible repeat(first|refine Yl ?_ _|refine Ym ?_|refine Yj ?_ _));exact Vd.out)):gb388≠Vw));clear Vd;clear HB;have Vd:=n0_;have HB:=n1_;have BK388:=n2_;have GW388:=n3_;have GE388:=n4_;have NB387_388:=n5_;have NB388_387:=n6_;clear n0_ n1_ n2_ n3_ n4_ n5_ n6_;clear hb Zf hg;have hnb15:=NB388_387.out;have hnc15:=NB387_388.out;have hcz16_0:w14.cell? ⟨gb388,0,none⟩=some (.int .i64 Zg):=(Yc BK388.out 0).trans rfl;have hcz16_1:w14.cell? ⟨gb388,1,none⟩=some (.bool false):=(Yc BK388.out 1).trans rfl;have hfz16_0:=Yf BK388.out 0;have hfz16_1:=Yf BK388.out 1;have Uh:w14.cell? ⟨Vw,0,none⟩=some (.int .i64 Zc):=(Yc Vd.out 0).trans rfl;have Ui:w14.cell? ⟨Vw,1,none⟩=some (.bool Zb):=(Yc Vd.out 1).trans rfl;have Jk:w14.cell? ⟨Vw,2,none⟩=some (.slice Ze Za.length Zd):=(Yc Vd.out 2).trans rfl;have hcz17_3:w14.cell? ⟨Vw,3,none⟩=some (.slice Xq Zs.length Xr):=(Yc Vd.out 3).trans rfl;have Uj:=Yf Vd.out 0;have Uk:=Yf Vd.out 1;have Jl:=Yf Vd.out 2;have hfz17_3:=Yf Vd.out 3;have p390:0≤(Zg:Int):=Yu (by first|(with_reducible assumption)|assumption);have q390:Zg<(Za.length:Int):=Yu (by first|(with_reducible assumption)|assumption);obtain⟨ad390,e390,hx390_0,hx390_1,hx390_2,hx390_3⟩:=at_T74 Zl.out Zg p390 q390;cases e390;replace hx390_0:=(HB.out.cell (Yb w _ hx390_0)).trans hx390_0;replace hx390_1:=(HB.out.cell (Yb w _ hx390_1)).trans hx390_1;replace hx390_2:=(HB.out.cell (Yb w _ hx390_2)).trans hx390_2;replace hx390_3:=(HB.out.cell (Yb w _ hx390_3)).trans hx390_3;replace p390:=eq_true p390;replace q390:=eq_true q390))
 go_ret
 exact⟨by first|rfl|(simp[errW_none,errW_some]<;>rfl)|(simp[*,errW_none,errW_some]<;>rfl),by repeat(first|(with_reducible first|exact HB.out|apply Ye|apply Yd|apply Yg|refine Yh ?_ GE387.out|refine Yh ?_ GE388.out)|exact HB.out)⟩
end P
namespace P
attribute [local go_sem] max2_int min2_int max_two min_two max_three min_three max_four min_four
def static_Flowing_Room.f (Zc:Int) (Zb:Bool) (Za:List (S74)) (Zs:List Int) (Zg:Int) (Xt:Bool):Option (Int):=if Xt=true then(if 0≤Zg then(if Zg<(Zs.length:Int) then(some (rd Zs Zg)) else(none)) else(none)) else(if 0≤Zg then(if Zg<(Za.length:Int) then(if Zg<(Zs.length:Int) then(some (wrap64 (((rd_T74 Za Zg).f2) - (rd Zs Zg)))) else(none)) else(none)) else(none))
set_option maxHeartbeats 8000000 in
set_option maxRecDepth 100000 in
theorem static_Flowing_Room.calls (Zc:Int) (Zb:Bool) (Ze:Option Addr) (Zd:Nat) (Za:List (S74)) (Xq:Option Addr) (Xr:Nat) (Zs:List Int) (Zg:Int) (Xt:Bool) (r:Int) (w:World) (Zq:Kd.C k74 w Ze Za.length Za) (Zr:Za.length≤Zd) (hr0_3:Kd.C (Kd.int .i64) w Xq Zs.length Zs) (hc0_3:Zs.length≤Xr) (h:static_Flowing_Room.f Zc Zb Za Zs Zg Xt=some r):
  Calls Try.prog 104 #[.agg #[.int .i64 Zc, .bool Zb, .slice Ze Za.length Zd, .slice Xq Zs.length Xr], .agg #[.int .i64 Zg, .bool Xt]] w fun e w'=>e= .returned (.int .i64 r)∧Below w.heap.size w w':=by
 have hu115:=Try.underlying115
 have hu38:=Try.underlying38
 have Zl:=Ya Zq
 have Xd:=Ya Zr
 clear Zq Zr
 have HR0_3:=Ya hr0_3
 have HC0_3:=Ya hc0_3
 clear hr0_3 hc0_3
 have HB:=Ya (Yo w.heap.size w)
 have H:(if Xt=true then(if 0≤Zg then(if Zg<(Zs.length:Int) then(some (rd Zs Zg)) else(none)) else(none)) else(if 0≤Zg then(if Zg<(Za.length:Int) then(if Zg<(Zs.length:Int) then(some (wrap64 (((rd_T74 Za Zg).f2) - (rd Zs Zg)))) else(none)) else(none)) else(none)))=some r:=h
 clear h
 by_cases c3:Xt=true
 ·subst c3
  have H1:(if 0≤Zg then(if Zg<(Zs.length:Int) then(some (rd Zs Zg)) else(none)) else(none))=some r:=by first|(rw[Yx rfl] at H;exact H)|(rw[Yx trivial] at H;exact H)
  clear H
  have H:=H1
  clear H1
  by_cases c4:0≤Zg
  rotate_left
  ·rw[Yy c4] at H
   exact absurd H (by simp)
  rw[Yx c4] at H
  have c4b0:decide (0≤Zg)=true:=Yv c4
  clear c4
  by_cases c5:Zg<(Zs.length:Int)
  rotate_left
  ·rw[Yy c5] at H
   exact absurd H (by simp)
  rw[Yx c5] at H
  have c5b0:decide (Zg<(Zs.length:Int))=true:=Yv c5
  clear c5
  obtain rfl:=Option.some.inj H
  go_enter Try.func104,Try.ntmps104
  go_wp2_with (first|((with_reducible refine gate_dst (N:=2) rfl ?_);refine Yz ?hg (N:=2) ?hd (cs:= #[.int .i64 Zc, .bool Zb, .slice Ze Za.length Zd, .slice Xq Zs.length Xr]) (t:=115) ?hr ?_;(case hd=>rfl);(case hg=>rfl);(case hr=>first|(go_simp;done)|(go_simp;rfl));intro Zw hg w6 Zf hb;have n0_:=Ya (Yk (by repeat(first|(with_reducible first|exact HB.out|apply Ye|apply Yd|apply Yg)|exact HB.out)) hb);have n1_:=Ya (Zf);have n2_:=Ya ((by rw[hg];exact(Yi (by repeat(first|(with_reducible first|exact HB.out|apply Ye|apply Yd|apply Yg)|exact HB.out))):w.heap.size≤Zw));have n3_:=Ya ((by rw[hg];exact(Yi (by repeat(first|(with_reducible first|exact HB.out|apply Ye|apply Yd|apply Yg)|exact HB.out))):w.heap.size≤Zw));clear HB;have HB:=n0_;have Zp:=n1_;have GW375:=n2_;have Vq:=n3_;clear n0_ n1_ n2_ n3_;clear hb Zf hg)|((with_reducible refine gate_dst (N:=3) rfl ?_);refine Yz ?hg (N:=3) ?hd (cs:= #[.int .i64 Zg, .bool true]) (t:=38) ?hr ?_;(case hd=>rfl);(case hg=>rfl);(case hr=>first|(go_simp;done)|(go_simp;rfl));intro Wb hg w7 Zf hb;have n0_:=Ya (Yn (g:=Zw) (o:= .cells #[.int .i64 Zc, .bool Zb, .slice Ze Za.length Zd, .slice Xq Zs.length Xr] 115 (0,0)) (by(with_reducible repeat(first|refine Yl ?_ _|refine Ym ?_|refine Yj ?_ _));exact Zp.out) hb);have n1_:=Ya (Yk (by repeat(first|(with_reducible first|exact HB.out|apply Ye|apply Yd|apply Yg|refine Yh ?_ Vq.out)|exact HB.out)) hb);have n2_:=Ya (Zf);have n3_:=Ya ((by rw[hg];exact(Yi (by repeat(first|(with_reducible first|exact HB.out|apply Ye|apply Yd|apply Yg|refine Yh ?_ Vq.out)|exact HB.out))):w.heap.size≤Wb));have n4_:=Ya ((by rw[hg];exact(Yi (by repeat(first|(with_reducible first|exact HB.out|apply Ye|apply Yd|apply Yg|refine Yh ?_ Vq.out)|exact HB.out))):w.heap.size≤Wb));have n5_:=Ya ((by rw[hg];exact Nat.ne_of_lt (blk_lt (g:=Zw) (o:= .cells #[.int .i64 Zc, .bool Zb, .slice Ze Za.length Zd, .slice Xq Zs.length Xr] 115 (0,0)) (by(with_reducible repeat(first|refine Yl ?_ _|refine Ym ?_|refine Yj ?_ _));exact Zp.out)):Zw≠Wb));have n6_:=Ya ((by rw[hg];exact Nat.ne_of_gt (blk_lt (g:=Zw) (o:= .cells #[.int .i64 Zc, .bool Zb, .slice Ze Za.length Zd, .slice Xq Zs.length Xr] 115 (0,0)) (by(with_reducible repeat(first|refine Yl ?_ _|refine Ym ?_|refine Yj ?_ _));exact Zp.out)):Wb≠Zw));clear Zp;clear HB;have Zp:=n0_;have HB:=n1_;have Wy:=n2_;have GW376:=n3_;have GE376:=n4_;have Ve:=n5_;have Vf:=n6_;clear n0_ n1_ n2_ n3_ n4_ n5_ n6_;clear hb Zf hg;have hnb8:=Vf.out;have hnc8:=Ve.out;have Jr:w7.cell? ⟨Wb,0,none⟩=some (.int .i64 Zg):=(Yc Wy.out 0).trans rfl;have Js:w7.cell? ⟨Wb,1,none⟩=some (.bool true):=(Yc Wy.out 1).trans rfl;have Jt:=Yf Wy.out 0;have Ju:=Yf Wy.out 1;have Uz:w7.cell? ⟨Zw,0,none⟩=some (.int .i64 Zc):=(Yc Zp.out 0).trans rfl;have Ja:w7.cell? ⟨Zw,1,none⟩=some (.bool Zb):=(Yc Zp.out 1).trans rfl;have Jb:w7.cell? ⟨Zw,2,none⟩=some (.slice Ze Za.length Zd):=(Yc Zp.out 2).trans rfl;have hcz10_3:w7.cell? ⟨Zw,3,none⟩=some (.slice Xq Zs.length Xr):=(Yc Zp.out 3).trans rfl;have Jc:=Yf Zp.out 0;have Jd:=Yf Zp.out 1;have Je:=Yf Zp.out 2;have hfz10_3:=Yf Zp.out 3;have p377:0≤(Zg:Int):=Yu (by first|(with_reducible assumption)|assumption);have q377:Zg<(Zs.length:Int):=Yu (by first|(with_reducible assumption)|assumption);obtain⟨ad377,e377,Up⟩:=Kd.at_int HR0_3.out Zg p377 q377;cases e377;replace Up:=(HB.out.cell (Yb w _ Up)).trans Up;replace p377:=eq_true p377;replace q377:=eq_true q377))
  repeat(go_quiet (first|((with_reducible refine gate_dst (N:=2) rfl ?_);refine Yz ?hg (N:=2) ?hd (cs:= #[.int .i64 Zc, .bool Zb, .slice Ze Za.length Zd, .slice Xq Zs.length Xr]) (t:=115) ?hr ?_;(case hd=>rfl);(case hg=>rfl);(case hr=>first|(go_simp;done)|(go_simp;rfl));intro Zw hg w6 Zf hb;have n0_:=Ya (Yk (by repeat(first|(with_reducible first|exact HB.out|apply Ye|apply Yd|apply Yg)|exact HB.out)) hb);have n1_:=Ya (Zf);have n2_:=Ya ((by rw[hg];exact(Yi (by repeat(first|(with_reducible first|exact HB.out|apply Ye|apply Yd|apply Yg)|exact HB.out))):w.heap.size≤Zw));have n3_:=Ya ((by rw[hg];exact(Yi (by repeat(first|(with_reducible first|exact HB.out|apply Ye|apply Yd|apply Yg)|exact HB.out))):w.heap.size≤Zw));clear HB;have HB:=n0_;have Zp:=n1_;have GW375:=n2_;have Vq:=n3_;clear n0_ n1_ n2_ n3_;clear hb Zf hg)|((with_reducible refine gate_dst (N:=3) rfl ?_);refine Yz ?hg (N:=3) ?hd (cs:= #[.int .i64 Zg, .bool true]) (t:=38) ?hr ?_;(case hd=>rfl);(case hg=>rfl);(case hr=>first|(go_simp;done)|(go_simp;rfl));intro Wb hg w7 Zf hb;have n0_:=Ya (Yn (g:=Zw) (o:= .cells #[.int .i64 Zc, .bool Zb, .slice Ze Za.length Zd, .slice Xq Zs.length Xr] 115 (0,0)) (by(with_reducible repeat(first|refine Yl ?_ _|refine Ym ?_|refine Yj ?_ _));exact Zp.out) hb);have n1_:=Ya (Yk (by repeat(first|(with_reducible first|exact HB.out|apply Ye|apply Yd|apply Yg|refine Yh ?_ Vq.out)|exact HB.out)) hb);have n2_:=Ya (Zf);have n3_:=Ya ((by rw[hg];exact(Yi (by repeat(first|(with_reducible first|exact HB.out|apply Ye|apply Yd|apply Yg|refine Yh ?_ Vq.out)|exact HB.out))):w.heap.size≤Wb));have n4_:=Ya ((by rw[hg];exact(Yi (by repeat(first|(with_reducible first|exact HB.out|apply Ye|apply Yd|apply Yg|refine Yh ?_ Vq.out)|exact HB.out))):w.heap.size≤Wb));have n5_:=Ya ((by rw[hg];exact Nat.ne_of_lt (blk_lt (g:=Zw) (o:= .cells #[.int .i64 Zc, .bool Zb, .slice Ze Za.length Zd, .slice Xq Zs.length Xr] 115 (0,0)) (by(with_reducible repeat(first|refine Yl ?_ _|refine Ym ?_|refine Yj ?_ _));exact Zp.out)):Zw≠Wb));have n6_:=Ya ((by rw[hg];exact Nat.ne_of_gt (blk_lt (g:=Zw) (o:= .cells #[.int .i64 Zc, .bool Zb, .slice Ze Za.length Zd, .slice Xq Zs.length Xr] 115 (0,0)) (by(with_reducible repeat(first|refine Yl ?_ _|refine Ym ?_|refine Yj ?_ _));exact Zp.out)):Wb≠Zw));clear Zp;clear HB;have Zp:=n0_;have HB:=n1_;have Wy:=n2_;have GW376:=n3_;have GE376:=n4_;have Ve:=n5_;have Vf:=n6_;clear n0_ n1_ n2_ n3_ n4_ n5_ n6_;clear hb Zf hg;have hnb8:=Vf.out;have hnc8:=Ve.out;have Jr:w7.cell? ⟨Wb,0,none⟩=some (.int .i64 Zg):=(Yc Wy.out 0).trans rfl;have Js:w7.cell? ⟨Wb,1,none⟩=some (.bool true):=(Yc Wy.out 1).trans rfl;have Jt:=Yf Wy.out 0;have Ju:=Yf Wy.out 1;have Uz:w7.cell? ⟨Zw,0,none⟩=some (.int .i64 Zc):=(Yc Zp.out 0).trans rfl;have Ja:w7.cell? ⟨Zw,1,none⟩=some (.bool Zb):=(Yc Zp.out 1).trans rfl;have Jb:w7.cell? ⟨Zw,2,none⟩=some (.slice Ze Za.length Zd):=(Yc Zp.out 2).trans rfl;have hcz10_3:w7.cell? ⟨Zw,3,none⟩=some (.slice Xq Zs.length Xr):=(Yc Zp.out 3).trans rfl;have Jc:=Yf Zp.out 0;have Jd:=Yf Zp.out 1;have Je:=Yf Zp.out 2;have hfz10_3:=Yf Zp.out 3;have p377:0≤(Zg:Int):=Yu (by first|(with_reducible assumption)|assumption);have q377:Zg<(Zs.length:Int):=Yu (by first|(with_reducible assumption)|assumption);obtain⟨ad377,e377,Up⟩:=Kd.at_int HR0_3.out Zg p377 q377;cases e377;replace Up:=(HB.out.cell (Yb w _ Up)).trans Up;replace p377:=eq_true p377;replace q377:=eq_true q377));try go_wp2_with (first|((with_reducible refine gate_dst (N:=2) rfl ?_);refine Yz ?hg (N:=2) ?hd (cs:= #[.int .i64 Zc, .bool Zb, .slice Ze Za.length Zd, .slice Xq Zs.length Xr]) (t:=115) ?hr ?_;(case hd=>rfl);(case hg=>rfl);(case hr=>first|(go_simp;done)|(go_simp;rfl));intro Zw hg w6 Zf hb;have n0_:=Ya (Yk (by repeat(first|(with_reducible first|exact HB.out|apply Ye|apply Yd|apply Yg)|exact HB.out)) hb);have n1_:=Ya (Zf);have n2_:=Ya ((by rw[hg];exact(Yi (by repeat(first|(with_reducible first|exact HB.out|apply Ye|apply Yd|apply Yg)|exact HB.out))):w.heap.size≤Zw));have n3_:=Ya ((by rw[hg];exact(Yi (by repeat(first|(with_reducible first|exact HB.out|apply Ye|apply Yd|apply Yg)|exact HB.out))):w.heap.size≤Zw));clear HB;have HB:=n0_;have Zp:=n1_;have GW375:=n2_;have Vq:=n3_;clear n0_ n1_ n2_ n3_;clear hb Zf hg)|((with_reducible refine gate_dst (N:=3) rfl ?_);refine Yz ?hg (N:=3) ?hd (cs:= #[.int .i64 Zg, .bool true]) (t:=38) ?hr ?_;(case hd=>rfl);(case hg=>rfl);(case hr=>first|(go_simp;done)|(go_simp;rfl));intro Wb hg w7 Zf hb;have n0_:=Ya (Yn (g:=Zw) (o:= .cells #[.int .i64 Zc, .bool Zb, .slice Ze Za.length Zd, .slice Xq Zs.length Xr] 115 (0,0)) (by(with_reducible repeat(first|refine Yl ?_ _|refine Ym ?_|refine Yj ?_ _));exact Zp.out) hb);have n1_:=Ya (Yk (by repeat(first|(with_reducible first|exact HB.out|apply Ye|apply Yd|apply Yg|refine Yh ?_ Vq.out)|exact HB.out)) hb);have n2_:=Ya (Zf);have n3_:=Ya ((by rw[hg];exact(Yi (by repeat(first|(with_reducible first|exact HB.out|apply Ye|apply Yd|apply Yg|refine Yh ?_ Vq.out)|exact HB.out))):w.heap.size≤Wb));have n4_:=Ya ((by rw[hg];exact(Yi (by repeat(first|(with_reducible first|exact HB.out|apply Ye|apply Yd|apply Yg|refine Yh ?_ Vq.out)|exact HB.out))):w.heap.size≤Wb));have n5_:=Ya ((by rw[hg];exact Nat.ne_of_lt (blk_lt (g:=Zw) (o:= .cells #[.int .i64 Zc, .bool Zb, .slice Ze Za.length Zd, .slice Xq Zs.length Xr] 115 (0,0)) (by(with_reducible repeat(first|refine Yl ?_ _|refine Ym ?_|refine Yj ?_ _));exact Zp.out)):Zw≠Wb));have n6_:=Ya ((by rw[hg];exact Nat.ne_of_gt (blk_lt (g:=Zw) (o:= .cells #[.int .i64 Zc, .bool Zb, .slice Ze Za.length Zd, .slice Xq Zs.length Xr] 115 (0,0)) (by(with_reducible repeat(first|refine Yl ?_ _|refine Ym ?_|refine Yj ?_ _));exact Zp.out)):Wb≠Zw));clear Zp;clear HB;have Zp:=n0_;have HB:=n1_;have Wy:=n2_;have GW376:=n3_;have GE376:=n4_;have Ve:=n5_;have Vf:=n6_;clear n0_ n1_ n2_ n3_ n4_ n5_ n6_;clear hb Zf hg;have hnb8:=Vf.out;have hnc8:=Ve.out;have Jr:w7.cell? ⟨Wb,0,none⟩=some (.int .i64 Zg):=(Yc Wy.out 0).trans rfl;have Js:w7.cell? ⟨Wb,1,none⟩=some (.bool true):=(Yc Wy.out 1).trans rfl;have Jt:=Yf Wy.out 0;have Ju:=Yf Wy.out 1;have Uz:w7.cell? ⟨Zw,0,none⟩=some (.int .i64 Zc):=(Yc Zp.out 0).trans rfl;have Ja:w7.cell? ⟨Zw,1,none⟩=some (.bool Zb):=(Yc Zp.out 1).trans rfl;have Jb:w7.cell? ⟨Zw,2,none⟩=some (.slice Ze Za.length Zd):=(Yc Zp.out 2).trans rfl;have hcz10_3:w7.cell? ⟨Zw,3,none⟩=some (.slice Xq Zs.length Xr):=(Yc Zp.out 3).trans rfl;have Jc:=Yf Zp.out 0;have Jd:=Yf Zp.out 1;have Je:=Yf Zp.out 2;have hfz10_3:=Yf Zp.out 3;have p377:0≤(Zg:Int):=Yu (by first|(with_reducible assumption)|assumption);have q377:Zg<(Zs.length:Int):=Yu (by first|(with_reducible assumption)|assumption);obtain⟨ad377,e377,Up⟩:=Kd.at_int HR0_3.out Zg p377 q377;cases e377;replace Up:=(HB.out.cell (Yb w _ Up)).trans Up;replace p377:=eq_true p377;replace q377:=eq_true q377)))
  go_ret
  exact⟨by first|rfl|(simp[errW_none,errW_some]<;>rfl)|(simp[*,errW_none,errW_some]<;>rfl),by repeat(first|(with_reducible first|exact HB.out|apply Ye|apply Yd|apply Yg|refine Yh ?_ Vq.out|refine Yh ?_ GE376.out)|exact HB.out)⟩
 replace c3:=Bool.eq_false_iff.mpr c3
 subst c3
 have H1:(if 0≤Zg then(if Zg<(Za.length:Int) then(if Zg<(Zs.length:Int) then(some (wrap64 (((rd_T74 Za Zg).f2) - (rd Zs Zg)))) else(none)) else(none)) else(none))=some r:=by rw[Yy (show ¬ (false=true) by decide)] at H;exact H
 clear H
 have H:=H1
 clear H1
 by_cases c11:0≤Zg
 rotate_left
 ·rw[Yy c11] at H
  exact absurd H (by simp)
 rw[Yx c11] at H
 have c11b0:decide (0≤Zg)=true:=Yv c11
 clear c11
 by_cases c12:Zg<(Za.length:Int)
 rotate_left
 ·rw[Yy c12] at H
  exact absurd H (by simp)
 rw[Yx c12] at H
 have c12b0:decide (Zg<(Za.length:Int))=true:=Yv c12
 clear c12
 by_cases c13:Zg<(Zs.length:Int)
 rotate_left
 ·rw[Yy c13] at H
  exact absurd H (by simp)
 rw[Yx c13] at H
 have c13b0:decide (Zg<(Zs.length:Int))=true:=Yv c13
 clear c13
 obtain rfl:=Option.some.inj H
 go_enter Try.func104,Try.ntmps104
 go_wp2_with (first|((with_reducible refine gate_dst (N:=2) rfl ?_);refine Yz ?hg (N:=2) ?hd (cs:= #[.int .i64 Zc, .bool Zb, .slice Ze Za.length Zd, .slice Xq Zs.length Xr]) (t:=115) ?hr ?_;(case hd=>rfl);(case hg=>rfl);(case hr=>first|(go_simp;done)|(go_simp;rfl));intro Zw hg w14 Zf hb;have n0_:=Ya (Yk (by repeat(first|(with_reducible first|exact HB.out|apply Ye|apply Yd|apply Yg)|exact HB.out)) hb);have n1_:=Ya (Zf);have n2_:=Ya ((by rw[hg];exact(Yi (by repeat(first|(with_reducible first|exact HB.out|apply Ye|apply Yd|apply Yg)|exact HB.out))):w.heap.size≤Zw));have n3_:=Ya ((by rw[hg];exact(Yi (by repeat(first|(with_reducible first|exact HB.out|apply Ye|apply Yd|apply Yg)|exact HB.out))):w.heap.size≤Zw));clear HB;have HB:=n0_;have Zp:=n1_;have GW375:=n2_;have Vq:=n3_;clear n0_ n1_ n2_ n3_;clear hb Zf hg)|((with_reducible refine gate_dst (N:=3) rfl ?_);refine Yz ?hg (N:=3) ?hd (cs:= #[.int .i64 Zg, .bool false]) (t:=38) ?hr ?_;(case hd=>rfl);(case hg=>rfl);(case hr=>first|(go_simp;done)|(go_simp;rfl));intro Wb hg w15 Zf hb;have n0_:=Ya (Yn (g:=Zw) (o:= .cells #[.int .i64 Zc, .bool Zb, .slice Ze Za.length Zd, .slice Xq Zs.length Xr] 115 (0,0)) (by(with_reducible repeat(first|refine Yl ?_ _|refine Ym ?_|refine Yj ?_ _));exact Zp.out) hb);have n1_:=Ya (Yk (by repeat(first|(with_reducible first|exact HB.out|apply Ye|apply Yd|apply Yg|refine Yh ?_ Vq.out)|exact HB.out)) hb);have n2_:=Ya (Zf);have n3_:=Ya ((by rw[hg];exact(Yi (by repeat(first|(with_reducible first|exact HB.out|apply Ye|apply Yd|apply Yg|refine Yh ?_ Vq.out)|exact HB.out))):w.heap.size≤Wb));have n4_:=Ya ((by rw[hg];exact(Yi (by repeat(first|(with_reducible first|exact HB.out|apply Ye|apply Yd|apply Yg|refine Yh ?_ Vq.out)|exact HB.out))):w.heap.size≤Wb));have n5_:=Ya ((by rw[hg];exact Nat.ne_of_lt (blk_lt (g:=Zw) (o:= .cells #[.int .i64 Zc, .bool Zb, .slice Ze Za.length Zd, .slice Xq Zs.length Xr] 115 (0,0)) (by(with_reducible repeat(first|refine Yl ?_ _|refine Ym ?_|refine Yj ?_ _));exact Zp.out)):Zw≠Wb));have n6_:=Ya ((by rw[hg];exact Nat.ne_of_gt (blk_lt (g:=Zw) (o:= .cells #[.int .i64 Zc, .bool Zb, .slice Ze Za.length Zd, .slice Xq Zs.length Xr] 115 (0,0)) (by(with_reducible repeat(first|refine Yl ?_ _|refine Ym ?_|refine Yj ?_ _));exact Zp.out)):Wb≠Zw));clear Zp;clear HB;have Zp:=n0_;have HB:=n1_;have Wy:=n2_;have GW376:=n3_;have GE376:=n4_;have Ve:=n5_;have Vf:=n6_;clear n0_ n1_ n2_ n3_ n4_ n5_ n6_;clear hb Zf hg;have hnb16:=Vf.out;have hnc16:=Ve.out;have Uh:w15.cell? ⟨Wb,0,none⟩=some (.int .i64 Zg):=(Yc Wy.out 0).trans rfl;have Ui:w15.cell? ⟨Wb,1,none⟩=some (.bool false):=(Yc Wy.out 1).trans rfl;have Uj:=Yf Wy.out 0;have Uk:=Yf Wy.out 1;have hcz18_0:w15.cell? ⟨Zw,0,none⟩=some (.int .i64 Zc):=(Yc Zp.out 0).trans rfl;have hcz18_1:w15.cell? ⟨Zw,1,none⟩=some (.bool Zb):=(Yc Zp.out 1).trans rfl;have hcz18_2:w15.cell? ⟨Zw,2,none⟩=some (.slice Ze Za.length Zd):=(Yc Zp.out 2).trans rfl;have hcz18_3:w15.cell? ⟨Zw,3,none⟩=some (.slice Xq Zs.length Xr):=(Yc Zp.out 3).trans rfl;have hfz18_0:=Yf Zp.out 0;have hfz18_1:=Yf Zp.out 1;have hfz18_2:=Yf Zp.out 2;have hfz18_3:=Yf Zp.out 3;have p378:0≤(Zg:Int):=Yu (by first|(with_reducible assumption)|assumption);have q378:Zg<(Za.length:Int):=Yu (by first|(with_reducible assumption)|assumption);obtain⟨ad378,e378,Uq,Ur,Us,Ut⟩:=at_T74 Zl.out Zg p378 q378;cases e378;replace Uq:=(HB.out.cell (Yb w _ Uq)).trans Uq;replace Ur:=(HB.out.cell (Yb w _ Ur)).trans Ur;replace Us:=(HB.out.cell (Yb w _ Us)).trans Us;replace Ut:=(HB.out.cell (Yb w _ Ut)).trans Ut;replace p378:=eq_true p378;replace q378:=eq_true q378;have p379:0≤(Zg:Int):=Yu (by first|(with_reducible assumption)|assumption);have q379:Zg<(Zs.length:Int):=Yu (by first|(with_reducible assumption)|assumption);obtain⟨ad379,e379,Uu⟩:=Kd.at_int HR0_3.out Zg p379 q379;cases e379;replace Uu:=(HB.out.cell (Yb w _ Uu)).trans Uu;replace p379:=eq_true p379;replace q379:=eq_true q379))
 repeat(go_quiet (first|((with_reducible refine gate_dst (N:=2) rfl ?_);refine Yz ?hg (N:=2) ?hd (cs:= #[.int .i64 Zc, .bool Zb, .slice Ze Za.length Zd, .slice Xq Zs.length Xr]) (t:=115) ?hr ?_;(case hd=>rfl);(case hg=>rfl);(case hr=>first|(go_simp;done)|(go_simp;rfl));intro Zw hg w14 Zf hb;have n0_:=Ya (Yk (by repeat(first|(with_reducible first|exact HB.out|apply Ye|apply Yd|apply Yg)|exact HB.out)) hb);have n1_:=Ya (Zf);have n2_:=Ya ((by rw[hg];exact(Yi (by repeat(first|(with_reducible first|exact HB.out|apply Ye|apply Yd|apply Yg)|exact HB.out))):w.heap.size≤Zw));have n3_:=Ya ((by rw[hg];exact(Yi (by repeat(first|(with_reducible first|exact HB.out|apply Ye|apply Yd|apply Yg)|exact HB.out))):w.heap.size≤Zw));clear HB;have HB:=n0_;have Zp:=n1_;have GW375:=n2_;have Vq:=n3_;clear n0_ n1_ n2_ n3_;clear hb Zf hg)|((with_reducible refine gate_dst (N:=3) rfl ?_);refine Yz ?hg (N:=3) ?hd (cs:= #[.int .i64 Zg, .bool false]) (t:=38) ?hr ?_;(case hd=>rfl);(case hg=>rfl);(case hr=>first|(go_simp;done)|(go_simp;rfl));intro Wb hg w15 Zf hb;have n0_:=Ya (Yn (g:=Zw) (o:= .cells #[.int .i64 Zc, .bool Zb, .slice Ze Za.length Zd, .slice Xq Zs.length Xr] 115 (0,0)) (by(with_reducible repeat(first|refine Yl ?_ _|refine Ym ?_|refine Yj ?_ _));exact Zp.out) hb);have n1_:=Ya (Yk (by repeat(first|(with_reducible first|exact HB.out|apply Ye|apply Yd|apply Yg|refine Yh ?_ Vq.out)|exact HB.out)) hb);have n2_:=Ya (Zf);have n3_:=Ya ((by rw[hg];exact(Yi (by repeat(first|(with_reducible first|exact HB.out|apply Ye|apply Yd|apply Yg|refine Yh ?_ Vq.out)|exact HB.out))):w.heap.size≤Wb));have n4_:=Ya ((by rw[hg];exact(Yi (by repeat(first|(with_reducible first|exact HB.out|apply Ye|apply Yd|apply Yg|refine Yh ?_ Vq.out)|exact HB.out))):w.heap.size≤Wb));have n5_:=Ya ((by rw[hg];exact Nat.ne_of_lt (blk_lt (g:=Zw) (o:= .cells #[.int .i64 Zc, .bool Zb, .slice Ze Za.length Zd, .slice Xq Zs.length Xr] 115 (0,0)) (by(with_reducible repeat(first|refine Yl ?_ _|refine Ym ?_|refine Yj ?_ _));exact Zp.out)):Zw≠Wb));have n6_:=Ya ((by rw[hg];exact Nat.ne_of_gt (blk_lt (g:=Zw) (o:= .cells #[.int .i64 Zc, .bool Zb, .slice Ze Za.length Zd, .slice Xq Zs.length Xr] 115 (0,0)) (by(with_reducible repeat(first|refine Yl ?_ _|refine Ym ?_|refine Yj ?_ _));exact Zp.out)):Wb≠Zw));clear Zp;clear HB;have Zp:=n0_;have HB:=n1_;have Wy:=n2_;have GW376:=n3_;have GE376:=n4_;have Ve:=n5_;have Vf:=n6_;clear n0_ n1_ n2_ n3_ n4_ n5_ n6_;clear hb Zf hg;have hnb16:=Vf.out;have hnc16:=Ve.out;have Uh:w15.cell? ⟨Wb,0,none⟩=some (.int .i64 Zg):=(Yc Wy.out 0).trans rfl;have Ui:w15.cell? ⟨Wb,1,none⟩=some (.bool false):=(Yc Wy.out 1).trans rfl;have Uj:=Yf Wy.out 0;have Uk:=Yf Wy.out 1;have hcz18_0:w15.cell? ⟨Zw,0,none⟩=some (.int .i64 Zc):=(Yc Zp.out 0).trans rfl;have hcz18_1:w15.cell? ⟨Zw,1,none⟩=some (.bool Zb):=(Yc Zp.out 1).trans rfl;have hcz18_2:w15.cell? ⟨Zw,2,none⟩=some (.slice Ze Za.length Zd):=(Yc Zp.out 2).trans rfl;have hcz18_3:w15.cell? ⟨Zw,3,none⟩=some (.slice Xq Zs.length Xr):=(Yc Zp.out 3).trans rfl;have hfz18_0:=Yf Zp.out 0;have hfz18_1:=Yf Zp.out 1;have hfz18_2:=Yf Zp.out 2;have hfz18_3:=Yf Zp.out 3;have p378:0≤(Zg:Int):=Yu (by first|(with_reducible assumption)|assumption);have q378:Zg<(Za.length:Int):=Yu (by first|(with_reducible assumption)|assumption);obtain⟨ad378,e378,Uq,Ur,Us,Ut⟩:=at_T74 Zl.out Zg p378 q378;cases e378;replace Uq:=(HB.out.cell (Yb w _ Uq)).trans Uq;replace Ur:=(HB.out.cell (Yb w _ Ur)).trans Ur;replace Us:=(HB.out.cell (Yb w _ Us)).trans Us;replace Ut:=(HB.out.cell (Yb w _ Ut)).trans Ut;replace p378:=eq_true p378;replace q378:=eq_true q378;have p379:0≤(Zg:Int):=Yu (by first|(with_reducible assumption)|assumption);have q379:Zg<(Zs.length:Int):=Yu (by first|(with_reducible assumption)|assumption);obtain⟨ad379,e379,Uu⟩:=Kd.at_int HR0_3.out Zg p379 q379;cases e379;replace Uu:=(HB.out.cell (Yb w _ Uu)).trans Uu;replace p379:=eq_true p379;replace q379:=eq_true q379));try go_wp2_with (first|((with_reducible refine gate_dst (N:=2) rfl ?_);refine Yz ?hg (N:=2) ?hd (cs:= #[.int .i64 Zc, .bool Zb, .slice Ze Za.length Zd, .slice Xq Zs.length Xr]) (t:=115) ?hr ?_;(case hd=>rfl);(case hg=>rfl);(case hr=>first|(go_simp;done)|(go_simp;rfl));intro Zw hg w14 Zf hb;have n0_:=Ya (Yk (by repeat(first|(with_reducible first|exact HB.out|apply Ye|apply Yd|apply Yg)|exact HB.out)) hb);have n1_:=Ya (Zf);have n2_:=Ya ((by rw[hg];exact(Yi (by repeat(first|(with_reducible first|exact HB.out|apply Ye|apply Yd|apply Yg)|exact HB.out))):w.heap.size≤Zw));have n3_:=Ya ((by rw[hg];exact(Yi (by repeat(first|(with_reducible first|exact HB.out|apply Ye|apply Yd|apply Yg)|exact HB.out))):w.heap.size≤Zw));clear HB;have HB:=n0_;have Zp:=n1_;have GW375:=n2_;have Vq:=n3_;clear n0_ n1_ n2_ n3_;clear hb Zf hg)|((with_reducible refine gate_dst (N:=3) rfl ?_);refine Yz ?hg (N:=3) ?hd (cs:= #[.int .i64 Zg, .bool false]) (t:=38) ?hr ?_;(case hd=>rfl);(case hg=>rfl);(case hr=>first|(go_simp;done)|(go_simp;rfl));intro Wb hg w15 Zf hb;have n0_:=Ya (Yn (g:=Zw) (o:= .cells #[.int .i64 Zc, .bool Zb, .slice Ze Za.length Zd, .slice Xq Zs.length Xr] 115 (0,0)) (by(with_reducible repeat(first|refine Yl ?_ _|refine Ym ?_|refine Yj ?_ _));exact Zp.out) hb);have n1_:=Ya (Yk (by repeat(first|(with_reducible first|exact HB.out|apply Ye|apply Yd|apply Yg|refine Yh ?_ Vq.out)|exact HB.out)) hb);have n2_:=Ya (Zf);have n3_:=Ya ((by rw[hg];exact(Yi (by repeat(first|(with_reducible first|exact HB.out|apply Ye|apply Yd|apply Yg|refine Yh ?_ Vq.out)|exact HB.out))):w.heap.size≤Wb));have n4_:=Ya ((by rw[hg];exact(Yi (by repeat(first|(with_reducible first|exact HB.out|apply Ye|apply Yd|apply Yg|refine Yh ?_ Vq.out)|exact HB.out))):w.heap.size≤Wb));have n5_:=Ya ((by rw[hg];exact Nat.ne_of_lt (blk_lt (g:=Zw) (o:= .cells #[.int .i64 Zc, .bool Zb, .slice Ze Za.length Zd, .slice Xq Zs.length Xr] 115 (0,0)) (by(with_reducible repeat(first|refine Yl ?_ _|refine Ym ?_|refine Yj ?_ _));exact Zp.out)):Zw≠Wb));have n6_:=Ya ((by rw[hg];exact Nat.ne_of_gt (blk_lt (g:=Zw) (o:= .cells #[.int .i64 Zc, .bool Zb, .slice Ze Za.length Zd, .slice Xq Zs.length Xr] 115 (0,0)) (by(with_reducible repeat(first|refine Yl ?_ _|refine Ym ?_|refine Yj ?_ _));exact Zp.out)):Wb≠Zw));clear Zp;clear HB;have Zp:=n0_;have HB:=n1_;have Wy:=n2_;have GW376:=n3_;have GE376:=n4_;have Ve:=n5_;have Vf:=n6_;clear n0_ n1_ n2_ n3_ n4_ n5_ n6_;clear hb Zf hg;have hnb16:=Vf.out;have hnc16:=Ve.out;have Uh:w15.cell? ⟨Wb,0,none⟩=some (.int .i64 Zg):=(Yc Wy.out 0).trans rfl;have Ui:w15.cell? ⟨Wb,1,none⟩=some (.bool false):=(Yc Wy.out 1).trans rfl;have Uj:=Yf Wy.out 0;have Uk:=Yf Wy.out 1;have hcz18_0:w15.cell? ⟨Zw,0,none⟩=some (.int .i64 Zc):=(Yc Zp.out 0).trans rfl;have hcz18_1:w15.cell? ⟨Zw,1,none⟩=some (.bool Zb):=(Yc Zp.out 1).trans rfl;have hcz18_2:w15.cell? ⟨Zw,2,none⟩=some (.slice Ze Za.length Zd):=(Yc Zp.out 2).trans rfl;have hcz18_3:w15.cell? ⟨Zw,3,none⟩=some (.slice Xq Zs.length Xr):=(Yc Zp.out 3).trans rfl;have hfz18_0:=Yf Zp.out 0;have hfz18_1:=Yf Zp.out 1;have hfz18_2:=Yf Zp.out 2;have hfz18_3:=Yf Zp.out 3;have p378:0≤(Zg:Int):=Yu (by first|(with_reducible assumption)|assumption);have q378:Zg<(Za.length:Int):=Yu (by first|(with_reducible assumption)|assumption);obtain⟨ad378,e378,Uq,Ur,Us,Ut⟩:=at_T74 Zl.out Zg p378 q378;cases e378;replace Uq:=(HB.out.cell (Yb w _ Uq)).trans Uq;replace Ur:=(HB.out.cell (Yb w _ Ur)).trans Ur;replace Us:=(HB.out.cell (Yb w _ Us)).trans Us;replace Ut:=(HB.out.cell (Yb w _ Ut)).trans Ut;replace p378:=eq_true p378;replace q378:=eq_true q378;have p379:0≤(Zg:Int):=Yu (by first|(with_reducible assumption)|assumption);have q379:Zg<(Zs.length:Int):=Yu (by first|(with_reducible assumption)|assumption);obtain⟨ad379,e379,Uu⟩:=Kd.at_int HR0_3.out Zg p379 q379;cases e379;replace Uu:=(HB.out.cell (Yb w _ Uu)).trans Uu;replace p379:=eq_true p379;replace q379:=eq_true q379)))
 go_ret
 exact⟨by first|rfl|(simp[errW_none,errW_some]<;>rfl)|(simp[*,errW_none,errW_some]<;>rfl),by repeat(first|(with_reducible first|exact HB.out|apply Ye|apply Yd|apply Yg|refine Yh ?_ Vq.out|refine Yh ?_ GE376.out)|exact HB.out)⟩
end P
namespace H
abbrev Ed:=Nat × Nat × Int
abbrev Tm:=Nat→Option Int
def trig (σ:Tm) (e:Ed):Bool:=
 match σ e.1 with
 |none=>false
 |some x=>match σ e.2.1 with
  |none=>true
  |some y=>decide (x+e.2.2<y)
def relax (σ:Tm) (e:Ed):Tm:=if trig σ e then(fun v=>if v=e.2.1 then some ((σ e.1).getD 0+e.2.2) else σ v) else σ
def Bet (σ τ:Tm):Prop:= ∀ v y,τ v=some y→ ∃ x,σ v=some x∧x≤y
theorem Bet.refl (σ:Tm):Bet σ σ:=fun _ y h=>⟨y,h,Int.le_refl _⟩
theorem Bet.trans {a b c:Tm} (h1:Bet a b) (h2:Bet b c):Bet a c:=fun v y h=>by
 obtain⟨x,hx,hl⟩:=h2 v y h
 obtain⟨z,hz,hm⟩:=h1 v x hx
 exact⟨z,hz,Int.le_trans hm hl⟩
theorem relax_off {σ:Tm} {e:Ed} (h:trig σ e=false):relax σ e=σ:=by unfold relax;rw[h];rfl
theorem trig_some {σ:Tm} {e:Ed} (h:trig σ e=true): ∃ x,σ e.1=some x∧ ∀ y,σ e.2.1=some y→x+e.2.2<y:=by
 unfold trig at h
 cases h1:σ e.1 with
 |none=>rw[h1] at h;cases h
 |some x=>
  rw[h1] at h
  refine⟨x,rfl,fun y hy=> ?_⟩
  rw[hy] at h
  exact Yu h
theorem trig_off {σ:Tm} {e:Ed} (h:trig σ e=false) {x:Int} (hx:σ e.1=some x): ∃ y,σ e.2.1=some y∧y≤x+e.2.2:=by
 unfold trig at h
 rw[hx] at h
 cases h2:σ e.2.1 with
 |none=>rw[h2] at h;cases h
 |some y=>
  rw[h2] at h
  have:=of_decide_eq_false h
  exact⟨y,rfl,by omega⟩
theorem relax_on {σ:Tm} {e:Ed} (h:trig σ e=true) {x:Int} (hx:σ e.1=some x) (v:Nat):relax σ e v=if v=e.2.1 then some (x+e.2.2) else σ v:=by
 unfold relax
 rw[Yx h,hx]
 rfl
theorem relax_bet (σ:Tm) (e:Ed):Bet (relax σ e) σ:=by
 cases h:trig σ e with
 |false=>rw[relax_off h];exact Bet.refl _
 |true=>
  obtain⟨x,hx,hl⟩:=trig_some h
  intro v y hy
  rw[relax_on h hx]
  by_cases hv:v=e.2.1
  ·subst hv
   rw[Yx rfl]
   have:=hl y hy
   exact⟨_,rfl,by omega⟩
  ·rw[Yy hv]
   exact⟨y,hy,Int.le_refl _⟩
theorem relax_hits {σ:Tm} {e:Ed} {x:Int} (hx:σ e.1=some x): ∃ y,relax σ e e.2.1=some y∧y≤x+e.2.2:=by
 cases h:trig σ e with
 |false=>rw[relax_off h];exact trig_off h hx
 |true=>rw[relax_on h hx,Yx rfl];exact⟨_,rfl,Int.le_refl _⟩
def pass (E:List Ed) (σ:Tm):Tm:=E.foldl relax σ
theorem pass_bet (E:List Ed) (σ:Tm):Bet (pass E σ) σ:=by
 induction E generalizing σ with
 |nil=>exact Bet.refl _
 |cons e E ih=>exact(ih (relax σ e)).trans (relax_bet σ e)
theorem pass_hits {E:List Ed} {e:Ed} (he:e∈E) {σ:Tm} {x:Int} (hx:σ e.1=some x): ∃ y,pass E σ e.2.1=some y∧y≤x+e.2.2:=by
 induction E generalizing σ x with
 |nil=>cases he
 |cons h E ih=>
  rcases List.mem_cons.1 he with rfl|he
  ·obtain⟨y,hy,hl⟩:=relax_hits hx
   obtain⟨z,hz,hm⟩:=pass_bet E (relax σ e) _ y hy
   exact⟨z,hz,by omega⟩
  ·obtain⟨x',hx',hl⟩:=relax_bet σ h _ x hx
   obtain⟨y,hy,hm⟩:=ih he hx'
   exact⟨y,hy,by omega⟩
def Path (E:List Ed):Nat→List Ed→Nat→Prop
 |a,[],b=>a=b
 |a,e::l,b=>e∈E∧e.1=a∧Path E e.2.1 l b
def long:List Ed→Int
 |[]=>0
 |e::l=>e.2.2+long l
theorem Path.app {E:List Ed} {a b c:Nat} {l m:List Ed} (h1:Path E a l b) (h2:Path E b m c):Path E a (l ++ m) c:=by
 induction l generalizing a with
 |nil=>cases h1;exact h2
 |cons e l ih=>exact⟨h1.1,h1.2.1,ih h1.2.2⟩
theorem long_app (l m:List Ed):long (l ++ m)=long l+long m:=by
 induction l with
 |nil=>simp[long]
 |cons e l ih=>simp only[List.cons_append,long,ih];omega
theorem Path.mono {E F:List Ed} (hEF: ∀ e,e∈E→e∈F) {a b:Nat} {l:List Ed} (h:Path E a l b):Path F a l b:=by
 induction l generalizing a with
 |nil=>exact h
 |cons e l ih=>exact⟨hEF _ h.1,h.2.1,ih h.2.2⟩
def Real (E:List Ed) (σ0:Tm) (v:Nat) (x:Int):Prop:= ∃ u c l,σ0 u=some c∧Path E u l v∧x=c+long l
theorem real_start {E:List Ed} {σ0:Tm} {v:Nat} {x:Int} (h:σ0 v=some x):Real E σ0 v x:=⟨v,x,[],h,rfl,by simp[long]⟩
theorem real_relax {E:List Ed} {σ0 σ:Tm} {e:Ed} (he:e∈E) (h: ∀ v x,σ v=some x→Real E σ0 v x): ∀ v x,relax σ e v=some x→Real E σ0 v x:=by
 cases ht:trig σ e with
 |false=>rw[relax_off ht];exact h
 |true=>
  obtain⟨y,hy,_⟩:=trig_some ht
  intro v x hx
  rw[relax_on ht hy] at hx
  by_cases hv:v=e.2.1
  ·rw[Yx hv] at hx
   injection hx with hx
   obtain⟨u,c,l,h0,hp,hl⟩:=h _ _ hy
   refine⟨u,c,l ++ [e],h0,hp.app ⟨he,rfl,hv.symm⟩,?_⟩
   rw[long_app, ← hx,hl]
   simp only[long]
   omega
  ·rw[Yy hv] at hx
   exact h v x hx
theorem real_pass {E:List Ed} {σ0:Tm} (F:List Ed) (hF: ∀ e,e∈F→e∈E) {σ:Tm} (h: ∀ v x,σ v=some x→Real E σ0 v x): ∀ v x,pass F σ v=some x→Real E σ0 v x:=by
 induction F generalizing σ with
 |nil=>exact h
 |cons e F ih=>exact ih (fun e he=>hF e (List.mem_cons_of_mem _ he)) (real_relax (hF e List.mem_cons_self) h)
def its (E:List Ed):Nat→Tm→Tm
 |0,σ=>σ
 |k+1,σ=>its E k (pass E σ)
theorem its_succ (E:List Ed) (k:Nat) (σ:Tm):its E (k+1) σ=pass E (its E k σ):=by
 induction k generalizing σ with
 |zero=>rfl
 |succ k ih=>show its E (k+1) (pass E σ)=_;rw[ih];rfl
theorem its_bet (E:List Ed) (k m:Nat) (σ:Tm):Bet (its E (k+m) σ) (its E k σ):=by
 induction m with
 |zero=>exact Bet.refl _
 |succ m ih=>rw[← Nat.add_assoc,its_succ];exact(pass_bet E _).trans ih
theorem its_real (E:List Ed) (k:Nat) (σ:Tm): ∀ v x,its E k σ v=some x→Real E σ v x:=by
 induction k with
 |zero=>exact fun v x h=>real_start h
 |succ k ih=>rw[its_succ];exact real_pass E (fun _ h=>h) ih
theorem its_path {E:List Ed} {u v:Nat} {l:List Ed} (h:Path E u l v) {σ:Tm} {c:Int} (hc:σ u=some c): ∃ y,its E l.length σ v=some y∧y≤c+long l:=by
 induction l generalizing u σ c with
 |nil=>cases h;exact⟨c,hc,by simp[long]⟩
 |cons e l ih=>
  obtain⟨he,hu,hp⟩:=h
  subst hu
  obtain⟨y,hy,hl⟩:=pass_hits he hc
  obtain⟨z,hz,hm⟩:=ih hp hy
  refine⟨z,hz,?_⟩
  simp only[long]
  omega
def Tight (E:List Ed) (r:Nat→Prop) (p:Nat→Int):Prop:= ∀ e,e∈E→r e.1→r e.2.1∧p e.2.1≤p e.1+e.2.2
theorem Tight.path {E:List Ed} {r:Nat→Prop} {p:Nat→Int} (ht:Tight E r p) {a b:Nat} {l:List Ed} (h:Path E a l b) (ha:r a):r b∧p b≤p a+long l:=by
 induction l generalizing a with
 |nil=>cases h;exact⟨ha,by simp[long]⟩
 |cons e l ih=>
  obtain⟨he,hu,hp⟩:=h
  subst hu
  obtain⟨h1,h2⟩:=ht e he ha
  obtain⟨h3,h4⟩:=ih hp h1
  refine⟨h3,?_⟩
  simp only[long]
  omega
structure NoGain (E:List Ed) (r:Nat→Prop):Prop where
 on: ∀ e,e∈E→r e.1→r e.2.1
 cyc: ∀ (a:Nat) (l:List Ed),r a→Path E a l a→0≤long l
theorem Tight.noGain {E:List Ed} {r:Nat→Prop} {p:Nat→Int} (ht:Tight E r p):NoGain E r:=
 ⟨fun e he hr=>(ht e he hr).1,fun a l ha hp=>by have:=(ht.path hp ha).2;omega⟩
theorem NoGain.mono {E F:List Ed} {r:Nat→Prop} (h:NoGain E r) (hEF: ∀ e,e∈F→e∈E):NoGain F r:=
 ⟨fun e he hr=>h.on e (hEF e he) hr,fun a l ha hp=>h.cyc a l ha (hp.mono hEF)⟩
def visits (a:Nat) (l:List Ed):List Nat:=a::l.map (fun e=>e.2.1)
theorem path_split {E:List Ed} {a b x:Nat} {l:List Ed} (h:Path E a l b) (hx:x∈visits a l): ∃ l1 l2,l=l1 ++ l2∧Path E a l1 x∧Path E x l2 b:=by
 induction l generalizing a with
 |nil=>
  rcases List.mem_cons.1 hx with rfl|hx
  ·exact⟨[],[],rfl,rfl,h⟩
  ·cases hx
 |cons e l ih=>
  rcases List.mem_cons.1 hx with rfl|hx
  ·exact⟨[],e::l,rfl,rfl,h⟩
  ·obtain⟨he,hu,hp⟩:=h
   have hx':x∈visits e.2.1 l:=by simpa [visits] using hx
   obtain⟨l1,l2,e1,h1,h2⟩:=ih hp hx'
   exact⟨e::l1,l2,by rw[e1];rfl,⟨he,hu,h1⟩,h2⟩
theorem cut_or {E:List Ed} {r:Nat→Prop} (ht:NoGain E r) {a b:Nat} {l:List Ed} (h:Path E a l b) (ha:r a):
  (∃ l',l'.length<l.length∧Path E a l' b∧long l'≤long l)∨(visits a l).Nodup:=by
 induction l generalizing a with
 |nil=>right;simp[visits]
 |cons e l ih=>
  obtain⟨he,hu,hp⟩:=h
  have hr:=ht.on e he (hu▸ha)
  by_cases hm:a∈visits e.2.1 l
  ·left
   obtain⟨l1,l2,e1,h1,h2⟩:=path_split hp hm
   refine⟨l2,by rw[e1];simp;omega,h2,?_⟩
   have hc:=ht.cyc a (e::l1) ha ⟨he,hu,h1⟩
   rw[e1]
   simp only[long,long_app] at hc ⊢
   omega
  ·rcases ih hp hr with ⟨l',h1,h2,h3⟩|hn
   ·left
    refine⟨e::l',by simp;omega,⟨he,hu,h2⟩,?_⟩
    simp only[long]
    omega
   ·right
    show (a::visits e.2.1 l).Nodup
    exact List.nodup_cons.2 ⟨hm,hn⟩
theorem pigeon (n:Nat): ∀ L:List Nat,L.Nodup→(∀ x,x∈L→x<n)→L.length≤n:=by
 induction n with
 |zero=>
  intro L _ h
  cases L with
  |nil=>simp
  |cons x L=>exact absurd (h x List.mem_cons_self) (Nat.not_lt_zero _)
 |succ n ih=>
  intro L hn h
  by_cases hm:n∈L
  ·have h1:=ih (L.erase n) (hn.erase n) (fun x hx=>by
    have h2:=(hn.mem_erase_iff).1 hx
    have:=h x h2.2
    have:=h2.1
    omega)
   rw[List.length_erase_of_mem hm] at h1
   omega
  ·have:=ih L hn (fun x hx=>by
    have h1:=h x hx
    have:x≠n:=fun e=>hm (e▸hx)
    omega)
   omega
theorem path_nodes {E:List Ed} {n:Nat} (hE: ∀ e,e∈E→e.1<n∧e.2.1<n) {a b:Nat} {l:List Ed} (h:Path E a l b) (ha:a<n): ∀ x,x∈visits a l→x<n:=by
 induction l generalizing a with
 |nil=>intro x hx;rcases List.mem_cons.1 hx with rfl|hx;exact ha;cases hx
 |cons e l ih=>
  intro x hx
  obtain⟨he,hu,hp⟩:=h
  rcases List.mem_cons.1 hx with rfl|hx
  ·exact ha
  ·exact ih hp (hE e he).2 x (by simpa [visits] using hx)
theorem short {E:List Ed} {n:Nat} (hE: ∀ e,e∈E→e.1<n∧e.2.1<n) {r:Nat→Prop} (ht:NoGain E r) {a b:Nat} (ha:r a) (han:a<n):
  ∀ (m:Nat) (l:List Ed),l.length≤m→Path E a l b→ ∃ l',l'.length<n∧Path E a l' b∧long l'≤long l:=by
 intro m
 induction m with
 |zero=>
  intro l hl h
  exact⟨l,by omega,h,Int.le_refl _⟩
 |succ m ih=>
  intro l hl h
  rcases cut_or ht h ha with ⟨l',h1,h2,h3⟩|hn
  ·obtain⟨l2,h4,h5,h6⟩:=ih l' (by omega) h2
   exact⟨l2,h4,h5,Int.le_trans h6 h3⟩
  ·refine⟨l,?_,h,Int.le_refl _⟩
   have:=pigeon n _ hn (path_nodes hE h han)
   simp[visits] at this
   omega
theorem settles {E:List Ed} {n:Nat} (hE: ∀ e,e∈E→e.1<n∧e.2.1<n) {r:Nat→Prop} (ht:NoGain E r) {σ:Tm} (h0: ∀ v x,σ v=some x→v<n∧r v) (k:Nat) (hk:n≤k+1):
  pass E (its E k σ)=its E k σ:=by
 funext v
 have hb:=pass_bet E (its E k σ)
 cases h1:pass E (its E k σ) v with
 |none=>
  cases h2:its E k σ v with
  |none=>rfl
  |some y=>obtain⟨x,hx,_⟩:=hb v y h2;rw[h1] at hx;cases hx
 |some x=>
  have h1':its E (k+1) σ v=some x:=by rw[its_succ];exact h1
  obtain⟨u,c,l,hc,hp,hx⟩:=its_real E (k+1) σ v x h1'
  obtain⟨l',h2,h3,h4⟩:=short hE ht (h0 u c hc).2 (h0 u c hc).1 l.length l (Nat.le_refl _) hp
  obtain⟨y,hy,hl⟩:=its_path h3 hc
  obtain⟨z,hz,hm⟩:=its_bet E l'.length (k - l'.length) σ v y hy
  rw[show l'.length+(k - l'.length)=k by omega] at hz
  obtain⟨x',hx',hl'⟩:=hb v z hz
  rw[h1] at hx'
  injection hx' with hx'
  rw[hz]
  congr 1
  omega
def passT (E:List Ed) (σ:Tm) (b:Bool):Tm × Bool:=E.foldl (fun s e=>(relax s.1 e,s.2 || trig s.1 e)) (σ,b)
theorem passT_fst (E:List Ed) (σ:Tm) (b:Bool):(passT E σ b).1=pass E σ:=by
 induction E generalizing σ b with
 |nil=>rfl
 |cons e E ih=>exact ih (relax σ e) (b || trig σ e)
theorem passT_true (E:List Ed) (σ:Tm):(passT E σ true).2=true:=by
 induction E generalizing σ with
 |nil=>rfl
 |cons e E ih=>show (passT E (relax σ e) (true || trig σ e)).2=true;rw[Bool.true_or];exact ih _
theorem passT_false {E:List Ed} {σ:Tm} (h:(passT E σ false).2=false): ∀ e,e∈E→trig σ e=false:=by
 induction E with
 |nil=>intro e he;cases he
 |cons e E ih=>
  have h':(passT E (relax σ e) (false || trig σ e)).2=false:=h
  rw[Bool.false_or] at h'
  cases ht:trig σ e with
  |true=>rw[ht,passT_true] at h';cases h'
  |false=>
   rw[ht,relax_off ht] at h'
   intro x hx
   rcases List.mem_cons.1 hx with rfl|hx
   ·exact ht
   ·exact ih h' x hx
theorem passT_still {E:List Ed} {σ:Tm} (h: ∀ e,e∈E→trig σ e=false):passT E σ false=(σ,false):=by
 induction E with
 |nil=>rfl
 |cons e E ih=>
  have h1:=h e List.mem_cons_self
  show passT E (relax σ e) (false || trig σ e)=_
  rw[h1,relax_off h1]
  exact ih (fun e he=>h e (List.mem_cons_of_mem _ he))
theorem pass_fix {E:List Ed} {σ:Tm} (h:pass E σ=σ): ∀ e,e∈E→trig σ e=false:=by
 intro e he
 cases ht:trig σ e with
 |false=>rfl
 |true=>
  obtain⟨x,hx,hl⟩:=trig_some ht
  obtain⟨y,hy,hm⟩:=pass_hits he hx
  rw[h] at hy
  have:=hl y hy
  omega
theorem still_bound {E:List Ed} {σ:Tm} (h: ∀ e,e∈E→trig σ e=false) {a b:Nat} {l:List Ed} (hp:Path E a l b) {x:Int} (hx:σ a=some x): ∃ y,σ b=some y∧y≤x+long l:=by
 induction l generalizing a x with
 |nil=>cases hp;exact⟨x,hx,by simp[long]⟩
 |cons e l ih=>
  obtain⟨he,hu,hp⟩:=hp
  subst hu
  obtain⟨y,hy,hl⟩:=trig_off (h e he) hx
  obtain⟨z,hz,hm⟩:=ih hp hy
  refine⟨z,hz,?_⟩
  simp only[long]
  omega
theorem still_start {E:List Ed} {σ0 σ:Tm} (h: ∀ e,e∈E→trig σ e=false) (hr: ∀ v x,σ v=some x→Real E σ0 v x) (hb:Bet σ σ0) {s:Nat} {c:Int} (hs:σ0 s=some c) (ho: ∀ u x,σ0 u=some x→u=s):σ s=some c:=by
 obtain⟨x,hx,hl⟩:=hb s c hs
 obtain⟨u,c',l,hc',hp,he⟩:=hr s x hx
 have hus:=ho u c' hc'
 subst hus
 rw[hs] at hc'
 injection hc' with hc'
 obtain⟨y,hy,hm⟩:=still_bound h hp hx
 rw[hx] at hy
 injection hy with hy
 rw[hx]
 congr 1
 omega
end H
namespace H
open P
def Arr (w:World) (g N:Nat) (M:Nat→S38):Prop:=
 ∃ cells:Array Value,w.heap[g]? =some (.cells cells 38 (0,0))∧ ∀ x,x<N→cells[x * 2]? =some (.int .i64 (M x).f0)∧cells[x * 2+1]? =some (.bool (M x).f1)
theorem Arr.cell0 {w:World} {g N:Nat} {M:Nat→S38} (h:Arr w g N M) {x:Nat} (hx:x<N):w.cell? ⟨g,x * 2,none⟩=some (.int .i64 (M x).f0):=by
 obtain⟨cells,hb,hc⟩:=h
 simp[World.cell?,hb,(hc x hx).1]
theorem Arr.cell1 {w:World} {g N:Nat} {M:Nat→S38} (h:Arr w g N M) {x:Nat} (hx:x<N):w.cell? ⟨g,x * 2+1,none⟩=some (.bool (M x).f1):=by
 obtain⟨cells,hb,hc⟩:=h
 simp[World.cell?,hb,(hc x hx).2]
theorem Arr.free {w:World} {g N:Nat} {M:Nat→S38} (h:Arr w g N M) (j:Nat):w.frozen? ⟨g,j,none⟩=false:=by
 obtain⟨cells,hb,_⟩:=h
 simp[World.frozen?,hb]
theorem Arr.lt {w:World} {g N:Nat} {M:Nat→S38} (h:Arr w g N M):g<w.heap.size:=by
 obtain⟨cells,hb,_⟩:=h
 exact(Array.getElem?_eq_some_iff.1 hb).1
theorem Arr.congr {w:World} {g N:Nat} {M M':Nat→S38} (h:Arr w g N M) (e: ∀ x,x<N→M' x=M x):Arr w g N M':=by
 obtain⟨cells,hb,hc⟩:=h
 exact⟨cells,hb,fun x hx=>by rw[e x hx];exact hc x hx⟩
theorem Arr.same {w w':World} {g N:Nat} {M:Nat→S38} (h:Arr w g N M) (e:w'.heap[g]? =w.heap[g]?):Arr w' g N M:=by
 obtain⟨cells,hb,hc⟩:=h
 exact⟨cells,e.trans hb,hc⟩
theorem Arr.below {w w':World} {g N:Nat} {M:Nat→S38} (h:Arr w g N M) (hb:Below w.heap.size w w'):Arr w' g N M:=h.same (hb.block g h.lt)
def upd (M:Nat→S38) (x:Nat) (s:S38) (y:Nat):S38:=if y=x then s else M y
theorem Arr.put {w:World} {g N:Nat} {M:Nat→S38} (h:Arr w g N M) {x:Nat} (hx:x<N) (s:S38):Arr ((w.setCell ⟨g,x * 2,none⟩ (.int .i64 s.f0)).setCell ⟨g,x * 2+1,none⟩ (.bool s.f1)) g N (upd M x s):=by
 obtain⟨cells,hb,hc⟩:=h
 refine⟨_,blk_set (blk_set hb _ _) _ _,fun y hy=> ?_⟩
 have hs0:=(Array.getElem?_eq_some_iff.1 (hc x hx).1).1
 have hs1:=(Array.getElem?_eq_some_iff.1 (hc x hx).2).1
 simp only[Array.getElem?_setIfInBounds,Array.size_setIfInBounds]
 unfold upd
 by_cases e:y=x
 ·subst e
  constructor
  ·rw[Yy (by omega),Yx rfl,Yx hs0,Yx rfl]
  ·rw[Yx rfl,Yx hs1,Yx rfl]
 ·rw[Yy e]
  constructor
  ·rw[Yy (by omega),Yy (by omega)];exact(hc y hy).1
  ·rw[Yy (by omega),Yy (by omega)];exact(hc y hy).2
theorem Arr.drew {w:World} {g N:Nat} {M:Nat→S38} (h:Arr w g N M):Arr w.drew g N M:=h.same rfl
def Fr (w w':World) (g:Nat):Prop:=w.grownBy w' (some g)∧ ∀ cells t ro,w.heap[g]? =some (.cells cells t ro)→ ∃ cells',w'.heap[g]? =some (.cells cells' t ro)∧cells'.size=cells.size
theorem grow_set {w w':World} {g:Nat} (h:Fr w w' g) (j:Nat) (u:Value):Fr w (w'.setCell ⟨g,j,none⟩ u) g:=
 ⟨⟨h.1.os,h.1.tape,h.1.output,by simpa [World.setCell] using h.1.size,fun k hk hne=>(Below.heap_setCell w' ⟨g,j,none⟩ u k (fun e=>hne (by rw[e]))).trans (h.1.block k hk hne)⟩,
  fun cells t ro hb=>by
  obtain⟨c',h1,h2⟩:=h.2 cells t ro hb
  refine⟨c'.setIfInBounds j u,?_,by simpa using h2⟩
  simp[World.setCell,Array.getElem?_modify,h1]⟩
theorem grow_drew {w w':World} {g:Nat} (h:Fr w w' g):Fr w w'.drew g:=⟨⟨h.1.os,h.1.tape,h.1.output,h.1.size,h.1.block⟩,h.2⟩
theorem grow_refl (w:World) (g:Nat):Fr w w g:=⟨⟨rfl,rfl,rfl,Nat.le_refl _,fun _ _ _=>rfl⟩,fun cells t ro hb=>⟨cells,hb,rfl⟩⟩
theorem grow_trans {w w' w'':World} {g:Nat} (h:Fr w w' g) (k:Fr w' w'' g):Fr w w'' g:=
 ⟨⟨k.1.os.trans h.1.os,k.1.tape.trans h.1.tape,k.1.output.trans h.1.output,Nat.le_trans h.1.size k.1.size,fun i hi hne=>(k.1.block i (Nat.lt_of_lt_of_le hi h.1.size) hne).trans (h.1.block i hi hne)⟩,
  fun cells t ro hb=>by
  obtain⟨c',h1,h2⟩:=h.2 cells t ro hb
  obtain⟨c2,h3,h4⟩:=k.2 c' t ro h1
  exact⟨c2,h3,h4.trans h2⟩⟩
theorem grow_below {w w':World} {g:Nat} (h:Below w.heap.size w w'):Fr w w' g:=
 ⟨grown_of_below h _,fun cells t ro hb=>⟨cells,(h.block g (Array.getElem?_eq_some_iff.1 hb).1).trans hb,rfl⟩⟩
def swapM (M:Nat→S38) (a b n:Nat) (x:Nat):S38:=if a≤x∧x<a+n then M (x - a+b) else if b≤x∧x<b+n then M (x - b+a) else M x
set_option maxHeartbeats 2000000 in
set_option maxRecDepth 100000 in
theorem swapRange_calls (g N cap:Nat) (M:Nat→S38) (a b n:Nat) (f:Value) (w:World) (h:Arr w g N M) (hN:N≤1000000) (ha:a+n≤b) (hb:b+n≤N):
  Calls Try.prog 178 #[.slice (some ⟨g,0,none⟩) N cap, .int .i64 (a:Int), .int .i64 (b:Int), .int .i64 (n:Int),f] w fun e w'=>e= .returned (.tuple #[])∧Arr w' g N (swapM M a b n)∧Fr w w' g:=by
 have HA:=Ya h
 clear h
 go_enter Try.func178,Try.ntmps178
 go_wp2
 go_loopw [10] (fun i wr=> ∃ k:Nat,k≤n∧i= .int .i64 k∧Aside0 (Arr wr g N (swapM M a b k))∧Aside0 (Fr w wr g)) (fun i _=>n - (intOf i).toNat)
 case atStart=>exact⟨0,Nat.zero_le _,rfl,⟨HA.out.congr fun x _=>by unfold swapM;rw[Yy (by omega),Yy (by omega)]⟩,⟨grow_refl _ _⟩⟩
 case round=>
  obtain⟨k,hk,rfl,HA1,HG⟩:=hrel
  by_cases hlt:k<n
  ·have c0:=HA1.out.cell0 (x:=b+k) (by omega)
   have c1:=HA1.out.cell1 (x:=b+k) (by omega)
   have d0:=HA1.out.cell0 (x:=a+k) (by omega)
   have d1:=HA1.out.cell1 (x:=a+k) (by omega)
   have f0:=HA1.out.free
   obtain⟨s1,hs1⟩: ∃ s,swapM M a b k (b+k)=s:=⟨_,rfl⟩
   obtain⟨s2,hs2⟩: ∃ s,swapM M a b k (a+k)=s:=⟨_,rfl⟩
   rw[hs1] at c0 c1
   rw[hs2] at d0 d1
   have HE:Aside0 (∀ x,upd (upd (swapM M a b k) (a+k) s1) (b+k) s2 x=swapM M a b (k+1) x):=⟨fun x=>by
    rw[← hs1, ← hs2]
    unfold upd swapM
    by_cases e1:x=b+k
    ·subst e1
     rw[Yx rfl,Yy (by omega),Yy (by omega),Yy (by omega),Yx (by omega)]
     congr 1;omega
    ·rw[Yy e1]
     by_cases e2:x=a+k
     ·subst e2
      rw[Yx rfl,Yy (by omega),Yy (by omega),Yx (by omega)]
      congr 1;omega
     ·rw[Yy e2]
      by_cases e3:a≤x∧x<a+k
      ·rw[Yx e3,Yx (by omega)]
      ·rw[Yy e3,Yy (show ¬ (a≤x∧x<a+(k+1)) by omega)]
       by_cases e4:b≤x∧x<b+k
       ·rw[Yx e4,Yx (by omega)]
       ·rw[Yy e4,Yy (by omega)]⟩
   clear hs1 hs2
   go_wp2
   go_region
   have HA2:Aside0 (Arr (((((wr.setCell ⟨g,(a+k) * 2,none⟩ (.int .i64 s1.f0)).setCell ⟨g,(a+k) * 2+1,none⟩ (.bool s1.f1)).setCell ⟨g,(b+k) * 2,none⟩ (.int .i64 s2.f0)).setCell ⟨g,(b+k) * 2+1,none⟩ (.bool s2.f1)).drew) g N (swapM M a b (k+1))):=
    ⟨(((HA1.out.put (by omega) s1).put (by omega) s2).drew).congr fun x _=>(HE.out x).symm⟩
   have HG2:=Ya (grow_drew (grow_set (grow_set (grow_set (grow_set HG.out ((a+k) * 2) (.int .i64 s1.f0)) ((a+k) * 2+1) (.bool s1.f1)) ((b+k) * 2) (.int .i64 s2.f0)) ((b+k) * 2+1) (.bool s2.f1)))
   clear c0 c1 d0 d1 f0 HA1 HG HE
   go_wp2
   go_roundw
   case rel=>exact⟨k+1,by omega,by go_num,HA2,HG2⟩
   case measure=>simp[intOf];omega
  ·have e:k=n:=by omega
   subst e
   go_wp2
   go_end0
   exact⟨rfl,HA1.out,HG.out⟩
def rotM (M:Nat→S38) (a m b:Nat) (x:Nat):S38:=if a≤x∧x<b then(if x<a+(b - m) then M (x+(m - a)) else M (x - (b - m))) else M x
def RotAt (M K:Nat→S38) (a m b i j:Nat):Prop:=
 (∀ x, ¬ (m - i≤x∧x<m+j)→K x=rotM M a m b x)∧(∀ x,m - i≤x→x<m - i+j→rotM M a m b x=K (x+i))∧(∀ x,m - i+j≤x→x<m+j→rotM M a m b x=K (x - j))
theorem rot_start (M:Nat→S38) {a m b:Nat} (h1:a≤m) (h2:m≤b):RotAt M M a m b (m - a) (b - m):=by
 refine⟨fun x hx=> ?_,fun x h3 h4=> ?_,fun x h3 h4=> ?_⟩
 ·unfold rotM;rw[Yy (by omega)]
 ·unfold rotM;rw[Yx (by omega),Yx (by omega)]
 ·unfold rotM;rw[Yx (by omega),Yy (by omega)]
theorem rot_left {M K:Nat→S38} {a m b i j:Nat} (h:RotAt M K a m b i j) (hj:0<j) (hij:j<i) (him:i≤m):RotAt M (swapM K (m - i) m j) a m b (i - j) j:=by
 obtain⟨h1,h2,h3⟩:=h
 refine⟨fun x hx=> ?_,fun x h4 h5=> ?_,fun x h4 h5=> ?_⟩
 ·unfold swapM
  by_cases e:m - i≤x∧x<m - i+j
  ·rw[Yx e,h2 x e.1 e.2]
   congr 1;omega
  ·rw[Yy e,Yy (by omega)]
   exact h1 x (by omega)
 ·rw[h3 x (by omega) (by omega)]
  unfold swapM
  rw[Yy (by omega),Yx (by omega)]
  congr 1;omega
 ·rw[h3 x (by omega) (by omega)]
  unfold swapM
  rw[Yy (by omega),Yy (by omega)]
theorem rot_right {M K:Nat→S38} {a m b i j:Nat} (h:RotAt M K a m b i j) (hi:0<i) (hij:i<j) (him:i≤m):RotAt M (swapM K (m - i) (m+j - i) i) a m b i (j - i):=by
 obtain⟨h1,h2,h3⟩:=h
 refine⟨fun x hx=> ?_,fun x h4 h5=> ?_,fun x h4 h5=> ?_⟩
 ·unfold swapM
  rw[Yy (by omega)]
  by_cases e:m+j - i≤x∧x<m+j - i+i
  ·rw[Yx e,h3 x (by omega) (by omega)]
   congr 1;omega
  ·rw[Yy e]
   exact h1 x (by omega)
 ·rw[h2 x (by omega) (by omega)]
  unfold swapM
  rw[Yy (by omega),Yy (by omega)]
 ·rw[h2 x (by omega) (by omega)]
  unfold swapM
  rw[Yx (by omega)]
  congr 1;omega
theorem rot_last {M K:Nat→S38} {a m b i:Nat} (h:RotAt M K a m b i i) (him:i≤m) (x:Nat):swapM K (m - i) m i x=rotM M a m b x:=by
 obtain⟨h1,h2,h3⟩:=h
 unfold swapM
 by_cases e:m - i≤x∧x<m - i+i
 ·rw[Yx e,h2 x e.1 e.2]
  congr 1;omega
 ·rw[Yy e]
  by_cases e2:m≤x∧x<m+i
  ·rw[Yx e2,h3 x (by omega) (by omega)]
   congr 1;omega
  ·rw[Yy e2]
   exact h1 x (by omega)
set_option maxHeartbeats 2000000 in
set_option maxRecDepth 100000 in
theorem rotate_calls (g N cap:Nat) (M:Nat→S38) (a m b:Nat) (f:Value) (w:World) (h:Arr w g N M) (hN:N≤1000000) (ham:a<m) (hmb:m<b) (hb:b≤N):
  Calls Try.prog 175 #[.slice (some ⟨g,0,none⟩) N cap, .int .i64 (a:Int), .int .i64 (m:Int), .int .i64 (b:Int),f] w fun e w'=>e= .returned (.tuple #[])∧Arr w' g N (rotM M a m b)∧Fr w w' g:=by
 have HA:=Ya h
 clear h
 go_enter Try.func175,Try.ntmps175
 go_wp2
 go_loopw [10,11] (fun vi vj wr=> ∃ i j:Nat,0<i∧0<j∧i≤m - a∧j≤b - m∧vi= .int .i64 i∧vj= .int .i64 j∧(∃ K,Aside0 (RotAt M K a m b i j)∧Aside0 (Arr wr g N K))∧Aside0 (Fr w wr g)) (fun vi vj _=>(intOf vi).toNat+(intOf vj).toNat)
 case atStart=>exact⟨m - a,b - m,by omega,by omega,Nat.le_refl _,Nat.le_refl _,by rw[Int.natCast_sub (by omega)],by rw[Int.natCast_sub (by omega)],⟨M,⟨rot_start M (by omega) (by omega)⟩,HA⟩,⟨grow_refl _ _⟩⟩
 case round=>
  obtain⟨i,j,hi,hj,him,hjb,rfl,rfl,⟨K,HK,HA1⟩,HG⟩:=hrel
  have e0:(m:Int) - (i:Int)=((m - i:Nat):Int):=by omega
  have E0:=Ya e0
  by_cases hij:i=j
  ·subst hij
   have hne:((i:Int) != (i:Int))=false:=by simp
   clear e0
   go_wp2_with fail
   rw[E0.out]
   refine(swapRange_calls g N cap K (m - i) m i f _ HA1.out hN (by omega) (by omega)).mono ?_
   rintro e w1 ⟨rfl,ha1,hg1⟩
   have HA2:=Ya ha1
   have HG2:=Ya (grow_trans HG.out hg1)
   clear ha1 hg1
   go_wp2_with fail
   go_end0
   exact⟨rfl,HA2.out.congr fun x _=>(rot_last HK.out (by omega) x).symm,HG2.out⟩
  ·have hne:((i:Int) != (j:Int))=true:=by rw[bne_iff_ne];omega
   by_cases hlt:j<i
   ·have e1:(i:Int) - (j:Int)=((i - j:Nat):Int):=by omega
    have E1:=Ya e1
    clear e0 e1
    go_wp2_with fail
    rw[E0.out]
    refine(swapRange_calls g N cap K (m - i) m j f _ HA1.out hN (by omega) (by omega)).mono ?_
    rintro e w1 ⟨rfl,ha1,hg1⟩
    have HA2:=Ya ha1
    have HG2:=Ya (grow_trans HG.out hg1)
    clear ha1 hg1
    go_wp2_with fail
    go_roundw
    case rel=>exact⟨i - j,j,by omega,hj,by omega,hjb,by rw[E1.out],rfl,⟨_,⟨rot_left HK.out hj hlt (by omega)⟩,HA2⟩,HG2⟩
    case measure=>simp[intOf];omega
   ·have e1:(j:Int) - (i:Int)=((j - i:Nat):Int):=by omega
    have E1:=Ya e1
    have e2:(m:Int)+(j:Int) - (i:Int)=((m+j - i:Nat):Int):=by omega
    have E2:=Ya e2
    clear e0 e1 e2
    go_wp2_with fail
    rw[E0.out,E2.out]
    refine(swapRange_calls g N cap K (m - i) (m+j - i) i f _ HA1.out hN (by omega) (by omega)).mono ?_
    rintro e w1 ⟨rfl,ha1,hg1⟩
    have HA2:=Ya ha1
    have HG2:=Ya (grow_trans HG.out hg1)
    clear ha1 hg1
    go_wp2_with fail
    go_roundw
    case rel=>exact⟨i,j - i,hi,by omega,him,by omega,rfl,by rw[E1.out],⟨_,⟨rot_right HK.out hi (by omega) (by omega)⟩,HA2⟩,HG2⟩
    case measure=>simp[intOf];omega
end H
namespace H
open P
def Le (K:Nat→S38) (a b:Nat):Prop:= ∀ i j,a≤i→i<j→j<b→(K i).f0≤(K j).f0
def Stab (M:Nat→S38) (N:Nat):Prop:= ∀ i j,i<j→j<N→(M i).f0=(M j).f0→(M i).f1=false∧(M j).f1=true
def Small (M:Nat→S38) (N:Nat):Prop:= ∀ i,i<N→0≤(M i).f0∧(M i).f0≤1000000
def Mix (M K:Nat→S38) (a b:Nat):Prop:=
 (∀ x, ¬ (a≤x∧x<b)→K x=M x)∧(∀ x,a≤x→x<b→ ∃ y,a≤y∧y<b∧K x=M y)∧(∀ y,a≤y→y<b→ ∃ x,a≤x∧x<b∧K x=M y)
theorem mix_refl (M:Nat→S38) (a b:Nat):Mix M M a b:=⟨fun _ _=>rfl,fun x h1 h2=>⟨x,h1,h2,rfl⟩,fun x h1 h2=>⟨x,h1,h2,rfl⟩⟩
theorem mix_trans {M K L:Nat→S38} {a b:Nat} (h:Mix M K a b) (k:Mix K L a b):Mix M L a b:=by
 refine⟨fun x hx=>(k.1 x hx).trans (h.1 x hx),fun x h1 h2=> ?_,fun y h1 h2=> ?_⟩
 ·obtain⟨y,h3,h4,e⟩:=k.2.1 x h1 h2
  obtain⟨z,h5,h6,e2⟩:=h.2.1 y h3 h4
  exact⟨z,h5,h6,e.trans e2⟩
 ·obtain⟨x,h3,h4,e⟩:=h.2.2 y h1 h2
  obtain⟨z,h5,h6,e2⟩:=k.2.2 x h3 h4
  exact⟨z,h5,h6,e2.trans e⟩
theorem mix_wide {M K:Nat→S38} {a b a' b':Nat} (h:Mix M K a b) (ha:a'≤a) (hb:b≤b'):Mix M K a' b':=by
 refine⟨fun x hx=>h.1 x (by omega),fun x h1 h2=> ?_,fun y h1 h2=> ?_⟩
 ·by_cases e:a≤x∧x<b
  ·obtain⟨y,h3,h4,e⟩:=h.2.1 x e.1 e.2
   exact⟨y,by omega,by omega,e⟩
  ·exact⟨x,h1,h2,h.1 x e⟩
 ·by_cases e:a≤y∧y<b
  ·obtain⟨x,h3,h4,e⟩:=h.2.2 y e.1 e.2
   exact⟨x,by omega,by omega,e⟩
  ·exact⟨y,h1,h2,h.1 y e⟩
theorem mix_small {M K:Nat→S38} {a b N:Nat} (h:Mix M K a b) (hb:b≤N) (hs:Small M N):Small K N:=fun x hx=>by
 by_cases e:a≤x∧x<b
 ·obtain⟨y,h3,h4,e⟩:=h.2.1 x e.1 e.2
  rw[e];exact hs y (by omega)
 ·rw[h.1 x e];exact hs x hx
def sw (K:Nat→S38) (p x:Nat):S38:=if x=p then K (p+1) else if x=p+1 then K p else K x
theorem sw_put1 (K:Nat→S38) (p x:Nat):upd (upd K (p+1) (K p)) p (K (p+1)) x=sw K p x:=by
 unfold upd sw;rfl
theorem sw_put2 (K:Nat→S38) (p x:Nat):upd (upd K p (K (p+1))) (p+1) (K p) x=sw K p x:=by
 unfold upd sw
 by_cases e:x=p
 ·subst e;rw[Yy (by omega),Yx rfl,Yx rfl]
 ·by_cases e2:x=p+1
  ·rw[Yx e2,Yy e,Yx e2]
  ·rw[Yy e2,Yy e,Yy e,Yy e2]
theorem sw_at (K:Nat→S38) (p:Nat):sw K p p=K (p+1):=Yx rfl
theorem sw_at1 (K:Nat→S38) (p:Nat):sw K p (p+1)=K p:=by unfold sw;rw[Yy (by omega),Yx rfl]
theorem sw_off (K:Nat→S38) (p x:Nat) (h:x≠p) (h1:x≠p+1):sw K p x=K x:=by unfold sw;rw[Yy h,Yy h1]
theorem sw_mix (K:Nat→S38) (p a b:Nat) (ha:a≤p) (hb:p+1<b):Mix K (sw K p) a b:=by
 refine⟨fun x hx=>sw_off K p x (by omega) (by omega),fun x h1 h2=> ?_,fun x h1 h2=> ?_⟩
 ·by_cases e:x=p
  ·subst e;exact⟨x+1,by omega,by omega,sw_at K x⟩
  ·by_cases e2:x=p+1
   ·subst e2;exact⟨p,by omega,by omega,sw_at1 K p⟩
   ·exact⟨x,h1,h2,sw_off K p x e e2⟩
 ·by_cases e:x=p
  ·subst e;exact⟨x+1,by omega,by omega,sw_at1 K x⟩
  ·by_cases e2:x=p+1
   ·subst e2;exact⟨p,by omega,by omega,sw_at K p⟩
   ·exact⟨x,h1,h2,sw_off K p x e e2⟩
theorem sw_stab {K:Nat→S38} {p N:Nat} (h:Stab K N) (hp:p+1<N) (hlt:(K (p+1)).f0<(K p).f0):Stab (sw K p) N:=by
 intro i j hij hj he
 have h0: ∀ x,x=p∨x=p+1∨(x≠p∧x≠p+1):=fun x=>by omega
 rcases h0 i with rfl|rfl|⟨i1,i2⟩<;>rcases h0 j with e|e|⟨j1,j2⟩
 ·omega
 ·subst e;rw[sw_at,sw_at1] at he;omega
 ·rw[sw_at,sw_off _ _ _ j1 j2] at he ⊢;exact h _ _ (by omega) hj he
 ·omega
 ·omega
 ·rw[sw_at1,sw_off _ _ _ j1 j2] at he ⊢;exact h _ _ (by omega) hj he
 ·subst e;rw[sw_at,sw_off _ _ _ i1 i2] at he ⊢;exact h _ _ (by omega) (by omega) he
 ·subst e;rw[sw_at1,sw_off _ _ _ i1 i2] at he ⊢;exact h _ _ (by omega) (by omega) he
 ·rw[sw_off _ _ _ i1 i2,sw_off _ _ _ j1 j2] at he ⊢;exact h _ _ hij hj he
def Hole (K:Nat→S38) (a k j:Nat):Prop:=
 (∀ x y,a≤x→x<y→y≤k→x≠j→y≠j→(K x).f0≤(K y).f0)∧(∀ y,j<y→y≤k→(K j).f0≤(K y).f0)
theorem hole_start {K:Nat→S38} {a k:Nat} (h:Le K a k):Hole K a k k:=⟨fun x y h1 h2 h3 h4 h5=>h x y h1 h2 (by omega),fun y h1 h2=>by omega⟩
theorem hole_stop {K:Nat→S38} {a k j:Nat} (h:Hole K a k j) (hj:j=a∨(a<j∧(K (j - 1)).f0≤(K j).f0)):Le K a (k+1):=by
 intro x y h1 h2 h3
 by_cases e1:x=j
 ·subst e1;exact h.2 y h2 (by omega)
 ·by_cases e2:y=j
  ·subst e2
   rcases hj with hj|⟨hj,hle⟩
   ·omega
   ·by_cases e3:x=y - 1
    ·subst e3;exact hle
    ·exact Int.le_trans (h.1 x (y - 1) h1 (by omega) (by omega) e1 (by omega)) hle
  ·exact h.1 x y h1 h2 (by omega) e1 e2
theorem hole_swap {K:Nat→S38} {a k p:Nat} (h:Hole K a k (p+1)) (ha:a≤p) (hk:p+1≤k) (hlt:(K (p+1)).f0<(K p).f0):Hole (sw K p) a k p:=by
 refine⟨fun x y h1 h2 h3 h4 h5=> ?_,fun y h1 h2=> ?_⟩
 ·by_cases e1:x=p+1
  ·subst e1;rw[sw_at1,sw_off _ _ _ h5 (by omega)];exact h.1 p y (by omega) (by omega) h3 (by omega) (by omega)
  ·by_cases e2:y=p+1
   ·subst e2;rw[sw_at1,sw_off _ _ _ h4 e1];exact h.1 x p h1 (by omega) (by omega) e1 (by omega)
   ·rw[sw_off _ _ _ h4 e1,sw_off _ _ _ h5 e2];exact h.1 x y h1 h2 h3 e1 e2
 ·rw[sw_at]
  by_cases e2:y=p+1
  ·subst e2;rw[sw_at1];omega
  ·rw[sw_off _ _ _ (by omega) e2];exact h.2 y (by omega) h2
def Sorted (M K:Nat→S38) (N a b:Nat):Prop:=Mix M K a b∧Stab K N∧Small K N∧Le K a b
theorem le_one (K:Nat→S38) (a b:Nat) (h:b≤a+1):Le K a b:=fun i j h1 h2 h3=>by omega
theorem rot_lo (M:Nat→S38) {s m e x:Nat} (h1:s≤x) (h2:x<s+(e - m)) (h3:m≤e) (h4:s≤m):rotM M s m e x=M (x+(m - s)):=by
 unfold rotM;rw[Yx (by omega),Yx h2]
theorem rot_hi (M:Nat→S38) {s m e x:Nat} (h1:s+(e - m)≤x) (h2:x<e) (h4:s≤m):rotM M s m e x=M (x - (e - m)):=by
 unfold rotM;rw[Yx (by omega),Yy (by omega)]
theorem rot_off (M:Nat→S38) {s m e x:Nat} (h: ¬ (s≤x∧x<e)):rotM M s m e x=M x:=by
 unfold rotM;rw[Yy h]
theorem rot_mix (M:Nat→S38) {s m e:Nat} (h1:s≤m) (h2:m≤e):Mix M (rotM M s m e) s e:=by
 refine⟨fun x hx=>rot_off M hx,fun x h3 h4=> ?_,fun x h3 h4=> ?_⟩
 ·by_cases c:x<s+(e - m)
  ·exact⟨x+(m - s),by omega,by omega,rot_lo M h3 c h2 h1⟩
  ·exact⟨x - (e - m),by omega,by omega,rot_hi M (by omega) h4 h1⟩
 ·by_cases c:x<m
  ·refine⟨x+(e - m),by omega,by omega,?_⟩
   rw[rot_hi M (by omega) (by omega) h1];congr 1;omega
  ·refine⟨x - (m - s),by omega,by omega,?_⟩
   rw[rot_lo M (by omega) (by omega) h2 h1];congr 1;omega
theorem rot_stab {M:Nat→S38} {N s m e:Nat} (h:Stab M N) (h1:s≤m) (h2:m≤e) (he:e≤N) (hc: ∀ x y,s≤x→x<m→m≤y→y<e→(M y).f0<(M x).f0):Stab (rotM M s m e) N:=by
 intro i j hij hj heq
 have h0: ∀ x, ¬ (s≤x∧x<e)∨(s≤x∧x<s+(e - m))∨(s+(e - m)≤x∧x<e):=fun x=>by omega
 rcases h0 i with a1|⟨a1,a2⟩|⟨a1,a2⟩<;>rcases h0 j with b1|⟨b1,b2⟩|⟨b1,b2⟩
 ·rw[rot_off M a1,rot_off M b1] at heq ⊢;exact h _ _ hij hj heq
 ·rw[rot_off M a1,rot_lo M b1 b2 h2 h1] at heq ⊢;exact h _ _ (by omega) (by omega) heq
 ·rw[rot_off M a1,rot_hi M b1 b2 h1] at heq ⊢;exact h _ _ (by omega) (by omega) heq
 ·rw[rot_lo M a1 a2 h2 h1,rot_off M b1] at heq ⊢;exact h _ _ (by omega) (by omega) heq
 ·rw[rot_lo M a1 a2 h2 h1,rot_lo M b1 b2 h2 h1] at heq ⊢;exact h _ _ (by omega) (by omega) heq
 ·rw[rot_lo M a1 a2 h2 h1,rot_hi M b1 b2 h1] at heq;have:=hc (j - (e - m)) (i+(m - s)) (by omega) (by omega) (by omega) (by omega);omega
 ·rw[rot_hi M a1 a2 h1,rot_off M b1] at heq ⊢;exact h _ _ (by omega) (by omega) heq
 ·omega
 ·rw[rot_hi M a1 a2 h1,rot_hi M b1 b2 h1] at heq ⊢;exact h _ _ (by omega) (by omega) heq
theorem rot_none (M:Nat→S38) {s m e:Nat} (h1:s≤m) (h2:m≤e) (h:s=m∨m=e) (x:Nat):rotM M s m e x=M x:=by
 by_cases c:s≤x∧x<e
 ·rcases h with h|h
  ·subst h;rw[rot_lo M c.1 (by omega) h2 h1];congr 1;omega
  ·subst h;rw[rot_hi M (by omega) c.2 h1];congr 1;omega
 ·exact rot_off M c
theorem le_le {K:Nat→S38} {a b x y:Nat} (h:Le K a b) (h1:a≤x) (h2:x≤y) (h3:y<b):(K x).f0≤(K y).f0:=by
 by_cases e:x=y
 ·subst e;exact Int.le_refl _
 ·exact h x y h1 (by omega) h3
theorem le_join {K:Nat→S38} {a m b:Nat} (h1:Le K a m) (h2:Le K m b) (hc: ∀ x y,a≤x→x<m→m≤y→y<b→(K x).f0≤(K y).f0):Le K a b:=by
 intro i j hi hij hj
 by_cases e:j<m
 ·exact h1 i j hi hij e
 ·by_cases e2:i<m
  ·exact hc i j hi e2 (by omega) hj
  ·exact h2 i j (by omega) hij hj
theorem rot_one_lo {M:Nat→S38} {a b i:Nat} (h:Le M (a+1) b) (h1:a+1≤i) (h2:i≤b) (hlt: ∀ y,a+1≤y→y<i→(M y).f0<(M a).f0) (hge: ∀ y,i≤y→y<b→(M a).f0≤(M y).f0):Le (rotM M a (a+1) i) a b:=by
 have lo: ∀ x,a≤x→x+1<i→rotM M a (a+1) i x=M (x+1):=fun x h3 h4=>by rw[rot_lo M h3 (by omega) h1 (by omega)];congr 1;omega
 have at_:rotM M a (a+1) i (i - 1)=M a:=by rw[rot_hi M (by omega) (by omega) (by omega)];congr 1;omega
 have hi: ∀ x,i≤x→rotM M a (a+1) i x=M x:=fun x h3=>rot_off M (by omega)
 intro x y h3 h4 h5
 by_cases c1:x+1<i
 ·rw[lo x h3 c1]
  by_cases c2:y+1<i
  ·rw[lo y (by omega) c2];exact h _ _ (by omega) (by omega) (by omega)
  ·by_cases c3:y=i - 1
   ·subst c3;rw[at_];have:=hlt (x+1) (by omega) c1;omega
   ·rw[hi y (by omega)];exact h _ _ (by omega) (by omega) (by omega)
 ·by_cases c2:x=i - 1
  ·subst c2;rw[at_,hi y (by omega)];exact hge y (by omega) h5
  ·rw[hi x (by omega),hi y (by omega)];exact h _ _ (by omega) h4 h5
theorem rot_one_hi {M:Nat→S38} {a m i:Nat} (h:Le M a m) (h1:a≤i) (h2:i≤m) (hle: ∀ y,a≤y→y<i→(M y).f0≤(M m).f0) (hgt: ∀ y,i≤y→y<m→(M m).f0<(M y).f0):Le (rotM M i m (m+1)) a (m+1):=by
 have lo: ∀ x,x<i→rotM M i m (m+1) x=M x:=fun x h3=>rot_off M (by omega)
 have at_:rotM M i m (m+1) i=M m:=by rw[rot_lo M (Nat.le_refl _) (by omega) (by omega) h2];congr 1;omega
 have hi: ∀ x,i<x→x<m+1→rotM M i m (m+1) x=M (x - 1):=fun x h3 h4=>by rw[rot_hi M (by omega) h4 h2];congr 1;omega
 intro x y h3 h4 h5
 by_cases c1:x<i
 ·rw[lo x c1]
  by_cases c2:y<i
  ·rw[lo y c2];exact h _ _ h3 h4 (by omega)
  ·by_cases c3:y=i
   ·subst c3;rw[at_];exact hle x h3 c1
   ·rw[hi y (by omega) h5];exact h _ _ h3 (by omega) (by omega)
 ·by_cases c2:x=i
  ·subst c2;rw[at_,hi y h4 h5];have:=hgt (y - 1) (by omega) (by omega);omega
  ·rw[hi x (by omega) (by omega),hi y (by omega) h5];exact h _ _ (by omega) (by omega) (by omega)
theorem sym_rot {M:Nat→S38} {a m b mid s e N:Nat} (h1:Le M a m) (h2:Le M m b) (has:a≤s) (hsm:s≤m) (hme:m≤e) (heb:e≤b) (hsum:s+e=mid+m) (hsmid:s≤mid) (hmide:mid≤e)
  (hge:a<s→e<b→(M (s - 1)).f0≤(M e).f0) (hlt:s<m→m<e→(M (e - 1)).f0<(M s).f0) (hst:Stab M N) (hb:b≤N):
  Stab (rotM M s m e) N∧Le (rotM M s m e) a s∧Le (rotM M s m e) s mid∧Le (rotM M s m e) mid e∧Le (rotM M s m e) e b∧ ∀ x y,a≤x→x<mid→mid≤y→y<b→(rotM M s m e x).f0≤(rotM M s m e y).f0:=by
 have hx: ∀ x y,s≤x→x<m→m≤y→y<e→(M y).f0<(M x).f0:=fun x y h3 h4 h5 h6=>by
  have k1:=hlt (by omega) (by omega)
  have k2:(M y).f0≤(M (e - 1)).f0:=le_le h2 h5 (by omega) (by omega)
  have k3:(M s).f0≤(M x).f0:=le_le h1 has h3 h4
  omega
 have hy: ∀ x y,a≤x→x<s→e≤y→y<b→(M x).f0≤(M y).f0:=fun x y h3 h4 h5 h6=>by
  have k1:=hge (by omega) (by omega)
  have k2:(M x).f0≤(M (s - 1)).f0:=le_le h1 h3 (by omega) (by omega)
  have k3:(M e).f0≤(M y).f0:=le_le h2 hme h5 h6
  omega
 have p1: ∀ x,x<s→rotM M s m e x=M x:=fun x h=>rot_off M (by omega)
 have p2: ∀ x,s≤x→x<mid→rotM M s m e x=M (x+(m - s)):=fun x h3 h4=>rot_lo M h3 (by omega) hme hsm
 have p3: ∀ x,mid≤x→x<e→rotM M s m e x=M (x - (e - m)):=fun x h3 h4=>rot_hi M (by omega) h4 hsm
 have p4: ∀ x,e≤x→rotM M s m e x=M x:=fun x h=>rot_off M (by omega)
 refine⟨rot_stab hst hsm hme (by omega) hx,?_,?_,?_,?_,?_⟩
 ·intro x y h3 h4 h5;rw[p1 x (by omega),p1 y h5];exact h1 _ _ h3 h4 (by omega)
 ·intro x y h3 h4 h5;rw[p2 x h3 (by omega),p2 y (by omega) h5];exact h2 _ _ (by omega) (by omega) (by omega)
 ·intro x y h3 h4 h5;rw[p3 x h3 (by omega),p3 y (by omega) h5];exact h1 _ _ (by omega) (by omega) (by omega)
 ·intro x y h3 h4 h5;rw[p4 x h3,p4 y (by omega)];exact h2 _ _ (by omega) h4 h5
 ·intro x y h3 h4 h5 h6
  by_cases c1:x<s
  ·rw[p1 x c1]
   by_cases c2:y<e
   ·rw[p3 y h5 c2];exact le_le h1 h3 (by omega) (by omega)
   ·rw[p4 y (by omega)];exact hy x y h3 c1 (by omega) h6
  ·rw[p2 x (by omega) h4]
   by_cases c2:y<e
   ·rw[p3 y h5 c2];exact Int.le_of_lt (hx _ _ (by omega) (by omega) (by omega) (by omega))
   ·rw[p4 y (by omega)];exact le_le h2 (by omega) (by omega) h6
theorem mix_cross {K L:Nat→S38} {a m b:Nat} (hc: ∀ x y,a≤x→x<m→m≤y→y<b→(K x).f0≤(K y).f0) (h:Mix K L a m∨Mix K L m b):
  ∀ x y,a≤x→x<m→m≤y→y<b→(L x).f0≤(L y).f0:=by
 intro x y h1 h2 h3 h4
 rcases h with h|h
 ·obtain⟨z,h5,h6,e⟩:=h.2.1 x h1 h2
  rw[e,h.1 y (by omega)];exact hc z y h5 h6 h3 h4
 ·obtain⟨z,h5,h6,e⟩:=h.2.1 y h3 h4
  rw[e,h.1 x (by omega)];exact hc x z h1 h2 h5 h6
theorem mix_le {K L:Nat→S38} {a b c d:Nat} (h:Mix K L c d) (hd:b≤c∨d≤a) (hl:Le K a b):Le L a b:=fun i j h1 h2 h3=>by
 rw[h.1 i (by omega),h.1 j (by omega)];exact hl i j h1 h2 h3
theorem sw_rot_lo (M:Nat→S38) {a k:Nat} (h:a≤k) (x:Nat):sw (rotM M a (a+1) (k+1)) k x=rotM M a (a+1) (k+2) x:=by
 unfold sw rotM
 by_cases e1:x=k
 ·subst e1;rw[Yx rfl,Yy (by omega),Yx (by omega),Yx (by omega)];congr 1;omega
 ·rw[Yy e1]
  by_cases e2:x=k+1
  ·subst e2;rw[Yx rfl,Yx (by omega),Yy (by omega),Yx (by omega),Yy (by omega)];congr 1;omega
  ·rw[Yy e2]
   by_cases e3:a≤x∧x<k
   ·rw[Yx (by omega),Yx (by omega),Yx (by omega),Yx (by omega)]
   ·rw[Yy (by omega),Yy (by omega)]
theorem sw_rot_hi (M:Nat→S38) {k m:Nat} (h:k<m) (x:Nat):sw (rotM M (k+1) m (m+1)) k x=rotM M k m (m+1) x:=by
 unfold sw rotM
 by_cases e1:x=k
 ·subst e1;rw[Yx rfl,Yx (by omega),Yx (by omega),Yx (by omega),Yx (by omega)];congr 1;omega
 ·rw[Yy e1]
  by_cases e2:x=k+1
  ·subst e2;rw[Yx rfl,Yy (by omega),Yx (by omega),Yy (by omega)];congr 1;omega
  ·rw[Yy e2]
   by_cases e3:k≤x∧x<m+1
   ·rw[Yx (by omega),Yy (by omega),Yx (by omega),Yy (by omega)]
   ·rw[Yy (by omega),Yy (by omega)]
end H
namespace P
attribute [local go_sem] max2_int min2_int max_two min_two max_three min_three max_four min_four
def adj_from.f (Zc:Int) (Zb:Int) (a0_2:Int) (Xy:Int):Option (Int):=some Zc
set_option maxHeartbeats 8000000 in
set_option maxRecDepth 100000 in
theorem adj_from.calls (Zc:Int) (Zb:Int) (a0_2:Int) (Xy:Int) (r:Int) (w:World) (h:adj_from.f Zc Zb a0_2 Xy=some r):
  Calls Try.prog 160 #[.agg #[.int .i64 Zc, .int .i64 Zb, .int .i64 a0_2, .int .i64 Xy]] w fun e w'=>e= .returned (.int .i64 r)∧Below w.heap.size w w':=by
 have hu74:=Try.underlying74
 have HB:=Ya (Yo w.heap.size w)
 have H:(some Zc)=some r:=h
 clear h
 obtain rfl:=Option.some.inj H
 go_enter Try.func160,Try.ntmps160
 go_wp2_with (first|((with_reducible refine gate_dst (N:=1) rfl ?_);refine Yz ?hg (N:=1) ?hd (cs:= #[.int .i64 Zc, .int .i64 Zb, .int .i64 a0_2, .int .i64 Xy]) (t:=74) ?hr ?_;(case hd=>rfl);(case hg=>rfl);(case hr=>first|(go_simp;done)|(go_simp;rfl));intro gb192 hg w2 Zf hb;have n0_:=Ya (Yk (by repeat(first|(with_reducible first|exact HB.out|apply Ye|apply Yd|apply Yg)|exact HB.out)) hb);have n1_:=Ya (Zf);have n2_:=Ya ((by rw[hg];exact(Yi (by repeat(first|(with_reducible first|exact HB.out|apply Ye|apply Yd|apply Yg)|exact HB.out))):w.heap.size≤gb192));have n3_:=Ya ((by rw[hg];exact(Yi (by repeat(first|(with_reducible first|exact HB.out|apply Ye|apply Yd|apply Yg)|exact HB.out))):w.heap.size≤gb192));clear HB;have HB:=n0_;have BK192:=n1_;have GW192:=n2_;have GE192:=n3_;clear n0_ n1_ n2_ n3_;clear hb Zf hg;have hcz3_0:w2.cell? ⟨gb192,0,none⟩=some (.int .i64 Zc):=(Yc BK192.out 0).trans rfl;have hcz3_1:w2.cell? ⟨gb192,1,none⟩=some (.int .i64 Zb):=(Yc BK192.out 1).trans rfl;have hcz3_2:w2.cell? ⟨gb192,2,none⟩=some (.int .i64 a0_2):=(Yc BK192.out 2).trans rfl;have hcz3_3:w2.cell? ⟨gb192,3,none⟩=some (.int .i64 Xy):=(Yc BK192.out 3).trans rfl;have hfz3_0:=Yf BK192.out 0;have hfz3_1:=Yf BK192.out 1;have hfz3_2:=Yf BK192.out 2;have hfz3_3:=Yf BK192.out 3))
 go_ret
 exact⟨by first|rfl|(simp[errW_none,errW_some]<;>rfl)|(simp[*,errW_none,errW_some]<;>rfl),by repeat(first|(with_reducible first|exact HB.out|apply Ye|apply Yd|apply Yg|refine Yh ?_ GE192.out)|exact HB.out)⟩
end P
namespace P
attribute [local go_sem] max2_int min2_int max_two min_two max_three min_three max_four min_four
def adj_to.f (Zc:Int) (Zb:Int) (a0_2:Int) (Xy:Int):Option (Int):=some Zb
set_option maxHeartbeats 8000000 in
set_option maxRecDepth 100000 in
theorem adj_to.calls (Zc:Int) (Zb:Int) (a0_2:Int) (Xy:Int) (r:Int) (w:World) (h:adj_to.f Zc Zb a0_2 Xy=some r):
  Calls Try.prog 161 #[.agg #[.int .i64 Zc, .int .i64 Zb, .int .i64 a0_2, .int .i64 Xy]] w fun e w'=>e= .returned (.int .i64 r)∧Below w.heap.size w w':=by
 have hu74:=Try.underlying74
 have HB:=Ya (Yo w.heap.size w)
 have H:(some Zb)=some r:=h
 clear h
 obtain rfl:=Option.some.inj H
 go_enter Try.func161,Try.ntmps161
 go_wp2_with (first|((with_reducible refine gate_dst (N:=1) rfl ?_);refine Yz ?hg (N:=1) ?hd (cs:= #[.int .i64 Zc, .int .i64 Zb, .int .i64 a0_2, .int .i64 Xy]) (t:=74) ?hr ?_;(case hd=>rfl);(case hg=>rfl);(case hr=>first|(go_simp;done)|(go_simp;rfl));intro gb194 hg w2 Zf hb;have n0_:=Ya (Yk (by repeat(first|(with_reducible first|exact HB.out|apply Ye|apply Yd|apply Yg)|exact HB.out)) hb);have n1_:=Ya (Zf);have n2_:=Ya ((by rw[hg];exact(Yi (by repeat(first|(with_reducible first|exact HB.out|apply Ye|apply Yd|apply Yg)|exact HB.out))):w.heap.size≤gb194));have n3_:=Ya ((by rw[hg];exact(Yi (by repeat(first|(with_reducible first|exact HB.out|apply Ye|apply Yd|apply Yg)|exact HB.out))):w.heap.size≤gb194));clear HB;have HB:=n0_;have BK194:=n1_;have GW194:=n2_;have GE194:=n3_;clear n0_ n1_ n2_ n3_;clear hb Zf hg;have hcz3_0:w2.cell? ⟨gb194,0,none⟩=some (.int .i64 Zc):=(Yc BK194.out 0).trans rfl;have hcz3_1:w2.cell? ⟨gb194,1,none⟩=some (.int .i64 Zb):=(Yc BK194.out 1).trans rfl;have hcz3_2:w2.cell? ⟨gb194,2,none⟩=some (.int .i64 a0_2):=(Yc BK194.out 2).trans rfl;have hcz3_3:w2.cell? ⟨gb194,3,none⟩=some (.int .i64 Xy):=(Yc BK194.out 3).trans rfl;have hfz3_0:=Yf BK194.out 0;have hfz3_1:=Yf BK194.out 1;have hfz3_2:=Yf BK194.out 2;have hfz3_3:=Yf BK194.out 3))
 go_ret
 exact⟨by first|rfl|(simp[errW_none,errW_some]<;>rfl)|(simp[*,errW_none,errW_some]<;>rfl),by repeat(first|(with_reducible first|exact HB.out|apply Ye|apply Yd|apply Yg|refine Yh ?_ GE194.out)|exact HB.out)⟩
end P
end Go.Proofs.Ytkcpanpdipmmmaa
