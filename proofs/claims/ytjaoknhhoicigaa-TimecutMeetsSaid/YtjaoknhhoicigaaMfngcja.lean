/- What the law's row needs of these texts, taken out of them by wip/tool/mini.py: P68 P69 P70 P71 QOpen QSlotsLaw QRead12 QMade18 QAwake18 QLMeets. -/
import Derived.Test.YtjaoknhhoicigaaMekbank
import Derived.Test.YtjaoknhhoicigaaVkmdfjg
import Derived.Deep.Slices
import Derived.Deep.Fields
import Derived.ChangeSame
import Derived.ChangeArms
import Derived.OpenShut
set_option linter.unusedVariables false
set_option linter.unusedSimpArgs false
open Go.RowKit Go.Proofs.YtjaoknhhoicigaaW.PrintWords Go.Proofs.YtjaoknhhoicigaaW.PrintLast Go.Proofs.YtjaoknhhoicigaaW.PrintMore
namespace Go.Proofs.Ytjaoknhhoicigaa
namespace P
attribute [local go_sem] max2_int min2_int max_two min_two max_three min_three max_four min_four
attribute [local go_sem high] eqA53
mutual
def ebbtideref03_Slots.l0:Nat→List (S53)→List (S53)→Int→Option ((List (S53)))
 |0,_,_,_=>none
 |k+1,x0,x3,x4=>if x4<(x0.length:Int) then(ebbtideref03_Slots.l1 k x0 x3 x4 false 0) else(some x3)
def ebbtideref03_Slots.l1:Nat→List (S53)→List (S53)→Int→Bool→Int→Option ((List (S53)))
 |0,_,_,_,_,_=>none
 |k+1,x0,x3,x4,x5,x6=>if x6<(x3.length:Int) then(if x5=true then(ebbtideref03_Slots.l1 k x0 x3 x4 true (wrap64 (x6+1))) else(if 0≤x6 then(if 0≤x4 then(if x4<(x0.length:Int) then(ebbtideref03_Slots.l1 k x0 x3 x4 (((rd_T53 x3 x6).f0) == ((rd_T53 x0 x4).f0) && (((rd_T53 x3 x6).f1) == ((rd_T53 x0 x4).f1))) (wrap64 (x6+1))) else(none)) else(none)) else(none))) else(if x5=true then(ebbtideref03_Slots.l0 k x0 x3 (wrap64 (x4+1))) else(if 0≤x4 then(if x4<(x0.length:Int) then(if x3.length<8796093022208 then((some (x3 ++ [(⟨(rd_T53 x0 x4).f0,(rd_T53 x0 x4).f1⟩:S53)]:List (S53))).bind fun y337=>(ebbtideref03_Slots.l2 k x0 y337 x4 (wrap64 ((y337.length:Int) - 1)))) else(none)) else(none)) else(none)))
def ebbtideref03_Slots.l2:Nat→List (S53)→List (S53)→Int→Int→Option ((List (S53)))
 |0,_,_,_,_=>none
 |k+1,x0,x3,x4,x7=>if x7>0 then(if 0≤x7 then(if x7<(x3.length:Int) then(if 0≤(wrap64 (x7 - 1)) then(if (wrap64 (x7 - 1))<(x3.length:Int) then(if ((rd_T53 x3 x7).f1)<((rd_T53 x3 (wrap64 (x7 - 1))).f1) then(ebbtideref03_Slots.l2 k x0 ((x3.set (x7:Int).toNat (⟨(rd_T53 x3 (wrap64 (x7 - 1))).f0,(rd_T53 x3 (wrap64 (x7 - 1))).f1⟩:S53)).set ((wrap64 (x7 - 1)):Int).toNat (⟨(rd_T53 x3 x7).f0,(rd_T53 x3 x7).f1⟩:S53)) x4 (wrap64 (x7 - 1))) else(if ((rd_T53 x3 x7).f1)=((rd_T53 x3 (wrap64 (x7 - 1))).f1) then(if ((rd_T53 x3 x7).f0)<((rd_T53 x3 (wrap64 (x7 - 1))).f0) then(ebbtideref03_Slots.l2 k x0 ((x3.set (x7:Int).toNat (⟨(rd_T53 x3 (wrap64 (x7 - 1))).f0,(rd_T53 x3 (wrap64 (x7 - 1))).f1⟩:S53)).set ((wrap64 (x7 - 1)):Int).toNat (⟨(rd_T53 x3 x7).f0,(rd_T53 x3 x7).f1⟩:S53)) x4 (wrap64 (x7 - 1))) else(ebbtideref03_Slots.l0 k x0 x3 (wrap64 (x4+1)))) else(ebbtideref03_Slots.l0 k x0 x3 (wrap64 (x4+1))))) else(none)) else(none)) else(none)) else(none)) else(ebbtideref03_Slots.l0 k x0 x3 (wrap64 (x4+1)))
end
def ebbtideref03_Slots.f (k:Nat) (l0:List (S53)):Option ((List (S53))):=ebbtideref03_Slots.l0 k l0 ([]:List (S53)) 0
def ebbtideref03_Slots.T9:Bool × List (List Nat × List Nat):=(true,[([],[]),([0],[0]),([1],[1]),([1],[1]),([2,3,1],[1,2,3]),([4,1],[1,4]),([1],[1]),([1],[1]),([6,7,1],[1,6,7]),([8,1],[1,8]),([5,9,1],[1,5,9]),([1,10],[1,10]),([11,1,0,1,2,3,4,5,6,7,8,9,10,11],[0,11])])
def ebbtideref03_Slots.B9:List Nat:=[0,1,3,3,15,31,3,3,195,451,1023,2047,4095]
theorem ebbtideref03_Slots.tab9:rtab .any (opsOf Try.f28 9)=ebbtideref03_Slots.T9:=by kernel_rfl
theorem ebbtideref03_Slots.bits9:waitsOk ebbtideref03_Slots.T9.2 ebbtideref03_Slots.B9=true:=by kernel_rfl
def ebbtideref03_Slots.T13:Bool × List (List Nat × List Nat):=(true,[([],[]),([0],[0]),([1],[1]),([2],[2]),([2],[2]),([3,4,2],[2,3,4]),([5,2],[2,5]),([6,2],[2,6]),([2],[2]),([2],[2]),([9,2],[2,9]),([8,10,2],[2,8,10]),([11,2],[2,11]),([12,2],[2,12]),([7,13,2],[2,7,13]),([14,2,2],[2,14]),([15],[15]),([15],[15]),([16,17,15],[15,16,17]),([18,15],[15,18]),([19,15],[15,19]),([15],[15]),([15],[15]),([22,15],[15,22]),([21,23,15],[15,21,23]),([24,15],[15,24]),([25,15],[15,25]),([20,26,15],[15,20,26]),([27,15,15],[15,27]),([28],[28]),([28],[28]),([29,30,28],[28,29,30]),([31,28],[28,31]),([32,28],[28,32]),([28],[28]),([28],[28]),([35,28],[28,35]),([34,36,28],[28,34,36]),([37,28],[28,37]),([38,28],[28,38]),([33,39,28],[28,33,39]),([28,40,15],[15,28,40]),([15,41,2],[2,15,41]),([2,42],[2,42])])
def ebbtideref03_Slots.B13:List Nat:=[0,1,3,7,7,31,63,127,7,7,519,1799,3847,7943,16383,32767,65535,65535,262143,524287,1048575,65535,65535,4259839,14745599,31522815,65077247,134217727,268435455,536870911,536870911,2147483647,4294967295,8589934591,536870911,536870911,34896609279,120795955199,258234908671,533112815615,1099511627775,2199023255551,4398046511103,8796093022207]
theorem ebbtideref03_Slots.tab13:rtab .any (opsOf Try.f28 13)=ebbtideref03_Slots.T13:=by kernel_rfl
theorem ebbtideref03_Slots.bits13:waitsOk ebbtideref03_Slots.T13.2 ebbtideref03_Slots.B13=true:=by kernel_rfl
def ebbtideref03_Slots.T15:Bool × List (List Nat × List Nat):=(true,[([],[]),([],[]),([],[]),([],[]),([3],[3]),([],[]),([],[]),([6],[6]),([5,7],[5,7]),([8],[8]),([],[]),([],[]),([10,11],[10,11]),([12],[12]),([0,1,0,1,5,6,7,8,9,13],[0,1]),([14,9,0,1,5,6,7,8,9,13],[9,14]),([2,4,0,1,2,3,4,5,6,7,8,9,10,11,12,13,14,15],[2,4]),([16,13,15,0,1,2,3,4,5,6,7,8,9,10,11,12,13,14,15],[13,16])])
def ebbtideref03_Slots.B15:List Nat:=[0,0,0,0,8,0,0,64,224,480,0,0,3072,7168,16355,32739,65535,131071]
theorem ebbtideref03_Slots.tab15:rtab .any (opsOf Try.f28 15)=ebbtideref03_Slots.T15:=by kernel_rfl
theorem ebbtideref03_Slots.bits15:waitsOk ebbtideref03_Slots.T15.2 ebbtideref03_Slots.B15=true:=by kernel_rfl
set_option maxHeartbeats 8000000 in
set_option maxRecDepth 100000 in
theorem ebbtideref03_Slots.calls (k:Nat) (A0:Option Addr) (c0:Nat) (l0:List (S53)) (r:List (S53)) (w:World) (hr0:Kd.C k53 w A0 l0.length l0) (hc0:l0.length≤c0) (h:ebbtideref03_Slots.f k l0=some r):
  Calls Try.prog 28 #[.slice A0 l0.length c0] w fun e w'=> ∃ v0_:Value,e= .returned (v0_)∧Kd.R k53 53 w' w.heap.size (fun _=>True) v0_ r∧Below w.heap.size w w':=by
 have hu53:=Try.underlying53;have HR0:=Ya hr0;have HC0:=Ya hc0;clear hr0 hc0;have HB:=Ya (Yk w.heap.size w);have H:=h;unfold ebbtideref03_Slots.f at H;clear h;have H':=Ya H;clear H;go_enter Try.func28,Try.ntmps28;go_wp2;go_loopg [3,4] k (fun kq v3 v4 w'=> ∃ (Vt:List (S53)) (Xp:Int),v4= .int .i64 Xp∧Aside0 (ebbtideref03_Slots.l0 kq l0 Vt Xp=some r)∧Aside0 (kq≤k)∧Aside0 (Kd.R k53 53 w' w.heap.size (fun _=>True) v3 Vt)∧Aside0 (Below w.heap.size w w'))
 case atStart=>exact⟨(([]:List (S53))),(0),(by first|rfl|(simp;done)|(simp[*];done)),H',⟨Nat.le_refl _⟩,⟨by first|exact Kd.R_nil _ _ _ _ _|exact Kd.N_nil _ _ _ _ _|exact Kd.V_nil _ _ _ _ _|exact Kd.Q_nil _ _ _ _ _|exact Kd.S_nil _ _ _ _ _⟩,⟨HB.out⟩⟩
 case round=>
  clear H';obtain⟨Vt,Xp,rfl,HA,HK1,HO_3,HB⟩:=hrel;cases gk with
  |zero=>exact absurd HA.out (by simp[ebbtideref03_Slots.l0])
  |succ k1=>
   have H:=HA.out;clear HA;simp only[ebbtideref03_Slots.l0] at H;by_cases c2:Xp<(l0.length:Int)
   rotate_left
   ·rw[Yr c2] at H
    have c2b0:decide (Xp<(l0.length:Int))=false:=Yp c2;clear c2;obtain rfl:=Option.some.inj H;go_wp2;go_ret;exact⟨_,by first|rfl|(simp[errW_none,errW_some]<;>rfl)|(simp[*,errW_none,errW_some]<;>rfl),by(with_reducible repeat(first|apply Kd.R_alloc|apply Kd.R_drewN|apply Yl));exact HO_3.out,HB.out⟩
   rw[Yq c2] at H;have c2b0:decide (Xp<(l0.length:Int))=true:=Yo c2;clear c2;have H':=Ya H;clear H;go_wp2;go_loopg [5,6] k1 (fun kq v5 v6 w'=> ∃ (Je:Bool) (Vm:Int),v5= .bool Je∧v6= .int .i64 Vm∧Aside0 (ebbtideref03_Slots.l1 kq l0 Vt Xp Je Vm=some r)∧Aside0 (kq≤k1)∧Aside0 (Kd.R k53 53 w' w.heap.size (fun _=>True) u3 Vt)∧Aside0 (Below w.heap.size w w'))
   case atStart=>exact⟨(false),(0),(by first|rfl|(simp;done)|(simp[*];done)),(by first|rfl|(simp;done)|(simp[*];done)),H',⟨Nat.le_refl _⟩,⟨HO_3.out⟩,⟨HB.out⟩⟩
   case round=>
    clear H';try clear c2
    try clear c2b0
    obtain⟨Je,Vm,rfl,rfl,HA,HK2,HO_3,HB⟩:=hrel;cases gk with
    |zero=>exact absurd HA.out (by simp[ebbtideref03_Slots.l1])
    |succ k2=>
     have H:=HA.out;clear HA;simp only[ebbtideref03_Slots.l1] at H;by_cases c3:Vm<(Vt.length:Int)
     ·rw[Yq c3] at H
      have c3b0:decide (Vm<(Vt.length:Int))=true:=Yo c3;clear c3;by_cases c4:Je=true
      ·subst c4
       first|rw[Yq rfl] at H|rw[Yq trivial] at H
       have H':=Ya H;clear H;obtain⟨Ao5,co5,eo5⟩:=Kd.R_slice HO_3.out;subst eo5;try go_wp2
       replace HO_3:=Ya (Yl HO_3.out);replace HB:=Ya (Yd HB.out);refine start_ (n:=13) (S:=fun w'=>True) (ds:=[]) #[false,false,false,false,false,false,false,false,false,false,false,false,false] (by kernel_rfl) rfl rfl trivial (fun hHeld=> ?_);refine with_tabW ebbtideref03_Slots.tab9 ebbtideref03_Slots.bits9 (fun HT_ HW_=> ?_);generalize wr.drew=w6 at HO_3 HB hHeld ⊢;refine pu 0 20 (bm 13 1) ?_;refine pu 1 21 (bm 13 3) ?_;refine pure_ (i:=2) (N:=some 22) (v:=undef) (a':= ?_) #[true,true,true,false,false,false,false,false,false,false,false,false,false] rfl rfl (any_of HT_.out (by kernel_rfl)) (fun _ _ _ h=>h) (Or.inr ⟨by rfl,rfl⟩) ?_ ?_
       rotate_left
       ·simp only[Act.put,List.setIfInBounds_toArray,List.set_cons_zero,List.set_cons_succ,i64_w,i32_w]
        rfl
       refine pure_ (i:=3) (N:=some 23) (v:=undef) (a':= ?_) #[true,true,true,true,false,false,false,false,false,false,false,false,false] rfl rfl (any_of HT_.out (by kernel_rfl)) (fun _ _ _ h=>h) (Or.inr ⟨by rfl,rfl⟩) ?_ ?_
       rotate_left
       ·simp only[Act.put,List.setIfInBounds_toArray,List.set_cons_zero,List.set_cons_succ,i64_w,i32_w]
        rfl
       refine pure_ (i:=4) (N:=some 24) (v:=undef) (a':= ?_) #[true,true,true,true,true,false,false,false,false,false,false,false,false] rfl rfl (any_of HT_.out (by kernel_rfl)) (fun _ _ _ h=>h) (Or.inr ⟨by rfl,rfl⟩) ?_ ?_
       rotate_left
       ·simp only[Act.put,List.setIfInBounds_toArray,List.set_cons_zero,List.set_cons_succ,i64_w,i32_w]
        rfl
       refine pure_ (i:=5) (N:=some 25) (v:=undef) (a':= ?_) #[true,true,true,true,true,true,false,false,false,false,false,false,false] rfl rfl (any_of HT_.out (by kernel_rfl)) (fun _ _ _ h=>h) (Or.inr ⟨by rfl,rfl⟩) ?_ ?_
       rotate_left
       ·simp only[Act.put,List.setIfInBounds_toArray,List.set_cons_zero,List.set_cons_succ,i64_w,i32_w]
        rfl
       refine pure_ (i:=6) (N:=some 26) (v:=undef) (a':= ?_) #[true,true,true,true,true,true,true,false,false,false,false,false,false] rfl rfl (any_of HT_.out (by kernel_rfl)) (fun _ _ _ h=>h) (Or.inr ⟨by rfl,rfl⟩) ?_ ?_
       rotate_left
       ·simp only[Act.put,List.setIfInBounds_toArray,List.set_cons_zero,List.set_cons_succ,i64_w,i32_w]
        rfl
       refine pure_ (i:=7) (N:=some 27) (v:=undef) (a':= ?_) #[true,true,true,true,true,true,true,true,false,false,false,false,false] rfl rfl (any_of HT_.out (by kernel_rfl)) (fun _ _ _ h=>h) (Or.inr ⟨by rfl,rfl⟩) ?_ ?_
       rotate_left
       ·simp only[Act.put,List.setIfInBounds_toArray,List.set_cons_zero,List.set_cons_succ,i64_w,i32_w]
        rfl
       refine pure_ (i:=8) (N:=some 28) (v:=undef) (a':= ?_) #[true,true,true,true,true,true,true,true,true,false,false,false,false] rfl rfl (any_of HT_.out (by kernel_rfl)) (fun _ _ _ h=>h) (Or.inr ⟨by rfl,rfl⟩) ?_ ?_
       rotate_left
       ·simp only[Act.put,List.setIfInBounds_toArray,List.set_cons_zero,List.set_cons_succ,i64_w,i32_w]
        rfl
       refine pure_ (i:=9) (N:=some 29) (v:=undef) (a':= ?_) #[true,true,true,true,true,true,true,true,true,true,false,false,false] rfl rfl (any_of HT_.out (by kernel_rfl)) (fun _ _ _ h=>h) (Or.inr ⟨by rfl,rfl⟩) ?_ ?_
       rotate_left
       ·simp only[Act.put,List.setIfInBounds_toArray,List.set_cons_zero,List.set_cons_succ,i64_w,i32_w]
        rfl
       refine pure_ (i:=10) (N:=some 30) (v:=undef) (a':= ?_) #[true,true,true,true,true,true,true,true,true,true,true,false,false] rfl rfl (any_of HT_.out (by kernel_rfl)) (fun _ _ _ h=>h) (Or.inr ⟨by rfl,rfl⟩) ?_ ?_
       rotate_left
       ·simp only[Act.put,List.setIfInBounds_toArray,List.set_cons_zero,List.set_cons_succ,i64_w,i32_w]
        rfl
       refine pu 11 31 (bm 13 4095) ?_;refine pu 12 5 (bm 13 8191) ?_;refine done_ (done_of HT_.out (by kernel_rfl)) ?_;try go_wp2
       go_roundg k2
       case measure=>have:=HK1.out;have:=HK2.out;omega
       case rel=>exact⟨(true),(wrap64 (Vm+1)),(by first|rfl|(simp;done)|(simp[*];done)),(by first|rfl|(simp;done)|(simp[*];done)),H',⟨by have:=HK1.out;have:=HK2.out;omega⟩,⟨HO_3.out⟩,⟨HB.out⟩⟩
      replace c4:=Bool.eq_false_iff.mpr c4;subst c4;rw[Yr (show ¬ (false=true) by decide)] at H;by_cases c7:0≤Vm
      rotate_left
      ·rw[Yr c7] at H
       exact absurd H (by simp)
      rw[Yq c7] at H;have c7b0:decide (0≤Vm)=true:=Yo c7;clear c7;by_cases c8:0≤Xp
      rotate_left
      ·rw[Yr c8] at H
       exact absurd H (by simp)
      rw[Yq c8] at H;have c8b0:decide (0≤Xp)=true:=Yo c8;clear c8;by_cases c9:Xp<(l0.length:Int)
      rotate_left
      ·rw[Yr c9] at H
       exact absurd H (by simp)
      rw[Yq c9] at H;have c9b0:decide (Xp<(l0.length:Int))=true:=Yo c9;clear c9;have H':=Ya H;clear H;obtain⟨Ao10,co10,eo10⟩:=Kd.R_slice HO_3.out;subst eo10;try go_wp2
      replace HO_3:=Ya (Yl HO_3.out);replace HB:=Ya (Yd HB.out);have p334:0≤(Vm:Int):=od;have q334:Vm<(Vt.length:Int):=od;obtain⟨ad334,e334,Jy,Jz⟩:=at_T53 (Kd.R_reads' HO_3.out).2.2 Vm p334 q334;cases e334;replace p334:=eq_true p334;replace q334:=eq_true q334;have p335:0≤(Xp:Int):=od;have q335:Xp<(l0.length:Int):=od;obtain⟨ad335,e335,Ul,Um⟩:=at_T53 HR0.out Xp p335 q335;have hw335_1:=Um;have hw335_0:=Ul;cases e335;replace Ul:=hc HB Ul;replace Um:=hc HB Um;replace p335:=eq_true p335;replace q335:=eq_true q335;refine start_ (n:=13) (S:=fun w'=>w'.cell? (ad334.add ((Vm).toNat * 2))=some (.int .i64 ((rd_T53 Vt Vm).f0))∧w'.cell? ⟨(ad334.add ((Vm).toNat * 2)).block,(ad334.add ((Vm).toNat * 2)).off+1,none⟩=some (.int .i64 ((rd_T53 Vt Vm).f1))∧w'.cell? (ad335.add ((Xp).toNat * 2))=some (.int .i64 ((rd_T53 l0 Xp).f0))∧w'.cell? ⟨(ad335.add ((Xp).toNat * 2)).block,(ad335.add ((Xp).toNat * 2)).off+1,none⟩=some (.int .i64 ((rd_T53 l0 Xp).f1))) (ds:=[]) #[false,false,false,false,false,false,false,false,false,false,false,false,false] (by kernel_rfl) rfl rfl ⟨Jy,Jz,((HB.out.cell (World.block_lt_of_cell? w _ hw335_0)).trans hw335_0),((HB.out.cell (World.block_lt_of_cell? w _ hw335_1)).trans hw335_1)⟩ (fun hHeld=> ?_);refine with_tabW ebbtideref03_Slots.tab9 ebbtideref03_Slots.bits9 (fun HT_ HW_=> ?_);generalize wr.drew=w11 at HO_3 HB Jy Jz Ul Um hHeld ⊢;refine pu 0 20 (bm 13 1) ?_;refine pu 1 21 (bm 13 3) ?_;refine pu 2 22 (bm 13 7) ?_;refine pu 3 23 (bm 13 15) ?_;refine pu 4 24 (bm 13 31) ?_;refine pu 6 26 (bm 13 95) ?_;refine pu 7 27 (bm 13 223) ?_;refine pu 8 28 (bm 13 479) ?_;refine ta 5 25 (bm 13 511) hHeld ?_;refine ta 9 29 (bm 13 1023) hHeld ?_;refine pu 10 30 (bm 13 2047) ?_;refine pu 11 31 (bm 13 4095) ?_;refine pu 12 5 (bm 13 8191) ?_;refine done_ (done_of HT_.out (by kernel_rfl)) ?_;try go_wp2
      go_roundg k2
      case measure=>have:=HK1.out;have:=HK2.out;omega
      case rel=>exact⟨((((rd_T53 Vt Vm).f0) == ((rd_T53 l0 Xp).f0) && (((rd_T53 Vt Vm).f1) == ((rd_T53 l0 Xp).f1)))),(wrap64 (Vm+1)),(by first|rfl|(simp;done)|(simp[*];done)),(by first|rfl|(simp;done)|(simp[*];done)),H',⟨by have:=HK1.out;have:=HK2.out;omega⟩,⟨HO_3.out⟩,⟨HB.out⟩⟩
     rw[Yr c3] at H;have c3b0:decide (Vm<(Vt.length:Int))=false:=Yp c3;clear c3;by_cases c12:Je=true
     ·subst c12
      first|rw[Yq rfl] at H|rw[Yq trivial] at H
      have H':=Ya H;clear H;obtain⟨Ao13,co13,eo13⟩:=Kd.R_slice HO_3.out;subst eo13;go_wp2;go_roundg k2
      case measure=>have:=HK1.out;have:=HK2.out;omega
      case rel=>exact⟨(Vt),(wrap64 (Xp+1)),(by first|rfl|(simp;done)|(simp[*];done)),H',⟨by have:=HK1.out;have:=HK2.out;omega⟩,⟨HO_3.out⟩,⟨HB.out⟩⟩
     replace c12:=Bool.eq_false_iff.mpr c12;subst c12;rw[Yr (show ¬ (false=true) by decide)] at H;by_cases c14:0≤Xp
     rotate_left
     ·rw[Yr c14] at H
      exact absurd H (by simp)
     rw[Yq c14] at H;have c14b0:decide (0≤Xp)=true:=Yo c14;clear c14;by_cases c15:Xp<(l0.length:Int)
     rotate_left
     ·rw[Yr c15] at H
      exact absurd H (by simp)
     rw[Yq c15] at H;have c15b0:decide (Xp<(l0.length:Int))=true:=Yo c15;clear c15;by_cases c16:Vt.length<8796093022208
     rotate_left
     ·rw[Yr c16] at H
      exact absurd H (by simp)
     rw[Yq c16] at H;have LMc16:=Ya c16;clear c16;obtain⟨y337,hy337⟩: ∃ y_:List (S53),y_=(Vt ++ [(⟨(rd_T53 l0 Xp).f0,(rd_T53 l0 Xp).f1⟩:S53)]):=⟨_,rfl⟩;rw[← hy337] at H;have Ny337:=Ya hy337;clear hy337;have H':=Ya H;clear H;obtain⟨Ao17,co17,eo17⟩:=Kd.R_slice HO_3.out;subst eo17;have p336:0≤(Xp:Int):=od;have q336:Xp<(l0.length:Int):=od;obtain⟨ad336,e336,hx336_0,hx336_1⟩:=at_T53 HR0.out Xp p336 q336;cases e336;replace hx336_0:=hc HB hx336_0;replace hx336_1:=hc HB hx336_1;replace p336:=eq_true p336;replace q336:=eq_true q336;go_wp2_with (first|((with_reducible refine gate_builtin (b:= .append) (xs:= #[.tmp 33, .tmp 38]) rfl ?_);at_builtin;refine Kd.R_append k53 (w0:=w) w.heap.size rfl (.tmp 33) (.tmp 38) 40 53 (.agg #[(.int .i64 0),(.int .i64 0)]) 16 rfl Try.underlying40 info53 rfl (by decide) (by omega) (.slice Ao17 Vt.length co17) Vt (⟨(rd_T53 l0 Xp).f0,(rd_T53 l0 Xp).f1⟩:S53) [.int .i64 ((rd_T53 l0 Xp).f0), .int .i64 ((rd_T53 l0 Xp).f1)] (fun _=>True) (fun _=>False) rfl rfl ?aP (fun _ hk=>hk.elim) ?aF ?aO ?aB ?aS ?aL ?_;(case aP=>exact k53_mkM _ _ _ (⟨(rd_T53 l0 Xp).f0,(rd_T53 l0 Xp).f1⟩:S53));(case aB=>exact bl);(case aF=>exact(fun _ _=>trivial));(case aO=>exact(kR HO_3));(case aS=>exact(Ye bl));(case aL=>have:=LMc16.out;omega);intro v338 w18 ho hb hg hat;rw[← Ny337.out] at ho;replace HB:=Ya (hb);have HO339:=Ya (ho);clear HO_3;clear ho hb hg hat;obtain⟨Ao19,co19,eo19⟩:=Kd.R_slice HO339.out;subst eo19));go_loopg [7] k2 (fun kq v7 w'=> ∃ (Zd:List (S53)) (Zc:Int),v7= .int .i64 Zc∧Aside0 (ebbtideref03_Slots.l2 kq l0 Zd Xp Zc=some r)∧Aside0 (kq≤k2)∧Aside0 (Kd.R k53 53 w' w.heap.size (fun _=>True) (.slice Ao19 y337.length co19) Zd)∧Aside0 (Below w.heap.size w w'))
     case atStart=>exact⟨(y337),(wrap64 ((y337.length:Int) - 1)),(by first|rfl|(simp;done)|(simp[*];done)),H',⟨Nat.le_refl _⟩,⟨HO339.out⟩,⟨HB.out⟩⟩
     case round=>
      clear H';try clear c2
      try clear c2b0
      try clear c3
      try clear c3b0
      try clear c4
      try clear c7
      try clear c7b0
      try clear c8
      try clear c8b0
      try clear c9
      try clear c9b0
      try clear c12
      try clear c14
      try clear c14b0
      try clear c15
      try clear c15b0
      try clear c16
      try clear Jy
      try clear Jz
      try clear Ul
      try clear Um
      try clear hx336_0
      try clear hx336_1
      try clear p334
      try clear p335
      try clear p336
      try clear q334
      try clear q335
      try clear q336
      obtain⟨Zd,Zc,rfl,HA,HK3,HO_3,HB⟩:=hrel;have hl3_3:=(Kd.R_reads' HO_3.out).1;rw[hl3_3] at HO_3
      (try simp only[hl3_3])
      cases gk with
      |zero=>exact absurd HA.out (by simp[ebbtideref03_Slots.l2])
      |succ k3=>
       have H:=HA.out;clear HA;simp only[ebbtideref03_Slots.l2] at H;by_cases c20:Zc>0
       rotate_left
       ·rw[Yr c20] at H
        have c20b0:decide (0<Zc)=false:=Yp c20;clear c20;have H':=Ya H;clear H;try go_wp2
        replace HO_3:=Ya (Yl HO_3.out);replace HB:=Ya (Yd HB.out);refine start_ (n:=44) (S:=fun w'=>True) (ds:=[]) #[false,false,false,false,false,false,false,false,false,false,false,false,false,false,false,false,false,false,false,false,false,false,false,false,false,false,false,false,false,false,false,false,false,false,false,false,false,false,false,false,false,false,false,false] (by kernel_rfl) rfl rfl trivial (fun hHeld=> ?_);refine with_tabW ebbtideref03_Slots.tab13 ebbtideref03_Slots.bits13 (fun HT_ HW_=> ?_);generalize wr.drew=w43 at HO_3 HB hHeld ⊢;refine pu 0 43 (bm 44 1) ?_;refine pu 1 44 (bm 44 3) ?_;refine pu 2 45 (bm 44 7) ?_;refine pure_ (i:=3) (N:=some 46) (v:=undef) (a':= ?_) #[true,true,true,true,false,false,false,false,false,false,false,false,false,false,false,false,false,false,false,false,false,false,false,false,false,false,false,false,false,false,false,false,false,false,false,false,false,false,false,false,false,false,false,false] rfl rfl (any_of HT_.out (by kernel_rfl)) (fun _ _ _ h=>h) (Or.inr ⟨by rfl,rfl⟩) ?_ ?_
        rotate_left
        ·simp only[Act.put,List.setIfInBounds_toArray,List.set_cons_zero,List.set_cons_succ,i64_w,i32_w]
         rfl
        refine pure_ (i:=4) (N:=some 47) (v:=undef) (a':= ?_) #[true,true,true,true,true,false,false,false,false,false,false,false,false,false,false,false,false,false,false,false,false,false,false,false,false,false,false,false,false,false,false,false,false,false,false,false,false,false,false,false,false,false,false,false] rfl rfl (any_of HT_.out (by kernel_rfl)) (fun _ _ _ h=>h) (Or.inr ⟨by rfl,rfl⟩) ?_ ?_
        rotate_left
        ·simp only[Act.put,List.setIfInBounds_toArray,List.set_cons_zero,List.set_cons_succ,i64_w,i32_w]
         rfl
        refine pure_ (i:=5) (N:=some 48) (v:=undef) (a':= ?_) #[true,true,true,true,true,true,false,false,false,false,false,false,false,false,false,false,false,false,false,false,false,false,false,false,false,false,false,false,false,false,false,false,false,false,false,false,false,false,false,false,false,false,false,false] rfl rfl (any_of HT_.out (by kernel_rfl)) (fun _ _ _ h=>h) (Or.inr ⟨by rfl,rfl⟩) ?_ ?_
        rotate_left
        ·simp only[Act.put,List.setIfInBounds_toArray,List.set_cons_zero,List.set_cons_succ,i64_w,i32_w]
         rfl
        refine pure_ (i:=6) (N:=some 49) (v:=undef) (a':= ?_) #[true,true,true,true,true,true,true,false,false,false,false,false,false,false,false,false,false,false,false,false,false,false,false,false,false,false,false,false,false,false,false,false,false,false,false,false,false,false,false,false,false,false,false,false] rfl rfl (any_of HT_.out (by kernel_rfl)) (fun _ _ _ h=>h) (Or.inr ⟨by rfl,rfl⟩) ?_ ?_
        rotate_left
        ·simp only[Act.put,List.setIfInBounds_toArray,List.set_cons_zero,List.set_cons_succ,i64_w,i32_w]
         rfl
        refine pure_ (i:=7) (N:=some 50) (v:=undef) (a':= ?_) #[true,true,true,true,true,true,true,true,false,false,false,false,false,false,false,false,false,false,false,false,false,false,false,false,false,false,false,false,false,false,false,false,false,false,false,false,false,false,false,false,false,false,false,false] rfl rfl (any_of HT_.out (by kernel_rfl)) (fun _ _ _ h=>h) (Or.inr ⟨by rfl,rfl⟩) ?_ ?_
        rotate_left
        ·simp only[Act.put,List.setIfInBounds_toArray,List.set_cons_zero,List.set_cons_succ,i64_w,i32_w]
         rfl
        refine pure_ (i:=8) (N:=some 51) (v:=undef) (a':= ?_) #[true,true,true,true,true,true,true,true,true,false,false,false,false,false,false,false,false,false,false,false,false,false,false,false,false,false,false,false,false,false,false,false,false,false,false,false,false,false,false,false,false,false,false,false] rfl rfl (any_of HT_.out (by kernel_rfl)) (fun _ _ _ h=>h) (Or.inr ⟨by rfl,rfl⟩) ?_ ?_
        rotate_left
        ·simp only[Act.put,List.setIfInBounds_toArray,List.set_cons_zero,List.set_cons_succ,i64_w,i32_w]
         rfl
        refine pure_ (i:=9) (N:=some 52) (v:=undef) (a':= ?_) #[true,true,true,true,true,true,true,true,true,true,false,false,false,false,false,false,false,false,false,false,false,false,false,false,false,false,false,false,false,false,false,false,false,false,false,false,false,false,false,false,false,false,false,false] rfl rfl (any_of HT_.out (by kernel_rfl)) (fun _ _ _ h=>h) (Or.inr ⟨by rfl,rfl⟩) ?_ ?_
        rotate_left
        ·simp only[Act.put,List.setIfInBounds_toArray,List.set_cons_zero,List.set_cons_succ,i64_w,i32_w]
         rfl
        refine pure_ (i:=10) (N:=some 53) (v:=undef) (a':= ?_) #[true,true,true,true,true,true,true,true,true,true,true,false,false,false,false,false,false,false,false,false,false,false,false,false,false,false,false,false,false,false,false,false,false,false,false,false,false,false,false,false,false,false,false,false] rfl rfl (any_of HT_.out (by kernel_rfl)) (fun _ _ _ h=>h) (Or.inr ⟨by rfl,rfl⟩) ?_ ?_
        rotate_left
        ·simp only[Act.put,List.setIfInBounds_toArray,List.set_cons_zero,List.set_cons_succ,i64_w,i32_w]
         rfl
        refine pure_ (i:=11) (N:=some 54) (v:=undef) (a':= ?_) #[true,true,true,true,true,true,true,true,true,true,true,true,false,false,false,false,false,false,false,false,false,false,false,false,false,false,false,false,false,false,false,false,false,false,false,false,false,false,false,false,false,false,false,false] rfl rfl (any_of HT_.out (by kernel_rfl)) (fun _ _ _ h=>h) (Or.inr ⟨by rfl,rfl⟩) ?_ ?_
        rotate_left
        ·simp only[Act.put,List.setIfInBounds_toArray,List.set_cons_zero,List.set_cons_succ,i64_w,i32_w]
         rfl
        refine pure_ (i:=12) (N:=some 55) (v:=undef) (a':= ?_) #[true,true,true,true,true,true,true,true,true,true,true,true,true,false,false,false,false,false,false,false,false,false,false,false,false,false,false,false,false,false,false,false,false,false,false,false,false,false,false,false,false,false,false,false] rfl rfl (any_of HT_.out (by kernel_rfl)) (fun _ _ _ h=>h) (Or.inr ⟨by rfl,rfl⟩) ?_ ?_
        rotate_left
        ·simp only[Act.put,List.setIfInBounds_toArray,List.set_cons_zero,List.set_cons_succ,i64_w,i32_w]
         rfl
        refine pure_ (i:=13) (N:=some 56) (v:=undef) (a':= ?_) #[true,true,true,true,true,true,true,true,true,true,true,true,true,true,false,false,false,false,false,false,false,false,false,false,false,false,false,false,false,false,false,false,false,false,false,false,false,false,false,false,false,false,false,false] rfl rfl (any_of HT_.out (by kernel_rfl)) (fun _ _ _ h=>h) (Or.inr ⟨by rfl,rfl⟩) ?_ ?_
        rotate_left
        ·simp only[Act.put,List.setIfInBounds_toArray,List.set_cons_zero,List.set_cons_succ,i64_w,i32_w]
         rfl
        refine pure_ (i:=14) (N:=some 57) (v:=undef) (a':= ?_) #[true,true,true,true,true,true,true,true,true,true,true,true,true,true,true,false,false,false,false,false,false,false,false,false,false,false,false,false,false,false,false,false,false,false,false,false,false,false,false,false,false,false,false,false] rfl rfl (any_of HT_.out (by kernel_rfl)) (fun _ _ _ h=>h) (Or.inr ⟨by rfl,rfl⟩) ?_ ?_
        rotate_left
        ·simp only[Act.put,List.setIfInBounds_toArray,List.set_cons_zero,List.set_cons_succ,i64_w,i32_w]
         rfl
        refine pure_ (i:=15) (N:=some 58) (v:=undef) (a':= ?_) #[true,true,true,true,true,true,true,true,true,true,true,true,true,true,true,true,false,false,false,false,false,false,false,false,false,false,false,false,false,false,false,false,false,false,false,false,false,false,false,false,false,false,false,false] rfl rfl (any_of HT_.out (by kernel_rfl)) (fun _ _ _ h=>h) (Or.inr ⟨by rfl,rfl⟩) ?_ ?_
        rotate_left
        ·simp only[Act.put,List.setIfInBounds_toArray,List.set_cons_zero,List.set_cons_succ,i64_w,i32_w]
         rfl
        refine pure_ (i:=16) (N:=some 59) (v:=undef) (a':= ?_) #[true,true,true,true,true,true,true,true,true,true,true,true,true,true,true,true,true,false,false,false,false,false,false,false,false,false,false,false,false,false,false,false,false,false,false,false,false,false,false,false,false,false,false,false] rfl rfl (any_of HT_.out (by kernel_rfl)) (fun _ _ _ h=>h) (Or.inr ⟨by rfl,rfl⟩) ?_ ?_
        rotate_left
        ·simp only[Act.put,List.setIfInBounds_toArray,List.set_cons_zero,List.set_cons_succ,i64_w,i32_w]
         rfl
        refine pure_ (i:=17) (N:=some 60) (v:=undef) (a':= ?_) #[true,true,true,true,true,true,true,true,true,true,true,true,true,true,true,true,true,true,false,false,false,false,false,false,false,false,false,false,false,false,false,false,false,false,false,false,false,false,false,false,false,false,false,false] rfl rfl (any_of HT_.out (by kernel_rfl)) (fun _ _ _ h=>h) (Or.inr ⟨by rfl,rfl⟩) ?_ ?_
        rotate_left
        ·simp only[Act.put,List.setIfInBounds_toArray,List.set_cons_zero,List.set_cons_succ,i64_w,i32_w]
         rfl
        refine pure_ (i:=18) (N:=some 61) (v:=undef) (a':= ?_) #[true,true,true,true,true,true,true,true,true,true,true,true,true,true,true,true,true,true,true,false,false,false,false,false,false,false,false,false,false,false,false,false,false,false,false,false,false,false,false,false,false,false,false,false] rfl rfl (any_of HT_.out (by kernel_rfl)) (fun _ _ _ h=>h) (Or.inr ⟨by rfl,rfl⟩) ?_ ?_
        rotate_left
        ·simp only[Act.put,List.setIfInBounds_toArray,List.set_cons_zero,List.set_cons_succ,i64_w,i32_w]
         rfl
        refine pure_ (i:=19) (N:=some 62) (v:=undef) (a':= ?_) #[true,true,true,true,true,true,true,true,true,true,true,true,true,true,true,true,true,true,true,true,false,false,false,false,false,false,false,false,false,false,false,false,false,false,false,false,false,false,false,false,false,false,false,false] rfl rfl (any_of HT_.out (by kernel_rfl)) (fun _ _ _ h=>h) (Or.inr ⟨by rfl,rfl⟩) ?_ ?_
        rotate_left
        ·simp only[Act.put,List.setIfInBounds_toArray,List.set_cons_zero,List.set_cons_succ,i64_w,i32_w]
         rfl
        refine pure_ (i:=20) (N:=some 63) (v:=undef) (a':= ?_) #[true,true,true,true,true,true,true,true,true,true,true,true,true,true,true,true,true,true,true,true,true,false,false,false,false,false,false,false,false,false,false,false,false,false,false,false,false,false,false,false,false,false,false,false] rfl rfl (any_of HT_.out (by kernel_rfl)) (fun _ _ _ h=>h) (Or.inr ⟨by rfl,rfl⟩) ?_ ?_
        rotate_left
        ·simp only[Act.put,List.setIfInBounds_toArray,List.set_cons_zero,List.set_cons_succ,i64_w,i32_w]
         rfl
        refine pure_ (i:=21) (N:=some 64) (v:=undef) (a':= ?_) #[true,true,true,true,true,true,true,true,true,true,true,true,true,true,true,true,true,true,true,true,true,true,false,false,false,false,false,false,false,false,false,false,false,false,false,false,false,false,false,false,false,false,false,false] rfl rfl (any_of HT_.out (by kernel_rfl)) (fun _ _ _ h=>h) (Or.inr ⟨by rfl,rfl⟩) ?_ ?_
        rotate_left
        ·simp only[Act.put,List.setIfInBounds_toArray,List.set_cons_zero,List.set_cons_succ,i64_w,i32_w]
         rfl
        refine pure_ (i:=22) (N:=some 65) (v:=undef) (a':= ?_) #[true,true,true,true,true,true,true,true,true,true,true,true,true,true,true,true,true,true,true,true,true,true,true,false,false,false,false,false,false,false,false,false,false,false,false,false,false,false,false,false,false,false,false,false] rfl rfl (any_of HT_.out (by kernel_rfl)) (fun _ _ _ h=>h) (Or.inr ⟨by rfl,rfl⟩) ?_ ?_
        rotate_left
        ·simp only[Act.put,List.setIfInBounds_toArray,List.set_cons_zero,List.set_cons_succ,i64_w,i32_w]
         rfl
        refine pure_ (i:=23) (N:=some 66) (v:=undef) (a':= ?_) #[true,true,true,true,true,true,true,true,true,true,true,true,true,true,true,true,true,true,true,true,true,true,true,true,false,false,false,false,false,false,false,false,false,false,false,false,false,false,false,false,false,false,false,false] rfl rfl (any_of HT_.out (by kernel_rfl)) (fun _ _ _ h=>h) (Or.inr ⟨by rfl,rfl⟩) ?_ ?_
        rotate_left
        ·simp only[Act.put,List.setIfInBounds_toArray,List.set_cons_zero,List.set_cons_succ,i64_w,i32_w]
         rfl
        refine pure_ (i:=24) (N:=some 67) (v:=undef) (a':= ?_) #[true,true,true,true,true,true,true,true,true,true,true,true,true,true,true,true,true,true,true,true,true,true,true,true,true,false,false,false,false,false,false,false,false,false,false,false,false,false,false,false,false,false,false,false] rfl rfl (any_of HT_.out (by kernel_rfl)) (fun _ _ _ h=>h) (Or.inr ⟨by rfl,rfl⟩) ?_ ?_
        rotate_left
        ·simp only[Act.put,List.setIfInBounds_toArray,List.set_cons_zero,List.set_cons_succ,i64_w,i32_w]
         rfl
        refine pure_ (i:=25) (N:=some 68) (v:=undef) (a':= ?_) #[true,true,true,true,true,true,true,true,true,true,true,true,true,true,true,true,true,true,true,true,true,true,true,true,true,true,false,false,false,false,false,false,false,false,false,false,false,false,false,false,false,false,false,false] rfl rfl (any_of HT_.out (by kernel_rfl)) (fun _ _ _ h=>h) (Or.inr ⟨by rfl,rfl⟩) ?_ ?_
        rotate_left
        ·simp only[Act.put,List.setIfInBounds_toArray,List.set_cons_zero,List.set_cons_succ,i64_w,i32_w]
         rfl
        refine pure_ (i:=26) (N:=some 69) (v:=undef) (a':= ?_) #[true,true,true,true,true,true,true,true,true,true,true,true,true,true,true,true,true,true,true,true,true,true,true,true,true,true,true,false,false,false,false,false,false,false,false,false,false,false,false,false,false,false,false,false] rfl rfl (any_of HT_.out (by kernel_rfl)) (fun _ _ _ h=>h) (Or.inr ⟨by rfl,rfl⟩) ?_ ?_
        rotate_left
        ·simp only[Act.put,List.setIfInBounds_toArray,List.set_cons_zero,List.set_cons_succ,i64_w,i32_w]
         rfl
        refine pure_ (i:=27) (N:=some 70) (v:=undef) (a':= ?_) #[true,true,true,true,true,true,true,true,true,true,true,true,true,true,true,true,true,true,true,true,true,true,true,true,true,true,true,true,false,false,false,false,false,false,false,false,false,false,false,false,false,false,false,false] rfl rfl (any_of HT_.out (by kernel_rfl)) (fun _ _ _ h=>h) (Or.inr ⟨by rfl,rfl⟩) ?_ ?_
        rotate_left
        ·simp only[Act.put,List.setIfInBounds_toArray,List.set_cons_zero,List.set_cons_succ,i64_w,i32_w]
         rfl
        refine pure_ (i:=28) (N:=some 71) (v:=undef) (a':= ?_) #[true,true,true,true,true,true,true,true,true,true,true,true,true,true,true,true,true,true,true,true,true,true,true,true,true,true,true,true,true,false,false,false,false,false,false,false,false,false,false,false,false,false,false,false] rfl rfl (any_of HT_.out (by kernel_rfl)) (fun _ _ _ h=>h) (Or.inr ⟨by rfl,rfl⟩) ?_ ?_
        rotate_left
        ·simp only[Act.put,List.setIfInBounds_toArray,List.set_cons_zero,List.set_cons_succ,i64_w,i32_w]
         rfl
        refine pure_ (i:=29) (N:=some 72) (v:=undef) (a':= ?_) #[true,true,true,true,true,true,true,true,true,true,true,true,true,true,true,true,true,true,true,true,true,true,true,true,true,true,true,true,true,true,false,false,false,false,false,false,false,false,false,false,false,false,false,false] rfl rfl (any_of HT_.out (by kernel_rfl)) (fun _ _ _ h=>h) (Or.inr ⟨by rfl,rfl⟩) ?_ ?_
        rotate_left
        ·simp only[Act.put,List.setIfInBounds_toArray,List.set_cons_zero,List.set_cons_succ,i64_w,i32_w]
         rfl
        refine pure_ (i:=30) (N:=some 73) (v:=undef) (a':= ?_) #[true,true,true,true,true,true,true,true,true,true,true,true,true,true,true,true,true,true,true,true,true,true,true,true,true,true,true,true,true,true,true,false,false,false,false,false,false,false,false,false,false,false,false,false] rfl rfl (any_of HT_.out (by kernel_rfl)) (fun _ _ _ h=>h) (Or.inr ⟨by rfl,rfl⟩) ?_ ?_
        rotate_left
        ·simp only[Act.put,List.setIfInBounds_toArray,List.set_cons_zero,List.set_cons_succ,i64_w,i32_w]
         rfl
        refine pure_ (i:=31) (N:=some 74) (v:=undef) (a':= ?_) #[true,true,true,true,true,true,true,true,true,true,true,true,true,true,true,true,true,true,true,true,true,true,true,true,true,true,true,true,true,true,true,true,false,false,false,false,false,false,false,false,false,false,false,false] rfl rfl (any_of HT_.out (by kernel_rfl)) (fun _ _ _ h=>h) (Or.inr ⟨by rfl,rfl⟩) ?_ ?_
        rotate_left
        ·simp only[Act.put,List.setIfInBounds_toArray,List.set_cons_zero,List.set_cons_succ,i64_w,i32_w]
         rfl
        refine pure_ (i:=32) (N:=some 75) (v:=undef) (a':= ?_) #[true,true,true,true,true,true,true,true,true,true,true,true,true,true,true,true,true,true,true,true,true,true,true,true,true,true,true,true,true,true,true,true,true,false,false,false,false,false,false,false,false,false,false,false] rfl rfl (any_of HT_.out (by kernel_rfl)) (fun _ _ _ h=>h) (Or.inr ⟨by rfl,rfl⟩) ?_ ?_
        rotate_left
        ·simp only[Act.put,List.setIfInBounds_toArray,List.set_cons_zero,List.set_cons_succ,i64_w,i32_w]
         rfl
        refine pure_ (i:=33) (N:=some 76) (v:=undef) (a':= ?_) #[true,true,true,true,true,true,true,true,true,true,true,true,true,true,true,true,true,true,true,true,true,true,true,true,true,true,true,true,true,true,true,true,true,true,false,false,false,false,false,false,false,false,false,false] rfl rfl (any_of HT_.out (by kernel_rfl)) (fun _ _ _ h=>h) (Or.inr ⟨by rfl,rfl⟩) ?_ ?_
        rotate_left
        ·simp only[Act.put,List.setIfInBounds_toArray,List.set_cons_zero,List.set_cons_succ,i64_w,i32_w]
         rfl
        refine pure_ (i:=34) (N:=some 77) (v:=undef) (a':= ?_) #[true,true,true,true,true,true,true,true,true,true,true,true,true,true,true,true,true,true,true,true,true,true,true,true,true,true,true,true,true,true,true,true,true,true,true,false,false,false,false,false,false,false,false,false] rfl rfl (any_of HT_.out (by kernel_rfl)) (fun _ _ _ h=>h) (Or.inr ⟨by rfl,rfl⟩) ?_ ?_
        rotate_left
        ·simp only[Act.put,List.setIfInBounds_toArray,List.set_cons_zero,List.set_cons_succ,i64_w,i32_w]
         rfl
        refine pure_ (i:=35) (N:=some 78) (v:=undef) (a':= ?_) #[true,true,true,true,true,true,true,true,true,true,true,true,true,true,true,true,true,true,true,true,true,true,true,true,true,true,true,true,true,true,true,true,true,true,true,true,false,false,false,false,false,false,false,false] rfl rfl (any_of HT_.out (by kernel_rfl)) (fun _ _ _ h=>h) (Or.inr ⟨by rfl,rfl⟩) ?_ ?_
        rotate_left
        ·simp only[Act.put,List.setIfInBounds_toArray,List.set_cons_zero,List.set_cons_succ,i64_w,i32_w]
         rfl
        refine pure_ (i:=36) (N:=some 79) (v:=undef) (a':= ?_) #[true,true,true,true,true,true,true,true,true,true,true,true,true,true,true,true,true,true,true,true,true,true,true,true,true,true,true,true,true,true,true,true,true,true,true,true,true,false,false,false,false,false,false,false] rfl rfl (any_of HT_.out (by kernel_rfl)) (fun _ _ _ h=>h) (Or.inr ⟨by rfl,rfl⟩) ?_ ?_
        rotate_left
        ·simp only[Act.put,List.setIfInBounds_toArray,List.set_cons_zero,List.set_cons_succ,i64_w,i32_w]
         rfl
        refine pure_ (i:=37) (N:=some 80) (v:=undef) (a':= ?_) #[true,true,true,true,true,true,true,true,true,true,true,true,true,true,true,true,true,true,true,true,true,true,true,true,true,true,true,true,true,true,true,true,true,true,true,true,true,true,false,false,false,false,false,false] rfl rfl (any_of HT_.out (by kernel_rfl)) (fun _ _ _ h=>h) (Or.inr ⟨by rfl,rfl⟩) ?_ ?_
        rotate_left
        ·simp only[Act.put,List.setIfInBounds_toArray,List.set_cons_zero,List.set_cons_succ,i64_w,i32_w]
         rfl
        refine pure_ (i:=38) (N:=some 81) (v:=undef) (a':= ?_) #[true,true,true,true,true,true,true,true,true,true,true,true,true,true,true,true,true,true,true,true,true,true,true,true,true,true,true,true,true,true,true,true,true,true,true,true,true,true,true,false,false,false,false,false] rfl rfl (any_of HT_.out (by kernel_rfl)) (fun _ _ _ h=>h) (Or.inr ⟨by rfl,rfl⟩) ?_ ?_
        rotate_left
        ·simp only[Act.put,List.setIfInBounds_toArray,List.set_cons_zero,List.set_cons_succ,i64_w,i32_w]
         rfl
        refine pure_ (i:=39) (N:=some 82) (v:=undef) (a':= ?_) #[true,true,true,true,true,true,true,true,true,true,true,true,true,true,true,true,true,true,true,true,true,true,true,true,true,true,true,true,true,true,true,true,true,true,true,true,true,true,true,true,false,false,false,false] rfl rfl (any_of HT_.out (by kernel_rfl)) (fun _ _ _ h=>h) (Or.inr ⟨by rfl,rfl⟩) ?_ ?_
        rotate_left
        ·simp only[Act.put,List.setIfInBounds_toArray,List.set_cons_zero,List.set_cons_succ,i64_w,i32_w]
         rfl
        refine pure_ (i:=40) (N:=some 83) (v:=undef) (a':= ?_) #[true,true,true,true,true,true,true,true,true,true,true,true,true,true,true,true,true,true,true,true,true,true,true,true,true,true,true,true,true,true,true,true,true,true,true,true,true,true,true,true,true,false,false,false] rfl rfl (any_of HT_.out (by kernel_rfl)) (fun _ _ _ h=>h) (Or.inr ⟨by rfl,rfl⟩) ?_ ?_
        rotate_left
        ·simp only[Act.put,List.setIfInBounds_toArray,List.set_cons_zero,List.set_cons_succ,i64_w,i32_w]
         rfl
        refine pure_ (i:=41) (N:=some 84) (v:=undef) (a':= ?_) #[true,true,true,true,true,true,true,true,true,true,true,true,true,true,true,true,true,true,true,true,true,true,true,true,true,true,true,true,true,true,true,true,true,true,true,true,true,true,true,true,true,true,false,false] rfl rfl (any_of HT_.out (by kernel_rfl)) (fun _ _ _ h=>h) (Or.inr ⟨by rfl,rfl⟩) ?_ ?_
        rotate_left
        ·simp only[Act.put,List.setIfInBounds_toArray,List.set_cons_zero,List.set_cons_succ,i64_w,i32_w]
         rfl
        refine pure_ (i:=42) (N:=some 85) (v:=undef) (a':= ?_) #[true,true,true,true,true,true,true,true,true,true,true,true,true,true,true,true,true,true,true,true,true,true,true,true,true,true,true,true,true,true,true,true,true,true,true,true,true,true,true,true,true,true,true,false] rfl rfl (any_of HT_.out (by kernel_rfl)) (fun _ _ _ h=>h) (Or.inr ⟨by rfl,rfl⟩) ?_ ?_
        rotate_left
        ·simp only[Act.put,List.setIfInBounds_toArray,List.set_cons_zero,List.set_cons_succ,i64_w,i32_w]
         rfl
        refine pu 43 86 (bm 44 17592186044415) ?_;refine done_ (done_of HT_.out (by kernel_rfl)) ?_;try go_wp2
        (try simp only[← hl3_3])
        go_roundg k3
        case measure=>have:=HK1.out;have:=HK2.out;have:=HK3.out;omega
        case rel=>exact⟨(Zd),(wrap64 (Xp+1)),(by first|rfl|(simp;done)|(simp[*];done)),H',⟨by have:=HK1.out;have:=HK2.out;have:=HK3.out;omega⟩,⟨by(try simp only[hl3_3]);(with_reducible repeat(first|apply Kd.R_alloc|apply Kd.R_drewN|apply Yl));exact HO_3.out⟩,⟨HB.out⟩⟩
       rw[Yq c20] at H;have c20b0:decide (0<Zc)=true:=Yo c20;clear c20;by_cases c21:0≤Zc
       rotate_left
       ·rw[Yr c21] at H
        exact absurd H (by simp)
       rw[Yq c21] at H;have c21b0:decide (0≤Zc)=true:=Yo c21;clear c21;by_cases c22:Zc<(Zd.length:Int)
       rotate_left
       ·rw[Yr c22] at H
        exact absurd H (by simp)
       rw[Yq c22] at H;have c22b0:decide (Zc<(Zd.length:Int))=true:=Yo c22;clear c22;obtain⟨ji23,hji23⟩: ∃ j_:Int,(wrap64 (Zc - 1))=j_:=⟨_,rfl⟩;replace H:(if 0≤(ji23) then(if (ji23)<(Zd.length:Int) then(if ((rd_T53 Zd Zc).f1)<((rd_T53 Zd (ji23)).f1) then(ebbtideref03_Slots.l2 k3 l0 ((Zd.set (Zc:Int).toNat (⟨(rd_T53 Zd (ji23)).f0,(rd_T53 Zd (ji23)).f1⟩:S53)).set ((ji23):Int).toNat (⟨(rd_T53 Zd Zc).f0,(rd_T53 Zd Zc).f1⟩:S53)) Xp ji23) else(if ((rd_T53 Zd Zc).f1)=((rd_T53 Zd (ji23)).f1) then(if ((rd_T53 Zd Zc).f0)<((rd_T53 Zd (ji23)).f0) then(ebbtideref03_Slots.l2 k3 l0 ((Zd.set (Zc:Int).toNat (⟨(rd_T53 Zd (ji23)).f0,(rd_T53 Zd (ji23)).f1⟩:S53)).set ((ji23):Int).toNat (⟨(rd_T53 Zd Zc).f0,(rd_T53 Zd Zc).f1⟩:S53)) Xp ji23) else(ebbtideref03_Slots.l0 k3 l0 Zd (wrap64 (Xp+1)))) else(ebbtideref03_Slots.l0 k3 l0 Zd (wrap64 (Xp+1))))) else(none)) else(none))=some r:=by first|(rw[hji23] at H;exact H)|(simp only[hji23] at H ⊢;exact H)
       have hji23w:(IntKind.i64.wrap (Zc - 1))=ji23:=(i64_w _).trans hji23;by_cases c24:0≤(ji23)
       rotate_left
       ·rw[Yr c24] at H
        exact absurd H (by simp)
       rw[Yq c24] at H;have c24b0:decide (0≤(ji23))=true:=Yo c24;clear c24;by_cases c25:(ji23)<(Zd.length:Int)
       rotate_left
       ·rw[Yr c25] at H
        exact absurd H (by simp)
       rw[Yq c25] at H;have c25b0:decide ((ji23)<(Zd.length:Int))=true:=Yo c25;clear c25;by_cases c26:((rd_T53 Zd Zc).f1)<((rd_T53 Zd (ji23)).f1)
       ·rw[Yq c26] at H
        have c26b0:decide (((rd_T53 Zd Zc).f1)<((rd_T53 Zd (ji23)).f1))=true:=Yo c26;clear c26;obtain⟨y344,hy344⟩: ∃ y_:List (S53),y_=(Zd.set (Zc:Int).toNat (⟨(rd_T53 Zd (ji23)).f0,(rd_T53 Zd (ji23)).f1⟩:S53)):=⟨_,rfl⟩;rw[← hy344] at H;have Ny344:=Ya hy344;clear hy344;obtain⟨y345,hy345⟩: ∃ y_:List (S53),y_=(y344.set ((ji23):Int).toNat (⟨(rd_T53 Zd Zc).f0,(rd_T53 Zd Zc).f1⟩:S53)):=⟨_,rfl⟩;rw[← hy345] at H;have Ny345:=Ya hy345;clear hy345;have H':=Ya H;clear H;try go_wp2
        replace HO_3:=Ya (Yl HO_3.out);replace HB:=Ya (Yd HB.out);have p340:0≤(Zc:Int):=od;have q340:Zc<(Zd.length:Int):=od;obtain⟨Zk,e340,Xw,Xx⟩:=at_T53 (Kd.R_reads' HO_3.out).2.2 Zc p340 q340;cases e340;replace p340:=eq_true p340;replace q340:=eq_true q340;have p341:0≤((ji23):Int):=od;have q341:(ji23)<(Zd.length:Int):=od;obtain⟨Jd,e341,Xy,Xz⟩:=at_T53 (Kd.R_reads' HO_3.out).2.2 (ji23) p341 q341;obtain rfl:Zk=Jd:=(by injection e341);replace p341:=eq_true p341;replace q341:=eq_true q341;refine start_ (n:=44) (S:=fun w'=>w'.cell? (Zk.add ((Zc).toNat * 2))=some (.int .i64 ((rd_T53 Zd Zc).f0))∧w'.cell? ⟨(Zk.add ((Zc).toNat * 2)).block,(Zk.add ((Zc).toNat * 2)).off+1,none⟩=some (.int .i64 ((rd_T53 Zd Zc).f1))∧w'.cell? (Zk.add (((ji23)).toNat * 2))=some (.int .i64 ((rd_T53 Zd (ji23)).f0))∧w'.cell? ⟨(Zk.add (((ji23)).toNat * 2)).block,(Zk.add (((ji23)).toNat * 2)).off+1,none⟩=some (.int .i64 ((rd_T53 Zd (ji23)).f1))) (ds:=[]) #[false,false,false,false,false,false,false,false,false,false,false,false,false,false,false,false,false,false,false,false,false,false,false,false,false,false,false,false,false,false,false,false,false,false,false,false,false,false,false,false,false,false,false,false] (by kernel_rfl) rfl rfl ⟨Xw,Xx,Xy,Xz⟩ (fun hHeld=> ?_);refine with_tabW ebbtideref03_Slots.tab13 ebbtideref03_Slots.bits13 (fun HT_ HW_=> ?_);generalize wr.drew=w29 at HO_3 HB Xw Xx Xy Xz hHeld ⊢;refine pu 0 43 (bm 44 1) ?_;refine pu 1 44 (bm 44 3) ?_;refine pu 2 45 (bm 44 7) ?_;refine pu 3 46 (bm 44 15) ?_;refine pu 4 47 (bm 44 31) ?_;refine pu 5 48 (bm 44 63) ?_;refine pu 6 49 (bm 44 127) ?_;refine pu 8 51 (bm 44 383) ?_;refine pu 9 52 (bm 44 895) ?_;refine pu 10 53 (bm 44 1919) ?_;refine pu 11 54 (bm 44 3967) ?_;refine pu 12 55 (bm 44 8063) ?_;refine ta 7 50 (bm 44 8191) hHeld ?_;refine ta 13 56 (bm 44 16383) hHeld ?_;refine pu 14 57 (bm 44 32767) ?_;refine pu 15 58 (bm 44 65535) ?_;refine pure_ (i:=16) (N:=some 59) (v:=undef) (a':= ?_) #[true,true,true,true,true,true,true,true,true,true,true,true,true,true,true,true,true,false,false,false,false,false,false,false,false,false,false,false,false,false,false,false,false,false,false,false,false,false,false,false,false,false,false,false] rfl rfl (any_of HT_.out (by kernel_rfl)) (fun _ _ _ h=>h) (Or.inr ⟨by rfl,rfl⟩) ?_ ?_
        rotate_left
        ·simp only[Act.put,List.setIfInBounds_toArray,List.set_cons_zero,List.set_cons_succ,i64_w,i32_w]
         rfl
        refine pure_ (i:=17) (N:=some 60) (v:=undef) (a':= ?_) #[true,true,true,true,true,true,true,true,true,true,true,true,true,true,true,true,true,true,false,false,false,false,false,false,false,false,false,false,false,false,false,false,false,false,false,false,false,false,false,false,false,false,false,false] rfl rfl (any_of HT_.out (by kernel_rfl)) (fun _ _ _ h=>h) (Or.inr ⟨by rfl,rfl⟩) ?_ ?_
        rotate_left
        ·simp only[Act.put,List.setIfInBounds_toArray,List.set_cons_zero,List.set_cons_succ,i64_w,i32_w]
         rfl
        refine pure_ (i:=18) (N:=some 61) (v:=undef) (a':= ?_) #[true,true,true,true,true,true,true,true,true,true,true,true,true,true,true,true,true,true,true,false,false,false,false,false,false,false,false,false,false,false,false,false,false,false,false,false,false,false,false,false,false,false,false,false] rfl rfl (any_of HT_.out (by kernel_rfl)) (fun _ _ _ h=>h) (Or.inr ⟨by rfl,rfl⟩) ?_ ?_
        rotate_left
        ·simp only[Act.put,List.setIfInBounds_toArray,List.set_cons_zero,List.set_cons_succ,i64_w,i32_w]
         rfl
        refine pure_ (i:=19) (N:=some 62) (v:=undef) (a':= ?_) #[true,true,true,true,true,true,true,true,true,true,true,true,true,true,true,true,true,true,true,true,false,false,false,false,false,false,false,false,false,false,false,false,false,false,false,false,false,false,false,false,false,false,false,false] rfl rfl (any_of HT_.out (by kernel_rfl)) (fun _ _ _ h=>h) (Or.inr ⟨by rfl,rfl⟩) ?_ ?_
        rotate_left
        ·simp only[Act.put,List.setIfInBounds_toArray,List.set_cons_zero,List.set_cons_succ,i64_w,i32_w]
         rfl
        refine pure_ (i:=20) (N:=some 63) (v:=undef) (a':= ?_) #[true,true,true,true,true,true,true,true,true,true,true,true,true,true,true,true,true,true,true,true,true,false,false,false,false,false,false,false,false,false,false,false,false,false,false,false,false,false,false,false,false,false,false,false] rfl rfl (any_of HT_.out (by kernel_rfl)) (fun _ _ _ h=>h) (Or.inr ⟨by rfl,rfl⟩) ?_ ?_
        rotate_left
        ·simp only[Act.put,List.setIfInBounds_toArray,List.set_cons_zero,List.set_cons_succ,i64_w,i32_w]
         rfl
        refine pure_ (i:=21) (N:=some 64) (v:=undef) (a':= ?_) #[true,true,true,true,true,true,true,true,true,true,true,true,true,true,true,true,true,true,true,true,true,true,false,false,false,false,false,false,false,false,false,false,false,false,false,false,false,false,false,false,false,false,false,false] rfl rfl (any_of HT_.out (by kernel_rfl)) (fun _ _ _ h=>h) (Or.inr ⟨by rfl,rfl⟩) ?_ ?_
        rotate_left
        ·simp only[Act.put,List.setIfInBounds_toArray,List.set_cons_zero,List.set_cons_succ,i64_w,i32_w]
         rfl
        refine pure_ (i:=22) (N:=some 65) (v:=undef) (a':= ?_) #[true,true,true,true,true,true,true,true,true,true,true,true,true,true,true,true,true,true,true,true,true,true,true,false,false,false,false,false,false,false,false,false,false,false,false,false,false,false,false,false,false,false,false,false] rfl rfl (any_of HT_.out (by kernel_rfl)) (fun _ _ _ h=>h) (Or.inr ⟨by rfl,rfl⟩) ?_ ?_
        rotate_left
        ·simp only[Act.put,List.setIfInBounds_toArray,List.set_cons_zero,List.set_cons_succ,i64_w,i32_w]
         rfl
        refine pure_ (i:=23) (N:=some 66) (v:=undef) (a':= ?_) #[true,true,true,true,true,true,true,true,true,true,true,true,true,true,true,true,true,true,true,true,true,true,true,true,false,false,false,false,false,false,false,false,false,false,false,false,false,false,false,false,false,false,false,false] rfl rfl (any_of HT_.out (by kernel_rfl)) (fun _ _ _ h=>h) (Or.inr ⟨by rfl,rfl⟩) ?_ ?_
        rotate_left
        ·simp only[Act.put,List.setIfInBounds_toArray,List.set_cons_zero,List.set_cons_succ,i64_w,i32_w]
         rfl
        refine pure_ (i:=24) (N:=some 67) (v:=undef) (a':= ?_) #[true,true,true,true,true,true,true,true,true,true,true,true,true,true,true,true,true,true,true,true,true,true,true,true,true,false,false,false,false,false,false,false,false,false,false,false,false,false,false,false,false,false,false,false] rfl rfl (any_of HT_.out (by kernel_rfl)) (fun _ _ _ h=>h) (Or.inr ⟨by rfl,rfl⟩) ?_ ?_
        rotate_left
        ·simp only[Act.put,List.setIfInBounds_toArray,List.set_cons_zero,List.set_cons_succ,i64_w,i32_w]
         rfl
        refine pure_ (i:=25) (N:=some 68) (v:=undef) (a':= ?_) #[true,true,true,true,true,true,true,true,true,true,true,true,true,true,true,true,true,true,true,true,true,true,true,true,true,true,false,false,false,false,false,false,false,false,false,false,false,false,false,false,false,false,false,false] rfl rfl (any_of HT_.out (by kernel_rfl)) (fun _ _ _ h=>h) (Or.inr ⟨by rfl,rfl⟩) ?_ ?_
        rotate_left
        ·simp only[Act.put,List.setIfInBounds_toArray,List.set_cons_zero,List.set_cons_succ,i64_w,i32_w]
         rfl
        refine pure_ (i:=26) (N:=some 69) (v:=undef) (a':= ?_) #[true,true,true,true,true,true,true,true,true,true,true,true,true,true,true,true,true,true,true,true,true,true,true,true,true,true,true,false,false,false,false,false,false,false,false,false,false,false,false,false,false,false,false,false] rfl rfl (any_of HT_.out (by kernel_rfl)) (fun _ _ _ h=>h) (Or.inr ⟨by rfl,rfl⟩) ?_ ?_
        rotate_left
        ·simp only[Act.put,List.setIfInBounds_toArray,List.set_cons_zero,List.set_cons_succ,i64_w,i32_w]
         rfl
        refine pure_ (i:=27) (N:=some 70) (v:=undef) (a':= ?_) #[true,true,true,true,true,true,true,true,true,true,true,true,true,true,true,true,true,true,true,true,true,true,true,true,true,true,true,true,false,false,false,false,false,false,false,false,false,false,false,false,false,false,false,false] rfl rfl (any_of HT_.out (by kernel_rfl)) (fun _ _ _ h=>h) (Or.inr ⟨by rfl,rfl⟩) ?_ ?_
        rotate_left
        ·simp only[Act.put,List.setIfInBounds_toArray,List.set_cons_zero,List.set_cons_succ,i64_w,i32_w]
         rfl
        refine pure_ (i:=28) (N:=some 71) (v:=undef) (a':= ?_) #[true,true,true,true,true,true,true,true,true,true,true,true,true,true,true,true,true,true,true,true,true,true,true,true,true,true,true,true,true,false,false,false,false,false,false,false,false,false,false,false,false,false,false,false] rfl rfl (any_of HT_.out (by kernel_rfl)) (fun _ _ _ h=>h) (Or.inr ⟨by rfl,rfl⟩) ?_ ?_
        rotate_left
        ·simp only[Act.put,List.setIfInBounds_toArray,List.set_cons_zero,List.set_cons_succ,i64_w,i32_w]
         rfl
        refine pure_ (i:=29) (N:=some 72) (v:=undef) (a':= ?_) #[true,true,true,true,true,true,true,true,true,true,true,true,true,true,true,true,true,true,true,true,true,true,true,true,true,true,true,true,true,true,false,false,false,false,false,false,false,false,false,false,false,false,false,false] rfl rfl (any_of HT_.out (by kernel_rfl)) (fun _ _ _ h=>h) (Or.inr ⟨by rfl,rfl⟩) ?_ ?_
        rotate_left
        ·simp only[Act.put,List.setIfInBounds_toArray,List.set_cons_zero,List.set_cons_succ,i64_w,i32_w]
         rfl
        refine pure_ (i:=30) (N:=some 73) (v:=undef) (a':= ?_) #[true,true,true,true,true,true,true,true,true,true,true,true,true,true,true,true,true,true,true,true,true,true,true,true,true,true,true,true,true,true,true,false,false,false,false,false,false,false,false,false,false,false,false,false] rfl rfl (any_of HT_.out (by kernel_rfl)) (fun _ _ _ h=>h) (Or.inr ⟨by rfl,rfl⟩) ?_ ?_
        rotate_left
        ·simp only[Act.put,List.setIfInBounds_toArray,List.set_cons_zero,List.set_cons_succ,i64_w,i32_w]
         rfl
        refine pure_ (i:=31) (N:=some 74) (v:=undef) (a':= ?_) #[true,true,true,true,true,true,true,true,true,true,true,true,true,true,true,true,true,true,true,true,true,true,true,true,true,true,true,true,true,true,true,true,false,false,false,false,false,false,false,false,false,false,false,false] rfl rfl (any_of HT_.out (by kernel_rfl)) (fun _ _ _ h=>h) (Or.inr ⟨by rfl,rfl⟩) ?_ ?_
        rotate_left
        ·simp only[Act.put,List.setIfInBounds_toArray,List.set_cons_zero,List.set_cons_succ,i64_w,i32_w]
         rfl
        refine pure_ (i:=32) (N:=some 75) (v:=undef) (a':= ?_) #[true,true,true,true,true,true,true,true,true,true,true,true,true,true,true,true,true,true,true,true,true,true,true,true,true,true,true,true,true,true,true,true,true,false,false,false,false,false,false,false,false,false,false,false] rfl rfl (any_of HT_.out (by kernel_rfl)) (fun _ _ _ h=>h) (Or.inr ⟨by rfl,rfl⟩) ?_ ?_
        rotate_left
        ·simp only[Act.put,List.setIfInBounds_toArray,List.set_cons_zero,List.set_cons_succ,i64_w,i32_w]
         rfl
        refine pure_ (i:=33) (N:=some 76) (v:=undef) (a':= ?_) #[true,true,true,true,true,true,true,true,true,true,true,true,true,true,true,true,true,true,true,true,true,true,true,true,true,true,true,true,true,true,true,true,true,true,false,false,false,false,false,false,false,false,false,false] rfl rfl (any_of HT_.out (by kernel_rfl)) (fun _ _ _ h=>h) (Or.inr ⟨by rfl,rfl⟩) ?_ ?_
        rotate_left
        ·simp only[Act.put,List.setIfInBounds_toArray,List.set_cons_zero,List.set_cons_succ,i64_w,i32_w]
         rfl
        refine pure_ (i:=34) (N:=some 77) (v:=undef) (a':= ?_) #[true,true,true,true,true,true,true,true,true,true,true,true,true,true,true,true,true,true,true,true,true,true,true,true,true,true,true,true,true,true,true,true,true,true,true,false,false,false,false,false,false,false,false,false] rfl rfl (any_of HT_.out (by kernel_rfl)) (fun _ _ _ h=>h) (Or.inr ⟨by rfl,rfl⟩) ?_ ?_
        rotate_left
        ·simp only[Act.put,List.setIfInBounds_toArray,List.set_cons_zero,List.set_cons_succ,i64_w,i32_w]
         rfl
        refine pure_ (i:=35) (N:=some 78) (v:=undef) (a':= ?_) #[true,true,true,true,true,true,true,true,true,true,true,true,true,true,true,true,true,true,true,true,true,true,true,true,true,true,true,true,true,true,true,true,true,true,true,true,false,false,false,false,false,false,false,false] rfl rfl (any_of HT_.out (by kernel_rfl)) (fun _ _ _ h=>h) (Or.inr ⟨by rfl,rfl⟩) ?_ ?_
        rotate_left
        ·simp only[Act.put,List.setIfInBounds_toArray,List.set_cons_zero,List.set_cons_succ,i64_w,i32_w]
         rfl
        refine pure_ (i:=36) (N:=some 79) (v:=undef) (a':= ?_) #[true,true,true,true,true,true,true,true,true,true,true,true,true,true,true,true,true,true,true,true,true,true,true,true,true,true,true,true,true,true,true,true,true,true,true,true,true,false,false,false,false,false,false,false] rfl rfl (any_of HT_.out (by kernel_rfl)) (fun _ _ _ h=>h) (Or.inr ⟨by rfl,rfl⟩) ?_ ?_
        rotate_left
        ·simp only[Act.put,List.setIfInBounds_toArray,List.set_cons_zero,List.set_cons_succ,i64_w,i32_w]
         rfl
        refine pure_ (i:=37) (N:=some 80) (v:=undef) (a':= ?_) #[true,true,true,true,true,true,true,true,true,true,true,true,true,true,true,true,true,true,true,true,true,true,true,true,true,true,true,true,true,true,true,true,true,true,true,true,true,true,false,false,false,false,false,false] rfl rfl (any_of HT_.out (by kernel_rfl)) (fun _ _ _ h=>h) (Or.inr ⟨by rfl,rfl⟩) ?_ ?_
        rotate_left
        ·simp only[Act.put,List.setIfInBounds_toArray,List.set_cons_zero,List.set_cons_succ,i64_w,i32_w]
         rfl
        refine pure_ (i:=38) (N:=some 81) (v:=undef) (a':= ?_) #[true,true,true,true,true,true,true,true,true,true,true,true,true,true,true,true,true,true,true,true,true,true,true,true,true,true,true,true,true,true,true,true,true,true,true,true,true,true,true,false,false,false,false,false] rfl rfl (any_of HT_.out (by kernel_rfl)) (fun _ _ _ h=>h) (Or.inr ⟨by rfl,rfl⟩) ?_ ?_
        rotate_left
        ·simp only[Act.put,List.setIfInBounds_toArray,List.set_cons_zero,List.set_cons_succ,i64_w,i32_w]
         rfl
        refine pure_ (i:=39) (N:=some 82) (v:=undef) (a':= ?_) #[true,true,true,true,true,true,true,true,true,true,true,true,true,true,true,true,true,true,true,true,true,true,true,true,true,true,true,true,true,true,true,true,true,true,true,true,true,true,true,true,false,false,false,false] rfl rfl (any_of HT_.out (by kernel_rfl)) (fun _ _ _ h=>h) (Or.inr ⟨by rfl,rfl⟩) ?_ ?_
        rotate_left
        ·simp only[Act.put,List.setIfInBounds_toArray,List.set_cons_zero,List.set_cons_succ,i64_w,i32_w]
         rfl
        refine pure_ (i:=40) (N:=some 83) (v:=undef) (a':= ?_) #[true,true,true,true,true,true,true,true,true,true,true,true,true,true,true,true,true,true,true,true,true,true,true,true,true,true,true,true,true,true,true,true,true,true,true,true,true,true,true,true,true,false,false,false] rfl rfl (any_of HT_.out (by kernel_rfl)) (fun _ _ _ h=>h) (Or.inr ⟨by rfl,rfl⟩) ?_ ?_
        rotate_left
        ·simp only[Act.put,List.setIfInBounds_toArray,List.set_cons_zero,List.set_cons_succ,i64_w,i32_w]
         rfl
        refine pure_ (i:=41) (N:=some 84) (v:=undef) (a':= ?_) #[true,true,true,true,true,true,true,true,true,true,true,true,true,true,true,true,true,true,true,true,true,true,true,true,true,true,true,true,true,true,true,true,true,true,true,true,true,true,true,true,true,true,false,false] rfl rfl (any_of HT_.out (by kernel_rfl)) (fun _ _ _ h=>h) (Or.inr ⟨by rfl,rfl⟩) ?_ ?_
        rotate_left
        ·simp only[Act.put,List.setIfInBounds_toArray,List.set_cons_zero,List.set_cons_succ,i64_w,i32_w]
         rfl
        refine pu 42 85 (bm 44 8796093022207) ?_;refine pu 43 86 (bm 44 17592186044415) ?_;refine done_ (done_of HT_.out (by kernel_rfl)) ?_;try go_wp2
        replace HO_3:=Ya (Yl HO_3.out);replace HB:=Ya (Yd HB.out);have p342:0≤((ji23):Int):=od;have q342:(ji23)<(Zd.length:Int):=od;obtain⟨ad342,e342,hx342_0,hx342_1⟩:=at_T53 (Kd.R_reads' HO_3.out).2.2 (ji23) p342 q342;obtain rfl:Zk=ad342:=(by injection e342);replace p342:=eq_true p342;replace q342:=eq_true q342;have p343:0≤(Zc:Int):=od;have q343:Zc<(Zd.length:Int):=od;obtain⟨ad343,e343,hx343_0,hx343_1⟩:=at_T53 (Kd.R_reads' HO_3.out).2.2 Zc p343 q343;obtain rfl:Zk=ad343:=(by injection e343);replace p343:=eq_true p343;replace q343:=eq_true q343;have p27:0≤(Zc:Int):=od;have q27:(Zc:Int)<((Zd.length:Int):Int):=od;obtain⟨go27,co27,eo27,gb27,gl27,cl27,HG27⟩:=Kd.R_form HO_3.out (by omega)
        (first|cases eo27|(injection eo27 with ea_ en_ ec_;(first|subst ea_|(injection ea_ with ea_;subst ea_));subst ec_;clear en_))
        have GB27:=Ya gb27;have GG27:=Ya HG27;clear gb27 gl27 HG27
        (first|simp only[add_plain] at Xw|skip)
        (first|simp only[add_plain] at Xx|skip)
        (first|simp only[add_plain] at Xy|skip)
        (first|simp only[add_plain] at Xz|skip)
        (first|simp only[add_plain] at hx342_0|skip)
        (first|simp only[add_plain] at hx342_1|skip)
        (first|simp only[add_plain] at hx343_0|skip)
        (first|simp only[add_plain] at hx343_1|skip)
        obtain⟨ce27,hcl27,hM27,hcc27,hfr27⟩:=Kd.R_elem HO_3.out z53 (Zc:Int) p27 q27;obtain rfl:=k53_openM hM27;have hx27_0:World.cell? _ ⟨go27,(Zc:Int).toNat * 2,none⟩=some (.int .i64 ((rd_T53 Zd Zc).f0)):=hcc27 0 _ rfl;have hx27_1:World.cell? _ ⟨go27,(Zc:Int).toNat * 2+1,none⟩=some (.int .i64 ((rd_T53 Zd Zc).f1)):=hcc27 1 _ rfl;have hf27_0:World.frozen? _ ⟨go27,(Zc:Int).toNat * 2,none⟩=false:=hfr27 0;have hf27_1:World.frozen? _ ⟨go27,(Zc:Int).toNat * 2+1,none⟩=false:=hfr27 1;clear hcl27 hcc27 hfr27 hM27;replace p27:=eq_true p27;replace q27:=eq_true q27;obtain⟨ce31,hcl31,hM31,hcc31,hfr31⟩:=Kd.R_elem HO_3.out z53 (Zc:Int) (of_decide_eq_true (by first|(with_reducible assumption)|assumption)) (by have h_:(Zc:Int)<((Zd.length:Int):Int):=od;first|exact h_|(have e_:=(Kd.R_reads' HO_3.out).1;omega)|simpa using h_);obtain rfl:=k53_openM hM31;have HP31:=(Kd.R_seg HO_3.out (Zc:Int) (of_decide_eq_true (by first|(with_reducible assumption)|assumption)) (by have h_:(Zc:Int)<((Zd.length:Int):Int):=od;first|exact h_|(have e_:=(Kd.R_reads' HO_3.out).1;omega)|simpa using h_) (seg:=[.int .i64 ((rd_T53 Zd (ji23)).f0), .int .i64 ((rd_T53 Zd (ji23)).f1)]) (j:=0) hcl31 hcc31 (show 2≤2 from by decide) (x':=(⟨(rd_T53 Zd (ji23)).f0,(rd_T53 Zd (ji23)).f1⟩:S53)) (k53_mkM _ _ _ (⟨(rd_T53 Zd (ji23)).f0,(rd_T53 Zd (ji23)).f1⟩:S53) ) (fun _ hk=>hk)).1;rw[← Ny344.out] at HP31;have HQ31:=Ya HP31;clear hcl31 hcc31 hfr31 hM31 HP31;have p28:0≤((ji23):Int):=od;have q28:((ji23):Int)<((Zd.length:Int):Int):=od;obtain⟨ce28,hcl28,hM28,hcc28,hfr28⟩:=Kd.R_elem HQ31.out z53 ((ji23):Int) p28 q28;obtain rfl:=k53_openM hM28;have hx28_0:World.cell? _ ⟨go27,((ji23):Int).toNat * 2,none⟩=some (.int .i64 ((rd_T53 y344 (ji23)).f0)):=hcc28 0 _ rfl;have hx28_1:World.cell? _ ⟨go27,((ji23):Int).toNat * 2+1,none⟩=some (.int .i64 ((rd_T53 y344 (ji23)).f1)):=hcc28 1 _ rfl;have hf28_0:World.frozen? _ ⟨go27,((ji23):Int).toNat * 2,none⟩=false:=hfr28 0;have hf28_1:World.frozen? _ ⟨go27,((ji23):Int).toNat * 2+1,none⟩=false:=hfr28 1;clear hcl28 hcc28 hfr28 hM28;replace p28:=eq_true p28;replace q28:=eq_true q28;obtain⟨ce32,hcl32,hM32,hcc32,hfr32⟩:=Kd.R_elem HQ31.out z53 ((ji23):Int) (of_decide_eq_true (by first|(with_reducible assumption)|assumption)) (by have h_:((ji23):Int)<((Zd.length:Int):Int):=od;first|exact h_|(have e_:=(Kd.R_reads' HO_3.out).1;omega)|simpa using h_);obtain rfl:=k53_openM hM32;have HP32:=(Kd.R_seg HQ31.out ((ji23):Int) (of_decide_eq_true (by first|(with_reducible assumption)|assumption)) (by have h_:((ji23):Int)<((Zd.length:Int):Int):=od;first|exact h_|(have e_:=(Kd.R_reads' HO_3.out).1;omega)|simpa using h_) (seg:=[.int .i64 ((rd_T53 Zd Zc).f0), .int .i64 ((rd_T53 Zd Zc).f1)]) (j:=0) hcl32 hcc32 (show 2≤2 from by decide) (x':=(⟨(rd_T53 Zd Zc).f0,(rd_T53 Zd Zc).f1⟩:S53)) (k53_mkM _ _ _ (⟨(rd_T53 Zd Zc).f0,(rd_T53 Zd Zc).f1⟩:S53) ) (fun _ hk=>hk)).1;rw[← Ny345.out] at HP32;have HQ32:=Ya HP32;clear hcl32 hcc32 hfr32 hM32 HP32;refine start_ (n:=18) (S:=fun w'=>w'.cell? ⟨go27,(((ji23)).toNat * 2),none⟩=some (.int .i64 ((rd_T53 Zd (ji23)).f0))∧w'.cell? ⟨go27,(((ji23)).toNat * 2)+1,none⟩=some (.int .i64 ((rd_T53 Zd (ji23)).f1))∧w'.cell? ⟨go27,((Zc).toNat * 2),none⟩=some (.int .i64 ((rd_T53 Zd Zc).f0))∧w'.cell? ⟨go27,((Zc).toNat * 2)+1,none⟩=some (.int .i64 ((rd_T53 Zd Zc).f1))) (ds:=[15,17]) #[false,false,false,false,false,false,false,false,false,false,false,false,false,false,false,false,false,false] (by kernel_rfl) rfl rfl ⟨hx342_0,hx342_1,hx343_0,hx343_1⟩ (fun hHeld=> ?_);refine with_tabW ebbtideref03_Slots.tab15 ebbtideref03_Slots.bits15 (fun HT_ HW_=> ?_);generalize w29.drew=w30 at HO_3 HB GG27 HQ31 HQ32 hf27_0 hf27_1 hf28_0 hf28_1 hx27_0 hx27_1 hx28_0 hx28_1 Xw Xx Xy Xz hx342_0 hx342_1 hx343_0 hx343_1 hHeld ⊢;refine pu 0 89 (bm 18 1) ?_;refine pu 1 90 (bm 18 3) ?_;refine pu 2 91 (bm 18 7) ?_;refine pu 3 92 (bm 18 15) ?_;refine pu 4 93 (bm 18 31) ?_;refine pu 5 94 (bm 18 63) ?_;refine pu 6 95 (bm 18 127) ?_;refine pu 7 96 (bm 18 255) ?_;refine pu 8 97 (bm 18 511) ?_;refine pu 10 99 (bm 18 1535) ?_;refine pu 11 100 (bm 18 3583) ?_;refine pu 12 101 (bm 18 7679) ?_;refine ta 9 98 (bm 18 8191) hHeld ?_;refine ta 13 102 (bm 18 16383) hHeld ?_;refine pu 14 103 (bm 18 32767) ?_;obtain⟨_,_,_,_,hfrj_⟩:=Kd.R_elem HO_3.out z53 (ji23:Int) (by first|assumption|exact of_eq_true (by assumption)) (by first|assumption|exact of_eq_true (by assumption));have hfj0_:World.frozen? _ ⟨go27,ji23.toNat * 2,none⟩=false:=hfrj_ 0;have hfj1_:World.frozen? _ ⟨go27,ji23.toNat * 2+1,none⟩=false:=hfrj_ 1;clear hfrj_;have hne_:Zc.toNat≠ji23.toNat:=by
         have a1:0≤Zc:=by first|assumption|exact of_eq_true (by assumption)
         have a2:0≤ji23:=by first|assumption|exact of_eq_true (by assumption)
         have a3:wrap64 (Zc - 1)=ji23:=by first|assumption|exact Aside0.out (by assumption)|(rw[← i64_w];assumption)
         unfold wrap64 at a3;omega
        have hn1_:=Ne.symm hne_;have hn2_:Zc.toNat * 2+1≠ji23.toNat * 2:=by omega
        have hn3_:ji23.toNat * 2+1≠Zc.toNat * 2:=by omega
        have hn4_:=Ne.symm hn2_;have hn5_:=Ne.symm hn3_;have hn6_:Zc.toNat * 2≠ji23.toNat * 2:=by omega
        have hn7_:=Ne.symm hn6_;have hn8_:Zc.toNat * 2+1≠ji23.toNat * 2+1:=by omega
        have hn9_:=Ne.symm hn8_;refine last_ (i:=15) (N:=none) #[true,true,true,true,true,true,true,true,true,true,true,true,true,true,true,true,false,false] rfl rfl (one_of HT_.out (by kernel_rfl)) (by decide) (fun K hK=> ?_);refine skip_ (w1:= ?_) (by rfl) rfl ?_ ?_
        rotate_left
        ·go_simp
         rfl
        refine hK.out _ _ ?_;clear hK K;refine pu 16 104 (bm 18 131071) ?_;refine last_ (i:=17) (N:=none) #[true,true,true,true,true,true,true,true,true,true,true,true,true,true,true,true,true,true] rfl rfl (one_of HT_.out (by kernel_rfl)) (by decide) (fun K hK=> ?_);refine skip_ (w1:= ?_) (by rfl) rfl ?_ ?_
        rotate_left
        ·go_simp
         rfl
        refine hK.out _ _ ?_;clear hK K;refine done_ (done_of HT_.out (by kernel_rfl)) ?_;try go_wp2
        (try simp only[← hl3_3])
        go_roundg k3
        case measure=>have:=HK1.out;have:=HK2.out;have:=HK3.out;omega
        case rel=>exact⟨(y345),(ji23),(by first|rfl|(simp;done)|(simp only[← hji23]<;>(first|rfl|simp))|(simp[*];done)),H',⟨by have:=HK1.out;have:=HK2.out;have:=HK3.out;omega⟩,⟨by(try simp only[hl3_3]);(with_reducible repeat(first|apply Kd.R_alloc|apply Kd.R_drewN|apply Yl));exact HQ32.out⟩,⟨bl⟩⟩
       rw[Yr c26] at H;have c26b0:decide (((rd_T53 Zd Zc).f1)<((rd_T53 Zd (ji23)).f1))=false:=Yp c26;clear c26;by_cases c33:((rd_T53 Zd Zc).f1)=((rd_T53 Zd (ji23)).f1)
       rotate_left
       ·rw[Yr c33] at H
        have c33b0:(((rd_T53 Zd Zc).f1) == ((rd_T53 Zd (ji23)).f1))=false:=beq_eq_false_iff_ne.mpr c33;have c33b1:(((rd_T53 Zd Zc).f1) != ((rd_T53 Zd (ji23)).f1))=true:=bne_iff_ne.mpr c33;have H':=Ya H;clear H;try go_wp2
        replace HO_3:=Ya (Yl HO_3.out);replace HB:=Ya (Yd HB.out);have p340:0≤(Zc:Int):=od;have q340:Zc<(Zd.length:Int):=od;obtain⟨Zk,e340,Xw,Xx⟩:=at_T53 (Kd.R_reads' HO_3.out).2.2 Zc p340 q340;cases e340;replace p340:=eq_true p340;replace q340:=eq_true q340;have p341:0≤((ji23):Int):=od;have q341:(ji23)<(Zd.length:Int):=od;obtain⟨Jd,e341,Xy,Xz⟩:=at_T53 (Kd.R_reads' HO_3.out).2.2 (ji23) p341 q341;obtain rfl:Zk=Jd:=(by injection e341);replace p341:=eq_true p341;replace q341:=eq_true q341;have p346:0≤(Zc:Int):=od;have q346:Zc<(Zd.length:Int):=od;obtain⟨ad346,e346,Wu,Wv⟩:=at_T53 (Kd.R_reads' HO_3.out).2.2 Zc p346 q346;obtain rfl:Zk=ad346:=(by injection e346);replace p346:=eq_true p346;replace q346:=eq_true q346;have p347:0≤((ji23):Int):=od;have q347:(ji23)<(Zd.length:Int):=od;obtain⟨ad347,e347,Ww,Wx⟩:=at_T53 (Kd.R_reads' HO_3.out).2.2 (ji23) p347 q347;obtain rfl:Zk=ad347:=(by injection e347);replace p347:=eq_true p347;replace q347:=eq_true q347;refine start_ (n:=44) (S:=fun w'=>w'.cell? (Zk.add ((Zc).toNat * 2))=some (.int .i64 ((rd_T53 Zd Zc).f0))∧w'.cell? ⟨(Zk.add ((Zc).toNat * 2)).block,(Zk.add ((Zc).toNat * 2)).off+1,none⟩=some (.int .i64 ((rd_T53 Zd Zc).f1))∧w'.cell? (Zk.add (((ji23)).toNat * 2))=some (.int .i64 ((rd_T53 Zd (ji23)).f0))∧w'.cell? ⟨(Zk.add (((ji23)).toNat * 2)).block,(Zk.add (((ji23)).toNat * 2)).off+1,none⟩=some (.int .i64 ((rd_T53 Zd (ji23)).f1))∧w'.cell? (Zk.add ((Zc).toNat * 2))=some (.int .i64 ((rd_T53 Zd Zc).f0))∧w'.cell? ⟨(Zk.add ((Zc).toNat * 2)).block,(Zk.add ((Zc).toNat * 2)).off+1,none⟩=some (.int .i64 ((rd_T53 Zd Zc).f1))∧w'.cell? (Zk.add (((ji23)).toNat * 2))=some (.int .i64 ((rd_T53 Zd (ji23)).f0))∧w'.cell? ⟨(Zk.add (((ji23)).toNat * 2)).block,(Zk.add (((ji23)).toNat * 2)).off+1,none⟩=some (.int .i64 ((rd_T53 Zd (ji23)).f1))) (ds:=[]) #[false,false,false,false,false,false,false,false,false,false,false,false,false,false,false,false,false,false,false,false,false,false,false,false,false,false,false,false,false,false,false,false,false,false,false,false,false,false,false,false,false,false,false,false] (by kernel_rfl) rfl rfl ⟨Xw,Xx,Xy,Xz,Wu,Wv,Ww,Wx⟩ (fun hHeld=> ?_);refine with_tabW ebbtideref03_Slots.tab13 ebbtideref03_Slots.bits13 (fun HT_ HW_=> ?_);generalize wr.drew=w42 at HO_3 HB Xw Xx Xy Xz Wu Wv Ww Wx hHeld ⊢;refine pu 0 43 (bm 44 1) ?_;refine pu 1 44 (bm 44 3) ?_;refine pu 2 45 (bm 44 7) ?_;refine pu 3 46 (bm 44 15) ?_;refine pu 4 47 (bm 44 31) ?_;refine pu 5 48 (bm 44 63) ?_;refine pu 6 49 (bm 44 127) ?_;refine pu 8 51 (bm 44 383) ?_;refine pu 9 52 (bm 44 895) ?_;refine pu 10 53 (bm 44 1919) ?_;refine pu 11 54 (bm 44 3967) ?_;refine pu 12 55 (bm 44 8063) ?_;refine ta 7 50 (bm 44 8191) hHeld ?_;refine ta 13 56 (bm 44 16383) hHeld ?_;refine pu 14 57 (bm 44 32767) ?_;refine pu 15 58 (bm 44 65535) ?_;refine pu 16 59 (bm 44 131071) ?_;refine pu 17 60 (bm 44 262143) ?_;refine pu 18 61 (bm 44 524287) ?_;refine pu 19 62 (bm 44 1048575) ?_;refine pu 21 64 (bm 44 3145727) ?_;refine pu 22 65 (bm 44 7340031) ?_;refine pu 23 66 (bm 44 15728639) ?_;refine pu 24 67 (bm 44 32505855) ?_;refine pu 25 68 (bm 44 66060287) ?_;refine ta 20 63 (bm 44 67108863) hHeld ?_;refine ta 26 69 (bm 44 134217727) hHeld ?_;refine pu 27 70 (bm 44 268435455) ?_;refine pu 28 71 (bm 44 536870911) ?_;refine pure_ (i:=29) (N:=some 72) (v:=undef) (a':= ?_) #[true,true,true,true,true,true,true,true,true,true,true,true,true,true,true,true,true,true,true,true,true,true,true,true,true,true,true,true,true,true,false,false,false,false,false,false,false,false,false,false,false,false,false,false] rfl rfl (any_of HT_.out (by kernel_rfl)) (fun _ _ _ h=>h) (Or.inr ⟨by rfl,rfl⟩) ?_ ?_
        rotate_left
        ·simp only[Act.put,List.setIfInBounds_toArray,List.set_cons_zero,List.set_cons_succ,i64_w,i32_w]
         rfl
        refine pure_ (i:=30) (N:=some 73) (v:=undef) (a':= ?_) #[true,true,true,true,true,true,true,true,true,true,true,true,true,true,true,true,true,true,true,true,true,true,true,true,true,true,true,true,true,true,true,false,false,false,false,false,false,false,false,false,false,false,false,false] rfl rfl (any_of HT_.out (by kernel_rfl)) (fun _ _ _ h=>h) (Or.inr ⟨by rfl,rfl⟩) ?_ ?_
        rotate_left
        ·simp only[Act.put,List.setIfInBounds_toArray,List.set_cons_zero,List.set_cons_succ,i64_w,i32_w]
         rfl
        refine pure_ (i:=31) (N:=some 74) (v:=undef) (a':= ?_) #[true,true,true,true,true,true,true,true,true,true,true,true,true,true,true,true,true,true,true,true,true,true,true,true,true,true,true,true,true,true,true,true,false,false,false,false,false,false,false,false,false,false,false,false] rfl rfl (any_of HT_.out (by kernel_rfl)) (fun _ _ _ h=>h) (Or.inr ⟨by rfl,rfl⟩) ?_ ?_
        rotate_left
        ·simp only[Act.put,List.setIfInBounds_toArray,List.set_cons_zero,List.set_cons_succ,i64_w,i32_w]
         rfl
        refine pure_ (i:=32) (N:=some 75) (v:=undef) (a':= ?_) #[true,true,true,true,true,true,true,true,true,true,true,true,true,true,true,true,true,true,true,true,true,true,true,true,true,true,true,true,true,true,true,true,true,false,false,false,false,false,false,false,false,false,false,false] rfl rfl (any_of HT_.out (by kernel_rfl)) (fun _ _ _ h=>h) (Or.inr ⟨by rfl,rfl⟩) ?_ ?_
        rotate_left
        ·simp only[Act.put,List.setIfInBounds_toArray,List.set_cons_zero,List.set_cons_succ,i64_w,i32_w]
         rfl
        refine pure_ (i:=33) (N:=some 76) (v:=undef) (a':= ?_) #[true,true,true,true,true,true,true,true,true,true,true,true,true,true,true,true,true,true,true,true,true,true,true,true,true,true,true,true,true,true,true,true,true,true,false,false,false,false,false,false,false,false,false,false] rfl rfl (any_of HT_.out (by kernel_rfl)) (fun _ _ _ h=>h) (Or.inr ⟨by rfl,rfl⟩) ?_ ?_
        rotate_left
        ·simp only[Act.put,List.setIfInBounds_toArray,List.set_cons_zero,List.set_cons_succ,i64_w,i32_w]
         rfl
        refine pure_ (i:=34) (N:=some 77) (v:=undef) (a':= ?_) #[true,true,true,true,true,true,true,true,true,true,true,true,true,true,true,true,true,true,true,true,true,true,true,true,true,true,true,true,true,true,true,true,true,true,true,false,false,false,false,false,false,false,false,false] rfl rfl (any_of HT_.out (by kernel_rfl)) (fun _ _ _ h=>h) (Or.inr ⟨by rfl,rfl⟩) ?_ ?_
        rotate_left
        ·simp only[Act.put,List.setIfInBounds_toArray,List.set_cons_zero,List.set_cons_succ,i64_w,i32_w]
         rfl
        refine pure_ (i:=35) (N:=some 78) (v:=undef) (a':= ?_) #[true,true,true,true,true,true,true,true,true,true,true,true,true,true,true,true,true,true,true,true,true,true,true,true,true,true,true,true,true,true,true,true,true,true,true,true,false,false,false,false,false,false,false,false] rfl rfl (any_of HT_.out (by kernel_rfl)) (fun _ _ _ h=>h) (Or.inr ⟨by rfl,rfl⟩) ?_ ?_
        rotate_left
        ·simp only[Act.put,List.setIfInBounds_toArray,List.set_cons_zero,List.set_cons_succ,i64_w,i32_w]
         rfl
        refine pure_ (i:=36) (N:=some 79) (v:=undef) (a':= ?_) #[true,true,true,true,true,true,true,true,true,true,true,true,true,true,true,true,true,true,true,true,true,true,true,true,true,true,true,true,true,true,true,true,true,true,true,true,true,false,false,false,false,false,false,false] rfl rfl (any_of HT_.out (by kernel_rfl)) (fun _ _ _ h=>h) (Or.inr ⟨by rfl,rfl⟩) ?_ ?_
        rotate_left
        ·simp only[Act.put,List.setIfInBounds_toArray,List.set_cons_zero,List.set_cons_succ,i64_w,i32_w]
         rfl
        refine pure_ (i:=37) (N:=some 80) (v:=undef) (a':= ?_) #[true,true,true,true,true,true,true,true,true,true,true,true,true,true,true,true,true,true,true,true,true,true,true,true,true,true,true,true,true,true,true,true,true,true,true,true,true,true,false,false,false,false,false,false] rfl rfl (any_of HT_.out (by kernel_rfl)) (fun _ _ _ h=>h) (Or.inr ⟨by rfl,rfl⟩) ?_ ?_
        rotate_left
        ·simp only[Act.put,List.setIfInBounds_toArray,List.set_cons_zero,List.set_cons_succ,i64_w,i32_w]
         rfl
        refine pure_ (i:=38) (N:=some 81) (v:=undef) (a':= ?_) #[true,true,true,true,true,true,true,true,true,true,true,true,true,true,true,true,true,true,true,true,true,true,true,true,true,true,true,true,true,true,true,true,true,true,true,true,true,true,true,false,false,false,false,false] rfl rfl (any_of HT_.out (by kernel_rfl)) (fun _ _ _ h=>h) (Or.inr ⟨by rfl,rfl⟩) ?_ ?_
        rotate_left
        ·simp only[Act.put,List.setIfInBounds_toArray,List.set_cons_zero,List.set_cons_succ,i64_w,i32_w]
         rfl
        refine pure_ (i:=39) (N:=some 82) (v:=undef) (a':= ?_) #[true,true,true,true,true,true,true,true,true,true,true,true,true,true,true,true,true,true,true,true,true,true,true,true,true,true,true,true,true,true,true,true,true,true,true,true,true,true,true,true,false,false,false,false] rfl rfl (any_of HT_.out (by kernel_rfl)) (fun _ _ _ h=>h) (Or.inr ⟨by rfl,rfl⟩) ?_ ?_
        rotate_left
        ·simp only[Act.put,List.setIfInBounds_toArray,List.set_cons_zero,List.set_cons_succ,i64_w,i32_w]
         rfl
        refine pure_ (i:=40) (N:=some 83) (v:=undef) (a':= ?_) #[true,true,true,true,true,true,true,true,true,true,true,true,true,true,true,true,true,true,true,true,true,true,true,true,true,true,true,true,true,true,true,true,true,true,true,true,true,true,true,true,true,false,false,false] rfl rfl (any_of HT_.out (by kernel_rfl)) (fun _ _ _ h=>h) (Or.inr ⟨by rfl,rfl⟩) ?_ ?_
        rotate_left
        ·simp only[Act.put,List.setIfInBounds_toArray,List.set_cons_zero,List.set_cons_succ,i64_w,i32_w]
         rfl
        refine pu 41 84 (bm 44 4398046511103) ?_;refine pu 42 85 (bm 44 8796093022207) ?_;refine pu 43 86 (bm 44 17592186044415) ?_;refine done_ (done_of HT_.out (by kernel_rfl)) ?_;try go_wp2
        (try simp only[← hl3_3])
        go_roundg k3
        case measure=>have:=HK1.out;have:=HK2.out;have:=HK3.out;omega
        case rel=>exact⟨(Zd),(wrap64 (Xp+1)),(by first|rfl|(simp;done)|(simp[*];done)),H',⟨by have:=HK1.out;have:=HK2.out;have:=HK3.out;omega⟩,⟨by(try simp only[hl3_3]);(with_reducible repeat(first|apply Kd.R_alloc|apply Kd.R_drewN|apply Yl));exact HO_3.out⟩,⟨HB.out⟩⟩
       rw[Yq c33] at H;have c33b0:(((rd_T53 Zd Zc).f1) == ((rd_T53 Zd (ji23)).f1))=true:=beq_iff_eq.mpr c33;have c33b1:(((rd_T53 Zd Zc).f1) != ((rd_T53 Zd (ji23)).f1))=false:=bne_eq_false_iff_eq.mpr c33;clear c33;by_cases c34:((rd_T53 Zd Zc).f0)<((rd_T53 Zd (ji23)).f0)
       rotate_left
       ·rw[Yr c34] at H
        have c34b0:decide (((rd_T53 Zd Zc).f0)<((rd_T53 Zd (ji23)).f0))=false:=Yp c34;clear c34;have H':=Ya H;clear H;try go_wp2
        replace HO_3:=Ya (Yl HO_3.out);replace HB:=Ya (Yd HB.out);have p340:0≤(Zc:Int):=od;have q340:Zc<(Zd.length:Int):=od;obtain⟨Zk,e340,Xw,Xx⟩:=at_T53 (Kd.R_reads' HO_3.out).2.2 Zc p340 q340;cases e340;replace p340:=eq_true p340;replace q340:=eq_true q340;have p341:0≤((ji23):Int):=od;have q341:(ji23)<(Zd.length:Int):=od;obtain⟨Jd,e341,Xy,Xz⟩:=at_T53 (Kd.R_reads' HO_3.out).2.2 (ji23) p341 q341;obtain rfl:Zk=Jd:=(by injection e341);replace p341:=eq_true p341;replace q341:=eq_true q341;have p346:0≤(Zc:Int):=od;have q346:Zc<(Zd.length:Int):=od;obtain⟨ad346,e346,Wu,Wv⟩:=at_T53 (Kd.R_reads' HO_3.out).2.2 Zc p346 q346;obtain rfl:Zk=ad346:=(by injection e346);replace p346:=eq_true p346;replace q346:=eq_true q346;have p347:0≤((ji23):Int):=od;have q347:(ji23)<(Zd.length:Int):=od;obtain⟨ad347,e347,Ww,Wx⟩:=at_T53 (Kd.R_reads' HO_3.out).2.2 (ji23) p347 q347;obtain rfl:Zk=ad347:=(by injection e347);replace p347:=eq_true p347;replace q347:=eq_true q347;have p348:0≤(Zc:Int):=od;have q348:Zc<(Zd.length:Int):=od;obtain⟨ad348,e348,Vo,Vp⟩:=at_T53 (Kd.R_reads' HO_3.out).2.2 Zc p348 q348;obtain rfl:Zk=ad348:=(by injection e348);replace p348:=eq_true p348;replace q348:=eq_true q348;have p349:0≤((ji23):Int):=od;have q349:(ji23)<(Zd.length:Int):=od;obtain⟨ad349,e349,Vq,Vr⟩:=at_T53 (Kd.R_reads' HO_3.out).2.2 (ji23) p349 q349;obtain rfl:Zk=ad349:=(by injection e349);replace p349:=eq_true p349;replace q349:=eq_true q349;refine start_ (n:=44) (S:=fun w'=>w'.cell? (Zk.add ((Zc).toNat * 2))=some (.int .i64 ((rd_T53 Zd Zc).f0))∧w'.cell? ⟨(Zk.add ((Zc).toNat * 2)).block,(Zk.add ((Zc).toNat * 2)).off+1,none⟩=some (.int .i64 ((rd_T53 Zd Zc).f1))∧w'.cell? (Zk.add (((ji23)).toNat * 2))=some (.int .i64 ((rd_T53 Zd (ji23)).f0))∧w'.cell? ⟨(Zk.add (((ji23)).toNat * 2)).block,(Zk.add (((ji23)).toNat * 2)).off+1,none⟩=some (.int .i64 ((rd_T53 Zd (ji23)).f1))∧w'.cell? (Zk.add ((Zc).toNat * 2))=some (.int .i64 ((rd_T53 Zd Zc).f0))∧w'.cell? ⟨(Zk.add ((Zc).toNat * 2)).block,(Zk.add ((Zc).toNat * 2)).off+1,none⟩=some (.int .i64 ((rd_T53 Zd Zc).f1))∧w'.cell? (Zk.add (((ji23)).toNat * 2))=some (.int .i64 ((rd_T53 Zd (ji23)).f0))∧w'.cell? ⟨(Zk.add (((ji23)).toNat * 2)).block,(Zk.add (((ji23)).toNat * 2)).off+1,none⟩=some (.int .i64 ((rd_T53 Zd (ji23)).f1))∧w'.cell? (Zk.add ((Zc).toNat * 2))=some (.int .i64 ((rd_T53 Zd Zc).f0))∧w'.cell? ⟨(Zk.add ((Zc).toNat * 2)).block,(Zk.add ((Zc).toNat * 2)).off+1,none⟩=some (.int .i64 ((rd_T53 Zd Zc).f1))∧w'.cell? (Zk.add (((ji23)).toNat * 2))=some (.int .i64 ((rd_T53 Zd (ji23)).f0))∧w'.cell? ⟨(Zk.add (((ji23)).toNat * 2)).block,(Zk.add (((ji23)).toNat * 2)).off+1,none⟩=some (.int .i64 ((rd_T53 Zd (ji23)).f1))) (ds:=[]) #[false,false,false,false,false,false,false,false,false,false,false,false,false,false,false,false,false,false,false,false,false,false,false,false,false,false,false,false,false,false,false,false,false,false,false,false,false,false,false,false,false,false,false,false] (by kernel_rfl) rfl rfl ⟨Xw,Xx,Xy,Xz,Wu,Wv,Ww,Wx,Vo,Vp,Vq,Vr⟩ (fun hHeld=> ?_);refine with_tabW ebbtideref03_Slots.tab13 ebbtideref03_Slots.bits13 (fun HT_ HW_=> ?_);generalize wr.drew=w41 at HO_3 HB Xw Xx Xy Xz Wu Wv Ww Wx Vo Vp Vq Vr hHeld ⊢;refine pu 0 43 (bm 44 1) ?_;refine pu 1 44 (bm 44 3) ?_;refine pu 2 45 (bm 44 7) ?_;refine pu 3 46 (bm 44 15) ?_;refine pu 4 47 (bm 44 31) ?_;refine pu 5 48 (bm 44 63) ?_;refine pu 6 49 (bm 44 127) ?_;refine pu 8 51 (bm 44 383) ?_;refine pu 9 52 (bm 44 895) ?_;refine pu 10 53 (bm 44 1919) ?_;refine pu 11 54 (bm 44 3967) ?_;refine pu 12 55 (bm 44 8063) ?_;refine ta 7 50 (bm 44 8191) hHeld ?_;refine ta 13 56 (bm 44 16383) hHeld ?_;refine pu 14 57 (bm 44 32767) ?_;refine pu 15 58 (bm 44 65535) ?_;refine pu 16 59 (bm 44 131071) ?_;refine pu 17 60 (bm 44 262143) ?_;refine pu 18 61 (bm 44 524287) ?_;refine pu 19 62 (bm 44 1048575) ?_;refine pu 21 64 (bm 44 3145727) ?_;refine pu 22 65 (bm 44 7340031) ?_;refine pu 23 66 (bm 44 15728639) ?_;refine pu 24 67 (bm 44 32505855) ?_;refine pu 25 68 (bm 44 66060287) ?_;refine ta 20 63 (bm 44 67108863) hHeld ?_;refine ta 26 69 (bm 44 134217727) hHeld ?_;refine pu 27 70 (bm 44 268435455) ?_;refine pu 28 71 (bm 44 536870911) ?_;refine pu 29 72 (bm 44 1073741823) ?_;refine pu 30 73 (bm 44 2147483647) ?_;refine pu 31 74 (bm 44 4294967295) ?_;refine pu 32 75 (bm 44 8589934591) ?_;refine pu 34 77 (bm 44 25769803775) ?_;refine pu 35 78 (bm 44 60129542143) ?_;refine pu 36 79 (bm 44 128849018879) ?_;refine pu 37 80 (bm 44 266287972351) ?_;refine pu 38 81 (bm 44 541165879295) ?_;refine ta 33 76 (bm 44 549755813887) hHeld ?_;refine ta 39 82 (bm 44 1099511627775) hHeld ?_;refine pu 40 83 (bm 44 2199023255551) ?_;refine pu 41 84 (bm 44 4398046511103) ?_;refine pu 42 85 (bm 44 8796093022207) ?_;refine pu 43 86 (bm 44 17592186044415) ?_;refine done_ (done_of HT_.out (by kernel_rfl)) ?_;try go_wp2
        (try simp only[← hl3_3])
        go_roundg k3
        case measure=>have:=HK1.out;have:=HK2.out;have:=HK3.out;omega
        case rel=>exact⟨(Zd),(wrap64 (Xp+1)),(by first|rfl|(simp;done)|(simp[*];done)),H',⟨by have:=HK1.out;have:=HK2.out;have:=HK3.out;omega⟩,⟨by(try simp only[hl3_3]);(with_reducible repeat(first|apply Kd.R_alloc|apply Kd.R_drewN|apply Yl));exact HO_3.out⟩,⟨HB.out⟩⟩
       rw[Yq c34] at H;have c34b0:decide (((rd_T53 Zd Zc).f0)<((rd_T53 Zd (ji23)).f0))=true:=Yo c34;clear c34;obtain⟨y352,hy352⟩: ∃ y_:List (S53),y_=(Zd.set (Zc:Int).toNat (⟨(rd_T53 Zd (ji23)).f0,(rd_T53 Zd (ji23)).f1⟩:S53)):=⟨_,rfl⟩;rw[← hy352] at H;have Ny352:=Ya hy352;clear hy352;obtain⟨y353,hy353⟩: ∃ y_:List (S53),y_=(y352.set ((ji23):Int).toNat (⟨(rd_T53 Zd Zc).f0,(rd_T53 Zd Zc).f1⟩:S53)):=⟨_,rfl⟩;rw[← hy353] at H;have Ny353:=Ya hy353;clear hy353;have H':=Ya H;clear H;try go_wp2
       replace HO_3:=Ya (Yl HO_3.out);replace HB:=Ya (Yd HB.out);have p340:0≤(Zc:Int):=od;have q340:Zc<(Zd.length:Int):=od;obtain⟨Zk,e340,Xw,Xx⟩:=at_T53 (Kd.R_reads' HO_3.out).2.2 Zc p340 q340;cases e340;replace p340:=eq_true p340;replace q340:=eq_true q340;have p341:0≤((ji23):Int):=od;have q341:(ji23)<(Zd.length:Int):=od;obtain⟨Jd,e341,Xy,Xz⟩:=at_T53 (Kd.R_reads' HO_3.out).2.2 (ji23) p341 q341;obtain rfl:Zk=Jd:=(by injection e341);replace p341:=eq_true p341;replace q341:=eq_true q341;have p346:0≤(Zc:Int):=od;have q346:Zc<(Zd.length:Int):=od;obtain⟨ad346,e346,Wu,Wv⟩:=at_T53 (Kd.R_reads' HO_3.out).2.2 Zc p346 q346;obtain rfl:Zk=ad346:=(by injection e346);replace p346:=eq_true p346;replace q346:=eq_true q346;have p347:0≤((ji23):Int):=od;have q347:(ji23)<(Zd.length:Int):=od;obtain⟨ad347,e347,Ww,Wx⟩:=at_T53 (Kd.R_reads' HO_3.out).2.2 (ji23) p347 q347;obtain rfl:Zk=ad347:=(by injection e347);replace p347:=eq_true p347;replace q347:=eq_true q347;have p348:0≤(Zc:Int):=od;have q348:Zc<(Zd.length:Int):=od;obtain⟨ad348,e348,Vo,Vp⟩:=at_T53 (Kd.R_reads' HO_3.out).2.2 Zc p348 q348;obtain rfl:Zk=ad348:=(by injection e348);replace p348:=eq_true p348;replace q348:=eq_true q348;have p349:0≤((ji23):Int):=od;have q349:(ji23)<(Zd.length:Int):=od;obtain⟨ad349,e349,Vq,Vr⟩:=at_T53 (Kd.R_reads' HO_3.out).2.2 (ji23) p349 q349;obtain rfl:Zk=ad349:=(by injection e349);replace p349:=eq_true p349;replace q349:=eq_true q349;refine start_ (n:=44) (S:=fun w'=>w'.cell? (Zk.add ((Zc).toNat * 2))=some (.int .i64 ((rd_T53 Zd Zc).f0))∧w'.cell? ⟨(Zk.add ((Zc).toNat * 2)).block,(Zk.add ((Zc).toNat * 2)).off+1,none⟩=some (.int .i64 ((rd_T53 Zd Zc).f1))∧w'.cell? (Zk.add (((ji23)).toNat * 2))=some (.int .i64 ((rd_T53 Zd (ji23)).f0))∧w'.cell? ⟨(Zk.add (((ji23)).toNat * 2)).block,(Zk.add (((ji23)).toNat * 2)).off+1,none⟩=some (.int .i64 ((rd_T53 Zd (ji23)).f1))∧w'.cell? (Zk.add ((Zc).toNat * 2))=some (.int .i64 ((rd_T53 Zd Zc).f0))∧w'.cell? ⟨(Zk.add ((Zc).toNat * 2)).block,(Zk.add ((Zc).toNat * 2)).off+1,none⟩=some (.int .i64 ((rd_T53 Zd Zc).f1))∧w'.cell? (Zk.add (((ji23)).toNat * 2))=some (.int .i64 ((rd_T53 Zd (ji23)).f0))∧w'.cell? ⟨(Zk.add (((ji23)).toNat * 2)).block,(Zk.add (((ji23)).toNat * 2)).off+1,none⟩=some (.int .i64 ((rd_T53 Zd (ji23)).f1))∧w'.cell? (Zk.add ((Zc).toNat * 2))=some (.int .i64 ((rd_T53 Zd Zc).f0))∧w'.cell? ⟨(Zk.add ((Zc).toNat * 2)).block,(Zk.add ((Zc).toNat * 2)).off+1,none⟩=some (.int .i64 ((rd_T53 Zd Zc).f1))∧w'.cell? (Zk.add (((ji23)).toNat * 2))=some (.int .i64 ((rd_T53 Zd (ji23)).f0))∧w'.cell? ⟨(Zk.add (((ji23)).toNat * 2)).block,(Zk.add (((ji23)).toNat * 2)).off+1,none⟩=some (.int .i64 ((rd_T53 Zd (ji23)).f1))) (ds:=[]) #[false,false,false,false,false,false,false,false,false,false,false,false,false,false,false,false,false,false,false,false,false,false,false,false,false,false,false,false,false,false,false,false,false,false,false,false,false,false,false,false,false,false,false,false] (by kernel_rfl) rfl rfl ⟨Xw,Xx,Xy,Xz,Wu,Wv,Ww,Wx,Vo,Vp,Vq,Vr⟩ (fun hHeld=> ?_);refine with_tabW ebbtideref03_Slots.tab13 ebbtideref03_Slots.bits13 (fun HT_ HW_=> ?_);generalize wr.drew=w37 at HO_3 HB Xw Xx Xy Xz Wu Wv Ww Wx Vo Vp Vq Vr hHeld ⊢;refine pu 0 43 (bm 44 1) ?_;refine pu 1 44 (bm 44 3) ?_;refine pu 2 45 (bm 44 7) ?_;refine pu 3 46 (bm 44 15) ?_;refine pu 4 47 (bm 44 31) ?_;refine pu 5 48 (bm 44 63) ?_;refine pu 6 49 (bm 44 127) ?_;refine pu 8 51 (bm 44 383) ?_;refine pu 9 52 (bm 44 895) ?_;refine pu 10 53 (bm 44 1919) ?_;refine pu 11 54 (bm 44 3967) ?_;refine pu 12 55 (bm 44 8063) ?_;refine ta 7 50 (bm 44 8191) hHeld ?_;refine ta 13 56 (bm 44 16383) hHeld ?_;refine pu 14 57 (bm 44 32767) ?_;refine pu 15 58 (bm 44 65535) ?_;refine pu 16 59 (bm 44 131071) ?_;refine pu 17 60 (bm 44 262143) ?_;refine pu 18 61 (bm 44 524287) ?_;refine pu 19 62 (bm 44 1048575) ?_;refine pu 21 64 (bm 44 3145727) ?_;refine pu 22 65 (bm 44 7340031) ?_;refine pu 23 66 (bm 44 15728639) ?_;refine pu 24 67 (bm 44 32505855) ?_;refine pu 25 68 (bm 44 66060287) ?_;refine ta 20 63 (bm 44 67108863) hHeld ?_;refine ta 26 69 (bm 44 134217727) hHeld ?_;refine pu 27 70 (bm 44 268435455) ?_;refine pu 28 71 (bm 44 536870911) ?_;refine pu 29 72 (bm 44 1073741823) ?_;refine pu 30 73 (bm 44 2147483647) ?_;refine pu 31 74 (bm 44 4294967295) ?_;refine pu 32 75 (bm 44 8589934591) ?_;refine pu 34 77 (bm 44 25769803775) ?_;refine pu 35 78 (bm 44 60129542143) ?_;refine pu 36 79 (bm 44 128849018879) ?_;refine pu 37 80 (bm 44 266287972351) ?_;refine pu 38 81 (bm 44 541165879295) ?_;refine ta 33 76 (bm 44 549755813887) hHeld ?_;refine ta 39 82 (bm 44 1099511627775) hHeld ?_;refine pu 40 83 (bm 44 2199023255551) ?_;refine pu 41 84 (bm 44 4398046511103) ?_;refine pu 42 85 (bm 44 8796093022207) ?_;refine pu 43 86 (bm 44 17592186044415) ?_;refine done_ (done_of HT_.out (by kernel_rfl)) ?_;try go_wp2
       replace HO_3:=Ya (Yl HO_3.out);replace HB:=Ya (Yd HB.out);have p350:0≤((ji23):Int):=od;have q350:(ji23)<(Zd.length:Int):=od;obtain⟨ad350,e350,hx350_0,hx350_1⟩:=at_T53 (Kd.R_reads' HO_3.out).2.2 (ji23) p350 q350;obtain rfl:Zk=ad350:=(by injection e350);replace p350:=eq_true p350;replace q350:=eq_true q350;have p351:0≤(Zc:Int):=od;have q351:Zc<(Zd.length:Int):=od;obtain⟨ad351,e351,hx351_0,hx351_1⟩:=at_T53 (Kd.R_reads' HO_3.out).2.2 Zc p351 q351;obtain rfl:Zk=ad351:=(by injection e351);replace p351:=eq_true p351;replace q351:=eq_true q351;have p35:0≤(Zc:Int):=od;have q35:(Zc:Int)<((Zd.length:Int):Int):=od;obtain⟨go35,co35,eo35,gb35,gl35,cl35,HG35⟩:=Kd.R_form HO_3.out (by omega)
       (first|cases eo35|(injection eo35 with ea_ en_ ec_;(first|subst ea_|(injection ea_ with ea_;subst ea_));subst ec_;clear en_))
       have GB35:=Ya gb35;have GG35:=Ya HG35;clear gb35 gl35 HG35
       (first|simp only[add_plain] at Xw|skip)
       (first|simp only[add_plain] at Xx|skip)
       (first|simp only[add_plain] at Xy|skip)
       (first|simp only[add_plain] at Xz|skip)
       (first|simp only[add_plain] at Wu|skip)
       (first|simp only[add_plain] at Wv|skip)
       (first|simp only[add_plain] at Ww|skip)
       (first|simp only[add_plain] at Wx|skip)
       (first|simp only[add_plain] at Vo|skip)
       (first|simp only[add_plain] at Vp|skip)
       (first|simp only[add_plain] at Vq|skip)
       (first|simp only[add_plain] at Vr|skip)
       (first|simp only[add_plain] at hx350_0|skip)
       (first|simp only[add_plain] at hx350_1|skip)
       (first|simp only[add_plain] at hx351_0|skip)
       (first|simp only[add_plain] at hx351_1|skip)
       obtain⟨ce35,hcl35,hM35,hcc35,hfr35⟩:=Kd.R_elem HO_3.out z53 (Zc:Int) p35 q35;obtain rfl:=k53_openM hM35;have hx35_0:World.cell? _ ⟨go35,(Zc:Int).toNat * 2,none⟩=some (.int .i64 ((rd_T53 Zd Zc).f0)):=hcc35 0 _ rfl;have hx35_1:World.cell? _ ⟨go35,(Zc:Int).toNat * 2+1,none⟩=some (.int .i64 ((rd_T53 Zd Zc).f1)):=hcc35 1 _ rfl;have hf35_0:World.frozen? _ ⟨go35,(Zc:Int).toNat * 2,none⟩=false:=hfr35 0;have hf35_1:World.frozen? _ ⟨go35,(Zc:Int).toNat * 2+1,none⟩=false:=hfr35 1;clear hcl35 hcc35 hfr35 hM35;replace p35:=eq_true p35;replace q35:=eq_true q35;obtain⟨ce39,hcl39,hM39,hcc39,hfr39⟩:=Kd.R_elem HO_3.out z53 (Zc:Int) (of_decide_eq_true (by first|(with_reducible assumption)|assumption)) (by have h_:(Zc:Int)<((Zd.length:Int):Int):=od;first|exact h_|(have e_:=(Kd.R_reads' HO_3.out).1;omega)|simpa using h_);obtain rfl:=k53_openM hM39;have HP39:=(Kd.R_seg HO_3.out (Zc:Int) (of_decide_eq_true (by first|(with_reducible assumption)|assumption)) (by have h_:(Zc:Int)<((Zd.length:Int):Int):=od;first|exact h_|(have e_:=(Kd.R_reads' HO_3.out).1;omega)|simpa using h_) (seg:=[.int .i64 ((rd_T53 Zd (ji23)).f0), .int .i64 ((rd_T53 Zd (ji23)).f1)]) (j:=0) hcl39 hcc39 (show 2≤2 from by decide) (x':=(⟨(rd_T53 Zd (ji23)).f0,(rd_T53 Zd (ji23)).f1⟩:S53)) (k53_mkM _ _ _ (⟨(rd_T53 Zd (ji23)).f0,(rd_T53 Zd (ji23)).f1⟩:S53) ) (fun _ hk=>hk)).1;rw[← Ny352.out] at HP39;have HQ39:=Ya HP39;clear hcl39 hcc39 hfr39 hM39 HP39;have p36:0≤((ji23):Int):=od;have q36:((ji23):Int)<((Zd.length:Int):Int):=od;obtain⟨ce36,hcl36,hM36,hcc36,hfr36⟩:=Kd.R_elem HQ39.out z53 ((ji23):Int) p36 q36;obtain rfl:=k53_openM hM36;have hx36_0:World.cell? _ ⟨go35,((ji23):Int).toNat * 2,none⟩=some (.int .i64 ((rd_T53 y352 (ji23)).f0)):=hcc36 0 _ rfl;have hx36_1:World.cell? _ ⟨go35,((ji23):Int).toNat * 2+1,none⟩=some (.int .i64 ((rd_T53 y352 (ji23)).f1)):=hcc36 1 _ rfl;have hf36_0:World.frozen? _ ⟨go35,((ji23):Int).toNat * 2,none⟩=false:=hfr36 0;have hf36_1:World.frozen? _ ⟨go35,((ji23):Int).toNat * 2+1,none⟩=false:=hfr36 1;clear hcl36 hcc36 hfr36 hM36;replace p36:=eq_true p36;replace q36:=eq_true q36;obtain⟨ce40,hcl40,hM40,hcc40,hfr40⟩:=Kd.R_elem HQ39.out z53 ((ji23):Int) (of_decide_eq_true (by first|(with_reducible assumption)|assumption)) (by have h_:((ji23):Int)<((Zd.length:Int):Int):=od;first|exact h_|(have e_:=(Kd.R_reads' HO_3.out).1;omega)|simpa using h_);obtain rfl:=k53_openM hM40;have HP40:=(Kd.R_seg HQ39.out ((ji23):Int) (of_decide_eq_true (by first|(with_reducible assumption)|assumption)) (by have h_:((ji23):Int)<((Zd.length:Int):Int):=od;first|exact h_|(have e_:=(Kd.R_reads' HO_3.out).1;omega)|simpa using h_) (seg:=[.int .i64 ((rd_T53 Zd Zc).f0), .int .i64 ((rd_T53 Zd Zc).f1)]) (j:=0) hcl40 hcc40 (show 2≤2 from by decide) (x':=(⟨(rd_T53 Zd Zc).f0,(rd_T53 Zd Zc).f1⟩:S53)) (k53_mkM _ _ _ (⟨(rd_T53 Zd Zc).f0,(rd_T53 Zd Zc).f1⟩:S53) ) (fun _ hk=>hk)).1;rw[← Ny353.out] at HP40;have HQ40:=Ya HP40;clear hcl40 hcc40 hfr40 hM40 HP40;refine start_ (n:=18) (S:=fun w'=>w'.cell? ⟨go35,(((ji23)).toNat * 2),none⟩=some (.int .i64 ((rd_T53 Zd (ji23)).f0))∧w'.cell? ⟨go35,(((ji23)).toNat * 2)+1,none⟩=some (.int .i64 ((rd_T53 Zd (ji23)).f1))∧w'.cell? ⟨go35,((Zc).toNat * 2),none⟩=some (.int .i64 ((rd_T53 Zd Zc).f0))∧w'.cell? ⟨go35,((Zc).toNat * 2)+1,none⟩=some (.int .i64 ((rd_T53 Zd Zc).f1))) (ds:=[15,17]) #[false,false,false,false,false,false,false,false,false,false,false,false,false,false,false,false,false,false] (by kernel_rfl) rfl rfl ⟨hx350_0,hx350_1,hx351_0,hx351_1⟩ (fun hHeld=> ?_);refine with_tabW ebbtideref03_Slots.tab15 ebbtideref03_Slots.bits15 (fun HT_ HW_=> ?_);generalize w37.drew=w38 at HO_3 HB GG35 HQ39 HQ40 hf35_0 hf35_1 hf36_0 hf36_1 Xw Xx Xy Xz Wu Wv Ww Wx Vo Vp Vq Vr hx350_0 hx350_1 hx351_0 hx351_1 hx35_0 hx35_1 hx36_0 hx36_1 hHeld ⊢;refine pu 0 89 (bm 18 1) ?_;refine pu 1 90 (bm 18 3) ?_;refine pu 2 91 (bm 18 7) ?_;refine pu 3 92 (bm 18 15) ?_;refine pu 4 93 (bm 18 31) ?_;refine pu 5 94 (bm 18 63) ?_;refine pu 6 95 (bm 18 127) ?_;refine pu 7 96 (bm 18 255) ?_;refine pu 8 97 (bm 18 511) ?_;refine pu 10 99 (bm 18 1535) ?_;refine pu 11 100 (bm 18 3583) ?_;refine pu 12 101 (bm 18 7679) ?_;refine ta 9 98 (bm 18 8191) hHeld ?_;refine ta 13 102 (bm 18 16383) hHeld ?_;refine pu 14 103 (bm 18 32767) ?_;obtain⟨_,_,_,_,hfrj_⟩:=Kd.R_elem HO_3.out z53 (ji23:Int) (by first|assumption|exact of_eq_true (by assumption)) (by first|assumption|exact of_eq_true (by assumption));have hfj0_:World.frozen? _ ⟨go35,ji23.toNat * 2,none⟩=false:=hfrj_ 0;have hfj1_:World.frozen? _ ⟨go35,ji23.toNat * 2+1,none⟩=false:=hfrj_ 1;clear hfrj_;have hne_:Zc.toNat≠ji23.toNat:=by
        have a1:0≤Zc:=by first|assumption|exact of_eq_true (by assumption)
        have a2:0≤ji23:=by first|assumption|exact of_eq_true (by assumption)
        have a3:wrap64 (Zc - 1)=ji23:=by first|assumption|exact Aside0.out (by assumption)|(rw[← i64_w];assumption)
        unfold wrap64 at a3;omega
       have hn1_:=Ne.symm hne_;have hn2_:Zc.toNat * 2+1≠ji23.toNat * 2:=by omega
       have hn3_:ji23.toNat * 2+1≠Zc.toNat * 2:=by omega
       have hn4_:=Ne.symm hn2_;have hn5_:=Ne.symm hn3_;have hn6_:Zc.toNat * 2≠ji23.toNat * 2:=by omega
       have hn7_:=Ne.symm hn6_;have hn8_:Zc.toNat * 2+1≠ji23.toNat * 2+1:=by omega
       have hn9_:=Ne.symm hn8_;refine last_ (i:=15) (N:=none) #[true,true,true,true,true,true,true,true,true,true,true,true,true,true,true,true,false,false] rfl rfl (one_of HT_.out (by kernel_rfl)) (by decide) (fun K hK=> ?_);refine skip_ (w1:= ?_) (by rfl) rfl ?_ ?_
       rotate_left
       ·go_simp
        rfl
       refine hK.out _ _ ?_;clear hK K;refine pu 16 104 (bm 18 131071) ?_;refine last_ (i:=17) (N:=none) #[true,true,true,true,true,true,true,true,true,true,true,true,true,true,true,true,true,true] rfl rfl (one_of HT_.out (by kernel_rfl)) (by decide) (fun K hK=> ?_);refine skip_ (w1:= ?_) (by rfl) rfl ?_ ?_
       rotate_left
       ·go_simp
        rfl
       refine hK.out _ _ ?_;clear hK K;refine done_ (done_of HT_.out (by kernel_rfl)) ?_;try go_wp2
       (try simp only[← hl3_3])
       go_roundg k3
       case measure=>have:=HK1.out;have:=HK2.out;have:=HK3.out;omega
       case rel=>exact⟨(y353),(ji23),(by first|rfl|(simp;done)|(simp only[← hji23]<;>(first|rfl|simp))|(simp[*];done)),H',⟨by have:=HK1.out;have:=HK2.out;have:=HK3.out;omega⟩,⟨by(try simp only[hl3_3]);(with_reducible repeat(first|apply Kd.R_alloc|apply Kd.R_drewN|apply Yl));exact HQ40.out⟩,⟨bl⟩⟩
end P
namespace P
attribute [local go_sem] max2_int min2_int max_two min_two max_three min_three max_four min_four
def ebbtideref18_Both.l0:Nat→List (S53)→List (S53)→List (S53)→Int→Option ((List (S53)))
 |0,_,_,_,_=>none
 |k+1,x0,x1,x5,x6=>if x6<(x0.length:Int) then(if 0≤x6 then((ebbtideref18_Has.f k x1 ((rd_T53 x0 x6).f0) ((rd_T53 x0 x6).f1)).bind fun t356=>(if t356=true then(if x5.length<8796093022208 then(ebbtideref18_Both.l0 k x0 x1 (x5 ++ [(⟨(rd_T53 x0 x6).f0,(rd_T53 x0 x6).f1⟩:S53)]) (wrap64 (x6+1))) else(none)) else(ebbtideref18_Both.l0 k x0 x1 x5 (wrap64 (x6+1))))) else(none)) else((ebbtideref03_Slots.f k x5).bind fun t361=>(some t361))
def ebbtideref18_Both.f (k:Nat) (l0:List (S53)) (l1:List (S53)):Option ((List (S53))):=ebbtideref18_Both.l0 k l0 l1 ([]:List (S53)) 0
set_option maxHeartbeats 8000000 in
set_option maxRecDepth 100000 in
theorem ebbtideref18_Both.calls (k:Nat) (A0:Option Addr) (c0:Nat) (l0:List (S53)) (A1:Option Addr) (c1:Nat) (l1:List (S53)) (r:List (S53)) (w:World) (hr0:Kd.C k53 w A0 l0.length l0) (hc0:l0.length≤c0) (hr1:Kd.C k53 w A1 l1.length l1) (hc1:l1.length≤c1) (h:ebbtideref18_Both.f k l0 l1=some r):
  Calls Try.prog 13 #[.slice A0 l0.length c0, .slice A1 l1.length c1] w fun e w'=> ∃ v0_:Value,e= .returned (v0_)∧Kd.R k53 53 w' w.heap.size (fun _=>True) v0_ r∧Below w.heap.size w w':=by
 have hu53:=Try.underlying53;have HR0:=Ya hr0;have HC0:=Ya hc0;clear hr0 hc0;have HR1:=Ya hr1;have HC1:=Ya hc1;clear hr1 hc1;have HB:=Ya (Yk w.heap.size w);have H:=h;unfold ebbtideref18_Both.f at H;clear h;have H':=Ya H;clear H;go_enter Try.func13,Try.ntmps13;go_wp2;repeat(go_quiet (fail);try go_wp2)
 go_loopg [5,6] k (fun kq v5 v6 w'=> ∃ (Xk:List (S53)) (Xd:Int),v6= .int .i64 Xd∧Aside0 (ebbtideref18_Both.l0 kq l0 l1 Xk Xd=some r)∧Aside0 (kq≤k)∧Aside0 (Kd.R k53 53 w' w.heap.size (fun _=>True) v5 Xk)∧Aside0 (Below w.heap.size w w'))
 case atStart=>exact⟨(([]:List (S53))),(0),(by first|rfl|(simp;done)|(simp[*];done)),H',⟨Nat.le_refl _⟩,⟨by first|exact Kd.R_nil _ _ _ _ _|exact Kd.N_nil _ _ _ _ _|exact Kd.V_nil _ _ _ _ _|exact Kd.Q_nil _ _ _ _ _|exact Kd.S_nil _ _ _ _ _⟩,⟨HB.out⟩⟩
 case round=>
  clear H';try clear c1
  obtain⟨Xk,Xd,rfl,HA,HK1,HO_5,HB⟩:=hrel;cases gk with
  |zero=>exact absurd HA.out (by simp[ebbtideref18_Both.l0])
  |succ k1=>
   have H:=HA.out;clear HA;simp only[ebbtideref18_Both.l0] at H;by_cases c3:Xd<(l0.length:Int)
   rotate_left
   ·rw[Yr c3] at H
    have c3b0:decide (Xd<(l0.length:Int))=false:=Yp c3;clear c3;replace H:=Option.bind_eq_some_iff.mp H;obtain⟨t361,A90,H⟩:=H;try dsimp only at H
    have A9:=Ya A90;clear A90;obtain rfl:=Option.some.inj H;obtain⟨Ao10,co10,eo10⟩:=Kd.R_slice HO_5.out;subst eo10;go_wp2_with (first|(go_at_call 28;(with_reducible refine(ebbtideref03_Slots.calls k1 _ _ Xk t361 _ ?side1 ?side2 A9.out).mono ?_);(case side1=>exact(Kd.R_reads' HO_5.out).2.2);(case side2=>exact(Kd.R_reads' HO_5.out).2.1);rintro e w11 ⟨v362,rfl,ho0,hb⟩;have HO363:=Ya (Kd.R_lower (Kd.R_new' ho0 (Kd.R_lt HO_5.out)) (Ye HB.out));replace HO_5:=Ya (Kd.R_elder' HO_5.out (Kd.R_base ho0) hb);replace HB:=Ya (Yg HB.out hb);(try clear hb);(try clear ho0)));repeat(go_quiet (first|(go_at_call 28;(with_reducible refine(ebbtideref03_Slots.calls k1 _ _ Xk t361 _ ?side1 ?side2 A9.out).mono ?_);(case side1=>exact(Kd.R_reads' HO_5.out).2.2);(case side2=>exact(Kd.R_reads' HO_5.out).2.1);rintro e w11 ⟨v362,rfl,ho0,hb⟩;have HO363:=Ya (Kd.R_lower (Kd.R_new' ho0 (Kd.R_lt HO_5.out)) (Ye HB.out));replace HO_5:=Ya (Kd.R_elder' HO_5.out (Kd.R_base ho0) hb);replace HB:=Ya (Yg HB.out hb);(try clear hb);(try clear ho0)));try go_wp2_with (first|(go_at_call 28;(with_reducible refine(ebbtideref03_Slots.calls k1 _ _ Xk t361 _ ?side1 ?side2 A9.out).mono ?_);(case side1=>exact(Kd.R_reads' HO_5.out).2.2);(case side2=>exact(Kd.R_reads' HO_5.out).2.1);rintro e w11 ⟨v362,rfl,ho0,hb⟩;have HO363:=Ya (Kd.R_lower (Kd.R_new' ho0 (Kd.R_lt HO_5.out)) (Ye HB.out));replace HO_5:=Ya (Kd.R_elder' HO_5.out (Kd.R_base ho0) hb);replace HB:=Ya (Yg HB.out hb);(try clear hb);(try clear hb2);(try clear hk);(try clear hi);(try clear ho0))))
    go_ret;exact⟨_,by first|rfl|(simp[errW_none,errW_some]<;>rfl)|(simp[*,errW_none,errW_some]<;>rfl),by(with_reducible repeat(first|apply Kd.R_alloc|apply Kd.R_drewN|apply Yl));exact Kd.R_mono HO363.out (fun _ hk=>trivial),HB.out⟩
   rw[Yq c3] at H;have c3b0:decide (Xd<(l0.length:Int))=true:=Yo c3;clear c3;by_cases c4:0≤Xd
   rotate_left
   ·rw[Yr c4] at H
    exact absurd H (by simp)
   rw[Yq c4] at H;have c4b0:decide (0≤Xd)=true:=Yo c4;clear c4;replace H:=Option.bind_eq_some_iff.mp H;obtain⟨t356,A50,H⟩:=H;try dsimp only at H
   have A5:=Ya A50;clear A50;by_cases c6:t356=true
   rotate_left
   ·replace c6:=Bool.eq_false_iff.mpr c6
    subst c6;rw[Yr (show ¬ (false=true) by decide)] at H;have H':=Ya H;clear H;have p354:0≤(Xd:Int):=od;have q354:Xd<(l0.length:Int):=od;obtain⟨Jg,e354,Un,Uo⟩:=at_T53 HR0.out Xd p354 q354;cases e354;replace Un:=hc HB Un;replace Uo:=hc HB Uo;replace p354:=eq_true p354;replace q354:=eq_true q354;have p355:0≤(Xd:Int):=od;have q355:Xd<(l0.length:Int):=od;obtain⟨ad355,e355,Up,Uq⟩:=at_T53 HR0.out Xd p355 q355;obtain rfl:Jg=ad355:=(by injection e355);replace Up:=hc HB Up;replace Uq:=hc HB Uq;replace p355:=eq_true p355;replace q355:=eq_true q355;go_wp2_with (first|(go_at_call 27;(with_reducible refine(ebbtideref18_Has.calls k1 _ _ l1 ((rd_T53 l0 Xd).f0) ((rd_T53 l0 Xd).f1) false _ ?side1 ?side2 A5.out).mono ?_);(case side1=>exact(Yn HR1.out HB.out));(case side2=>exact HC1.out);rintro e w' ⟨rfl,⟨nd,rfl⟩⟩;(try first|exact⟨rfl,_,World.drewN_drewN _ _ _⟩|exact⟨rfl,_,Eq.trans (World.drewN_drewN _ _ _) (congrArg (World.drewN _) (Nat.add_assoc _ _ _))⟩)));repeat(go_quiet (first|(go_at_call 27;(with_reducible refine(ebbtideref18_Has.calls k1 _ _ l1 ((rd_T53 l0 Xd).f0) ((rd_T53 l0 Xd).f1) false _ ?side1 ?side2 A5.out).mono ?_);(case side1=>exact kC (Yn HR1.out HB.out));(case side2=>exact HC1.out);rintro e w' ⟨rfl,⟨nd,rfl⟩⟩;(try first|exact⟨rfl,_,World.drewN_drewN _ _ _⟩|exact⟨rfl,_,Eq.trans (World.drewN_drewN _ _ _) (congrArg (World.drewN _) (Nat.add_assoc _ _ _))⟩)));try go_wp2_with (first|(go_at_call 27;(with_reducible refine(ebbtideref18_Has.calls k1 _ _ l1 ((rd_T53 l0 Xd).f0) ((rd_T53 l0 Xd).f1) false _ ?side1 ?side2 A5.out).mono ?_);(case side1=>exact kC (Yn HR1.out HB.out));(case side2=>exact HC1.out);rintro e w' ⟨rfl,⟨nd,rfl⟩⟩;(try first|exact⟨rfl,_,World.drewN_drewN _ _ _⟩|exact⟨rfl,_,Eq.trans (World.drewN_drewN _ _ _) (congrArg (World.drewN _) (Nat.add_assoc _ _ _))⟩))))
    go_roundg k1
    case measure=>have:=HK1.out;omega
    case rel=>exact⟨(Xk),(wrap64 (Xd+1)),(by first|rfl|(simp;done)|(simp[*];done)),H',⟨by have:=HK1.out;omega⟩,⟨kR HO_5⟩,⟨bl⟩⟩
   subst c6;first|rw[Yq rfl] at H|rw[Yq trivial] at H
   by_cases c7:Xk.length<8796093022208
   rotate_left
   ·rw[Yr c7] at H
    exact absurd H (by simp)
   rw[Yq c7] at H;have LMc7:=Ya c7;clear c7;obtain⟨y358,hy358⟩: ∃ y_:List (S53),y_=(Xk ++ [(⟨(rd_T53 l0 Xd).f0,(rd_T53 l0 Xd).f1⟩:S53)]):=⟨_,rfl⟩;rw[← hy358] at H;have Ny358:=Ya hy358;clear hy358;have H':=Ya H;clear H;have p354:0≤(Xd:Int):=od;have q354:Xd<(l0.length:Int):=od;obtain⟨Jg,e354,Un,Uo⟩:=at_T53 HR0.out Xd p354 q354;cases e354;replace Un:=hc HB Un;replace Uo:=hc HB Uo;replace p354:=eq_true p354;replace q354:=eq_true q354;have p355:0≤(Xd:Int):=od;have q355:Xd<(l0.length:Int):=od;obtain⟨ad355,e355,Up,Uq⟩:=at_T53 HR0.out Xd p355 q355;obtain rfl:Jg=ad355:=(by injection e355);replace Up:=hc HB Up;replace Uq:=hc HB Uq;replace p355:=eq_true p355;replace q355:=eq_true q355;go_wp2_with (first|(go_at_call 27;(with_reducible refine(ebbtideref18_Has.calls k1 _ _ l1 ((rd_T53 l0 Xd).f0) ((rd_T53 l0 Xd).f1) true _ ?side1 ?side2 A5.out).mono ?_);(case side1=>exact kC (Yn HR1.out HB.out));(case side2=>exact HC1.out);rintro e w' ⟨rfl,⟨nd,rfl⟩⟩;(try first|exact⟨rfl,_,World.drewN_drewN _ _ _⟩|exact⟨rfl,_,Eq.trans (World.drewN_drewN _ _ _) (congrArg (World.drewN _) (Nat.add_assoc _ _ _))⟩);have p357:0≤(Xd:Int):=od;have q357:Xd<(l0.length:Int):=od;obtain⟨ad357,e357,Vf,Vg⟩:=at_T53 HR0.out Xd p357 q357;obtain rfl:Jg=ad357:=(by injection e357);replace Vf:=hc HB Vf;replace Vg:=hc HB Vg;replace p357:=eq_true p357;replace q357:=eq_true q357)|((with_reducible refine gate_builtin (b:= .append) (xs:= #[.tmp 25, .tmp 30]) rfl ?_);at_builtin;refine Kd.R_append k53 (w0:=w) w.heap.size rfl (.tmp 25) (.tmp 30) 40 53 (.agg #[(.int .i64 0),(.int .i64 0)]) 16 rfl Try.underlying40 info53 rfl (by decide) (by omega) u5 Xk (⟨(rd_T53 l0 Xd).f0,(rd_T53 l0 Xd).f1⟩:S53) [.int .i64 ((rd_T53 l0 Xd).f0), .int .i64 ((rd_T53 l0 Xd).f1)] (fun _=>True) (fun _=>False) rfl rfl ?aP (fun _ hk=>hk.elim) ?aF ?aO ?aB ?aS ?aL ?_;(case aP=>exact k53_mkM _ _ _ (⟨(rd_T53 l0 Xd).f0,(rd_T53 l0 Xd).f1⟩:S53));(case aB=>exact bl);(case aF=>exact(fun _ _=>trivial));(case aO=>exact(kR HO_5));(case aS=>exact(Ye bl));(case aL=>have:=LMc7.out;omega);intro v359 w8 ho hb hg hat;rw[← Ny358.out] at ho;replace HB:=Ya (hb);have HO360:=Ya (ho);clear HO_5;clear ho hb hg hat));repeat(go_quiet (first|(go_at_call 27;(with_reducible refine(ebbtideref18_Has.calls k1 _ _ l1 ((rd_T53 l0 Xd).f0) ((rd_T53 l0 Xd).f1) true _ ?side1 ?side2 A5.out).mono ?_);(case side1=>exact kC (Yn HR1.out HB.out));(case side2=>exact HC1.out);rintro e w' ⟨rfl,⟨nd,rfl⟩⟩;(try first|exact⟨rfl,_,World.drewN_drewN _ _ _⟩|exact⟨rfl,_,Eq.trans (World.drewN_drewN _ _ _) (congrArg (World.drewN _) (Nat.add_assoc _ _ _))⟩);have p357:0≤(Xd:Int):=od;have q357:Xd<(l0.length:Int):=od;obtain⟨ad357,e357,Vf,Vg⟩:=at_T53 HR0.out Xd p357 q357;obtain rfl:Jg=ad357:=(by injection e357);replace Vf:=hc HB Vf;replace Vg:=hc HB Vg;replace p357:=eq_true p357;replace q357:=eq_true q357)|((with_reducible refine gate_builtin (b:= .append) (xs:= #[.tmp 25, .tmp 30]) rfl ?_);at_builtin;refine Kd.R_append k53 (w0:=w) w.heap.size rfl (.tmp 25) (.tmp 30) 40 53 (.agg #[(.int .i64 0),(.int .i64 0)]) 16 rfl Try.underlying40 info53 rfl (by decide) (by omega) u5 Xk (⟨(rd_T53 l0 Xd).f0,(rd_T53 l0 Xd).f1⟩:S53) [.int .i64 ((rd_T53 l0 Xd).f0), .int .i64 ((rd_T53 l0 Xd).f1)] (fun _=>True) (fun _=>False) rfl rfl ?aP (fun _ hk=>hk.elim) ?aF ?aO ?aB ?aS ?aL ?_;(case aP=>exact k53_mkM _ _ _ (⟨(rd_T53 l0 Xd).f0,(rd_T53 l0 Xd).f1⟩:S53));(case aB=>exact bl);(case aF=>exact(fun _ _=>trivial));(case aO=>exact(kR HO_5));(case aS=>exact(Ye bl));(case aL=>have:=LMc7.out;omega);intro v359 w8 ho hb hg hat;rw[← Ny358.out] at ho;replace HB:=Ya (hb);have HO360:=Ya (ho);clear HO_5;clear ho hb hg hat));try go_wp2_with (first|(go_at_call 27;(with_reducible refine(ebbtideref18_Has.calls k1 _ _ l1 ((rd_T53 l0 Xd).f0) ((rd_T53 l0 Xd).f1) true _ ?side1 ?side2 A5.out).mono ?_);(case side1=>exact kC (Yn HR1.out HB.out));(case side2=>exact HC1.out);rintro e w' ⟨rfl,⟨nd,rfl⟩⟩;(try first|exact⟨rfl,_,World.drewN_drewN _ _ _⟩|exact⟨rfl,_,Eq.trans (World.drewN_drewN _ _ _) (congrArg (World.drewN _) (Nat.add_assoc _ _ _))⟩);have p357:0≤(Xd:Int):=od;have q357:Xd<(l0.length:Int):=od;obtain⟨ad357,e357,Vf,Vg⟩:=at_T53 HR0.out Xd p357 q357;obtain rfl:Jg=ad357:=(by injection e357);replace Vf:=hc HB Vf;replace Vg:=hc HB Vg;replace p357:=eq_true p357;replace q357:=eq_true q357)|((with_reducible refine gate_builtin (b:= .append) (xs:= #[.tmp 25, .tmp 30]) rfl ?_);at_builtin;refine Kd.R_append k53 (w0:=w) w.heap.size rfl (.tmp 25) (.tmp 30) 40 53 (.agg #[(.int .i64 0),(.int .i64 0)]) 16 rfl Try.underlying40 info53 rfl (by decide) (by omega) u5 Xk (⟨(rd_T53 l0 Xd).f0,(rd_T53 l0 Xd).f1⟩:S53) [.int .i64 ((rd_T53 l0 Xd).f0), .int .i64 ((rd_T53 l0 Xd).f1)] (fun _=>True) (fun _=>False) rfl rfl ?aP (fun _ hk=>hk.elim) ?aF ?aO ?aB ?aS ?aL ?_;(case aP=>exact k53_mkM _ _ _ (⟨(rd_T53 l0 Xd).f0,(rd_T53 l0 Xd).f1⟩:S53));(case aB=>exact bl);(case aF=>exact(fun _ _=>trivial));(case aO=>exact(kR HO_5));(case aS=>exact(Ye bl));(case aL=>have:=LMc7.out;omega);intro v359 w8 ho hb hg hat;rw[← Ny358.out] at ho;replace HB:=Ya (hb);have HO360:=Ya (ho);clear HO_5;clear ho hb hg hat)))
   go_roundg k1
   case measure=>have:=HK1.out;omega
   case rel=>exact⟨(y358),(wrap64 (Xd+1)),(by first|rfl|(simp;done)|(simp[*];done)),H',⟨by have:=HK1.out;omega⟩,⟨HO360.out⟩,⟨HB.out⟩⟩
end P
namespace P
attribute [local go_sem] max2_int min2_int max_two min_two max_three min_three max_four min_four
def ebbtideref18_Any.f (k:Nat) (l0:List (S53)) (l1:List (S53)):Option ((List (S53))):=if ([]:List (S53)).length+l0.length<8796093022208 then((some (([]:List (S53)) ++ l0:List (S53))).bind fun y364=>(if y364.length+l1.length<8796093022208 then((ebbtideref03_Slots.f k (y364 ++ l1)).bind fun t370=>(some t370)) else(none))) else(none)
set_option maxHeartbeats 8000000 in
set_option maxRecDepth 100000 in
theorem ebbtideref18_Any.calls (k:Nat) (A0:Option Addr) (c0:Nat) (l0:List (S53)) (A1:Option Addr) (c1:Nat) (l1:List (S53)) (r:List (S53)) (w:World) (hr0:Kd.C k53 w A0 l0.length l0) (hc0:l0.length≤c0) (hr1:Kd.C k53 w A1 l1.length l1) (hc1:l1.length≤c1) (h:ebbtideref18_Any.f k l0 l1=some r):
  Calls Try.prog 14 #[.slice A0 l0.length c0, .slice A1 l1.length c1] w fun e w'=> ∃ v0_:Value,e= .returned (v0_)∧Kd.R k53 53 w' w.heap.size (fun _=>True) v0_ r∧Below w.heap.size w w':=by
 have HR0:=Ya hr0;have HC0:=Ya hc0;clear hr0 hc0;have HR1:=Ya hr1;have HC1:=Ya hc1;clear hr1 hc1;have HB:=Ya (Yk w.heap.size w);have H:=h;unfold ebbtideref18_Any.f at H;clear h;by_cases c3:([]:List (S53)).length+l0.length<8796093022208
 rotate_left
 ·rw[Yr c3] at H
  exact absurd H (by simp)
 rw[Yq c3] at H;have LMc3:=Ya c3;clear c3;obtain⟨y364,hy364⟩: ∃ y_:List (S53),y_=(([]:List (S53)) ++ l0):=⟨_,rfl⟩;rw[Option.bind_some, ← hy364] at H;have Ny364:=Ya hy364;clear hy364;by_cases c4:y364.length+l1.length<8796093022208
 rotate_left
 ·rw[Yr c4] at H
  exact absurd H (by simp)
 rw[Yq c4] at H;have LMc4:=Ya c4;clear c4;obtain⟨y367,hy367⟩: ∃ y_:List (S53),y_=(y364 ++ l1):=⟨_,rfl⟩;rw[← hy367] at H;have Ny367:=Ya hy367;clear hy367;replace H:=Option.bind_eq_some_iff.mp H;obtain⟨t370,A50,H⟩:=H;try dsimp only at H
 have A5:=Ya A50;clear A50;obtain rfl:=Option.some.inj H;go_enter Try.func14,Try.ntmps14;go_wp2_with (first|((with_reducible refine gate_builtin (b:= .append) (xs:= #[.tmp 6, .tmp 7]) rfl ?_);at_builtin;refine Kd.R_append_rows k53 (w0:=w) w.heap.size rfl (.tmp 6) (.tmp 7) 40 53 (.agg #[(.int .i64 0),(.int .i64 0)]) 16 rfl Try.underlying40 info53 rfl (by decide) (by omega) (.slice none 0 0) ([]:List (S53)) l0 _ _ _ (fun _=>True) (fun _=>False) rfl rfl ?aO ?aR (fun _ _ h=>h) (fun _ h=>h.elim) ?aF ?aB ?aS ?aL ?_;(case aR=>repeat(first|exact HR0.out|(with_reducible refine Kd.C_alloc ?_ _)|(with_reducible refine Kd.C_drewN ?_ _)|(with_reducible refine Kd.C_drew ?_)));(case aB=>exact bl);(case aF=>exact(fun _ _=>trivial));(case aO=>exact((Kd.R_nil _ _ _ _ (fun _=>True))));(case aS=>exact(Ye bl));(case aL=>have:=LMc3.out;omega);intro v365 w6 ho hb hg hat;rw[← Ny364.out] at ho;replace HB:=Ya (hb);have HO366:=Ya (ho);clear ho hb hg hat)|((with_reducible refine gate_builtin (b:= .append) (xs:= #[.tmp 9, .tmp 10]) rfl ?_);at_builtin;refine Kd.R_append_rows k53 (w0:=w) w.heap.size rfl (.tmp 9) (.tmp 10) 40 53 (.agg #[(.int .i64 0),(.int .i64 0)]) 16 rfl Try.underlying40 info53 rfl (by decide) (by omega) v365 y364 l1 _ _ _ (fun _=>True) (fun _=>False) rfl rfl ?aO ?aR (fun _ _ h=>h) (fun _ h=>h.elim) ?aF ?aB ?aS ?aL ?_;(case aR=>repeat(first|exact(Yn HR1.out HB.out)|(with_reducible refine Kd.C_alloc ?_ _)|(with_reducible refine Kd.C_drewN ?_ _)|(with_reducible refine Kd.C_drew ?_)));(case aB=>exact bl);(case aF=>exact(fun _ _=>trivial));(case aO=>exact(kR HO366));(case aS=>exact(Ye bl));(case aL=>have:=LMc4.out;omega);intro v368 w7 ho hb hg hat;rw[← Ny367.out] at ho;replace HB:=Ya (hb);have Jh:=Ya (ho);clear HO366;clear ho hb hg hat;obtain⟨Ao8,co8,eo8⟩:=Kd.R_slice Jh.out;subst eo8)|((with_reducible refine gate_callee (f:=28) rfl ?_);refine gl (some 13) Try.func28 #[.slice Ao8 y367.length co8] ?_;(with_reducible refine(ebbtideref03_Slots.calls k _ _ y367 t370 _ ?side1 ?side2 A5.out).mono ?_);(case side1=>exact kC (Kd.R_reads' Jh.out).2.2);(case side2=>exact(Kd.R_reads' Jh.out).2.1);rintro e w9 ⟨v371,rfl,ho0,hb⟩;refine⟨_,rfl,?_⟩;have HO372:=Ya (Kd.R_lower (Kd.R_new' ho0 (Kd.R_lt (kR Jh))) (Ye bl));replace Jh:=Ya (Kd.R_elder' (kR Jh) (Kd.R_base ho0) hb);replace HB:=Ya (Yg bl hb);(try clear hb);(try clear ho0)));go_ret;exact⟨_,by first|rfl|(simp[errW_none,errW_some]<;>rfl)|(simp[*,errW_none,errW_some]<;>rfl),by(with_reducible repeat(first|apply Kd.R_alloc|apply Kd.R_drewN|apply Yl));exact Kd.R_mono HO372.out (fun _ hk=>trivial),bl⟩
end P
namespace P
attribute [local go_sem] max2_int min2_int max_two min_two max_three min_three max_four min_four
def ebbtidelaw18_TimecutMeets.f (k:Nat) (Zb:Int) (Zg:Bool) (Za:List (S77)) (Wz:Int) (Va:Int) (Vb:Int) (l1:List Int) (l2:List Int):Option (Bool):=(ebbtidelaw18_awake.f k).bind fun t374=>(if t374=true then((ebbtidelaw12_Read.f k Zb Zg Za Wz Va Vb 10).bind fun bt375=>((ebbtidelaw18_Made.f k bt375.1 bt375.2.1 bt375.2.2.1 bt375.2.2.2.1 bt375.2.2.2.2.1 bt375.2.2.2.2.2 l1).bind fun t384=>((ebbtidelaw18_Made.f k bt375.1 bt375.2.1 bt375.2.2.1 bt375.2.2.2.1 bt375.2.2.2.2.1 bt375.2.2.2.2.2 l2).bind fun t387=>((timecut_Check.f bt375.1 bt375.2.1 bt375.2.2.1 bt375.2.2.2.1 bt375.2.2.2.2.1 bt375.2.2.2.2.2 t384).bind fun bt390=>((timecut_Check.f bt375.1 bt375.2.1 bt375.2.2.1 bt375.2.2.2.1 bt375.2.2.2.2.1 bt375.2.2.2.2.2 t387).bind fun bt392=>((ebbtideref18_Both.f k t384 t387).bind fun t394=>((timecut_Check.f bt375.1 bt375.2.1 bt375.2.2.1 bt375.2.2.2.1 bt375.2.2.2.2.1 bt375.2.2.2.2.2 t394).bind fun bt397=>((ebbtideref18_Any.f k t384 t387).bind fun t399=>((timecut_Check.f bt375.1 bt375.2.1 bt375.2.2.1 bt375.2.2.2.1 bt375.2.2.2.2.1 bt375.2.2.2.2.2 t399).bind fun bt402=>(if bt390.2=0 then(if bt392.2=0 then(if bt397.2=0 then(if bt402.2=0 then(some (decide ((wrap64 (bt397.1+bt402.1))≤(wrap64 (bt390.1+bt392.1))))) else(some false)) else(some false)) else(some false)) else(some false))))))))))) else(some false))
def ebbtidelaw18_TimecutMeets.T5:Bool × List (List Nat × List Nat):=(true,[([],[]),([],[]),([],[]),([],[]),([],[]),([0,1,2,3,4],[0,1,2,3,4]),([],[]),([],[]),([],[]),([],[]),([],[]),([6,7,8,9,10,5],[6,7,8,9,10]),([5,11,0,1,2,3,4,5],[5]),([11,12,0,1,2,3,4,5,6,7,8,9,10,11,12],[11])])
def ebbtidelaw18_TimecutMeets.B5:List Nat:=[0,0,0,0,0,31,0,0,0,0,0,2047,4095,8191]
theorem ebbtidelaw18_TimecutMeets.tab5:rtab .any (opsOf Try.f5 5)=ebbtidelaw18_TimecutMeets.T5:=by kernel_rfl
theorem ebbtidelaw18_TimecutMeets.bits5:waitsOk ebbtidelaw18_TimecutMeets.T5.2 ebbtidelaw18_TimecutMeets.B5=true:=by kernel_rfl
def ebbtidelaw18_TimecutMeets.T8:Bool × List (List Nat × List Nat):=(true,[([],[]),([],[]),([],[]),([],[]),([],[]),([],[]),([4,5],[4,5]),([0,1,2,3,6,6],[0,1,2,3,6]),([7],[7]),([8],[8]),([8],[8]),([9,7,0,1,2,3,4,5,6,7,8,9],[9]),([10,11,0,1,2,3,4,5,6,7,8,9,10,11],[10])])
def ebbtidelaw18_TimecutMeets.B8:List Nat:=[0,0,0,0,0,0,48,127,255,511,511,1023,4095]
theorem ebbtidelaw18_TimecutMeets.tab8:rtab .any (opsOf Try.f5 8)=ebbtidelaw18_TimecutMeets.T8:=by kernel_rfl
theorem ebbtidelaw18_TimecutMeets.bits8:waitsOk ebbtidelaw18_TimecutMeets.T8.2 ebbtidelaw18_TimecutMeets.B8=true:=by kernel_rfl
def ebbtidelaw18_TimecutMeets.T9:Bool × List (List Nat × List Nat):=(true,[([],[]),([],[]),([],[]),([],[]),([],[]),([],[]),([4,5],[4,5]),([0,1,2,3,6,6],[0,1,2,3,6]),([7],[7]),([8],[8]),([8],[8]),([9,7,0,1,2,3,4,5,6,7,8,9],[9]),([10,11,0,1,2,3,4,5,6,7,8,9,10,11],[10])])
def ebbtidelaw18_TimecutMeets.B9:List Nat:=[0,0,0,0,0,0,48,127,255,511,511,1023,4095]
theorem ebbtidelaw18_TimecutMeets.tab9:rtab .any (opsOf Try.f5 9)=ebbtidelaw18_TimecutMeets.T9:=by kernel_rfl
theorem ebbtidelaw18_TimecutMeets.bits9:waitsOk ebbtidelaw18_TimecutMeets.T9.2 ebbtidelaw18_TimecutMeets.B9=true:=by kernel_rfl
set_option maxHeartbeats 8000000 in
set_option maxRecDepth 100000 in
theorem ebbtidelaw18_TimecutMeets.calls (k:Nat) (Zb:Int) (Zg:Bool) (Zp:Option Addr) (Zn:Nat) (Za:List (S77)) (Wz:Int) (Va:Int) (Vb:Int) (A1:Option Addr) (c1:Nat) (l1:List Int) (A2:Option Addr) (c2:Nat) (l2:List Int) (r:Bool) (w:World) (Wi:Kd.C k77 w Zp Za.length Za) (Wj:Za.length≤Zn) (hr1:Kd.C (Kd.int .u16) w A1 l1.length l1) (hc1:l1.length≤c1) (hr2:Kd.C (Kd.int .u16) w A2 l2.length l2) (hc2:l2.length≤c2) (h:ebbtidelaw18_TimecutMeets.f k Zb Zg Za Wz Va Vb l1 l2=some r) (hrT_:r=true:=by first|rfl|exact Aside0.out (by assumption)):
  Calls Try.prog 5 #[.agg #[.int .u8 Zb, .bool Zg, .slice Zp Za.length Zn, .int .u8 Wz, .int .u8 Va, .int .u8 Vb], .slice A1 l1.length c1, .slice A2 l2.length c2] w fun e w'=>e= .returned (.bool r)∧Below w.heap.size w w':=by
 have HRT:=Ya hrT_;clear hrT_;have hu24:=Try.underlying24;have hu32:=Try.underlying32;have Wl:=Ya Wi;have Ws:=Ya Wj;clear Wi Wj;have HR1:=Ya hr1;have HC1:=Ya hc1;clear hr1 hc1;have HR2:=Ya hr2;have HC2:=Ya hc2;clear hr2 hc2;have HB:=Ya (Yk w.heap.size w);have H:=h;unfold ebbtidelaw18_TimecutMeets.f at H;clear h;replace H:=Option.bind_eq_some_iff.mp H;obtain⟨t374,A40,H⟩:=H;try dsimp only at H
 have A4:=Ya A40;clear A40;by_cases c5:t374=true
 rotate_left
 ·replace c5:=Bool.eq_false_iff.mpr c5
  subst c5;have H1:(some false)=some r:=by rw[Yr (show ¬ (false=true) by decide)] at H;exact H
  exact absurd (Option.some.inj H1) (by rw[HRT.out];decide)
 subst c5;first|rw[Yq rfl] at H|rw[Yq trivial] at H
 replace H:=Option.bind_eq_some_iff.mp H;obtain⟨⟨t375,t376,t377,t380,t381,t382⟩,A60,H⟩:=H;try dsimp only at H
 have A6:=Ya A60;clear A60;replace H:=Option.bind_eq_some_iff.mp H;obtain⟨t384,A70,H⟩:=H;try dsimp only at H
 have A7:=Ya A70;clear A70;replace H:=Option.bind_eq_some_iff.mp H;obtain⟨t387,A80,H⟩:=H;try dsimp only at H
 have A8:=Ya A80;clear A80;replace H:=Option.bind_eq_some_iff.mp H;obtain⟨⟨t390,t391⟩,A90,H⟩:=H;try dsimp only at H
 have A9:=Ya A90;clear A90;replace H:=Option.bind_eq_some_iff.mp H;obtain⟨⟨t392,t393⟩,A100,H⟩:=H;try dsimp only at H
 have A10:=Ya A100;clear A100;replace H:=Option.bind_eq_some_iff.mp H;obtain⟨t394,A110,H⟩:=H;try dsimp only at H
 have A11:=Ya A110;clear A110;replace H:=Option.bind_eq_some_iff.mp H;obtain⟨⟨t397,t398⟩,A120,H⟩:=H;try dsimp only at H
 have A12:=Ya A120;clear A120;replace H:=Option.bind_eq_some_iff.mp H;obtain⟨t399,A130,H⟩:=H;try dsimp only at H
 have A13:=Ya A130;clear A130;replace H:=Option.bind_eq_some_iff.mp H;obtain⟨⟨t402,t403⟩,A140,H⟩:=H;try dsimp only at H
 have A14:=Ya A140;clear A140;by_cases c15:t391=0
 rotate_left
 ·rw[Yr c15] at H
  exact absurd (Option.some.inj H) (by rw[HRT.out];decide)
 rw[Yq c15] at H;have c15b0:(t391 == 0)=true:=beq_iff_eq.mpr c15;have c15b1:(t391 != 0)=false:=bne_eq_false_iff_eq.mpr c15;clear c15;by_cases c16:t393=0
 rotate_left
 ·rw[Yr c16] at H
  exact absurd (Option.some.inj H) (by rw[HRT.out];decide)
 rw[Yq c16] at H;have c16b0:(t393 == 0)=true:=beq_iff_eq.mpr c16;have c16b1:(t393 != 0)=false:=bne_eq_false_iff_eq.mpr c16;clear c16;by_cases c17:t398=0
 rotate_left
 ·rw[Yr c17] at H
  exact absurd (Option.some.inj H) (by rw[HRT.out];decide)
 rw[Yq c17] at H;have c17b0:(t398 == 0)=true:=beq_iff_eq.mpr c17;have c17b1:(t398 != 0)=false:=bne_eq_false_iff_eq.mpr c17;clear c17;by_cases c18:t403=0
 rotate_left
 ·rw[Yr c18] at H
  exact absurd (Option.some.inj H) (by rw[HRT.out];decide)
 rw[Yq c18] at H;have c18b0:(t403 == 0)=true:=beq_iff_eq.mpr c18;have c18b1:(t403 != 0)=false:=bne_eq_false_iff_eq.mpr c18;clear c18;obtain rfl:=Option.some.inj H;go_enter Try.func5,Try.ntmps5;try go_wp2_with (first|(refine bx 3 24 #[.int .u8 Zb, .bool Zg, .slice Zp Za.length Zn, .int .u8 Wz, .int .u8 Va, .int .u8 Vb] ?_;intro Ur hg w19 Zv hb;have Zx:=Ya (Zv);have GW373:=Ya ((sz hg));have GE373:=Ya ((sz hg));replace HB:=Ya (Yg bl hb);clear hb Zv hg)|((with_reducible refine gate_callee (f:=7) rfl ?_);refine gl (some 22) Try.func7 #[] ?_;(with_reducible refine(ebbtidelaw18_awake.calls k  true _ A4.out).mono ?_);rintro e w20 ⟨rfl,hb⟩;refine⟨_,rfl,?_⟩;replace Zx:=Ya (Yj (bk Zx) hb);replace HB:=Ya (Yg bl hb);(try clear hb);have hcz21_0:w20.cell? ⟨Ur,0,none⟩=some (.int .u8 Zb):=bc Zx 0;have hcz21_1:w20.cell? ⟨Ur,1,none⟩=some (.bool Zg):=bc Zx 1;have hcz21_2:w20.cell? ⟨Ur,2,none⟩=some (.slice Zp Za.length Zn):=bc Zx 2;have hcz21_3:w20.cell? ⟨Ur,3,none⟩=some (.int .u8 Wz):=bc Zx 3;have hcz21_4:w20.cell? ⟨Ur,4,none⟩=some (.int .u8 Va):=bc Zx 4;have hcz21_5:w20.cell? ⟨Ur,5,none⟩=some (.int .u8 Vb):=bc Zx 5;have hfz21_0:=Yc Zx.out 0;have hfz21_1:=Yc Zx.out 1;have hfz21_2:=Yc Zx.out 2;have hfz21_3:=Yc Zx.out 3;have hfz21_4:=Yc Zx.out 4;have hfz21_5:=Yc Zx.out 5)|((with_reducible refine gate_callee (f:=12) rfl ?_);refine gl (some 27) Try.func12 #[.agg #[.int .u8 Zb, .bool Zg, .slice Zp Za.length Zn, .int .u8 Wz, .int .u8 Va, .int .u8 Vb], .int .i64 10] ?_;(with_reducible refine(ebbtidelaw12_Read.calls k Zb Zg _ _ Za Wz Va Vb 10 t375 t376 t377 t380 t381 t382 _ ?side1 ?side2 A6.out).mono ?_);(case side1=>exact kC (Yn Wl.out HB.out));(case side2=>exact Ws.out);rintro e w22 ⟨v378,rfl,ho0,hb⟩;refine⟨_,rfl,?_⟩;have Xc:=Ya (Kd.R_lower ho0 (Ye bl));replace Zx:=Ya (Yj (bk Zx) hb);replace HB:=Ya (Yg bl hb);(try clear hb);(try clear hb2);(try clear hk);(try clear hi);(try clear ho0))|(refine bx 8 32 #[.int .i64 0, .bool false, .slice none 0 0] ?_;intro Xe hg w23 Zv hb;replace Xc:=Ya (Ym (kR Xc) hb);have Zl:=Ya (Zv);have GW383:=Ya ((sz hg));have GE383:=Ya ((sz hg));replace HB:=Ya (Yg bl hb);have Uc:=Ya (by rw[hg];exact Nat.ne_of_lt (blk_lt (bk Zx)):Ur≠Xe);have NB383_373:=Ya (by rw[hg];exact Nat.ne_of_gt (blk_lt (bk Zx)):Xe≠Ur);replace Zx:=Ya (Yj (bk Zx) hb);clear hb Zv hg;have hnb24:=NB383_373.out;have hnc24:=Uc.out;have Uu:w23.cell? ⟨Xe,0,none⟩=some (.int .i64 0):=bc Zl 0;have Uv:w23.cell? ⟨Xe,1,none⟩=some (.bool false):=bc Zl 1;have Uw:w23.cell? ⟨Xe,2,none⟩=some (.slice none 0 0):=bc Zl 2;have Ux:=Yc Zl.out 0;have Uy:=Yc Zl.out 1;have Uz:=Yc Zl.out 2;obtain⟨Vh,Vi,eo26⟩:=Kd.R_slice Xc.out;subst eo26))
 have n0_:Aside0 (Kd.R k73 73 (((w23.setCell ⟨Xe,0,none⟩ (.int .i64 t375)).setCell ⟨Xe,1,none⟩ (.bool t376)).setCell ⟨Xe,2,none⟩ (.slice Vh t377.length Vi)) w.heap.size (fun _=>True) (.slice Vh t377.length Vi) t377):=⟨by(with_reducible repeat(first|apply Kd.R_alloc|apply Kd.R_drewN|apply Yl));exact Kd.R_mono (Kd.R_far (p:=⟨Xe,2,none⟩) (Kd.R_far (p:=⟨Xe,1,none⟩) (Kd.R_far (p:=⟨Xe,0,none⟩) (Kd.R_types Xc.out Zl.out (by decide)) (fun _ hk=>hk.2) (.int .i64 t375)) (fun _ hk=>hk.2) (.bool t376)) (fun _ hk=>hk.2) (.slice Vh t377.length Vi)) (fun _ hk=>trivial)⟩;have n1_:Aside0 ((((w23.setCell ⟨Xe,0,none⟩ (.int .i64 t375)).setCell ⟨Xe,1,none⟩ (.bool t376)).setCell ⟨Xe,2,none⟩ (.slice Vh t377.length Vi)).heap[Ur]? =some (.cells #[.int .u8 Zb, .bool Zg, .slice Zp Za.length Zn, .int .u8 Wz, .int .u8 Va, .int .u8 Vb] 24 (0,0))):=⟨by(with_reducible repeat(first|refine Yh ?_ _|refine Yi ?_|refine Yf ?_ _));refine blk_far ?_ Uc.out _;(with_reducible repeat(first|refine Yh ?_ _|refine Yi ?_|refine Yf ?_ _));refine blk_far ?_ Uc.out _;(with_reducible repeat(first|refine Yh ?_ _|refine Yi ?_|refine Yf ?_ _));refine blk_far ?_ Uc.out _;(with_reducible repeat(first|refine Yh ?_ _|refine Yi ?_|refine Yf ?_ _));exact Zx.out⟩;have n2_:Aside0 ((((w23.setCell ⟨Xe,0,none⟩ (.int .i64 t375)).setCell ⟨Xe,1,none⟩ (.bool t376)).setCell ⟨Xe,2,none⟩ (.slice Vh t377.length Vi)).heap[Xe]? =some (.cells #[.int .i64 t375, .bool t376, .slice Vh t377.length Vi] 32 (0,0))):=⟨by(with_reducible repeat(first|refine Yh ?_ _|refine Yi ?_|refine Yf ?_ _));refine Ys (cs:= #[.int .i64 t375, .bool t376, .slice none 0 0]) ?_ 2 _ rfl;(with_reducible repeat(first|refine Yh ?_ _|refine Yi ?_|refine Yf ?_ _));refine Ys (cs:= #[.int .i64 t375, .bool false, .slice none 0 0]) ?_ 1 _ rfl;(with_reducible repeat(first|refine Yh ?_ _|refine Yi ?_|refine Yf ?_ _));refine Ys (cs:= #[.int .i64 0, .bool false, .slice none 0 0]) ?_ 0 _ rfl;(with_reducible repeat(first|refine Yh ?_ _|refine Yi ?_|refine Yf ?_ _));exact Zl.out⟩;have n3_:Aside0 (Below w.heap.size w (((w23.setCell ⟨Xe,0,none⟩ (.int .i64 t375)).setCell ⟨Xe,1,none⟩ (.bool t376)).setCell ⟨Xe,2,none⟩ (.slice Vh t377.length Vi))):=⟨bl⟩
 (try clear Xc)
 (try clear Zx)
 (try clear Zl)
 (try clear HB)
 generalize (((w23.setCell ⟨Xe,0,none⟩ (.int .i64 t375)).setCell ⟨Xe,1,none⟩ (.bool t376)).setCell ⟨Xe,2,none⟩ (.slice Vh t377.length Vi))=w27 at n0_ n1_ n2_ n3_ ⊢;have Xc:=n0_;have Zx:=n1_;have Zl:=n2_;have HB:=n3_;clear n0_ n1_ n2_ n3_;replace Xc:=Ya (Yl Xc.out);replace Zx:=Ya (Yi Zx.out);replace Zl:=Ya (Yi Zl.out);replace HB:=Ya (Yd HB.out);refine start_ (n:=14) (S:=fun w'=>w'.cell? ⟨Xe,0,none⟩=some (.int .i64 t375)∧w'.cell? ⟨Xe,1,none⟩=some (.bool t376)∧w'.cell? ⟨Xe,2,none⟩=some (.slice Vh t377.length Vi)) (ds:=[]) #[false,false,false,false,false,false,false,false,false,false,false,false,false,false] (by kernel_rfl) rfl rfl ⟨(Yb Zl.out 0).trans rfl,(Yb Zl.out 1).trans rfl,(Yb Zl.out 2).trans rfl⟩ (fun hHeld=> ?_);refine with_tabW ebbtidelaw18_TimecutMeets.tab5 ebbtidelaw18_TimecutMeets.bits5 (fun HT_ HW_=> ?_);generalize w27.drew=w28 at Xc Zx Zl HB hHeld ⊢;refine pu 1 33 (bm 14 2) ?_;refine pu 2 34 (bm 14 6) ?_;refine pu 3 35 (bm 14 14) ?_;refine pu 4 36 (bm 14 30) ?_;refine pu 7 39 (bm 14 158) ?_;refine pu 8 40 (bm 14 414) ?_;refine pu 9 41 (bm 14 926) ?_;refine pu 10 42 (bm 14 1950) ?_;refine ta 0 32 (bm 14 1951) hHeld ?_;refine ta 6 38 (bm 14 2015) hHeld ?_;refine on 5 (some 37) (bm 14 2047) fun K hK=> ?_
 refine gs Try.func11 #[.agg #[.int .i64 t375, .bool t376, .slice Vh t377.length Vi], .int .i64 t380, .int .i64 t381, .int .i64 t382, .slice A1 l1.length c1] ?_
 with_reducible refine(ebbtidelaw18_Made.calls k t375 t376 _ _ t377 t380 t381 t382 _ _ l1 t384 _ ?side1 ?side2 ?side3 ?side4 A7.out).mono ?_
 (case side1=>exact(Kd.R_reads' Xc.out).2.2)
 (case side2=>exact(Kd.R_reads' Xc.out).2.1)
 (case side3=>exact(Yn HR1.out HB.out))
 (case side4=>exact HC1.out)
 rintro e w29 ⟨v385,rfl,ho0,hb⟩;refine⟨_,rfl,?_⟩;replace Xc:=Ya (Ym Xc.out hb);have Xo:=Ya (Kd.R_lower ho0 (Ye HB.out));replace Zx:=Ya (Yj Zx.out hb);replace Zl:=Ya (Yj Zl.out hb);replace HB:=Ya (Yg HB.out hb)
 (try clear hb)
 (try clear hb2)
 (try clear hk)
 (try clear hi)
 (try clear ho0)
 refine hK.out _ _ ⟨bc Zl 0,bc Zl 1,bc Zl 2⟩ (fun hHeld=> ?_);clear hK K;refine nm ?_;refine on 11 (some 43) (bm 14 4095) fun K hK=> ?_
 refine gs Try.func11 #[.agg #[.int .i64 t375, .bool t376, .slice Vh t377.length Vi], .int .i64 t380, .int .i64 t381, .int .i64 t382, .slice A2 l2.length c2] ?_
 with_reducible refine(ebbtidelaw18_Made.calls k t375 t376 _ _ t377 t380 t381 t382 _ _ l2 t387 _ ?side1 ?side2 ?side3 ?side4 A8.out).mono ?_
 (case side1=>exact(Kd.R_reads' Xc.out).2.2)
 (case side2=>exact(Kd.R_reads' Xc.out).2.1)
 (case side3=>exact(Yn HR2.out HB.out))
 (case side4=>exact HC2.out)
 rintro e w30 ⟨v388,rfl,ho0,hb⟩;refine⟨_,rfl,?_⟩;replace Xc:=Ya (Ym Xc.out hb);have Xt:=Ya (Kd.R_lower (Kd.R_new' ho0 (Kd.R_lt Xo.out)) (Ye HB.out));replace Xo:=Ya (Kd.R_elder' Xo.out (Kd.R_base ho0) hb);replace Zx:=Ya (Yj Zx.out hb);replace Zl:=Ya (Yj Zl.out hb);replace HB:=Ya (Yg HB.out hb)
 (try clear hb)
 (try clear hb2)
 (try clear hk)
 (try clear hi)
 (try clear ho0)
 refine hK.out _ _ ⟨bc Zl 0,bc Zl 1,bc Zl 2⟩ (fun hHeld=> ?_);clear hK K;refine nm ?_;refine pu 12 12 (bm 14 8191) ?_;refine pu 13 13 (bm 14 16383) ?_;refine done_ (done_of HT_.out (by kernel_rfl)) ?_;have hcz31_0:w30.cell? ⟨Xe,0,none⟩=some (.int .i64 t375):=bc Zl 0;have hcz31_1:w30.cell? ⟨Xe,1,none⟩=some (.bool t376):=bc Zl 1;have hcz31_2:w30.cell? ⟨Xe,2,none⟩=some (.slice Vh t377.length Vi):=bc Zl 2;have hfz31_0:=Yc Zl.out 0;have hfz31_1:=Yc Zl.out 1;have hfz31_2:=Yc Zl.out 2;obtain⟨Ao32,co32,eo32⟩:=Kd.R_slice Xo.out;subst eo32;try go_wp2_with (first|((with_reducible refine gate_callee (f:=10) rfl ?_);refine gl (some 50) Try.func10 #[.agg #[.int .i64 t375, .bool t376, .slice Vh t377.length Vi], .int .i64 t380, .int .i64 t381, .int .i64 t382, .slice Ao32 t384.length co32] ?_;(with_reducible refine(timecut_Check.calls t375 t376 _ _ t377 t380 t381 t382 _ _ t384 t390 t391 _ ?side1 ?side2 ?side3 ?side4 A9.out).mono ?_);(case side1=>exact kC (Kd.R_reads' Xc.out).2.2);(case side2=>exact(Kd.R_reads' Xc.out).2.1);(case side3=>exact kC (Kd.R_reads' Xo.out).2.2);(case side4=>exact(Kd.R_reads' Xo.out).2.1);rintro e w33 ⟨rfl,hb⟩;refine⟨_,rfl,?_⟩;replace Xc:=Ya (Ym (kR Xc) hb);replace Xo:=Ya (Ym (kR Xo) hb);replace Xt:=Ya (Ym (kR Xt) hb);replace Zx:=Ya (Yj (bk Zx) hb);replace Zl:=Ya (Yj (bk Zl) hb);replace HB:=Ya (Yg bl hb);(try clear hb);have hcz34_0:w33.cell? ⟨Xe,0,none⟩=some (.int .i64 t375):=bc Zl 0;have hcz34_1:w33.cell? ⟨Xe,1,none⟩=some (.bool t376):=bc Zl 1;have hcz34_2:w33.cell? ⟨Xe,2,none⟩=some (.slice Vh t377.length Vi):=bc Zl 2;have hfz34_0:=Yc Zl.out 0;have hfz34_1:=Yc Zl.out 1;have hfz34_2:=Yc Zl.out 2;obtain⟨Ao35,co35,eo35⟩:=Kd.R_slice Xt.out;subst eo35)|((with_reducible refine gate_callee (f:=10) rfl ?_);refine gl (some 59) Try.func10 #[.agg #[.int .i64 t375, .bool t376, .slice Vh t377.length Vi], .int .i64 t380, .int .i64 t381, .int .i64 t382, .slice Ao35 t387.length co35] ?_;(with_reducible refine(timecut_Check.calls t375 t376 _ _ t377 t380 t381 t382 _ _ t387 t392 t393 _ ?side1 ?side2 ?side3 ?side4 A10.out).mono ?_);(case side1=>exact kC (Kd.R_reads' Xc.out).2.2);(case side2=>exact(Kd.R_reads' Xc.out).2.1);(case side3=>exact kC (Kd.R_reads' Xt.out).2.2);(case side4=>exact(Kd.R_reads' Xt.out).2.1);rintro e w36 ⟨rfl,hb⟩;refine⟨_,rfl,?_⟩;replace Xc:=Ya (Ym (kR Xc) hb);replace Xo:=Ya (Ym (kR Xo) hb);replace Xt:=Ya (Ym (kR Xt) hb);replace Zx:=Ya (Yj (bk Zx) hb);replace Zl:=Ya (Yj (bk Zl) hb);replace HB:=Ya (Yg bl hb);(try clear hb);(try clear hb2);(try clear hk);(try clear hi)))
 replace Xc:=Ya (Yl Xc.out);replace Xo:=Ya (Yl Xo.out);replace Xt:=Ya (Yl Xt.out);replace Zx:=Ya (Yi Zx.out);replace Zl:=Ya (Yi Zl.out);replace HB:=Ya (Yd HB.out);refine start_ (n:=13) (S:=fun w'=>w'.cell? ⟨Xe,0,none⟩=some (.int .i64 t375)∧w'.cell? ⟨Xe,1,none⟩=some (.bool t376)∧w'.cell? ⟨Xe,2,none⟩=some (.slice Vh t377.length Vi)) (ds:=[]) #[false,false,false,false,false,false,false,false,false,false,false,false,false] (by kernel_rfl) rfl rfl ⟨(Yb Zl.out 0).trans rfl,(Yb Zl.out 1).trans rfl,(Yb Zl.out 2).trans rfl⟩ (fun hHeld=> ?_);refine with_tabW ebbtidelaw18_TimecutMeets.tab8 ebbtidelaw18_TimecutMeets.bits8 (fun HT_ HW_=> ?_);generalize w36.drew=w37 at Xc Xo Xt Zx Zl HB hHeld ⊢;refine pu 1 64 (bm 13 2) ?_;refine pu 2 65 (bm 13 6) ?_;refine pu 3 66 (bm 13 14) ?_;refine pu 4 67 (bm 13 30) ?_;refine pu 5 68 (bm 13 62) ?_;refine ta 0 63 (bm 13 63) hHeld ?_;refine on 6 (some 69) (bm 13 127) fun K hK=> ?_
 refine gs Try.func13 #[.slice Ao32 t384.length co32, .slice Ao35 t387.length co35] ?_
 with_reducible refine(ebbtideref18_Both.calls k _ _ t384 _ _ t387 t394 _ ?side1 ?side2 ?side3 ?side4 A11.out).mono ?_
 (case side1=>exact(Kd.R_reads' Xo.out).2.2)
 (case side2=>exact(Kd.R_reads' Xo.out).2.1)
 (case side3=>exact(Kd.R_reads' Xt.out).2.2)
 (case side4=>exact(Kd.R_reads' Xt.out).2.1)
 rintro e w38 ⟨v395,rfl,ho0,hb⟩;refine⟨_,rfl,?_⟩;replace Xc:=Ya (Ym Xc.out hb);have Vn:=Ya (Kd.R_lower (Kd.R_new' (Kd.R_new' ho0 (Kd.R_lt Xo.out)) (Kd.R_lt Xt.out)) (Ye HB.out));replace Xo:=Ya (Kd.R_elder' Xo.out (Kd.R_base ho0) hb);replace Xt:=Ya (Kd.R_elder' Xt.out (Kd.R_base ho0) hb);replace Zx:=Ya (Yj Zx.out hb);replace Zl:=Ya (Yj Zl.out hb);replace HB:=Ya (Yg HB.out hb)
 (try clear hb)
 (try clear hb2)
 (try clear hk)
 (try clear hi)
 (try clear ho0)
 obtain⟨Ao39,co39,eo39⟩:=Kd.R_slice Vn.out
 (first|subst eo39|(injection eo39 with f1_ f2_ f3_;have f4_:=f1_.symm;have f5_:=f3_.symm;clear f1_ f2_ f3_;subst f4_;subst f5_))
 refine hK.out _ _ ⟨bc Zl 0,bc Zl 1,bc Zl 2⟩ (fun hHeld=> ?_);clear hK K;refine nm ?_;refine on 7 (some 70) (bm 13 255) fun K hK=> ?_
 refine gs Try.func10 #[.agg #[.int .i64 t375, .bool t376, .slice Vh t377.length Vi], .int .i64 t380, .int .i64 t381, .int .i64 t382, .slice Ao39 t394.length co39] ?_
 with_reducible refine(timecut_Check.calls t375 t376 _ _ t377 t380 t381 t382 _ _ t394 t397 t398 _ ?side1 ?side2 ?side3 ?side4 A12.out).mono ?_
 (case side1=>exact(Kd.R_reads' Xc.out).2.2)
 (case side2=>exact(Kd.R_reads' Xc.out).2.1)
 (case side3=>exact(Kd.R_reads' Vn.out).2.2)
 (case side4=>exact(Kd.R_reads' Vn.out).2.1)
 rintro e w40 ⟨rfl,hb⟩;refine⟨_,rfl,?_⟩;replace Xc:=Ya (Ym Xc.out hb);replace Xo:=Ya (Ym Xo.out hb);replace Xt:=Ya (Ym Xt.out hb);replace Vn:=Ya (Ym Vn.out hb);replace Zx:=Ya (Yj Zx.out hb);replace Zl:=Ya (Yj Zl.out hb);replace HB:=Ya (Yg HB.out hb)
 (try clear hb)
 (try clear hb2)
 (try clear hk)
 (try clear hi)
 refine hK.out _ _ ⟨bc Zl 0,bc Zl 1,bc Zl 2⟩ (fun hHeld=> ?_);clear hK K;refine nm ?_;refine pu 8 62 (bm 13 511) ?_;refine pu 9 71 (bm 13 1023) ?_;refine pu 10 72 (bm 13 2047) ?_;refine pu 11 18 (bm 13 4095) ?_;refine pu 12 19 (bm 13 8191) ?_;refine done_ (done_of HT_.out (by kernel_rfl)) ?_;try go_wp2
 replace Xc:=Ya (Yl Xc.out);replace Xo:=Ya (Yl Xo.out);replace Xt:=Ya (Yl Xt.out);replace Vn:=Ya (Yl Vn.out);replace Zx:=Ya (Yi Zx.out);replace Zl:=Ya (Yi Zl.out);replace HB:=Ya (Yd HB.out);refine start_ (n:=13) (S:=fun w'=>w'.cell? ⟨Xe,0,none⟩=some (.int .i64 t375)∧w'.cell? ⟨Xe,1,none⟩=some (.bool t376)∧w'.cell? ⟨Xe,2,none⟩=some (.slice Vh t377.length Vi)) (ds:=[]) #[false,false,false,false,false,false,false,false,false,false,false,false,false] (by kernel_rfl) rfl rfl ⟨(Yb Zl.out 0).trans rfl,(Yb Zl.out 1).trans rfl,(Yb Zl.out 2).trans rfl⟩ (fun hHeld=> ?_);refine with_tabW ebbtidelaw18_TimecutMeets.tab9 ebbtidelaw18_TimecutMeets.bits9 (fun HT_ HW_=> ?_);generalize w40.drew=w41 at Xc Xo Xt Vn Zx Zl HB hHeld ⊢;refine pu 1 75 (bm 13 2) ?_;refine pu 2 76 (bm 13 6) ?_;refine pu 3 77 (bm 13 14) ?_;refine pu 4 78 (bm 13 30) ?_;refine pu 5 79 (bm 13 62) ?_;refine ta 0 74 (bm 13 63) hHeld ?_;refine on 6 (some 80) (bm 13 127) fun K hK=> ?_
 refine gs Try.func14 #[.slice Ao32 t384.length co32, .slice Ao35 t387.length co35] ?_
 with_reducible refine(ebbtideref18_Any.calls k _ _ t384 _ _ t387 t399 _ ?side1 ?side2 ?side3 ?side4 A13.out).mono ?_
 (case side1=>exact(Kd.R_reads' Xo.out).2.2)
 (case side2=>exact(Kd.R_reads' Xo.out).2.1)
 (case side3=>exact(Kd.R_reads' Xt.out).2.2)
 (case side4=>exact(Kd.R_reads' Xt.out).2.1)
 rintro e w42 ⟨v400,rfl,ho0,hb⟩;refine⟨_,rfl,?_⟩;replace Xc:=Ya (Ym Xc.out hb);have HO401:=Ya (Kd.R_lower (Kd.R_new' (Kd.R_new' (Kd.R_new' ho0 (Kd.R_lt Xo.out)) (Kd.R_lt Xt.out)) (Kd.R_lt Vn.out)) (Ye HB.out));replace Xo:=Ya (Kd.R_elder' Xo.out (Kd.R_base ho0) hb);replace Xt:=Ya (Kd.R_elder' Xt.out (Kd.R_base ho0) hb);replace Vn:=Ya (Kd.R_elder' Vn.out (Kd.R_base ho0) hb);replace Zx:=Ya (Yj Zx.out hb);replace Zl:=Ya (Yj Zl.out hb);replace HB:=Ya (Yg HB.out hb)
 (try clear hb)
 (try clear hb2)
 (try clear hk)
 (try clear hi)
 (try clear ho0)
 obtain⟨Ao43,co43,eo43⟩:=Kd.R_slice HO401.out
 (first|subst eo43|(injection eo43 with f1_ f2_ f3_;have f4_:=f1_.symm;have f5_:=f3_.symm;clear f1_ f2_ f3_;subst f4_;subst f5_))
 refine hK.out _ _ ⟨bc Zl 0,bc Zl 1,bc Zl 2⟩ (fun hHeld=> ?_);clear hK K;refine nm ?_;refine on 7 (some 81) (bm 13 255) fun K hK=> ?_
 refine gs Try.func10 #[.agg #[.int .i64 t375, .bool t376, .slice Vh t377.length Vi], .int .i64 t380, .int .i64 t381, .int .i64 t382, .slice Ao43 t399.length co43] ?_
 with_reducible refine(timecut_Check.calls t375 t376 _ _ t377 t380 t381 t382 _ _ t399 t402 t403 _ ?side1 ?side2 ?side3 ?side4 A14.out).mono ?_
 (case side1=>exact(Kd.R_reads' Xc.out).2.2)
 (case side2=>exact(Kd.R_reads' Xc.out).2.1)
 (case side3=>exact(Kd.R_reads' HO401.out).2.2)
 (case side4=>exact(Kd.R_reads' HO401.out).2.1)
 rintro e w44 ⟨rfl,hb⟩;refine⟨_,rfl,?_⟩;replace Xc:=Ya (Ym Xc.out hb);replace Xo:=Ya (Ym Xo.out hb);replace Xt:=Ya (Ym Xt.out hb);replace Vn:=Ya (Ym Vn.out hb);replace HO401:=Ya (Ym HO401.out hb);replace Zx:=Ya (Yj Zx.out hb);replace Zl:=Ya (Yj Zl.out hb);replace HB:=Ya (Yg HB.out hb)
 (try clear hb)
 (try clear hb2)
 (try clear hk)
 (try clear hi)
 refine hK.out _ _ ⟨bc Zl 0,bc Zl 1,bc Zl 2⟩ (fun hHeld=> ?_);clear hK K;refine nm ?_;refine pu 8 73 (bm 13 511) ?_;refine pu 9 82 (bm 13 1023) ?_;refine pu 10 83 (bm 13 2047) ?_;refine pu 11 20 (bm 13 4095) ?_;refine pu 12 21 (bm 13 8191) ?_;refine done_ (done_of HT_.out (by kernel_rfl)) ?_;try go_wp2
 go_ret;exact⟨by first|rfl|(simp[errW_none,errW_some]<;>rfl)|(simp[*,errW_none,errW_some]<;>rfl),HB.out⟩
end P
namespace Opn
open Go.ChangeShapes Go.WideShapes Go.Deep 
def Opens (P:Program) (t:TypeId) {α:Type} (d:Kd α) (ok:α→Prop):Prop:=
 ∀ (H:Type) (enc:TypeId × Value→H) (w:World) (base:Nat) (spare:Nat→Bool) (held:Bool) (fuel:Nat) (cs:List Value) (x:DataW H × List MemPlace),
  DataW.trod enc P w base spare held fuel t cs=some x→ ∃ a:α,d.K w a cs∧ok a
theorem opens_int {P:Program} {t:TypeId} {k:IntKind} (ht:P.underlying t=some (.int k)):Opens P t (Kd.int k) (fun n=>(Lit.int k n).wf=true):=by
 intro H enc w base spare held fuel cs x h;obtain⟨n,rfl,_,hw⟩:=DataW.trod_int ht h;exact⟨n,rfl,hw⟩
theorem opens_bool {P:Program} {t:TypeId} (ht:P.underlying t=some .bool):Opens P t Kd.bool (fun _=>True):=by
 intro H enc w base spare held fuel cs x h;obtain⟨b,rfl,_⟩:=DataW.trod_bool ht h;exact⟨b,rfl,trivial⟩
theorem opens_slice {P:Program} {t e:TypeId} {α:Type} {d:Kd α} {ok:α→Prop} (ht:P.underlying t=some (.slice e)) (hc:P.cellsOf e=d.sz) (h:Opens P e d ok):
  Opens P t (Kd.slice e d) (fun l=>l.length≤9223372036854775807∧ ∀ x∈l,ok x):=by
 intro H enc w base spare held fuel cs x hx;rcases open_slice ht hx with ⟨rfl,_⟩|⟨a,len,cap,m,n,D,Pl,rfl,hb,hl,hm,hmm,_,hi⟩
 ·exact⟨[],⟨none,0,rfl,Nat.le_refl _,rfl,by simp,fun h=>absurd h (by simp)⟩,by simp,by simp⟩
 ·have hlm:len≤m:=by rw[hmm];split<;>omega
  have hel: ∀ i:Nat,i<len→ ∃ a':α,ok a'∧ ∃ c,c.length=d.sz∧d.K w a' c∧ ∀ j u,c[j]? =some u→w.cell? (a.add (i * d.sz+j))=some u:=by
   intro i hil;obtain⟨cs',hcs,htr⟩:=hi i (by omega);obtain⟨a',hK,hok⟩:=h H enc w base spare held n cs' _ htr;rw[hc] at hcs;obtain⟨_,hcl,hat⟩:=World.cells?_some hcs;refine⟨a',hok,cs',hcl,hK,fun j u hu=> ?_⟩;have hj:j<d.sz:=by have:=(List.getElem?_eq_some_iff.1 hu).1;omega
   have:=hat j hj;rw[← Go.Deep.add_add,this,hu]
  have hrow: ∀ k:Nat,k≤len→ ∃ xs:List α,xs.length=k∧(∀ x∈xs,ok x)∧ ∀ j p,xs[j]? =some p→ ∃ c,c.length=d.sz∧d.K w p c∧ ∀ i u,c[i]? =some u→w.cell? (a.add (j * d.sz+i))=some u:=by
   intro k
   induction k with
   |zero=>exact fun _=>⟨[],rfl,by simp,by simp⟩
   |succ k ih=>
    intro hk;obtain⟨xs,h1,h2,h3⟩:=ih (by omega);obtain⟨a',ho,c,hcl,hK,hcell⟩:=hel k (by omega);refine⟨xs ++ [a'],by simp[h1],fun x hx=> ?_,fun j p hj=> ?_⟩
    ·rcases List.mem_append.1 hx with h|h
     ·exact h2 x h
     ·rw[List.mem_singleton.1 h];exact ho
    ·by_cases hjk:j<xs.length
     ·rw[List.getElem?_append_left hjk] at hj
      exact h3 j p hj
     ·have hjl:=(List.getElem?_eq_some_iff.1 hj).1
      simp at hjl;have hje:j=k:=by omega
      subst hje;rw[← h1,List.getElem?_concat_length] at hj;obtain rfl:=Option.some.inj hj;exact⟨c,hcl,hK,hcell⟩
  obtain⟨xs,h1,h2,h3⟩:=hrow len (Nat.le_refl _);have hmx:len≤9223372036854775807:=by unfold maxLen at hm;omega
  subst h1;exact⟨xs,⟨some a,cap,rfl,hl,rfl,hmx,fun _=>⟨a,rfl,h3⟩⟩,hmx,h2⟩
theorem opens_iso {P:Program} {t:TypeId} {α β:Type} {d:Kd α} {ok:α→Prop} (h:Opens P t d ok) (f:β→α) (g:α→β) (hfg: ∀ x,f (g x)=x):Opens P t (Kd.iso d f) (fun y=>ok (f y)):=by
 intro H enc w base spare held fuel cs x hx;obtain⟨a,hK,hok⟩:=h H enc w base spare held fuel cs x hx;exact⟨g a,by show d.K w (f (g a)) cs;rw[hfg];exact hK,by show ok (f (g a));rw[hfg];exact hok⟩
def OpensFs (P:Program) (fs:List Field) (off:Nat) {α:Type} (d:Kd α) (ok:α→Prop):Prop:=
 ∀ (H:Type) (enc:TypeId × Value→H) (w:World) (base:Nat) (spare:Nat→Bool) (held:Bool) (n:Nat) (cs:List Value),cs.length=off+d.sz→
  (∀ f∈fs, ∃ y,DataW.trod enc P w base spare held n f.type ((cs.drop f.offset).take (P.cellsOf f.type))=some y)→ ∃ a:α,d.K w a (cs.drop off)∧ok a
theorem fs_one {P:Program} {f:Field} {off:Nat} {α:Type} {d:Kd α} {ok:α→Prop} (ho:f.offset=off) (hc:P.cellsOf f.type=d.sz) (h:Opens P f.type d ok):OpensFs P [f] off d ok:=by
 intro H enc w base spare held n cs hl hf;obtain⟨y,hy⟩:=hf f (by simp);rw[ho,hc,List.take_of_length_le (by simp;omega)] at hy;exact h H enc w base spare held n _ y hy
theorem fs_cons {P:Program} {f:Field} {fs:List Field} {off:Nat} {α β:Type} {d:Kd α} {d':Kd β} {ok:α→Prop} {ok':β→Prop} (ho:f.offset=off) (hc:P.cellsOf f.type=d.sz) (h:Opens P f.type d ok)
  (hr:OpensFs P fs (off+d.sz) d' ok'):OpensFs P (f::fs) off (Kd.pair d d') (fun x=>ok x.1∧ok' x.2):=by
 intro H enc w base spare held n cs hl hf;have hsz:(Kd.pair d d').sz=d.sz+d'.sz:=rfl;rw[hsz] at hl;obtain⟨y,hy⟩:=hf f (by simp);rw[ho,hc] at hy;obtain⟨a,hK,hok⟩:=h H enc w base spare held n _ y hy;obtain⟨b,hKb,hokb⟩:=hr H enc w base spare held n cs (by omega) (fun f' hf'=>hf f' (List.mem_cons_of_mem _ hf'));refine⟨(a,b),⟨_,_,?_,hK,hKb⟩,hok,hokb⟩;rw[← List.drop_drop];exact(List.take_append_drop _ _).symm
theorem opens_struct {P:Program} {t:TypeId} {fs:Array Field} {α:Type} {d:Kd α} {ok:α→Prop} (hs:P.underlying t=some (.struct fs)) (hC:P.cellsOf t=d.sz) (h:OpensFs P fs.toList 0 d ok):Opens P t d ok:=by
 intro H enc w base spare held fuel cs x hx;obtain⟨xs,n,_,_,hl,hlen,hf⟩:=DataW.trod_struct hs hx;obtain⟨a,hK,hok⟩:=h H enc w base spare held n cs (by rw[hl,hC,Nat.zero_add]) (fun f hfm=>by
  obtain⟨j,hj⟩:=List.getElem?_of_mem hfm;have hj':fs[j]? =some f:=by rw[← hj];simp
  have hjl:j<xs.length:=by rw[hlen];exact(Array.getElem?_eq_some_iff.1 hj').1
  have h1:=hf j f hj';rw[List.getElem?_eq_getElem hjl] at h1;exact⟨_,h1⟩)
 exact⟨a,hK,hok⟩
theorem arg_struct {H:Type} {enc:TypeId × Value→H} {P:Program} {w:World} {base b0:Nat} {spare:Nat→Bool} {held:Bool} {r:Reach} {t:TypeId} {fs:Array Field} {v:Value} {dd:DataW H} {p:List MemPlace} {α:Type} {d:Kd α} {ok:α→Prop}
  (hs:P.underlying t=some (.struct fs)) (ho:Opens P t d ok) (hv:Value.okWide P w r b0 t v) (h:DataW.Trod enc P w base spare held t v dd p): ∃ a cs,v= .agg cs∧d.K w a cs.toList∧ok a:=by
 obtain⟨cs,rfl,hsz⟩:=okWide_struct hs hv;obtain⟨fuel,hf⟩:=h;obtain⟨a,hK,hok⟩:=ho H enc w base spare held fuel _ _ hf;exact⟨a,cs,rfl,by simpa [Value.cells] using hK,hok⟩
theorem arg_slice {H:Type} {enc:TypeId × Value→H} {P:Program} {w:World} {base b0:Nat} {spare:Nat→Bool} {held:Bool} {r:Reach} {t e:TypeId} {v:Value} {dd:DataW H} {p:List MemPlace} {α:Type} {d:Kd α} {ok:List α→Prop}
  (hs:P.underlying t=some (.slice e)) (ho:Opens P t (Kd.slice e d) ok) (hv:Value.okWide P w r b0 t v) (h:DataW.Trod enc P w base spare held t v dd p): ∃ A c l,v= .slice A l.length c∧l.length≤c∧d.C w A l.length l∧ok l:=by
 obtain⟨A,len,cap,rfl⟩:=okWide_slice hs hv;obtain⟨fuel,hf⟩:=h;obtain⟨l,⟨A',c,he,hlc,hC⟩,hok⟩:=ho H enc w base spare held fuel _ _ hf;simp[Value.cells] at he;obtain⟨rfl,rfl,rfl⟩:=he;exact⟨A,cap,l,rfl,hlc,hC,hok⟩
end Opn
namespace Q
open P
open H
theorem mem_getD {α:Type} (d:α) (L:List α) (z:α):z∈L↔ ∃ k,k<L.length∧L.getD k d=z:=by
 constructor
 ·intro h
  obtain⟨k,hk,e⟩:=List.getElem_of_mem h;exact⟨k,hk,by rw[List.getD_eq_getElem?_getD,List.getElem?_eq_getElem hk, ← e];rfl⟩
 ·rintro⟨k,hk,rfl⟩
  exact getD_mem hk
theorem swap_mem {α:Type} (d:α) (x:List α) {i j:Nat} (hi:i<x.length) (hj:j<x.length) (hne:i≠j) (z:α):z∈(x.set i (x.getD j d)).set j (x.getD i d)↔z∈x:=by
 have hl:((x.set i (x.getD j d)).set j (x.getD i d)).length=x.length:=by rw[List.length_set,List.length_set]
 have hg: ∀ k,((x.set i (x.getD j d)).set j (x.getD i d)).getD k d=if j=k then x.getD i d else if i=k then x.getD j d else x.getD k d:=fun k=>by
  rw[getD_set _ _ _ _ _ (by rw[List.length_set];exact hj),getD_set _ _ _ _ _ hi]
 rw[mem_getD d,mem_getD d,hl];constructor
 ·rintro⟨k,hk,e⟩
  rw[hg] at e;split at e
  ·exact⟨i,hi,e⟩
  ·split at e
   ·exact⟨j,hj,e⟩
   ·exact⟨k,hk,e⟩
 ·rintro⟨k,hk,e⟩
  by_cases h1:k=i
  ·subst h1;exact⟨j,hj,by rw[hg,Yq rfl,e]⟩
  ·by_cases h2:k=j
   ·subst h2;exact⟨i,hi,by rw[hg,Yr (Ne.symm hne),Yq rfl,e]⟩
   ·exact⟨k,hk,by rw[hg,Yr (Ne.symm h2),Yr (Ne.symm h1),e]⟩
theorem slots_l2 (x0:List S53) (h0:x0.length≤1000) (n:Nat) (hn:n<x0.length): ∀ (i:Nat) (x:List S53),i<x.length→x.length≤1000→
  ∃ y,(∀ z,z∈y↔z∈x)∧y.length=x.length∧ ∀ R,Ev (fun k=>ebbtideref03_Slots.l0 k x0 y ((n+1:Nat):Int)) R→Ev (fun k=>ebbtideref03_Slots.l2 k x0 x (n:Int) (i:Int)) R
 |0,x,hi,hx=>⟨x,fun z=>Iff.rfl,rfl,fun R h=>by
  refine Ev.succ ?_;simp only[ebbtideref03_Slots.l2];refine Ev.neg (by omega) ?_;rw[wrap_succ (n:=x0.length) hn (by omega)];exact h⟩
 |i+1,x,hi,hx=>by
  have hw:wrap64 (((i+1:Nat):Int) - 1)=(i:Int):=by rw[wrap_id (by omega) (by omega)];omega
  have r1:rd_T53 x ((i+1:Nat):Int)=x.getD (i+1) z53:=rdSlot_nat x (i+1);have r0:rd_T53 x (i:Int)=x.getD i z53:=rdSlot_nat x i;have hsm:=fun z=>swap_mem z53 x (i:=i+1) (j:=i) hi (by omega) (by omega) z
  obtain⟨y,y1,y2,y3⟩:=slots_l2 x0 h0 n hn i ((x.set (i+1) (x.getD i z53)).set i (x.getD (i+1) z53)) (by rw[List.length_set,List.length_set];omega) (by rw[List.length_set,List.length_set];omega);by_cases c1:(x.getD (i+1) z53).f1<(x.getD i z53).f1
  ·refine⟨y,fun z=>(y1 z).trans (hsm z),by rw[y2,List.length_set,List.length_set],fun R h=> ?_⟩
   have h3:=y3 R h;refine Ev.succ ?_;simp only[ebbtideref03_Slots.l2];rw[hw,r1,r0];refine Ev.pos (by omega) (Ev.pos (by omega) (Ev.pos (by omega) (Ev.pos (by omega) (Ev.pos (by omega) (Ev.pos c1 ?_)))));rw[Int.toNat_natCast,Int.toNat_natCast];exact h3
  ·by_cases c2:(x.getD (i+1) z53).f1=(x.getD i z53).f1∧(x.getD (i+1) z53).f0<(x.getD i z53).f0
   ·refine⟨y,fun z=>(y1 z).trans (hsm z),by rw[y2,List.length_set,List.length_set],fun R h=> ?_⟩
    have h3:=y3 R h;refine Ev.succ ?_;simp only[ebbtideref03_Slots.l2];rw[hw,r1,r0];refine Ev.pos (by omega) (Ev.pos (by omega) (Ev.pos (by omega) (Ev.pos (by omega) (Ev.pos (by omega) (Ev.neg c1 (Ev.pos c2.1 (Ev.pos c2.2 ?_)))))));rw[Int.toNat_natCast,Int.toNat_natCast];exact h3
   ·refine⟨x,fun z=>Iff.rfl,rfl,fun R h=> ?_⟩
    refine Ev.succ ?_;simp only[ebbtideref03_Slots.l2];rw[hw,r1,r0,wrap_succ (n:=x0.length) hn (by omega)];refine Ev.pos (by omega) (Ev.pos (by omega) (Ev.pos (by omega) (Ev.pos (by omega) (Ev.pos (by omega) (Ev.neg c1 ?_)))));by_cases c3:(x.getD (i+1) z53).f1=(x.getD i z53).f1
    ·exact Ev.pos c3 (Ev.neg (fun c4=>c2 ⟨c3,c4⟩) h)
    ·exact Ev.neg c3 h
def sameS (a b:S53):Bool:=a.f0 == b.f0 && a.f1 == b.f1
theorem sameS_iff {a b:S53} :sameS a b=true↔a=b:=by
 unfold sameS;rw[Bool.and_eq_true,beq_iff_eq,beq_iff_eq];constructor
 ·intro h;cases a;cases b;simp at h;simp[h]
 ·intro h;subst h;exact⟨rfl,rfl⟩
theorem slots_l1 (x0:List S53) (h0:x0.length≤1000) (n:Nat) (hn:n<x0.length) (x:List S53) (hx:x.length≤1000) (R:List S53)
  (hyes:x0.getD n z53∈x→Ev (fun k=>ebbtideref03_Slots.l0 k x0 x ((n+1:Nat):Int)) R) (hno:x0.getD n z53 ∉ x→Ev (fun k=>ebbtideref03_Slots.l2 k x0 (x ++ [x0.getD n z53]) (n:Int) (x.length:Int)) R) (d:Nat):
  ∀ (i:Nat) (b:Bool),i+d=x.length→(b=true↔x0.getD n z53∈x.take i)→Ev (fun k=>ebbtideref03_Slots.l1 k x0 x (n:Int) b (i:Int)) R:=by
 have r0:rd_T53 x0 (n:Int)=x0.getD n z53:=rdSlot_nat x0 n
 induction d with
 |zero=>
  intro i b hi hb;rw[List.take_of_length_le (by omega)] at hb;refine Ev.succ ?_;simp only[ebbtideref03_Slots.l1];refine Ev.neg (by omega) ?_;rw[wrap_succ (n:=x0.length) hn (by omega),r0];by_cases c:b=true
  ·exact Ev.pos c (hyes (hb.1 c))
  ·refine Ev.neg c (Ev.pos (by omega) (Ev.pos (by omega) (Ev.pos (by omega) (Ev.let_ ?_))))
   have hw:wrap64 (((x ++ [x0.getD n z53]).length:Int) - 1)=(x.length:Int):=by
    rw[List.length_append,List.length_singleton,wrap_id (by omega) (by omega)];omega
   have h:=hno (fun hm=>c (hb.2 hm));show Ev (fun k=>ebbtideref03_Slots.l2 k x0 (x ++ [x0.getD n z53]) (n:Int) (wrap64 (((x ++ [x0.getD n z53]).length:Int) - 1))) R;rw[hw];exact h
 |succ d ih=>
  intro i b hi hb;have hil:i<x.length:=by omega
  have htk:x.take (i+1)=x.take i ++ [x.getD i z53]:=by rw[List.take_add_one,List.getElem?_eq_getElem hil,List.getD_eq_getElem?_getD,List.getElem?_eq_getElem hil];rfl
  refine Ev.succ ?_;simp only[ebbtideref03_Slots.l1];refine Ev.pos (by omega) ?_;rw[wrap_succ (n:=x.length) hil (by omega),r0,rdSlot_nat];by_cases c:b=true
  ·exact Ev.pos c (ih (i+1) true (by omega) (by rw[htk,List.mem_append];exact⟨fun _=>Or.inl (hb.1 c),fun _=>rfl⟩))
  ·refine Ev.neg c (Ev.pos (by omega) (Ev.pos (by omega) (Ev.pos (by omega) ?_)))
   refine ih (i+1) _ (by omega) ?_;rw[htk,List.mem_append,List.mem_singleton];show sameS _ _=true↔_;rw[sameS_iff];constructor
   ·intro e;exact Or.inr e.symm
   ·rintro(e|e)
    ·exact absurd (hb.2 e) c
    ·exact e.symm
theorem slots_l0 (x0:List S53) (h0:x0.length≤500) (d:Nat): ∀ (n:Nat) (x:List S53),n+d=x0.length→x.length≤n→
  ∃ y,Ev (fun k=>ebbtideref03_Slots.l0 k x0 x (n:Int)) y∧(∀ z,z∈y↔z∈x∨z∈x0.drop n)∧y.length≤x0.length:=by
 induction d with
 |zero=>
  intro n x hn hx;refine⟨x,?_,fun z=>by rw[List.drop_of_length_le (by omega)];simp,by omega⟩;refine Ev.succ ?_;simp only[ebbtideref03_Slots.l0];exact Ev.neg (by omega) (Ev.now _)
 |succ d ih=>
  intro n x hn hx;have hnl:n<x0.length:=by omega
  have hd:=drop_getD x0 n z53 hnl;by_cases hm:x0.getD n z53∈x
  ·obtain⟨y,e,h1,h2⟩:=ih (n+1) x (by omega) (by omega)
   refine⟨y,?_,fun z=> ?_,h2⟩
   ·refine Ev.succ ?_;simp only[ebbtideref03_Slots.l0]
    exact Ev.pos (by omega) (slots_l1 x0 (by omega) n hnl x (by omega) y (fun _=>e) (fun hn=>absurd hm hn) x.length 0 false (by omega) (by simp))
   ·rw[h1,hd,List.mem_cons]
    constructor
    ·rintro(h|h)
     ·exact Or.inl h
     ·exact Or.inr (Or.inr h)
    ·rintro(h|h|h)
     ·exact Or.inl h
     ·subst h;exact Or.inl hm
     ·exact Or.inr h
  ·obtain⟨x1,g1,g2,g3⟩:=slots_l2 x0 (by omega) n hnl x.length (x ++ [x0.getD n z53]) (by simp) (by simp;omega)
   obtain⟨y,e,h1,h2⟩:=ih (n+1) x1 (by omega) (by rw[g2];simp;omega);refine⟨y,?_,fun z=> ?_,h2⟩
   ·refine Ev.succ ?_;simp only[ebbtideref03_Slots.l0]
    exact Ev.pos (by omega) (slots_l1 x0 (by omega) n hnl x (by omega) y (fun h=>absurd h hm) (fun _=>g3 y e) x.length 0 false (by omega) (by simp))
   ·rw[h1,g1,hd,List.mem_cons,List.mem_append,List.mem_singleton,or_assoc]
theorem slots_ev (x:List S53) (hx:x.length≤500): ∃ y,Ev (fun k=>ebbtideref03_Slots.f k x) y∧(∀ z,z∈y↔z∈x)∧y.length≤x.length:=by
 obtain⟨y,e,h1,h2⟩:=slots_l0 x hx x.length 0 [] (by omega) (by simp);exact⟨y,e,fun z=>by rw[h1,List.drop_zero];simp,h2⟩
theorem both_l0 (x y:List S53) (hx:x.length≤500) (hy:y.length≤500) (d:Nat): ∀ i:Nat,i+d=x.length→
  ∃ z,Ev (fun k=>ebbtideref18_Both.l0 k x y ((x.take i).filter fun s=>hasL y s.f0 s.f1) (i:Int)) z∧(∀ s,s∈z↔s∈x∧hasL y s.f0 s.f1=true)∧z.length≤x.length:=by
 induction d with
 |zero=>
  intro i hi;have hfl:=List.length_filter_le (fun s:S53=>hasL y s.f0 s.f1) x;obtain⟨z,e,h1,h2⟩:=slots_ev (x.filter fun s=>hasL y s.f0 s.f1) (by omega);refine⟨z,?_,fun s=>by rw[h1,List.mem_filter],by omega⟩;rw[List.take_of_length_le (by omega)];refine Ev.succ ?_;simp only[ebbtideref18_Both.l0];exact Ev.neg (by omega) (Ev.bind e (Ev.now _))
 |succ d ih=>
  intro i hi;have hil:i<x.length:=by omega
  obtain⟨z,e,h1,h2⟩:=ih (i+1) (by omega);have htk:x.take (i+1)=x.take i ++ [x.getD i z53]:=by rw[List.take_add_one,List.getElem?_eq_getElem hil,List.getD_eq_getElem?_getD,List.getElem?_eq_getElem hil];rfl
  rw[htk,List.filter_append] at e;have hfl:=List.length_filter_le (fun s:S53=>hasL y s.f0 s.f1) (x.take i);rw[List.length_take] at hfl;refine⟨z,?_,h1,h2⟩;refine Ev.succ ?_;simp only[ebbtideref18_Both.l0];refine Ev.pos (by omega) (Ev.pos (by omega) ?_);rw[rdSlot_nat,wrap_succ (n:=x.length) hil (by omega)];refine Ev.bind (thas_ev y _ _ (by omega)) ?_;cases c:hasL y (x.getD i z53).f0 (x.getD i z53).f1 with
  |true=>
   rw[List.filter_cons,Yq c] at e;exact Ev.pos rfl (Ev.pos (by omega) e)
  |false=>
   rw[List.filter_cons,Yr (by rw[c];simp),List.filter_nil,List.append_nil] at e;exact Ev.neg (by simp) e
theorem both_ev (x y:List S53) (hx:x.length≤500) (hy:y.length≤500): ∃ z,Ev (fun k=>ebbtideref18_Both.f k x y) z∧(∀ s,s∈z↔s∈x∧hasL y s.f0 s.f1=true)∧z.length≤x.length:=by
 obtain⟨z,e,h⟩:=both_l0 x y hx hy x.length 0 (by omega);exact⟨z,e,h⟩
theorem any_ev (x y:List S53) (hx:x.length≤250) (hy:y.length≤250): ∃ z,Ev (fun k=>ebbtideref18_Any.f k x y) z∧(∀ s,s∈z↔s∈x∨s∈y)∧z.length≤x.length+y.length:=by
 obtain⟨z,e,h1,h2⟩:=slots_ev (x ++ y) (by rw[List.length_append];omega);refine⟨z,?_,fun s=>by rw[h1,List.mem_append],by rw[List.length_append] at h2;exact h2⟩;unfold ebbtideref18_Any.f;refine Ev.pos (by simp;omega) (Ev.let_ (Ev.pos (by simp;omega) ?_));exact Ev.bind e (Ev.now _)
end Q
namespace Q
open P
def U8 (x:Int):Prop:=(Lit.int .u8 x).wf=true
def U16 (x:Int):Prop:=(Lit.int .u16 x).wf=true
theorem u8_in {x:Int} (h:U8 x):0≤x∧x≤255:=by
 unfold U8 at h;simp[Lit.wf,IntKind.min,IntKind.max,IntKind.signed,IntKind.bits] at h;omega
theorem u16_in {x:Int} (h:U16 x):0≤x∧x≤65535:=by
 unfold U16 at h;simp[Lit.wf,IntKind.min,IntKind.max,IntKind.signed,IntKind.bits] at h;omega
def BitOk (b:S77):Prop:=U8 b.f0∧U8 b.f1∧U8 b.f2∧U8 b.f3
def SmallOk (x:Int × Bool × List S77 × Int × Int × Int):Prop:=
 U8 x.1∧True∧(x.2.2.1.length≤9223372036854775807∧ ∀ b∈x.2.2.1,BitOk b)∧U8 x.2.2.2.1∧U8 x.2.2.2.2.1∧U8 x.2.2.2.2.2
theorem tmod_in {x m:Int} (h0:0≤x) (hm:0<m):0≤Int.tmod x m∧Int.tmod x m<m:=⟨Int.tmod_nonneg _ h0,Int.tmod_lt_of_pos _ hm⟩
structure SmallNet (m:Int) (hold:Bool) (r:Int × Bool × List S73 × Int × Int × Int):Prop where
 lo:2≤r.1
 hi:r.1≤5
 hold:r.2.1=hold
 net:NetOk r.1 r.2.2.1
 ends:EndsOk r.1 r.2.2.2.1 r.2.2.2.2.1
 s0:0≤r.2.2.2.2.2
 s1:r.2.2.2.2.2≤7
 len:(r.2.2.1.length:Int)≤m
 arcs: ∀ a∈r.2.2.1,a.f2≤5∧a.f3≤3
theorem read_l0 (m:Int) (hm0:0≤m) (hm:m≤100) (a0:Int) (hold:Bool) (bits:List S77) (a3 a4 a5 N:Int) (hb: ∀ b∈bits,BitOk b) (h3:U8 a3) (h4:U8 a4) (h5:U8 a5) (hN0:2≤N) (hN1:N≤5) (d:Nat):
  ∀ (i:Nat) (arcs:List S73),(i:Int)+d=m→arcs.length=i→(∀ a∈arcs,ArcOk N a∧a.f2≤5∧a.f3≤3)→
   ∃ r,Ev (fun k=>ebbtidelaw12_Read.l0 k m (i:Int) a0 hold bits a3 a4 a5 N hold arcs) r∧SmallNet m hold r:=by
 have h3:=u8_in h3;have h4:=u8_in h4;have h5:=u8_in h5;have w3:=tmod_in (x:=a3) (m:=N) h3.1 (by omega);have w4:=tmod_in (x:=a4) (m:=N - 1) h4.1 (by omega);have w5:=tmod_in (x:=a5) (m:=8) h5.1 (by omega);have wt:=tmod_in (x:=Int.tmod a3 N+1+Int.tmod a4 (N - 1)) (m:=N) (by omega) (by omega);have hne:Int.tmod a3 N≠Int.tmod (Int.tmod a3 N+1+Int.tmod a4 (N - 1)) N:=by
  intro e;rw[Int.tmod_eq_emod_of_nonneg (a:=Int.tmod a3 N+1+Int.tmod a4 (N - 1)) (by omega)] at e;generalize Int.tmod a3 N=s at *;generalize Int.tmod a4 (N - 1)=t at *;have h1:=Int.emod_add_mul_ediv (s+1+t) N;rw[← e] at h1;generalize (s+1+t) / N=q at h1;have hcase:q≤0∨q=1∨2≤q:=by omega
  rcases hcase with hq|hq|hq
  ·have:N * q≤0:=Int.mul_nonpos_of_nonneg_of_nonpos (by omega) hq
   omega
  ·subst hq;omega
  ·have:N * 2≤N * q:=Int.mul_le_mul_of_nonneg_left hq (by omega)
   omega
 have fin: ∀ arcs:List S73,(arcs.length:Int)≤m→(∀ a∈arcs,ArcOk N a∧a.f2≤5∧a.f3≤3)→
   SmallNet m hold (N,hold,arcs,Int.tmod (wrap64 a3) N,Int.tmod (wrap64 (wrap64 (Int.tmod (wrap64 a3) N+1)+Int.tmod (wrap64 a4) (wrap64 (N - 1)))) N,Int.tmod (wrap64 a5) 8):=by
  intro arcs hl ha;rw[wrap_id (x:=a3) (by omega) (by omega),wrap_id (x:=a4) (by omega) (by omega),wrap_id (x:=a5) (by omega) (by omega),wrap_id (x:=N - 1) (by omega) (by omega),wrap_id (x:=Int.tmod a3 N+1) (by omega) (by omega),wrap_id (by omega) (by omega)];exact⟨hN0,hN1,rfl,⟨by show 1≤N;omega,by show N≤50;omega,by show arcs.length≤200;omega,fun a h=>(ha a h).1⟩,⟨w3.1,wt.1,w3.2,wt.2,hne⟩,w5.1,by show Int.tmod a5 8≤7;omega,hl,fun a h=>(ha a h).2⟩
 have hw:wrap64 (N - 1)=N - 1:=wrap_id (by omega) (by omega)
 induction d with
 |zero=>
  intro i arcs hi hl ha;refine⟨_,?_,fin arcs (by omega) ha⟩;refine Ev.succ ?_;simp only[ebbtidelaw12_Read.l0];refine Ev.ite (fun g=> ?_) (fun g=> ?_)
  ·exact Ev.neg (by omega) (Ev.neg (by omega) (Ev.neg (by omega) (Ev.now _)))
  ·exact Ev.neg (by omega) (Ev.neg (by omega) (Ev.now _))
 |succ d ih=>
  intro i arcs hi hl ha;by_cases g:(i:Int)<(bits.length:Int)
  ·have hbit:=hb (rd_T77 bits (i:Int)) (getD_mem (by omega))
   obtain⟨b0,b1,b2,b3⟩:=hbit;have b0:=u8_in b0;have b1:=u8_in b1;have b2:=u8_in b2;have b3:=u8_in b3;have v0:=tmod_in (m:=N) b0.1 (by omega);have v1:=tmod_in (m:=N) b1.1 (by omega);have v2:=tmod_in (m:=6) b2.1 (by omega);have v3:=tmod_in (m:=4) b3.1 (by omega);obtain⟨r,hr,hp⟩:=ih (i+1) (arcs ++ [(⟨Int.tmod (rd_T77 bits (i:Int)).f0 N,Int.tmod (rd_T77 bits (i:Int)).f1 N,Int.tmod (rd_T77 bits (i:Int)).f2 6,Int.tmod (rd_T77 bits (i:Int)).f3 4⟩:S73)]) (by omega) (by simp[hl]) (by
    intro a h;rcases List.mem_append.1 h with h|h
    ·exact ha a h
    ·rw[List.mem_singleton.1 h]
     exact⟨⟨v0.1,v1.1,v2.1,v3.1,v0.2,v1.2,by show Int.tmod _ 6≤1048576;omega,by show Int.tmod _ 4≤1048576;omega⟩,by show Int.tmod _ 6≤5;omega,by show Int.tmod _ 4≤3;omega⟩)
   refine⟨r,?_,hp⟩;refine Ev.succ ?_;simp only[ebbtidelaw12_Read.l0];refine Ev.pos g (Ev.pos (by omega) (Ev.pos (by omega) (Ev.neg (by omega) (Ev.pos (by omega) ?_))));rw[wrap_succ (n:=101) (by omega) (by omega),wrap_id (x:=(rd_T77 bits (i:Int)).f0) (by omega) (by omega),wrap_id (x:=(rd_T77 bits (i:Int)).f1) (by omega) (by omega),wrap_id (x:=(rd_T77 bits (i:Int)).f2) (by omega) (by omega),wrap_id (x:=(rd_T77 bits (i:Int)).f3) (by omega) (by omega)];exact hr
  ·refine⟨_,?_,fin arcs (by omega) ha⟩
   refine Ev.succ ?_;simp only[ebbtidelaw12_Read.l0];exact Ev.neg g (Ev.neg (by omega) (Ev.neg (by omega) (Ev.now _)))
theorem read_ev (m:Int) (hm0:0≤m) (hm:m≤100) (a0:Int) (hold:Bool) (bits:List S77) (a3 a4 a5:Int) (h:SmallOk (a0,hold,bits,a3,a4,a5)):
  ∃ r,Ev (fun k=>ebbtidelaw12_Read.f k a0 hold bits a3 a4 a5 m) r∧SmallNet m hold r:=by
 obtain⟨h0,_,⟨_,hb⟩,h3,h4,h5⟩:=h;have h0':=u8_in h0;simp only at h0';have w0:=tmod_in (x:=a0) (m:=4) h0'.1 (by omega);unfold ebbtidelaw12_Read.f;rw[wrap_id (x:=a0) (by omega) (by omega),wrap_id (by omega) (by omega)];exact read_l0 m hm0 hm a0 hold bits a3 a4 a5 _ hb h3 h4 h5 (by omega) (by omega) m.toNat 0 [] (by omega) rfl (by simp)
end Q
namespace Q
open P
open H
def bitsAt (bits:List Int) (v:Int):Int:=if v<(bits.length:Int) then rd bits v else 0
def inM (hold:Bool) (bits:List Int) (s t span v a:Int):Bool:=
 decide (v=s) || !decide (v=t) && (if hold=true then decide (Int.tmod (bitsAt bits v) (span+2)≤a) else decide (Go.bits .and .u16 (shr .u16 (bitsAt bits v) a) 1=1))
structure MadeAt (N:Int) (hold:Bool) (bits:List Int) (s t span:Int) (a v:Int) (x:List S53):Prop where
 has: ∀ v' a',hasL x v' a'=true↔((0≤v'∧v'<N∧0≤a'∧(a'<a∨a'=a∧v'<v))∧inM hold bits s t span v' a'=true)
 ok: ∀ y∈x,slotOkB N span y=true
 len:(x.length:Int)≤a * N+v
theorem hasL_snoc (x:List S53) (s:S53) (v a:Int):hasL (x ++ [s]) v a=(hasL x v a || (decide (s.f0=v) && decide (s.f1=a))):=by
 simp[hasL]
theorem MadeAt.add {N:Int} {hold:Bool} {bits:List Int} {s t span a v:Int} {x:List S53} (h:MadeAt N hold bits s t span a v x) (hv0:0≤v) (hv:v<N) (ha0:0≤a) (ha:a≤span) (hin:inM hold bits s t span v a=true):
  MadeAt N hold bits s t span a (v+1) (x ++ [(⟨v,a⟩:S53)]):=by
 refine⟨fun v' a'=> ?_,fun y hy=> ?_,?_⟩
 ·rw[hasL_snoc,Bool.or_eq_true,h.has,Bool.and_eq_true,decide_eq_true_eq,decide_eq_true_eq]
  show _∨(v=v'∧a=a')↔_;constructor
  ·rintro(⟨h1,h2⟩|⟨rfl,rfl⟩)
   ·exact⟨by omega,h2⟩
   ·exact⟨by omega,hin⟩
  ·rintro⟨h1,h2⟩
   by_cases e:v=v'∧a=a'
   ·exact Or.inr e
   ·exact Or.inl ⟨by omega,h2⟩
 ·rcases List.mem_append.1 hy with hy|hy
  ·exact h.ok y hy
  ·rw[List.mem_singleton.1 hy]
   unfold slotOkB;simp;omega
 ·have:=h.len
  rw[List.length_append,List.length_singleton];omega
theorem MadeAt.skip {N:Int} {hold:Bool} {bits:List Int} {s t span a v:Int} {x:List S53} (h:MadeAt N hold bits s t span a v x) (hin:inM hold bits s t span v a=false):MadeAt N hold bits s t span a (v+1) x:=by
 refine⟨fun v' a'=> ?_,h.ok,by have:=h.len;omega⟩;rw[h.has];constructor
 ·rintro⟨h1,h2⟩
  exact⟨by omega,h2⟩
 ·rintro⟨h1,h2⟩
  refine⟨?_,h2⟩;by_cases e:v'=v∧a'=a
  ·obtain⟨rfl,rfl⟩:=e
   rw[hin] at h2;cases h2
  ·omega
theorem MadeAt.row {N:Int} {hold:Bool} {bits:List Int} {s t span a:Int} {x:List S53} (h:MadeAt N hold bits s t span a N x):MadeAt N hold bits s t span (a+1) 0 x:=by
 refine⟨fun v' a'=> ?_,h.ok,by have:=h.len;rw[Int.add_mul];omega⟩;rw[h.has];constructor
 ·rintro⟨h1,h2⟩;exact⟨by omega,h2⟩
 ·rintro⟨h1,h2⟩;exact⟨by omega,h2⟩
theorem made_j2 (N:Int) (hold:Bool) (l:List S73) (s t span:Int) (bits:List Int) (hb: ∀ b∈bits,U16 b) (h0:2≤N) (h1:N≤5) (hs0:0≤span) (hs1:span≤7) (x:List S53) (hx:(x.length:Int)≤100) (a v:Int) (ha0:0≤a) (ha1:a≤span) (hv0:0≤v) (hv1:v<N) (hne:s≠t) (R:List S53)
  (next:Ev (fun k=>ebbtidelaw18_Made.l1 k s t span bits (if inM hold bits s t span v a=true then x ++ [(⟨v,a⟩:S53)] else x) a (v+1) N hold l) R):
  Ev (fun k=>ebbtidelaw18_Made.j2 k s t span bits x a v (bitsAt bits v) N hold l) R:=by
 have hbv:0≤bitsAt bits v∧bitsAt bits v≤65535:=by
  unfold bitsAt;split
  ·exact u16_in (hb _ (getD_mem (by omega)))
  ·omega
 have hw:wrap64 (v+1)=v+1:=wrap_id (by omega) (by omega);have hw2:wrap64 (span+2)=span+2:=wrap_id (by omega) (by omega);have hw3:wrap64 (bitsAt bits v)=bitsAt bits v:=wrap_id (by omega) (by omega);refine Ev.succ ?_;simp only[ebbtidelaw18_Made.j2];rw[hw,hw2,hw3];refine Ev.pos ha0 ?_;unfold inM at next
 cases hold with
 |true=>
  refine Ev.pos (by trivial) (Ev.neg (by omega) ?_);refine Ev.ite (fun g=> ?_) (fun g=> ?_)
  ·refine Ev.pos (by omega) ?_
   rw[Yo g,Bool.true_or,Yq rfl] at next
   exact next
  ·rw[Yp g,Bool.false_or] at next
   refine Ev.ite (fun g2=> ?_) (fun g2=> ?_)
   ·rw[Yo g2,Bool.not_true,Bool.false_and,Yr (by decide)] at next
    exact next
   ·rw[Yp g2,Bool.not_false,Bool.true_and,Yq rfl] at next
    refine Ev.ite (fun g3=> ?_) (fun g3=> ?_)
    ·refine Ev.pos (by omega) ?_
     rw[Yo g3,Yq rfl] at next
     exact next
    ·rw[Yp g3,Yr (by decide)] at next
     exact next
 |false=>
  refine Ev.neg (by decide) ?_;refine Ev.ite (fun g=> ?_) (fun g=> ?_)
  ·refine Ev.pos (by omega) ?_
   rw[Yo g,Bool.true_or,Yq rfl] at next
   exact next
  ·rw[Yp g,Bool.false_or] at next
   refine Ev.ite (fun g2=> ?_) (fun g2=> ?_)
   ·rw[Yo g2,Bool.not_true,Bool.false_and,Yr (by decide)] at next
    exact next
   ·rw[Yp g2,Bool.not_false,Bool.true_and,Yr (by decide: ¬ (false=true))] at next
    refine Ev.ite (fun g3=> ?_) (fun g3=> ?_)
    ·refine Ev.pos (by omega) ?_
     rw[Yo g3,Yq rfl] at next
     exact next
    ·rw[Yp g3,Yr (by decide)] at next
     exact next
theorem made_l1 (N:Int) (hold:Bool) (l:List S73) (s t span:Int) (bits:List Int) (hb: ∀ b∈bits,U16 b) (h0:2≤N) (h1:N≤5) (hs0:0≤span) (hs1:span≤7) (hne:s≠t) (a:Int) (ha0:0≤a) (ha1:a≤span)
  (next: ∀ x,MadeAt N hold bits s t span (a+1) 0 x→ ∃ R,Ev (fun k=>ebbtidelaw18_Made.l0 k s t span bits x (a+1) N hold l) R∧MadeAt N hold bits s t span (span+1) 0 R) (d:Nat):
  ∀ (v:Int) (x:List S53),0≤v→v+d=N→MadeAt N hold bits s t span a v x→
   ∃ R,Ev (fun k=>ebbtidelaw18_Made.l1 k s t span bits x a v N hold l) R∧MadeAt N hold bits s t span (span+1) 0 R:=by
 induction d with
 |zero=>
  intro v x hv0 hv hm;obtain rfl:v=N:=by omega
  obtain⟨R,hR,hp⟩:=next x hm.row
  refine⟨R,?_,hp⟩;refine Ev.succ ?_;simp only[ebbtidelaw18_Made.l1];refine Ev.neg (by omega) ?_;rw[wrap_id (x:=a+1) (by omega) (by omega)];exact hR
 |succ d ih=>
  intro v x hv0 hv hm;have hlen:=hm.len;have hmul:a * N≤7 * 5:=Int.mul_le_mul (by omega) (by omega) (by omega) (by omega);have hm':MadeAt N hold bits s t span a (v+1) (if inM hold bits s t span v a=true then x ++ [(⟨v,a⟩:S53)] else x):=by
   split
   ·exact hm.add hv0 (by omega) ha0 ha1 (by assumption)
   ·exact hm.skip (Bool.eq_false_iff.2 (by assumption))
  obtain⟨R,hR,hp⟩:=ih (v+1) _ (by omega) (by omega) hm';refine⟨R,?_,hp⟩;have hj:=made_j2 N hold l s t span bits hb h0 h1 hs0 hs1 x (by omega) a v ha0 ha1 hv0 (by omega) hne R hR;refine Ev.succ ?_;simp only[ebbtidelaw18_Made.l1];refine Ev.pos (by omega) ?_;unfold bitsAt at hj;refine Ev.ite (fun g=> ?_) (fun g=> ?_)
  ·rw[Yq g] at hj
   exact Ev.pos hv0 hj
  ·rw[Yr g] at hj
   exact hj
theorem made_l0 (N:Int) (hold:Bool) (l:List S73) (s t span:Int) (bits:List Int) (hb: ∀ b∈bits,U16 b) (h0:2≤N) (h1:N≤5) (hs0:0≤span) (hs1:span≤7) (hne:s≠t) (d:Nat):
  ∀ (a:Int) (x:List S53),0≤a→a+d=span+1→MadeAt N hold bits s t span a 0 x→
   ∃ R,Ev (fun k=>ebbtidelaw18_Made.l0 k s t span bits x a N hold l) R∧MadeAt N hold bits s t span (span+1) 0 R:=by
 induction d with
 |zero=>
  intro a x ha0 ha hm;obtain rfl:a=span+1:=by omega
  refine⟨x,?_,hm⟩;refine Ev.succ ?_;simp only[ebbtidelaw18_Made.l0];exact Ev.neg (by omega) (Ev.now _)
 |succ d ih=>
  intro a x ha0 ha hm;obtain⟨R,hR,hp⟩:=made_l1 N hold l s t span bits hb h0 h1 hs0 hs1 hne a ha0 (by omega) (fun y hy=>ih (a+1) y (by omega) (by omega) hy) N.toNat 0 x (by omega) (by omega) hm;refine⟨R,?_,hp⟩;refine Ev.succ ?_;simp only[ebbtidelaw18_Made.l0];exact Ev.pos (by omega) hR
structure CutOf (N:Int) (hold:Bool) (s t span:Int) (x:List S53):Prop where
 ok:x.all (slotOkB N span)=true
 ends:endsN (hasL x) s t (span.toNat+1)=true
 rises:hold=true→risesAll (hasL x) span.toNat N.toNat=true
 len:x.length≤100
 pos:0<x.length
theorem endsN_mk {S:Int→Int→Bool} {s t:Int} : ∀ m:Nat,(∀ k:Nat,k<m→S s k=true∧S t k=false)→endsN S s t m=true
 |0,_=>rfl
 |m+1,h=>by
  unfold endsN;rw[endsN_mk m (fun k hk=>h k (by omega)),(h m (by omega)).1,(h m (by omega)).2];rfl
theorem risesN_mk {S:Int→Int→Bool} {v:Int} : ∀ m:Nat,(∀ k:Nat,k<m→S v k=true→S v (k+1)=true)→risesN S v m=true
 |0,_=>rfl
 |m+1,h=>by
  unfold risesN;rw[risesN_mk m (fun k hk=>h k (by omega)),Bool.true_and];cases e:S v m with
  |false=>rfl
  |true=>rw[h m (by omega) e];rfl
theorem risesAll_mk {S:Int→Int→Bool} {h:Nat} : ∀ m:Nat,(∀ v:Nat,v<m→risesN S v h=true)→risesAll S h m=true
 |0,_=>rfl
 |m+1,hv=>by
  unfold risesAll;rw[risesAll_mk m (fun v hm=>hv v (by omega)),hv m (by omega)];rfl
theorem made_ev (N:Int) (hold:Bool) (l:List S73) (s t span:Int) (bits:List Int) (hb: ∀ b∈bits,U16 b) (h0:2≤N) (h1:N≤5) (hs0:0≤span) (hs1:span≤7) (he:EndsOk N s t):
  ∃ x,Ev (fun k=>ebbtidelaw18_Made.f k N hold l s t span bits) x∧CutOf N hold s t span x∧MadeAt N hold bits s t span (span+1) 0 x:=by
 have e1:=he.s0;have e2:=he.sn;have e3:=he.t0;have e4:=he.tn;have e5:=he.ne;obtain⟨x,hx,hm⟩:=made_l0 N hold l s t span bits hb h0 h1 hs0 hs1 e5 (span.toNat+1) 0 [] (by omega) (by omega) ⟨fun v a=>by
  simp[hasL];omega,by simp,by simp⟩
 refine⟨x,hx,⟨List.all_eq_true.2 hm.ok,?_,fun hh=> ?_,?_,?_⟩,hm⟩
 ·refine endsN_mk _ fun k hk=>⟨?_,?_⟩
  ·rw[hm.has]
   exact⟨by omega,by simp[inM]⟩
  ·cases e:hasL x t k with
   |false=>rfl
   |true=>
    have:=((hm.has t k).1 e).2;simp[inM] at this;omega
 ·refine risesAll_mk _ fun v hv=>risesN_mk _ fun k hk hS=> ?_
  obtain⟨g1,g2⟩:=(hm.has v k).1 hS;refine(hm.has v (k+1)).2 ⟨by omega,?_⟩;unfold inM at g2 ⊢;rw[hh] at g2 ⊢;simp at g2 ⊢;omega
 ·have:=hm.len
  have hmul:(span+1) * N≤8 * 5:=Int.mul_le_mul (by omega) (by omega) (by omega) (by omega);omega
 ·cases x with
  |nil=>
   have:=(hm.has s 0).2 ⟨by omega,by simp[inM]⟩;simp[hasL] at this
  |cons y x=>simp
theorem CutOf.res {N:Int} {hold:Bool} {l:List S73} {s t span:Int} {x:List S53} (h:CutOf N hold s t span x) (hn:NetOk N l) (he:EndsOk N s t) (hs0:0≤span) (hs1:span≤1024):
  tcRes N hold l s t span x=(takesL (hasL x) span l,0):=by
 unfold tcRes;rw[Yq (spanErr_mk hn he hs0 hs1),Yq h.ok,Yq h.ends,Yr (fun⟨a,b⟩=>b (h.rises a))]
end Q
namespace Q
open P
theorem awake18_at:ebbtidelaw18_awake.f 40=some true:=by decide +kernel
theorem awake18_ev:Ev (fun k=>ebbtidelaw18_awake.f k) true:=Ev.of ebbtidelaw18_awake.mono awake18_at
end Q
namespace Q
open P
open H
theorem has_mem (x:List S53) (v a:Int):hasL x v a=true↔ ∃ s∈x,s.f0=v∧s.f1=a:=by
 unfold hasL;rw[List.any_eq_true];constructor
 ·rintro⟨s,hs,h⟩;rw[Bool.and_eq_true,decide_eq_true_eq,decide_eq_true_eq] at h;exact⟨s,hs,h⟩
 ·rintro⟨s,hs,h⟩;exact⟨s,hs,by rw[Bool.and_eq_true,decide_eq_true_eq,decide_eq_true_eq];exact h⟩
theorem has_both {x y z:List S53} (h: ∀ s,s∈z↔s∈x∧hasL y s.f0 s.f1=true) (v a:Int):hasL z v a=(hasL x v a && hasL y v a):=by
 rw[Bool.eq_iff_iff,Bool.and_eq_true,has_mem];constructor
 ·rintro⟨s,hs,rfl,rfl⟩
  obtain⟨h1,h2⟩:=(h s).1 hs;exact⟨(has_mem x _ _).2 ⟨s,h1,rfl,rfl⟩,h2⟩
 ·rintro⟨h1,h2⟩
  obtain⟨s,hs,rfl,rfl⟩:=(has_mem x _ _).1 h1;exact⟨s,(h s).2 ⟨hs,h2⟩,rfl,rfl⟩
theorem has_any {x y z:List S53} (h: ∀ s,s∈z↔s∈x∨s∈y) (v a:Int):hasL z v a=(hasL x v a || hasL y v a):=by
 rw[Bool.eq_iff_iff,Bool.or_eq_true,has_mem,has_mem,has_mem];constructor
 ·rintro⟨s,hs,e⟩
  rcases (h s).1 hs with h1|h1
  ·exact Or.inl ⟨s,h1,e⟩
  ·exact Or.inr ⟨s,h1,e⟩
 ·rintro(⟨s,hs,e⟩|⟨s,hs,e⟩)
  ·exact⟨s,(h s).2 (Or.inl hs),e⟩
  ·exact⟨s,(h s).2 (Or.inr hs),e⟩
theorem ends_iff {S:Int→Int→Bool} {s t:Int} : ∀ m:Nat,endsN S s t m=true↔ ∀ k:Nat,k<m→S s k=true∧S t k=false
 |0=>⟨fun _ k hk=>absurd hk (Nat.not_lt_zero _),fun _=>rfl⟩
 |m+1=>by
  unfold endsN;rw[Bool.and_eq_true,ends_iff m,Bool.and_eq_true,Bool.not_eq_true'];constructor
  ·rintro⟨h1,h2⟩ k hk
   by_cases e:k=m
   ·subst e;exact h2
   ·exact h1 k (by omega)
  ·intro h
   exact⟨fun k hk=>h k (by omega),h m (by omega)⟩
theorem rises_iff {S:Int→Int→Bool} {v:Int} : ∀ m:Nat,risesN S v m=true↔ ∀ k:Nat,k<m→S v k=true→S v (k+1)=true
 |0=>⟨fun _ k hk=>absurd hk (Nat.not_lt_zero _),fun _=>rfl⟩
 |m+1=>by
  unfold risesN;rw[Bool.and_eq_true,rises_iff m];constructor
  ·rintro⟨h1,h2⟩ k hk hS
   by_cases e:k=m
   ·subst e
    rw[hS] at h2;cases h3:S v (k+1) with
    |true=>rfl
    |false=>rw[h3] at h2;simp at h2
   ·exact h1 k (by omega) hS
  ·intro h
   refine⟨fun k hk=>h k (by omega),?_⟩;cases h3:S v m with
   |false=>rfl
   |true=>rw[h m (by omega) h3];rfl
theorem risesAll_iff {S:Int→Int→Bool} {h:Nat} : ∀ m:Nat,risesAll S h m=true↔ ∀ v:Nat,v<m→risesN S v h=true
 |0=>⟨fun _ k hk=>absurd hk (Nat.not_lt_zero _),fun _=>rfl⟩
 |m+1=>by
  unfold risesAll;rw[Bool.and_eq_true,risesAll_iff m];constructor
  ·rintro⟨h1,h2⟩ k hk
   by_cases e:k=m
   ·subst e;exact h2
   ·exact h1 k (by omega)
  ·intro h
   exact⟨fun k hk=>h k (by omega),h m (by omega)⟩
theorem cut_res {N:Int} {hold:Bool} {l:List S73} {s t span:Int} {z:List S53} (hn:NetOk N l) (he:EndsOk N s t) (h0:0≤span) (h1:span≤1024) (ok:z.all (slotOkB N span)=true) (he2:endsN (hasL z) s t (span.toNat+1)=true) (hr:hold=true→risesAll (hasL z) span.toNat N.toNat=true):
  tcRes N hold l s t span z=(takesL (hasL z) span l,0):=by
 unfold tcRes;rw[Yq (spanErr_mk hn he h0 h1),Yq ok,Yq he2,Yr (fun⟨a,b⟩=>b (hr a))]
theorem both_cut {N:Int} {hold:Bool} {s t span:Int} {x y z:List S53} (hx:CutOf N hold s t span x) (hy:CutOf N hold s t span y) (h: ∀ s,s∈z↔s∈x∧hasL y s.f0 s.f1=true):
  z.all (slotOkB N span)=true∧endsN (hasL z) s t (span.toNat+1)=true∧(hold=true→risesAll (hasL z) span.toNat N.toNat=true):=by
 refine⟨List.all_eq_true.2 fun q hq=>List.all_eq_true.1 hx.ok q ((h q).1 hq).1,(ends_iff _).2 fun k hk=> ?_,fun hh=>(risesAll_iff _).2 fun v hv=>(rises_iff _).2 fun k hk=> ?_⟩
 ·have h1:=(ends_iff _).1 hx.ends k hk
  have h2:=(ends_iff _).1 hy.ends k hk;rw[has_both h,has_both h,h1.1,h1.2,h2.1];exact⟨rfl,rfl⟩
 ·have h1:=(rises_iff _).1 ((risesAll_iff _).1 (hx.rises hh) v hv) k hk
  have h2:=(rises_iff _).1 ((risesAll_iff _).1 (hy.rises hh) v hv) k hk;rw[has_both h,has_both h,Bool.and_eq_true,Bool.and_eq_true];exact fun⟨a,b⟩=>⟨h1 a,h2 b⟩
theorem any_cut {N:Int} {hold:Bool} {s t span:Int} {x y z:List S53} (hx:CutOf N hold s t span x) (hy:CutOf N hold s t span y) (h: ∀ s,s∈z↔s∈x∨s∈y):
  z.all (slotOkB N span)=true∧endsN (hasL z) s t (span.toNat+1)=true∧(hold=true→risesAll (hasL z) span.toNat N.toNat=true):=by
 refine⟨List.all_eq_true.2 fun q hq=>((h q).1 hq).elim (fun h1=>List.all_eq_true.1 hx.ok q h1) (fun h1=>List.all_eq_true.1 hy.ok q h1),(ends_iff _).2 fun k hk=> ?_,fun hh=>(risesAll_iff _).2 fun v hv=>(rises_iff _).2 fun k hk=> ?_⟩
 ·have h1:=(ends_iff _).1 hx.ends k hk
  have h2:=(ends_iff _).1 hy.ends k hk;rw[has_any h,has_any h,h1.1,h1.2,h2.2];exact⟨rfl,rfl⟩
 ·have h1:=(rises_iff _).1 ((risesAll_iff _).1 (hx.rises hh) v hv) k hk
  have h2:=(rises_iff _).1 ((risesAll_iff _).1 (hy.rises hh) v hv) k hk;rw[has_any h,has_any h,Bool.or_eq_true,Bool.or_eq_true];exact fun h3=>h3.elim (fun a=>Or.inl (h1 a)) (fun b=>Or.inr (h2 b))
theorem sum_two (f g p q:Nat→Int) (h: ∀ v,f v+g v≤p v+q v): ∀ m:Nat,sumTo m f+sumTo m g≤sumTo m p+sumTo m q
 |0=>by simp[sumTo]
 |m+1=>by
  have h1:=sum_two f g p q h m;have h2:=h m;simp only[sumTo];omega
theorem take_two {S T U V:Int→Int→Bool} (hU: ∀ v a,U v a=(S v a && T v a)) (hV: ∀ v a,V v a=(S v a || T v a)) {a:S73} (ha:0≤a.f2) (t:Nat):takeAt U a t+takeAt V a t≤takeAt S a t+takeAt T a t:=by
 unfold takeAt;rw[hU,hU,hV,hV];cases S a.f0 t<;>cases S a.f1 ((t:Int)+a.f3)<;>cases T a.f0 t<;>cases T a.f1 ((t:Int)+a.f3)<;>simp<;>omega
theorem takes_two {S T U V:Int→Int→Bool} (hU: ∀ v a,U v a=(S v a && T v a)) (hV: ∀ v a,V v a=(S v a || T v a)) (h:Int): ∀ l:List S73,(∀ a∈l,ArcSm a)→takesL U h l+takesL V h l≤takesL S h l+takesL T h l
 |[],_=>by simp[takesL]
 |a::l,hl=>by
  have h1:=takes_two hU hV h l (fun b hb=>hl b (List.mem_cons_of_mem _ hb));have h2:=sum_two _ _ _ _ (fun t=>take_two hU hV (hl a List.mem_cons_self).f2 t) (times h a);simp only[takesL,takesA];omega
theorem timecutMeets_ev (a0:Int) (hold:Bool) (bits:List S77) (a3 a4 a5:Int) (y1 y2:List Int) (hs:SmallOk (a0,hold,bits,a3,a4,a5)) (hy1:y1.length≤9223372036854775807∧ ∀ b∈y1,U16 b) (hy2:y2.length≤9223372036854775807∧ ∀ b∈y2,U16 b):
  Ev (fun k=>ebbtidelaw18_TimecutMeets.f k a0 hold bits a3 a4 a5 y1 y2) true:=by
 unfold ebbtidelaw18_TimecutMeets.f;obtain⟨⟨N,p,arcs,s,t,span⟩,hr,hsm⟩:=read_ev 10 (by omega) (by omega) a0 hold bits a3 a4 a5 hs;obtain⟨x,hx,hcx,_⟩:=made_ev N p arcs s t span y1 hy1.2 hsm.lo hsm.hi hsm.s0 hsm.s1 hsm.ends;obtain⟨y,hy,hcy,_⟩:=made_ev N p arcs s t span y2 hy2.2 hsm.lo hsm.hi hsm.s0 hsm.s1 hsm.ends;have h7:span≤7:=hsm.s1;have h0:0≤span:=hsm.s0;have hN:NetOk N arcs:=hsm.net;have hE:EndsOk N s t:=hsm.ends;have hlx:=hcx.len;have hly:=hcy.len;obtain⟨z,hz,hz1,hz2⟩:=both_ev x y (by omega) (by omega);obtain⟨u,hu,hu1,hu2⟩:=any_ev x y (by omega) (by omega);obtain⟨b1,b2,b3⟩:=both_cut hcx hcy hz1;obtain⟨c1,c2,c3⟩:=any_cut hcx hcy hu1;have r1:=hcx.res (l:=arcs) hN hE h0 (by omega);have r2:=hcy.res (l:=arcs) hN hE h0 (by omega);have r3:=cut_res (hold:=p) hN hE h0 (by omega) b1 b2 b3;have r4:=cut_res (hold:=p) hN hE h0 (by omega) c1 c2 c3;have hA: ∀ a∈arcs,ArcSm a:=fun a ha=>arc_sm (hN.arcs a ha) hN.hi
 have hlen:=hN.len;have s1:=takesL_small (hasL x) (h:=span) (by omega) arcs hA;have s2:=takesL_small (hasL y) (h:=span) (by omega) arcs hA;have s3:=takesL_small (hasL z) (h:=span) (by omega) arcs hA;have s4:=takesL_small (hasL u) (h:=span) (by omega) arcs hA;have htwo:=takes_two (fun v a=>has_both hz1 v a) (fun v a=>has_any hu1 v a) span arcs hA;refine Ev.bind awake18_ev (Ev.pos rfl (Ev.bind hr (Ev.bind hx (Ev.bind hy ?_))));have e1:timecut_Check.f N p arcs s t span x=some (takesL (hasL x) span arcs,0):=by unfold timecut_Check.f;rw[r1]
 have e2:timecut_Check.f N p arcs s t span y=some (takesL (hasL y) span arcs,0):=by unfold timecut_Check.f;rw[r2]
 have e3:timecut_Check.f N p arcs s t span z=some (takesL (hasL z) span arcs,0):=by unfold timecut_Check.f;rw[r3]
 have e4:timecut_Check.f N p arcs s t span u=some (takesL (hasL u) span arcs,0):=by unfold timecut_Check.f;rw[r4]
 refine Ev.call e1 (Ev.call e2 (Ev.bind hz (Ev.call e3 (Ev.bind hu (Ev.call e4 ?_)))));refine Ev.pos rfl (Ev.pos rfl (Ev.pos rfl (Ev.pos rfl (Ev.done ?_))));show decide (wrap64 (takesL (hasL z) span arcs+takesL (hasL u) span arcs)≤wrap64 (takesL (hasL x) span arcs+takesL (hasL y) span arcs))=true;rw[wrap_id (by omega) (by omega),wrap_id (by omega) (by omega)];exact Yo htwo
end Q
end Go.Proofs.Ytjaoknhhoicigaa
