/- What the law's row needs of these texts, taken out of them by wip/tool/mini.py: QQuietB QSortIns QSymLo QSymHi QSymMid QSortAll QArrRow QSetBase QBase QRefLaw P30 P31 P32 QNet P84 QFlowA QFlowB QPushLaw QCutLaw QFlowLaw QMaxLaw QLevelDef QSeekLaw QQueLaw QRawMem P72 QQueGrow QQuePut P69 P70 QRepeatWalk QLeast QSeekWalk QReverseWalk QFarsWalk QSortNil. -/
import Derived.Test.YtoedkglggapggaaVhpaoob
import Derived.Deep.QuietTactic
import Derived.WalkKit
import Derived.Test.YtoedkglggapggaaMejgebm
import Derived.Deep.RegionWith
import Derived.Deep.RegionHeld3
import Derived.StillTailTactics
import Derived.RegionTactic
import Derived.BigRegion
import Derived.ChangeAlike
import Derived.LoopTactic
import Derived.WalkMore
import Derived.Deep.RegionLaw
import Derived.Deep.AppendLies
import Derived.IntWalk
import Derived.Laws.IdiomCopy
import Derived.Laws.CopyOwn
import Derived.Test.YtoedkglggapggaaProg
import Derived.Deep.DeepCutAuto
set_option linter.unusedVariables false
set_option linter.unusedSimpArgs false
open Go.RowKit Go.Proofs.YtoedkglggapggaaW.PrintWords Go.Proofs.YtoedkglggapggaaW.PrintLast Go.Proofs.YtoedkglggapggaaW.PrintMore
namespace Go.Proofs.Ytoedkglggapggaa
namespace H
structure BelowW (w:World) where
 at_:World
 below:Below w.heap.size w at_
instance (w:World):Inhabited (BelowW w):=⟨⟨w,Yo _ _⟩⟩
theorem wp_region_quiet_below {P:Program} {id:Nat} {Q:Exit→Act→World→Prop} {a:Act} {w:World} {l:List Oper} (hm:P.follows .mixedOrders=true) (hB:Region.lexB .any l.toArray=true)
  (h:wpQuiet P l.toArray (fun w'=> ∃ p:BelowW w,w'=p.at_) (fun a'=> ∀ w',(∃ p:BelowW w,w'=p.at_)→Q .normal a' w') l a):(Code.region id l.toArray true).wp P Q a w:=
 wp_region_quiet (C:=fun w'=> ∃ p:BelowW w,w'=p.at_) hm hB ⟨⟨w.drew,below_drew (Yo _ _)⟩,rfl⟩ (by simpa using h)
theorem calls_below_of {P:Program} {f:FuncId} {args:Array Value} {w:World} {p:BelowW w} {v:Value} (h:Calls P f args p.at_ fun e w'=>e= .returned v∧Below p.at_.heap.size p.at_ w'):
  Calls P f args p.at_ fun e w''=>e= .returned v∧ ∃ q:BelowW w,w''=q.at_:=
 h.mono fun _ w' ⟨he,hb⟩=>⟨he,⟨w',below_then p.below p.below.size hb⟩,rfl⟩
theorem BelowW.cell {w:World} (p:BelowW w) {a:Addr} {v:Value} (h:w.cell? a=some v):p.at_.cell? a=some v:=pw_cell_below p.below h
end H
namespace H
open P
attribute [local irreducible] wpQuiet
set_option maxRecDepth 100000 in
theorem cmp_calls (x y:S79) (hx0:0≤x.f0) (hx1:x.f0≤1000000) (hy0:0≤y.f0) (hy1:y.f0≤1000000) (w:World):
  Calls Try.prog 86 #[.agg #[.int .i64 x.f0, .bool x.f1], .agg #[.int .i64 y.f0, .bool y.f1]] w fun e w'=>e= .returned (.int .i64 (x.f0 - y.f0))∧Below w.heap.size w w':=by
 go_enter Try.func86,Try.ntmps86;go_wp2;go_ret;exact⟨rfl,((Yo _ _).alloc (Nat.le_refl _) _).alloc (by simp) _⟩
set_option maxHeartbeats 1000000 in
set_option maxRecDepth 100000 in
theorem insertion_calls (g N cap:Nat) (M:Nat→S79) (a b:Nat) (w:World) (h:Arr w g N M) (hN:N≤1000000) (hab:a≤b) (hb:b≤N) (hs:Stab M N) (hsm:Small M N):
  Calls Try.prog 104 #[.slice (some ⟨g,0,none⟩) N cap, .int .i64 (a:Int), .int .i64 (b:Int), .func (.func 86) #[] #[]] w fun e w'=>e= .returned (.tuple #[])∧(∃ K,Arr w' g N K∧Sorted M K N a b)∧Fr w w' g:=by
 have HA:=Ya h;have HSM:=Ya hsm;have HST:=Ya hs;clear h hs hsm;go_enter Try.func104,Try.ntmps104;go_wp2;go_loopw [8] (fun i wr=> ∃ k:Nat,a+1≤k∧(k≤b∨k=a+1)∧i= .int .i64 k∧(∃ K,Aside0 (Arr wr g N K)∧Aside0 (Mix M K a b∧Stab K N∧Small K N∧Le K a k))∧Aside0 (Fr w wr g)) (fun i _=>b+1 - (intOf i).toNat)
 case atStart=>exact⟨a+1,by omega,by omega,by go_num,⟨M,HA,⟨mix_refl _ _ _,HST.out,HSM.out,le_one _ _ _ (Nat.le_refl _)⟩⟩,⟨grow_refl _ _⟩⟩
 case round=>
  obtain⟨k,hk0,hk,rfl,⟨K,HA1,HK1⟩,HG⟩:=hrel;clear HA HSM HST;by_cases hlt:k<b
  ·have HH:Aside0 (Mix M K a b∧Stab K N∧Small K N∧Hole K a k k):=⟨HK1.out.1,HK1.out.2.1,HK1.out.2.2.1,hole_start HK1.out.2.2.2⟩
   clear HK1;go_wp2;obtain⟨wo,rfl⟩: ∃ wo:World,wo=wr:=⟨_,rfl⟩;go_loopw [9] (fun vj wr=> ∃ j:Nat,a≤j∧j≤k∧vj= .int .i64 j∧(∃ K,Aside0 (Arr wr g N K)∧Aside0 (Mix M K a b∧Stab K N∧Small K N∧Hole K a k j))∧Aside0 (Fr w wr g)) (fun vj _=>(intOf vj).toNat)
   case atStart=>exact⟨k,by omega,Nat.le_refl _,rfl,⟨K,HA1,HH⟩,HG⟩
   case round=>
    clear HA1 HH HG;obtain⟨j,hj0,hj,rfl,⟨K,HA1,HK⟩,HG⟩:=hrel;by_cases hja:a<j
    ·obtain⟨jp,rfl⟩: ∃ jp,j=jp+1:=⟨j - 1,by omega⟩
     have c0:=HA1.out.cell0 (x:=jp+1) (by omega);have c1:=HA1.out.cell1 (x:=jp+1) (by omega);have d0:=HA1.out.cell0 (x:=jp) (by omega);have d1:=HA1.out.cell1 (x:=jp) (by omega);have cc0: ∀ p:BelowW wr,p.at_.cell? ⟨g,(jp+1) * 2,none⟩=some (.int .i64 (K (jp+1)).f0):=fun p=>p.cell c0
     have cc1: ∀ p:BelowW wr,p.at_.cell? ⟨g,(jp+1) * 2+1,none⟩=some (.bool (K (jp+1)).f1):=fun p=>p.cell c1
     have dd0: ∀ p:BelowW wr,p.at_.cell? ⟨g,jp * 2,none⟩=some (.int .i64 (K jp).f0):=fun p=>p.cell d0
     have dd1: ∀ p:BelowW wr,p.at_.cell? ⟨g,jp * 2+1,none⟩=some (.bool (K jp).f1):=fun p=>p.cell d1
     have hwp:IntKind.i64.wrap (jp:Int)=(jp:Int):=by rw[IntKind.wrap_i64];omega
     have jz:(jp:Int)+1<(N:Int):=by omega
     have jz1:(jp:Int)<(N:Int):=by omega
     have p0:(0:Int)≤(jp:Int)+1:=by omega
     have e0:((jp:Int)+1).toNat=jp+1:=by omega
     have g1:(a:Int)<(jp:Int)+1:=by omega
     have e1:=HK.out.2.2.1 (jp+1) (by omega);have e2:=HK.out.2.2.1 jp (by omega);clear c0 c1 d0 d1;go_wp2;refine wp_region_quiet_below (by kernel_rfl) (by kernel_rfl) ?_;(repeat(quiet_step ((go_at_call 86;exact calls_below_of (cmp_calls (K (jp+1)) (K jp) e1.1 e1.2 e2.1 e2.2 _)))));refine wpQuiet_nil ?_;intro wq hw';obtain⟨⟨wz,hbq⟩,hwq⟩:=hw';subst hwq;have HA2:Aside0 (Arr wq g N K):=⟨HA1.out.below hbq⟩;have HG2:Aside0 (Fr w wq g):=⟨grow_trans HG.out (grow_below hbq)⟩;clear cc0 cc1 dd0 dd1 HA1 HG hbq;by_cases hc:(K (jp+1)).f0<(K jp).f0
     ·have hcd:(K (jp+1)).f0 - (K jp).f0<0:=by omega
      have HK2:Aside0 (Mix M (sw K jp) a b∧Stab (sw K jp) N∧Small (sw K jp) N∧Hole (sw K jp) a k jp):=
       ⟨mix_trans HK.out.1 (sw_mix K jp a b (by omega) (by omega)),sw_stab HK.out.2.1 (by omega) hc,mix_small (sw_mix K jp a b (by omega) (by omega)) hb HK.out.2.2.1,hole_swap HK.out.2.2.2 (by omega) (by omega) hc⟩
      have c0:=HA2.out.cell0 (x:=jp+1) (by omega);have c1:=HA2.out.cell1 (x:=jp+1) (by omega);have d0:=HA2.out.cell0 (x:=jp) (by omega);have d1:=HA2.out.cell1 (x:=jp) (by omega);have f0:=HA2.out.free;have HE:Aside0 (∀ x,upd (upd K (jp+1) (K jp)) jp (K (jp+1)) x=sw K jp x):=⟨sw_put1 K jp⟩;obtain⟨s1,hs1⟩: ∃ s,K (jp+1)=s:=⟨_,rfl⟩;obtain⟨s2,hs2⟩: ∃ s,K jp=s:=⟨_,rfl⟩;have HE2:Aside0 (∀ x,upd (upd K (jp+1) s2) jp s1 x=sw K jp x):=by rw[← hs1, ← hs2];exact HE
      rw[hs1] at c0 c1 hcd ⊢;rw[hs2] at d0 d1 hcd ⊢;clear e1 e2 HK hc HE hs1 hs2;go_wp2_with fail;go_region;have HA3:Aside0 (Arr (((((wq.setCell ⟨g,(jp+1) * 2,none⟩ (.int .i64 s2.f0)).setCell ⟨g,(jp+1) * 2+1,none⟩ (.bool s2.f1)).setCell ⟨g,jp * 2,none⟩ (.int .i64 s1.f0)).setCell ⟨g,jp * 2+1,none⟩ (.bool s1.f1)).drew) g N (sw K jp)):=
       ⟨(((HA2.out.put (by omega) s2).put (by omega) s1).drew).congr fun x _=>(HE2.out x).symm⟩
      have HG3:=Ya (grow_drew (grow_set (grow_set (grow_set (grow_set HG2.out ((jp+1) * 2) (.int .i64 s2.f0)) ((jp+1) * 2+1) (.bool s2.f1)) (jp * 2) (.int .i64 s1.f0)) (jp * 2+1) (.bool s1.f1)));clear c0 c1 d0 d1 f0 HA2 HG2 HE2;go_wp2;go_roundw
      case rel=>exact⟨jp,by omega,by omega,rfl,⟨_,HA3,HK2⟩,HG3⟩
      case measure=>simp[intOf]<;>omega
     ·have hcd: ¬ ((K (jp+1)).f0 - (K jp).f0<0):=by omega
      have HK2:Aside0 (Mix M K a b∧Stab K N∧Small K N∧Le K a (k+1)):=
       ⟨HK.out.1,HK.out.2.1,HK.out.2.2.1,hole_stop HK.out.2.2.2 (Or.inr ⟨by omega,by rw[Nat.add_sub_cancel];omega⟩)⟩
      clear e1 e2 HK hc;go_wp2_with fail;go_roundw
      case rel=>exact⟨k+1,by omega,by omega,by go_num,⟨_,HA2,HK2⟩,HG2⟩
      case measure=>simp[intOf]<;>omega
    ·have ej:j=a:=by omega
     have HK2:Aside0 (Mix M K a b∧Stab K N∧Small K N∧Le K a (k+1)):=
      ⟨HK.out.1,HK.out.2.1,HK.out.2.2.1,hole_stop HK.out.2.2.2 (Or.inl ej)⟩
     have g1: ¬ ((a:Int)<(j:Int)):=by omega
     clear HK;go_wp2;refine wp_region_quiet_below (by kernel_rfl) (by kernel_rfl) ?_;(repeat(quiet_step ((fail))));refine wpQuiet_nil ?_;intro wq hw';obtain⟨⟨wz,hbq⟩,hwq⟩:=hw';subst hwq;have HA2:Aside0 (Arr wq g N K):=⟨HA1.out.below hbq⟩;have HG2:Aside0 (Fr w wq g):=⟨grow_trans HG.out (grow_below hbq)⟩;clear HA1 HG hbq;go_wp2_with fail;go_roundw
     case rel=>exact⟨k+1,by omega,by omega,by go_num,⟨_,HA2,HK2⟩,HG2⟩
     case measure=>simp[intOf]<;>omega
  ·go_wp2
   go_end0;refine⟨rfl,⟨K,HA1.out,HK1.out.1,HK1.out.2.1,HK1.out.2.2.1,?_⟩,HG.out⟩;intro x y h1 h2 h3;exact HK1.out.2.2.2 x y h1 h2 (by omega)
end H
namespace H
open P
attribute [local irreducible] wpQuiet
theorem Arr.q0 {w:World} {g N:Nat} {M:Nat→S79} (h:Arr w g N M) {x:Nat} (hx:x<N): ∀ p:BelowW w,p.at_.cell? ⟨g,x * 2,none⟩=some (.int .i64 (M x).f0):=fun p=>p.cell (h.cell0 hx)
theorem Arr.q1 {w:World} {g N:Nat} {M:Nat→S79} (h:Arr w g N M) {x:Nat} (hx:x<N): ∀ p:BelowW w,p.at_.cell? ⟨g,x * 2+1,none⟩=some (.bool (M x).f1):=fun p=>p.cell (h.cell1 hx)
set_option maxHeartbeats 1000000 in
set_option maxRecDepth 100000 in
theorem symLo_calls (g N cap:Nat) (M:Nat→S79) (a b:Nat) (w:World) (h:Arr w g N M) (hN:N≤1000000) (hab:a+1<b) (hb:b≤N) (hs:Stab M N) (hsm:Small M N) (hle:Le M (a+1) b):
  Calls Try.prog 105 #[.slice (some ⟨g,0,none⟩) N cap, .int .i64 (a:Int), .int .i64 ((a:Int)+1), .int .i64 (b:Int), .func (.func 86) #[] #[]] w fun e w'=>e= .returned (.tuple #[])∧(∃ K,Arr w' g N K∧Sorted M K N a b)∧Fr w w' g:=by
 have HA:=Ya h;have HSM:=Ya hsm;have HST:=Ya hs;have HLE:=Ya hle;clear h hs hsm hle;have e1:(a:Int)+1 - (a:Int)=1:=by omega
 go_enter Try.func105,Try.ntmps105;go_wp2_with fail;go_loopw [10,11] (fun vi vj wr=> ∃ i j:Nat,a+1≤i∧i≤j∧j≤b∧vi= .int .i64 i∧vj= .int .i64 j∧Aside0 (Arr wr g N M)∧Aside0 (∀ y,a+1≤y→y<i→(M y).f0<(M a).f0)∧Aside0 (∀ y,j≤y→y<b→(M a).f0≤(M y).f0)∧Aside0 (Fr w wr g)) (fun vi vj _=>(intOf vj).toNat - (intOf vi).toNat)
 case atStart=>exact⟨a+1,b,Nat.le_refl _,by omega,Nat.le_refl _,by go_num,rfl,HA,⟨fun y h1 h2=>by omega⟩,⟨fun y h1 h2=>by omega⟩,⟨grow_refl _ _⟩⟩
 case round=>
  clear HA;obtain⟨i,j,hi,hij,hj,rfl,rfl,HA1,HL,HR,HG⟩:=hrel;by_cases hlt:i<j
  ·obtain⟨c,hc⟩: ∃ c,(i+j) / 2=c:=⟨_,rfl⟩
   have hcz:((i:Int)+(j:Int)) / 2=(c:Int):=by omega
   have b1:=HSM.out c (by omega);have b2:=HSM.out a (by omega);have c0:=HA1.out.q0 (x:=c) (by omega);have c1:=HA1.out.q1 (x:=c) (by omega);have d0:=HA1.out.q0 (x:=a) (by omega);have d1:=HA1.out.q1 (x:=a) (by omega);have z1:(c:Int)<(N:Int):=by omega
   have z2:(a:Int)<(N:Int):=by omega
   go_wp2_with fail;refine wp_region_quiet_below (by kernel_rfl) (by kernel_rfl) ?_;(repeat(quiet_step ((go_at_call 86;exact calls_below_of (cmp_calls (M c) (M a) b1.1 b1.2 b2.1 b2.2 _)))));refine wpQuiet_nil ?_;intro wq hw';obtain⟨⟨wz,hbq⟩,hwq⟩:=hw';subst hwq;have HA2:Aside0 (Arr wq g N M):=⟨HA1.out.below hbq⟩;have HG2:Aside0 (Fr w wq g):=⟨grow_trans HG.out (grow_below hbq)⟩;have HC:=Ya hc;clear c0 c1 d0 d1 HA1 HG hbq hcz hc;have HC2:Aside0 (a+1≤c∧i≤c∧c<j):=by have:=HC.out;exact⟨by omega,by omega,by omega⟩
   clear HC;by_cases hlc:(M c).f0<(M a).f0
   ·have hcd:(M c).f0 - (M a).f0<0:=by omega
    have HL2:Aside0 (∀ y,a+1≤y→y<c+1→(M y).f0<(M a).f0):=⟨fun y h1 h2=>by
     have:=le_le HLE.out h1 (show y≤c by omega) (by have:=HC2.out;omega);omega⟩
    clear HL hlc b1 b2;go_wp2_with fail;go_roundw
    case rel=>exact⟨c+1,j,by have:=HC2.out;omega,by have:=HC2.out;omega,hj,by go_num,rfl,HA2,HL2,HR,HG2⟩
    case measure=>have:=HC2.out;simp[intOf]<;>omega
   ·have hcd: ¬ ((M c).f0 - (M a).f0<0):=by omega
    have HR2:Aside0 (∀ y,c≤y→y<b→(M a).f0≤(M y).f0):=⟨fun y h1 h2=>by
     have:=le_le HLE.out (show a+1≤c by have:=HC2.out;omega) h1 h2;omega⟩
    clear HR hlc b1 b2;go_wp2_with fail;go_roundw
    case rel=>exact⟨i,c,hi,by have:=HC2.out;omega,by have:=HC2.out;omega,rfl,rfl,HA2,HL,HR2,HG2⟩
    case measure=>have:=HC2.out;simp[intOf]<;>omega
  ·have ij:i=j:=by omega
   subst ij;go_wp2_with fail;have HB:Aside0 (Le (rotM M a (a+1) i) a b∧Stab (rotM M a (a+1) i) N):=⟨rot_one_lo HLE.out hi hj HL.out HR.out,rot_stab HST.out (by omega) hi (by omega) (fun x y h1 h2 h3 h4=>by
    have e:x=a:=by omega
    subst e;exact HL.out y h3 h4)⟩
   clear HL HR HLE HST;obtain⟨wo,rfl⟩: ∃ wo:World,wo=wr:=⟨_,rfl⟩;go_loopw [13] (fun vk wr=> ∃ k:Nat,a≤k∧k<i∧vk= .int .i64 k∧(∃ K,Aside0 (Arr wr g N K)∧Aside0 (∀ x,K x=rotM M a (a+1) (k+1) x))∧Aside0 (Fr w wr g)) (fun vk _=>i - (intOf vk).toNat)
   case atStart=>exact⟨a,by omega,by omega,rfl,⟨M,HA1,⟨fun x=>(rot_none M (by omega) (by omega) (Or.inr rfl) x).symm⟩⟩,HG⟩
   case round=>
    clear HA1 HG;obtain⟨k,hk0,hk,rfl,⟨K,HA1,HK⟩,HG⟩:=hrel;by_cases hlt2:k+1<i
    ·have c0:=HA1.out.cell0 (x:=k+1) (by omega)
     have c1:=HA1.out.cell1 (x:=k+1) (by omega);have d0:=HA1.out.cell0 (x:=k) (by omega);have d1:=HA1.out.cell1 (x:=k) (by omega);have f0:=HA1.out.free;have HK2:Aside0 (∀ x,upd (upd K k (K (k+1))) (k+1) (K k) x=rotM M a (a+1) (k+1+1) x):=⟨fun x=>by
      rw[sw_put2];have e:K=rotM M a (a+1) (k+1):=funext HK.out;rw[e];exact sw_rot_lo M hk0 x⟩
     obtain⟨s1,hs1⟩: ∃ s,K (k+1)=s:=⟨_,rfl⟩;obtain⟨s2,hs2⟩: ∃ s,K k=s:=⟨_,rfl⟩;rw[hs1] at c0 c1 HK2;rw[hs2] at d0 d1 HK2;clear HK hs1 hs2;go_wp2;go_region;have HA3:Aside0 (Arr (((((wr.setCell ⟨g,k * 2,none⟩ (.int .i64 s1.f0)).setCell ⟨g,k * 2+1,none⟩ (.bool s1.f1)).setCell ⟨g,(k+1) * 2,none⟩ (.int .i64 s2.f0)).setCell ⟨g,(k+1) * 2+1,none⟩ (.bool s2.f1)).drew) g N (upd (upd K k s1) (k+1) s2)):=
      ⟨((HA1.out.put (by omega) s1).put (by omega) s2).drew⟩
     have HG3:=Ya (grow_drew (grow_set (grow_set (grow_set (grow_set HG.out (k * 2) (.int .i64 s1.f0)) (k * 2+1) (.bool s1.f1)) ((k+1) * 2) (.int .i64 s2.f0)) ((k+1) * 2+1) (.bool s2.f1)));clear c0 c1 d0 d1 f0 HA1 HG;go_wp2;go_roundw
     case rel=>exact⟨k+1,by omega,by omega,by go_num,⟨_,HA3,HK2⟩,HG3⟩
     case measure=>simp[intOf]<;>omega
    ·have ek:k+1=i:=by omega
     have HA3:Aside0 (Arr wr g N (rotM M a (a+1) i)):=⟨HA1.out.congr fun x _=>by rw[HK.out,ek]⟩;clear HA1 HK;go_wp2
     (try simp only[Exit.inBlock,Exit.then]);refine bodyPost_ret (results_none rfl _ _ _) rfl ?_
     exact⟨rfl,⟨_,HA3.out,mix_wide (rot_mix M (by omega) (by omega)) (Nat.le_refl _) hj,HB.out.2,mix_small (rot_mix M (by omega) hi) (by omega) HSM.out,HB.out.1⟩,HG.out⟩
end H
namespace H
open P
attribute [local irreducible] wpQuiet
set_option maxHeartbeats 2000000 in
set_option maxRecDepth 100000 in
theorem symHi_calls (g N cap:Nat) (M:Nat→S79) (a m:Nat) (w:World) (h:Arr w g N M) (hN:N≤1000000) (hab:a+1<m) (hb:m+1≤N) (hs:Stab M N) (hsm:Small M N) (hle:Le M a m):
  Calls Try.prog 105 #[.slice (some ⟨g,0,none⟩) N cap, .int .i64 (a:Int), .int .i64 (m:Int), .int .i64 ((m:Int)+1), .func (.func 86) #[] #[]] w fun e w'=>e= .returned (.tuple #[])∧(∃ K,Arr w' g N K∧Sorted M K N a (m+1))∧Fr w w' g:=by
 have HA:=Ya h;have HSM:=Ya hsm;have HST:=Ya hs;have HLE:=Ya hle;clear h hs hsm hle;have e1:(m:Int)+1 - (m:Int)=1:=by omega
 have e2:(((m:Int) - (a:Int)) == 1)=false:=by rw[beq_eq_false_iff_ne];omega
 go_enter Try.func105,Try.ntmps105;go_wp2_with fail;go_loopw [14,15] (fun vi vj wr=> ∃ i j:Nat,a≤i∧i≤j∧j≤m∧vi= .int .i64 i∧vj= .int .i64 j∧Aside0 (Arr wr g N M)∧Aside0 (∀ y,a≤y→y<i→(M y).f0≤(M m).f0)∧Aside0 (∀ y,j≤y→y<m→(M m).f0<(M y).f0)∧Aside0 (Fr w wr g)) (fun vi vj _=>(intOf vj).toNat - (intOf vi).toNat)
 case atStart=>exact⟨a,m,Nat.le_refl _,by omega,Nat.le_refl _,rfl,rfl,HA,⟨fun y h1 h2=>by omega⟩,⟨fun y h1 h2=>by omega⟩,⟨grow_refl _ _⟩⟩
 case round=>
  clear HA;obtain⟨i,j,hi,hij,hj,rfl,rfl,HA1,HL,HR,HG⟩:=hrel;by_cases hlt:i<j
  ·obtain⟨c,hc⟩: ∃ c,(i+j) / 2=c:=⟨_,rfl⟩
   have hcz:((i:Int)+(j:Int)) / 2=(c:Int):=by omega
   have b1:=HSM.out c (by omega);have b2:=HSM.out m (by omega);have c0:=HA1.out.q0 (x:=c) (by omega);have c1:=HA1.out.q1 (x:=c) (by omega);have d0:=HA1.out.q0 (x:=m) (by omega);have d1:=HA1.out.q1 (x:=m) (by omega);have z1:(c:Int)<(N:Int):=by omega
   have z2:(m:Int)<(N:Int):=by omega
   go_wp2_with fail;refine wp_region_quiet_below (by kernel_rfl) (by kernel_rfl) ?_;(repeat(quiet_step ((go_at_call 86;exact calls_below_of (cmp_calls (M m) (M c) b2.1 b2.2 b1.1 b1.2 _)))));refine wpQuiet_nil ?_;intro wq hw';obtain⟨⟨wz,hbq⟩,hwq⟩:=hw';subst hwq;have HA2:Aside0 (Arr wq g N M):=⟨HA1.out.below hbq⟩;have HG2:Aside0 (Fr w wq g):=⟨grow_trans HG.out (grow_below hbq)⟩;have HC:=Ya hc;clear c0 c1 d0 d1 HA1 HG hbq hcz hc;have HC2:Aside0 (a≤c∧i≤c∧c<j):=by have:=HC.out;exact⟨by omega,by omega,by omega⟩
   clear HC;by_cases hlc:(M m).f0<(M c).f0
   ·have hcd:(!decide ((M m).f0 - (M c).f0<0))=false:=by rw[Ys (by omega)];rfl
    have HR2:Aside0 (∀ y,c≤y→y<m→(M m).f0<(M y).f0):=⟨fun y h1 h2=>by
     have:=le_le HLE.out (show a≤c by have:=HC2.out;omega) h1 h2;omega⟩
    clear HR hlc b1 b2;rw[hcd];clear hcd;go_wp2_with fail;go_roundw
    case rel=>exact⟨i,c,hi,by have:=HC2.out;omega,by have:=HC2.out;omega,rfl,rfl,HA2,HL,HR2,HG2⟩
    case measure=>have:=HC2.out;simp[intOf]<;>omega
   ·have hcd:(!decide ((M m).f0 - (M c).f0<0))=true:=by rw[Yt (by omega)];rfl
    have HL2:Aside0 (∀ y,a≤y→y<c+1→(M y).f0≤(M m).f0):=⟨fun y h1 h2=>by
     have:=le_le HLE.out h1 (show y≤c by omega) (by have:=HC2.out;omega);omega⟩
    clear HL hlc b1 b2;rw[hcd];clear hcd;go_wp2_with fail;go_roundw
    case rel=>exact⟨c+1,j,by have:=HC2.out;omega,by have:=HC2.out;omega,hj,by go_num,rfl,HA2,HL2,HR,HG2⟩
    case measure=>have:=HC2.out;simp[intOf]<;>omega
  ·have ij:i=j:=by omega
   subst ij;go_wp2_with fail;have HB:Aside0 (Le (rotM M i m (m+1)) a (m+1)∧Stab (rotM M i m (m+1)) N):=⟨rot_one_hi HLE.out hi hj HL.out HR.out,rot_stab HST.out hj (by omega) (by omega) (fun x y h1 h2 h3 h4=>by
    have e:y=m:=by omega
    subst e;exact HR.out x h1 h2)⟩
   clear HL HR HLE HST;obtain⟨wo,rfl⟩: ∃ wo:World,wo=wr:=⟨_,rfl⟩;go_loopw [17] (fun vk wr=> ∃ k:Nat,i≤k∧k≤m∧vk= .int .i64 k∧(∃ K,Aside0 (Arr wr g N K)∧Aside0 (∀ x,K x=rotM M k m (m+1) x))∧Aside0 (Fr w wr g)) (fun vk _=>(intOf vk).toNat)
   case atStart=>exact⟨m,by omega,Nat.le_refl _,rfl,⟨M,HA1,⟨fun x=>(rot_none M (Nat.le_refl _) (by omega) (Or.inl rfl) x).symm⟩⟩,HG⟩
   case round=>
    clear HA1 HG;obtain⟨k1,hk0,hk,rfl,⟨K,HA1,HK⟩,HG⟩:=hrel;by_cases hlt2:i<k1
    ·obtain⟨k,rfl⟩: ∃ k,k1=k+1:=⟨k1 - 1,by omega⟩
     have c0:=HA1.out.cell0 (x:=k+1) (by omega);have c1:=HA1.out.cell1 (x:=k+1) (by omega);have d0:=HA1.out.cell0 (x:=k) (by omega);have d1:=HA1.out.cell1 (x:=k) (by omega);have f0:=HA1.out.free;have hwp:IntKind.i64.wrap (k:Int)=(k:Int):=by rw[IntKind.wrap_i64];omega
     have jz:(k:Int)+1<(N:Int):=by omega
     have jz1:(k:Int)<(N:Int):=by omega
     have p0:(0:Int)≤(k:Int)+1:=by omega
     have e0:((k:Int)+1).toNat=k+1:=by omega
     have g1:(i:Int)<(k:Int)+1:=by omega
     have HK2:Aside0 (∀ x,upd (upd K (k+1) (K k)) k (K (k+1)) x=rotM M k m (m+1) x):=⟨fun x=>by
      rw[sw_put1];have e:K=rotM M (k+1) m (m+1):=funext HK.out;rw[e];exact sw_rot_hi M (by omega) x⟩
     obtain⟨s1,hs1⟩: ∃ s,K (k+1)=s:=⟨_,rfl⟩;obtain⟨s2,hs2⟩: ∃ s,K k=s:=⟨_,rfl⟩;rw[hs1] at c0 c1 HK2;rw[hs2] at d0 d1 HK2;clear HK hs1 hs2;go_wp2;go_region;have HA3:Aside0 (Arr (((((wr.setCell ⟨g,(k+1) * 2,none⟩ (.int .i64 s2.f0)).setCell ⟨g,(k+1) * 2+1,none⟩ (.bool s2.f1)).setCell ⟨g,k * 2,none⟩ (.int .i64 s1.f0)).setCell ⟨g,k * 2+1,none⟩ (.bool s1.f1)).drew) g N (upd (upd K (k+1) s2) k s1)):=
      ⟨((HA1.out.put (by omega) s2).put (by omega) s1).drew⟩
     have HG3:=Ya (grow_drew (grow_set (grow_set (grow_set (grow_set HG.out ((k+1) * 2) (.int .i64 s2.f0)) ((k+1) * 2+1) (.bool s2.f1)) (k * 2) (.int .i64 s1.f0)) (k * 2+1) (.bool s1.f1)));clear c0 c1 d0 d1 f0 HA1 HG;go_wp2;go_roundw
     case rel=>exact⟨k,by omega,by omega,rfl,⟨_,HA3,HK2⟩,HG3⟩
     case measure=>simp[intOf]<;>omega
    ·have ek:k1=i:=by omega
     have HA3:Aside0 (Arr wr g N (rotM M i m (m+1))):=⟨HA1.out.congr fun x _=>by rw[HK.out,ek]⟩;clear HA1 HK;go_wp2
     (try simp only[Exit.inBlock,Exit.then]);refine bodyPost_ret (results_none rfl _ _ _) rfl ?_
     exact⟨rfl,⟨_,HA3.out,mix_wide (rot_mix M hj (by omega)) hi (Nat.le_refl _),HB.out.2,mix_small (rot_mix M hj (by omega)) (by omega) HSM.out,HB.out.1⟩,HG.out⟩
end H
namespace H
open P
attribute [local irreducible] wpQuiet
def Cross (K:Nat→S79) (a mid b:Nat):Prop:= ∀ x y,a≤x→x<mid→mid≤y→y<b→(K x).f0≤(K y).f0
def F1 (M K:Nat→S79) (N a s mid e b:Nat):Prop:=Mix M K a b∧Stab K N∧Small K N∧Le K a s∧Le K s mid∧Le K mid e∧Le K e b∧Cross K a mid b
def F2 (M K:Nat→S79) (N a mid e b:Nat):Prop:=Mix M K a b∧Stab K N∧Small K N∧Le K a mid∧Le K mid e∧Le K e b∧Cross K a mid b
theorem f1_rot {M:Nat→S79} {N a m b mid s e:Nat} (h1:Le M a m) (h2:Le M m b) (has:a≤s) (hsm:s≤m) (hme:m≤e) (heb:e≤b) (hsum:s+e=mid+m) (hsmid:s≤mid) (hmide:mid≤e)
  (hge:a<s→e<b→(M (s - 1)).f0≤(M e).f0) (hlt:s<m→m<e→(M (e - 1)).f0<(M s).f0) (hst:Stab M N) (hsmall:Small M N) (hb:b≤N):F1 M (rotM M s m e) N a s mid e b:=by
 obtain⟨p1,p2,p3,p4,p5,p6⟩:=sym_rot h1 h2 has hsm hme heb hsum hsmid hmide hge hlt hst hb;have hx:=mix_wide (rot_mix M hsm hme) has heb;exact⟨hx,p1,mix_small hx hb hsmall,p2,p3,p4,p5,p6⟩
theorem f2_rec {M K L:Nat→S79} {N a s mid e b:Nat} (h:F1 M K N a s mid e b) (hl:Sorted K L N a mid) (hm:mid≤e) (he:e≤b):F2 M L N a mid e b:=by
 obtain⟨h1,h2,h3,h4,h5,h6,h7,h8⟩:=h;obtain⟨l1,l2,l3,l4⟩:=hl;exact⟨mix_trans h1 (mix_wide l1 (Nat.le_refl _) (by omega)),l2,l3,l4,mix_le l1 (Or.inr (Nat.le_refl _)) h6,mix_le l1 (Or.inr hm) h7,mix_cross h8 (Or.inl l1)⟩
theorem f2_no {M K:Nat→S79} {N a s mid e b:Nat} (h:F1 M K N a s mid e b) (hs:s=a∨s=mid):F2 M K N a mid e b:=by
 obtain⟨h1,h2,h3,h4,h5,h6,h7,h8⟩:=h;refine⟨h1,h2,h3,?_,h6,h7,h8⟩;rcases hs with hs|hs
 ·subst hs;exact h5
 ·subst hs;exact h4
theorem f3_rec {M K L:Nat→S79} {N a mid e b:Nat} (h:F2 M K N a mid e b) (hl:Sorted K L N mid b) (ha:a≤mid):Sorted M L N a b:=by
 obtain⟨h1,h2,h3,h4,h6,h7,h8⟩:=h;obtain⟨l1,l2,l3,l4⟩:=hl;exact⟨mix_trans h1 (mix_wide l1 ha (Nat.le_refl _)),l2,l3,le_join (mix_le l1 (Or.inl (Nat.le_refl _)) h4) l4 (mix_cross h8 (Or.inr l1))⟩
theorem f3_no {M K:Nat→S79} {N a mid e b:Nat} (h:F2 M K N a mid e b) (hs:e=mid∨e=b):Sorted M K N a b:=by
 obtain⟨h1,h2,h3,h4,h6,h7,h8⟩:=h;refine⟨h1,h2,h3,le_join h4 ?_ h8⟩;rcases hs with hs|hs
 ·subst hs;exact h7
 ·subst hs;exact h6
structure Mid (a m b mid s0 r0 p:Nat):Prop where
 lo:2 * mid≤a+b
 hi:a+b<2 * mid+2
 am:a+2≤m
 mb:m+2≤b
 s0a:a≤s0
 r0m:r0≤m
 r0mid:r0≤mid
 s0b:mid+m≤s0+b
 sr:s0≤r0
 p:p+1=mid+m
 s0e:s0=a∨s0+b=mid+m
 r0e:r0=mid∨r0=m
theorem mid_f1 {M:Nat→S79} {N a m b mid s0 r0 p s e:Nat} (H:Mid a m b mid s0 r0 p) (h0:s0≤s) (h1:s≤r0) (hse:s+e=mid+m) (hL: ∀ c,s0≤c→c<s→(M c).f0≤(M (p - c)).f0) (hR: ∀ c,s≤c→c<r0→(M (p - c)).f0<(M c).f0)
  (l1:Le M a m) (l2:Le M m b) (hst:Stab M N) (hsm:Small M N) (hb:b≤N):F1 M (rotM M s m e) N a s mid e b:=by
 obtain⟨q1,q2,q3,q4,q5,q6,q7,q8,q9,q10,q11,q12⟩:=H;refine f1_rot l1 l2 (by omega) (by omega) (by omega) (by omega) hse (by omega) (by omega) (fun k1 k2=> ?_) (fun k1 k2=> ?_) hst hsm hb
 ·have:=hL (s - 1) (by omega) (by omega)
  rwa [show p - (s - 1)=e by omega] at this
 ·have:=hR s (Nat.le_refl _) (by omega)
  rwa [show p - s=e - 1 by omega] at this
theorem mid_left {M:Nat→S79} {a m b mid s0 r0 p c:Nat} (H:Mid a m b mid s0 r0 p) (h0:s0≤c) (h1:c<r0) (l1:Le M a m) (l2:Le M m b) (h:(M c).f0≤(M (p - c)).f0): ∀ x,s0≤x→x<c+1→(M x).f0≤(M (p - x)).f0:=by
 obtain⟨q1,q2,q3,q4,q5,q6,q7,q8,q9,q10,q11,q12⟩:=H;intro x k1 k2;have k3:(M x).f0≤(M c).f0:=le_le l1 (by omega) (by omega) (by omega);have k4:(M (p - c)).f0≤(M (p - x)).f0:=le_le l2 (by omega) (by omega) (by omega);omega
theorem mid_right {M:Nat→S79} {a m b mid s0 r0 p c:Nat} (H:Mid a m b mid s0 r0 p) (h0:s0≤c) (h1:c<r0) (l1:Le M a m) (l2:Le M m b) (h:(M (p - c)).f0<(M c).f0): ∀ x,c≤x→x<r0→(M (p - x)).f0<(M x).f0:=by
 obtain⟨q1,q2,q3,q4,q5,q6,q7,q8,q9,q10,q11,q12⟩:=H;intro x k1 k2;have k3:(M c).f0≤(M x).f0:=le_le l1 (by omega) (by omega) (by omega);have k4:(M (p - x)).f0≤(M (p - c)).f0:=le_le l2 (by omega) (by omega) (by omega);omega
theorem mid_two {a m b mid p:Nat} (h1:(a+b) / 2=mid) (h2:a+2≤m) (h3:m+2≤b) (h4:p+1=mid+m):
  ∃ s0 r0:Nat,Aside0 (Mid a m b mid s0 r0 p)∧((mid<m∧s0+b=mid+m∧r0=mid)∨(¬ mid<m∧s0=a∧r0=m)):=by
 by_cases h:mid<m
 ·exact⟨mid+m - b,mid,⟨by omega,by omega,h2,h3,by omega,by omega,by omega,by omega,by omega,h4,Or.inr (by omega),Or.inl rfl⟩,Or.inl ⟨h,by omega,rfl⟩⟩
 ·exact⟨a,m,⟨by omega,by omega,h2,h3,by omega,by omega,by omega,by omega,by omega,h4,Or.inl rfl,Or.inr rfl⟩,Or.inr ⟨h,rfl,rfl⟩⟩
def SymOk (g N cap:Nat) (d:Nat):Prop:= ∀ (M:Nat→S79) (a m b:Nat) (w:World),b≤a+d→Arr w g N M→a<m→m<b→b≤N→Stab M N→Small M N→Le M a m→Le M m b→
  Calls Try.prog 105 #[.slice (some ⟨g,0,none⟩) N cap, .int .i64 (a:Int), .int .i64 (m:Int), .int .i64 (b:Int), .func (.func 86) #[] #[]] w fun e w'=>e= .returned (.tuple #[])∧(∃ K,Arr w' g N K∧Sorted M K N a b)∧Fr w w' g
set_option maxHeartbeats 4000000 in
set_option maxRecDepth 100000 in
theorem symMid_calls (g N cap d:Nat) (ih:SymOk g N cap d) (M:Nat→S79) (a m b:Nat) (w:World) (hd:b≤a+d+1) (h:Arr w g N M) (hN:N≤1000000) (ham:a+2≤m) (hmb:m+2≤b) (hb:b≤N) (hs:Stab M N) (hsm:Small M N) (hl1:Le M a m) (hl2:Le M m b):
  Calls Try.prog 105 #[.slice (some ⟨g,0,none⟩) N cap, .int .i64 (a:Int), .int .i64 (m:Int), .int .i64 (b:Int), .func (.func 86) #[] #[]] w fun e w'=>e= .returned (.tuple #[])∧(∃ K,Arr w' g N K∧Sorted M K N a b)∧Fr w w' g:=by
 obtain⟨mid,hmid⟩: ∃ mid,(a+b) / 2=mid:=⟨_,rfl⟩;obtain⟨p,hp⟩: ∃ p,p+1=mid+m:=⟨mid+m - 1,by omega⟩;obtain⟨s0,r0,HM,hor⟩:=mid_two hmid ham hmb hp;have HA:=Ya h;have HSM:=Ya hsm;have HST:=Ya hs;have HL1:=Ya hl1;have HL2:=Ya hl2;have IH:=Ya ih;clear h hs hsm hl1 hl2 ih;have hmz:((a:Int)+(b:Int)) / 2=(mid:Int):=by omega
 have hpz:(mid:Int)+(m:Int) - 1=(p:Int):=by omega
 have e1:(((b:Int) - (m:Int)) == 1)=false:=by rw[beq_eq_false_iff_ne];omega
 have e2:(((m:Int) - (a:Int)) == 1)=false:=by rw[beq_eq_false_iff_ne];omega
 have bp:p<2000000:=by omega
 have bmid:mid≤1000000:=by omega
 clear hmid;go_enter Try.func105,Try.ntmps105;rcases hor with ⟨hc,hs0,hr0⟩|⟨hc,hs0,hr0⟩
 ·have hcb:decide ((mid:Int)<(m:Int))=true:=Ys (by omega)
  have hsz:(mid:Int)+(m:Int) - (b:Int)=(s0:Int):=by omega
  go_wp2_with fail;go_loopw [20,21] (fun vs vr wr=> ∃ s r:Nat,s0≤s∧s≤r∧r≤r0∧vs= .int .i64 s∧vr= .int .i64 r∧Aside0 (Arr wr g N M)∧Aside0 (∀ c,s0≤c→c<s→(M c).f0≤(M (p - c)).f0)∧Aside0 (∀ c,r≤c→c<r0→(M (p - c)).f0<(M c).f0)∧Aside0 (Fr w wr g)) (fun vs vr _=>(intOf vr).toNat - (intOf vs).toNat)
  case atStart=>exact⟨s0,r0,Nat.le_refl _,HM.out.sr,Nat.le_refl _,by first|rfl|rw[hs0],by rw[hr0],HA,⟨fun y h1 h2=>by omega⟩,⟨fun y h1 h2=>by omega⟩,⟨grow_refl _ _⟩⟩
  case round=>
   clear HA;obtain⟨s,r,hsr0,hsr,hrr,rfl,rfl,HA1,HL,HR,HG⟩:=hrel;by_cases hlt:s<r
   ·obtain⟨c,hcq⟩: ∃ c,(s+r) / 2=c:=⟨_,rfl⟩
    have hcz:((s:Int)+(r:Int)) / 2=(c:Int):=by omega
    have HB:Aside0 (s≤c∧c<r∧s0≤c∧c<r0∧c<N∧p - c<N∧c≤p):=by
     obtain⟨q1,q2,q3,q4,q5,q6,q7,q8,q9,q10,q11,q12⟩:=HM.out;exact⟨by omega,by omega,by omega,by omega,by omega,by omega,by omega⟩
    have bc:c<N:=HB.out.2.2.2.2.1;obtain⟨q,hq⟩: ∃ q,p - c=q:=⟨_,rfl⟩;have hqz:(p:Int) - (c:Int)=(q:Int):=by have:=HB.out;omega
    have hwp:IntKind.i64.wrap (q:Int)=(q:Int):=by have:=HB.out;rw[IntKind.wrap_i64];omega
    have b1:=HSM.out c HB.out.2.2.2.2.1;have b2:=HSM.out q (by have:=HB.out;omega);have c0:=HA1.out.q0 (x:=c) HB.out.2.2.2.2.1;have c1:=HA1.out.q1 (x:=c) HB.out.2.2.2.2.1;have d0:=HA1.out.q0 (x:=q) (by have:=HB.out;omega);have d1:=HA1.out.q1 (x:=q) (by have:=HB.out;omega);have z1:(c:Int)<(N:Int):=by have:=HB.out;omega
    have z2:(q:Int)<(N:Int):=by have:=HB.out;omega
    have HQ:=Ya hq;clear hcq hq;go_wp2_with fail;refine wp_region_quiet_below (by kernel_rfl) (by kernel_rfl) ?_;(repeat(quiet_step ((go_at_call 86;exact calls_below_of (cmp_calls (M q) (M c) b2.1 b2.2 b1.1 b1.2 _)))));refine wpQuiet_nil ?_;intro wq hw';obtain⟨⟨wz,hbq⟩,hwq⟩:=hw';subst hwq;have HA2:Aside0 (Arr wq g N M):=⟨HA1.out.below hbq⟩;have HG2:Aside0 (Fr w wq g):=⟨grow_trans HG.out (grow_below hbq)⟩;clear c0 c1 d0 d1 HA1 HG hbq hcz z1 z2 hqz;by_cases hlc:(M q).f0<(M c).f0
    ·have hcd:(!decide ((M q).f0 - (M c).f0<0))=false:=by rw[Ys (by omega)];rfl
     have HR2:Aside0 (∀ y,c≤y→y<r0→(M (p - y)).f0<(M y).f0):=⟨mid_right HM.out HB.out.2.2.1 HB.out.2.2.2.1 HL1.out HL2.out (by rw[HQ.out];exact hlc)⟩;clear HR hlc b1 b2;rw[hcd];clear hcd;go_wp2_with fail;go_roundw
     case rel=>exact⟨s,c,hsr0,HB.out.1,by have:=HB.out;omega,rfl,rfl,HA2,HL,HR2,HG2⟩
     case measure=>have:=HB.out;simp[intOf]<;>omega
    ·have hcd:(!decide ((M q).f0 - (M c).f0<0))=true:=by rw[Yt (by omega)];rfl
     have HL2':Aside0 (∀ y,s0≤y→y<c+1→(M y).f0≤(M (p - y)).f0):=⟨mid_left HM.out HB.out.2.2.1 HB.out.2.2.2.1 HL1.out HL2.out (by rw[HQ.out];omega)⟩;clear HL hlc b1 b2;rw[hcd];clear hcd;go_wp2_with fail;go_roundw
     case rel=>exact⟨c+1,r,by have:=HB.out;omega,by have:=HB.out;omega,hrr,by go_num,rfl,HA2,HL2',HR,HG2⟩
     case measure=>have:=HB.out;simp[intOf]<;>omega
   ·have er:s=r:=by omega
    subst er;obtain⟨e,he⟩: ∃ e,s+e=mid+m:=⟨mid+m - s,by have:=HM.out.r0m;omega⟩;have hez:(mid:Int)+(m:Int) - (s:Int)=(e:Int):=by omega
    have HF:Aside0 (F1 M (rotM M s m e) N a s mid e b):=⟨mid_f1 HM.out hsr0 hrr he HL.out HR.out HL1.out HL2.out HST.out HSM.out hb⟩;have b1:a≤s:=by have:=HM.out.s0a;omega
    have b2:s≤mid:=by have:=HM.out.r0mid;omega
    have b3:s≤m:=by have:=HM.out.r0m;omega
    have b4:m≤e:=by omega
    have b5:mid≤e:=by omega
    have b6:e≤b:=by have:=HM.out.s0b;omega
    have b7:a+2≤mid+1:=by have:=HM.out.hi;omega
    have b8:mid+2≤b:=by have:=HM.out.lo;omega
    clear HL HR HL1 HL2 HST HSM hlt he hsr hsr0 hrr;by_cases c1:s<m
    ·have hb1:decide ((s:Int)<(m:Int))=true:=Ys (by omega)
     by_cases c2:m<e
     ·have hb2:decide ((m:Int)<(e:Int))=true:=Ys (by omega)
      go_wp2_with fail;refine(rotate_calls g N cap M s m e _ _ HA1.out hN c1 c2 (by omega)).mono ?_;rintro e3 w3 ⟨rfl,ha3,hg3⟩;have HA3:=Ya ha3;have HG3:Aside0 (Fr w w3 g):=⟨grow_trans HG.out hg3⟩;clear ha3 hg3 HA1 HG;obtain⟨K,hK⟩: ∃ K,K=rotM M s m e:=⟨_,rfl⟩;rw[← hK] at HA3 HF;clear hK;by_cases c3:a<s
      ·have hb3:decide ((a:Int)<(s:Int))=true:=Ys (by omega)
       by_cases c4:s<mid
       ·have hb4:decide ((s:Int)<(mid:Int))=true:=Ys (by omega)
        go_wp2_with fail;refine(IH.out K a s mid _ (by omega) HA3.out c3 c4 (by omega) HF.out.2.1 HF.out.2.2.1 HF.out.2.2.2.1 HF.out.2.2.2.2.1).mono ?_;rintro e4 w4 ⟨rfl,⟨K2,ha4,hk4⟩,hg4⟩;have HA4:=Ya ha4;have HF2:Aside0 (F2 M K2 N a mid e b):=⟨f2_rec HF.out hk4 b5 b6⟩;have HG4:Aside0 (Fr w w4 g):=⟨grow_trans HG3.out hg4⟩;clear ha4 hk4 hg4 HA3 HF HG3;by_cases c5:mid<e
        ·have hb5:decide ((mid:Int)<(e:Int))=true:=Ys (by omega)
         by_cases c6:e<b
         ·have hb6:decide ((e:Int)<(b:Int))=true:=Ys (by omega)
          go_wp2_with fail;refine(IH.out K2 mid e b _ (by omega) HA4.out c5 c6 hb HF2.out.2.1 HF2.out.2.2.1 HF2.out.2.2.2.2.1 HF2.out.2.2.2.2.2.1).mono ?_;rintro e5 w5 ⟨rfl,⟨K3,ha5,hk5⟩,hg5⟩;have HA5:=Ya ha5;have HS5:Aside0 (Sorted M K3 N a b):=⟨f3_rec HF2.out hk5 (by omega)⟩;have HG5:Aside0 (Fr w w5 g):=⟨grow_trans HG4.out hg5⟩;clear ha5 hk5 hg5 HA4 HF2 HG4;go_wp2_with fail;go_end0;exact⟨rfl,⟨K3,HA5.out,HS5.out⟩,HG5.out⟩
         ·have hb6:decide ((e:Int)<(b:Int))=false:=Yt (by omega)
          have HS5:Aside0 (Sorted M K2 N a b):=⟨f3_no HF2.out (Or.inr (by omega))⟩;clear HF2;go_wp2_with fail;go_end0;exact⟨rfl,⟨K2,HA4.out,HS5.out⟩,HG4.out⟩
        ·have hb5:decide ((mid:Int)<(e:Int))=false:=Yt (by omega)
         have HS5:Aside0 (Sorted M K2 N a b):=⟨f3_no HF2.out (Or.inl (by omega))⟩;clear HF2;go_wp2_with fail;go_end0;exact⟨rfl,⟨K2,HA4.out,HS5.out⟩,HG4.out⟩
       ·have hb4:decide ((s:Int)<(mid:Int))=false:=Yt (by omega)
        have HF2:Aside0 (F2 M K N a mid e b):=⟨f2_no HF.out (Or.inr (by omega))⟩;have HA4:=HA3;have HG4:=HG3;obtain⟨K2,rfl⟩: ∃ K2,K2=K:=⟨K,rfl⟩;clear HF HA3 HG3;by_cases c5:mid<e
        ·have hb5:decide ((mid:Int)<(e:Int))=true:=Ys (by omega)
         by_cases c6:e<b
         ·have hb6:decide ((e:Int)<(b:Int))=true:=Ys (by omega)
          go_wp2_with fail;refine(IH.out K2 mid e b _ (by omega) HA4.out c5 c6 hb HF2.out.2.1 HF2.out.2.2.1 HF2.out.2.2.2.2.1 HF2.out.2.2.2.2.2.1).mono ?_;rintro e5 w5 ⟨rfl,⟨K3,ha5,hk5⟩,hg5⟩;have HA5:=Ya ha5;have HS5:Aside0 (Sorted M K3 N a b):=⟨f3_rec HF2.out hk5 (by omega)⟩;have HG5:Aside0 (Fr w w5 g):=⟨grow_trans HG4.out hg5⟩;clear ha5 hk5 hg5 HA4 HF2 HG4;go_wp2_with fail;go_end0;exact⟨rfl,⟨K3,HA5.out,HS5.out⟩,HG5.out⟩
         ·have hb6:decide ((e:Int)<(b:Int))=false:=Yt (by omega)
          have HS5:Aside0 (Sorted M K2 N a b):=⟨f3_no HF2.out (Or.inr (by omega))⟩;clear HF2;go_wp2_with fail;go_end0;exact⟨rfl,⟨K2,HA4.out,HS5.out⟩,HG4.out⟩
        ·have hb5:decide ((mid:Int)<(e:Int))=false:=Yt (by omega)
         have HS5:Aside0 (Sorted M K2 N a b):=⟨f3_no HF2.out (Or.inl (by omega))⟩;clear HF2;go_wp2_with fail;go_end0;exact⟨rfl,⟨K2,HA4.out,HS5.out⟩,HG4.out⟩
      ·have hb3:decide ((a:Int)<(s:Int))=false:=Yt (by omega)
       have HF2:Aside0 (F2 M K N a mid e b):=⟨f2_no HF.out (Or.inl (by omega))⟩;have HA4:=HA3;have HG4:=HG3;obtain⟨K2,rfl⟩: ∃ K2,K2=K:=⟨K,rfl⟩;clear HF HA3 HG3;by_cases c5:mid<e
       ·have hb5:decide ((mid:Int)<(e:Int))=true:=Ys (by omega)
        by_cases c6:e<b
        ·have hb6:decide ((e:Int)<(b:Int))=true:=Ys (by omega)
         go_wp2_with fail;refine(IH.out K2 mid e b _ (by omega) HA4.out c5 c6 hb HF2.out.2.1 HF2.out.2.2.1 HF2.out.2.2.2.2.1 HF2.out.2.2.2.2.2.1).mono ?_;rintro e5 w5 ⟨rfl,⟨K3,ha5,hk5⟩,hg5⟩;have HA5:=Ya ha5;have HS5:Aside0 (Sorted M K3 N a b):=⟨f3_rec HF2.out hk5 (by omega)⟩;have HG5:Aside0 (Fr w w5 g):=⟨grow_trans HG4.out hg5⟩;clear ha5 hk5 hg5 HA4 HF2 HG4;go_wp2_with fail;go_end0;exact⟨rfl,⟨K3,HA5.out,HS5.out⟩,HG5.out⟩
        ·have hb6:decide ((e:Int)<(b:Int))=false:=Yt (by omega)
         have HS5:Aside0 (Sorted M K2 N a b):=⟨f3_no HF2.out (Or.inr (by omega))⟩;clear HF2;go_wp2_with fail;go_end0;exact⟨rfl,⟨K2,HA4.out,HS5.out⟩,HG4.out⟩
       ·have hb5:decide ((mid:Int)<(e:Int))=false:=Yt (by omega)
        have HS5:Aside0 (Sorted M K2 N a b):=⟨f3_no HF2.out (Or.inl (by omega))⟩;clear HF2;go_wp2_with fail;go_end0;exact⟨rfl,⟨K2,HA4.out,HS5.out⟩,HG4.out⟩
     ·have hb2:decide ((m:Int)<(e:Int))=false:=Yt (by omega)
      have HA3:Aside0 (Arr wr g N (rotM M s m e)):=⟨HA1.out.congr fun x _=>rot_none M (by omega) (by omega) (Or.inr (by omega)) x⟩;have HG3:=HG;clear HA1 HG;obtain⟨K,hK⟩: ∃ K,K=rotM M s m e:=⟨_,rfl⟩;rw[← hK] at HA3 HF;clear hK;by_cases c3:a<s
      ·have hb3:decide ((a:Int)<(s:Int))=true:=Ys (by omega)
       by_cases c4:s<mid
       ·have hb4:decide ((s:Int)<(mid:Int))=true:=Ys (by omega)
        go_wp2_with fail;refine(IH.out K a s mid _ (by omega) HA3.out c3 c4 (by omega) HF.out.2.1 HF.out.2.2.1 HF.out.2.2.2.1 HF.out.2.2.2.2.1).mono ?_;rintro e4 w4 ⟨rfl,⟨K2,ha4,hk4⟩,hg4⟩;have HA4:=Ya ha4;have HF2:Aside0 (F2 M K2 N a mid e b):=⟨f2_rec HF.out hk4 b5 b6⟩;have HG4:Aside0 (Fr w w4 g):=⟨grow_trans HG3.out hg4⟩;clear ha4 hk4 hg4 HA3 HF HG3;by_cases c5:mid<e
        ·have hb5:decide ((mid:Int)<(e:Int))=true:=Ys (by omega)
         by_cases c6:e<b
         ·have hb6:decide ((e:Int)<(b:Int))=true:=Ys (by omega)
          go_wp2_with fail;refine(IH.out K2 mid e b _ (by omega) HA4.out c5 c6 hb HF2.out.2.1 HF2.out.2.2.1 HF2.out.2.2.2.2.1 HF2.out.2.2.2.2.2.1).mono ?_;rintro e5 w5 ⟨rfl,⟨K3,ha5,hk5⟩,hg5⟩;have HA5:=Ya ha5;have HS5:Aside0 (Sorted M K3 N a b):=⟨f3_rec HF2.out hk5 (by omega)⟩;have HG5:Aside0 (Fr w w5 g):=⟨grow_trans HG4.out hg5⟩;clear ha5 hk5 hg5 HA4 HF2 HG4;go_wp2_with fail;go_end0;exact⟨rfl,⟨K3,HA5.out,HS5.out⟩,HG5.out⟩
         ·have hb6:decide ((e:Int)<(b:Int))=false:=Yt (by omega)
          have HS5:Aside0 (Sorted M K2 N a b):=⟨f3_no HF2.out (Or.inr (by omega))⟩;clear HF2;go_wp2_with fail;go_end0;exact⟨rfl,⟨K2,HA4.out,HS5.out⟩,HG4.out⟩
        ·have hb5:decide ((mid:Int)<(e:Int))=false:=Yt (by omega)
         have HS5:Aside0 (Sorted M K2 N a b):=⟨f3_no HF2.out (Or.inl (by omega))⟩;clear HF2;go_wp2_with fail;go_end0;exact⟨rfl,⟨K2,HA4.out,HS5.out⟩,HG4.out⟩
       ·have hb4:decide ((s:Int)<(mid:Int))=false:=Yt (by omega)
        have HF2:Aside0 (F2 M K N a mid e b):=⟨f2_no HF.out (Or.inr (by omega))⟩;have HA4:=HA3;have HG4:=HG3;obtain⟨K2,rfl⟩: ∃ K2,K2=K:=⟨K,rfl⟩;clear HF HA3 HG3;by_cases c5:mid<e
        ·have hb5:decide ((mid:Int)<(e:Int))=true:=Ys (by omega)
         by_cases c6:e<b
         ·have hb6:decide ((e:Int)<(b:Int))=true:=Ys (by omega)
          go_wp2_with fail;refine(IH.out K2 mid e b _ (by omega) HA4.out c5 c6 hb HF2.out.2.1 HF2.out.2.2.1 HF2.out.2.2.2.2.1 HF2.out.2.2.2.2.2.1).mono ?_;rintro e5 w5 ⟨rfl,⟨K3,ha5,hk5⟩,hg5⟩;have HA5:=Ya ha5;have HS5:Aside0 (Sorted M K3 N a b):=⟨f3_rec HF2.out hk5 (by omega)⟩;have HG5:Aside0 (Fr w w5 g):=⟨grow_trans HG4.out hg5⟩;clear ha5 hk5 hg5 HA4 HF2 HG4;go_wp2_with fail;go_end0;exact⟨rfl,⟨K3,HA5.out,HS5.out⟩,HG5.out⟩
         ·have hb6:decide ((e:Int)<(b:Int))=false:=Yt (by omega)
          have HS5:Aside0 (Sorted M K2 N a b):=⟨f3_no HF2.out (Or.inr (by omega))⟩;clear HF2;go_wp2_with fail;go_end0;exact⟨rfl,⟨K2,HA4.out,HS5.out⟩,HG4.out⟩
        ·have hb5:decide ((mid:Int)<(e:Int))=false:=Yt (by omega)
         have HS5:Aside0 (Sorted M K2 N a b):=⟨f3_no HF2.out (Or.inl (by omega))⟩;clear HF2;go_wp2_with fail;go_end0;exact⟨rfl,⟨K2,HA4.out,HS5.out⟩,HG4.out⟩
      ·have hb3:decide ((a:Int)<(s:Int))=false:=Yt (by omega)
       have HF2:Aside0 (F2 M K N a mid e b):=⟨f2_no HF.out (Or.inl (by omega))⟩;have HA4:=HA3;have HG4:=HG3;obtain⟨K2,rfl⟩: ∃ K2,K2=K:=⟨K,rfl⟩;clear HF HA3 HG3;by_cases c5:mid<e
       ·have hb5:decide ((mid:Int)<(e:Int))=true:=Ys (by omega)
        by_cases c6:e<b
        ·have hb6:decide ((e:Int)<(b:Int))=true:=Ys (by omega)
         go_wp2_with fail;refine(IH.out K2 mid e b _ (by omega) HA4.out c5 c6 hb HF2.out.2.1 HF2.out.2.2.1 HF2.out.2.2.2.2.1 HF2.out.2.2.2.2.2.1).mono ?_;rintro e5 w5 ⟨rfl,⟨K3,ha5,hk5⟩,hg5⟩;have HA5:=Ya ha5;have HS5:Aside0 (Sorted M K3 N a b):=⟨f3_rec HF2.out hk5 (by omega)⟩;have HG5:Aside0 (Fr w w5 g):=⟨grow_trans HG4.out hg5⟩;clear ha5 hk5 hg5 HA4 HF2 HG4;go_wp2_with fail;go_end0;exact⟨rfl,⟨K3,HA5.out,HS5.out⟩,HG5.out⟩
        ·have hb6:decide ((e:Int)<(b:Int))=false:=Yt (by omega)
         have HS5:Aside0 (Sorted M K2 N a b):=⟨f3_no HF2.out (Or.inr (by omega))⟩;clear HF2;go_wp2_with fail;go_end0;exact⟨rfl,⟨K2,HA4.out,HS5.out⟩,HG4.out⟩
       ·have hb5:decide ((mid:Int)<(e:Int))=false:=Yt (by omega)
        have HS5:Aside0 (Sorted M K2 N a b):=⟨f3_no HF2.out (Or.inl (by omega))⟩;clear HF2;go_wp2_with fail;go_end0;exact⟨rfl,⟨K2,HA4.out,HS5.out⟩,HG4.out⟩
    ·have hb1:decide ((s:Int)<(m:Int))=false:=Yt (by omega)
     have HA3:Aside0 (Arr wr g N (rotM M s m e)):=⟨HA1.out.congr fun x _=>rot_none M (by omega) (by omega) (Or.inl (by omega)) x⟩;have HG3:=HG;clear HA1 HG;obtain⟨K,hK⟩: ∃ K,K=rotM M s m e:=⟨_,rfl⟩;rw[← hK] at HA3 HF;clear hK;by_cases c3:a<s
     ·have hb3:decide ((a:Int)<(s:Int))=true:=Ys (by omega)
      by_cases c4:s<mid
      ·have hb4:decide ((s:Int)<(mid:Int))=true:=Ys (by omega)
       go_wp2_with fail;refine(IH.out K a s mid _ (by omega) HA3.out c3 c4 (by omega) HF.out.2.1 HF.out.2.2.1 HF.out.2.2.2.1 HF.out.2.2.2.2.1).mono ?_;rintro e4 w4 ⟨rfl,⟨K2,ha4,hk4⟩,hg4⟩;have HA4:=Ya ha4;have HF2:Aside0 (F2 M K2 N a mid e b):=⟨f2_rec HF.out hk4 b5 b6⟩;have HG4:Aside0 (Fr w w4 g):=⟨grow_trans HG3.out hg4⟩;clear ha4 hk4 hg4 HA3 HF HG3;by_cases c5:mid<e
       ·have hb5:decide ((mid:Int)<(e:Int))=true:=Ys (by omega)
        by_cases c6:e<b
        ·have hb6:decide ((e:Int)<(b:Int))=true:=Ys (by omega)
         go_wp2_with fail;refine(IH.out K2 mid e b _ (by omega) HA4.out c5 c6 hb HF2.out.2.1 HF2.out.2.2.1 HF2.out.2.2.2.2.1 HF2.out.2.2.2.2.2.1).mono ?_;rintro e5 w5 ⟨rfl,⟨K3,ha5,hk5⟩,hg5⟩;have HA5:=Ya ha5;have HS5:Aside0 (Sorted M K3 N a b):=⟨f3_rec HF2.out hk5 (by omega)⟩;have HG5:Aside0 (Fr w w5 g):=⟨grow_trans HG4.out hg5⟩;clear ha5 hk5 hg5 HA4 HF2 HG4;go_wp2_with fail;go_end0;exact⟨rfl,⟨K3,HA5.out,HS5.out⟩,HG5.out⟩
        ·have hb6:decide ((e:Int)<(b:Int))=false:=Yt (by omega)
         have HS5:Aside0 (Sorted M K2 N a b):=⟨f3_no HF2.out (Or.inr (by omega))⟩;clear HF2;go_wp2_with fail;go_end0;exact⟨rfl,⟨K2,HA4.out,HS5.out⟩,HG4.out⟩
       ·have hb5:decide ((mid:Int)<(e:Int))=false:=Yt (by omega)
        have HS5:Aside0 (Sorted M K2 N a b):=⟨f3_no HF2.out (Or.inl (by omega))⟩;clear HF2;go_wp2_with fail;go_end0;exact⟨rfl,⟨K2,HA4.out,HS5.out⟩,HG4.out⟩
      ·have hb4:decide ((s:Int)<(mid:Int))=false:=Yt (by omega)
       have HF2:Aside0 (F2 M K N a mid e b):=⟨f2_no HF.out (Or.inr (by omega))⟩;have HA4:=HA3;have HG4:=HG3;obtain⟨K2,rfl⟩: ∃ K2,K2=K:=⟨K,rfl⟩;clear HF HA3 HG3;by_cases c5:mid<e
       ·have hb5:decide ((mid:Int)<(e:Int))=true:=Ys (by omega)
        by_cases c6:e<b
        ·have hb6:decide ((e:Int)<(b:Int))=true:=Ys (by omega)
         go_wp2_with fail;refine(IH.out K2 mid e b _ (by omega) HA4.out c5 c6 hb HF2.out.2.1 HF2.out.2.2.1 HF2.out.2.2.2.2.1 HF2.out.2.2.2.2.2.1).mono ?_;rintro e5 w5 ⟨rfl,⟨K3,ha5,hk5⟩,hg5⟩;have HA5:=Ya ha5;have HS5:Aside0 (Sorted M K3 N a b):=⟨f3_rec HF2.out hk5 (by omega)⟩;have HG5:Aside0 (Fr w w5 g):=⟨grow_trans HG4.out hg5⟩;clear ha5 hk5 hg5 HA4 HF2 HG4;go_wp2_with fail;go_end0;exact⟨rfl,⟨K3,HA5.out,HS5.out⟩,HG5.out⟩
        ·have hb6:decide ((e:Int)<(b:Int))=false:=Yt (by omega)
         have HS5:Aside0 (Sorted M K2 N a b):=⟨f3_no HF2.out (Or.inr (by omega))⟩;clear HF2;go_wp2_with fail;go_end0;exact⟨rfl,⟨K2,HA4.out,HS5.out⟩,HG4.out⟩
       ·have hb5:decide ((mid:Int)<(e:Int))=false:=Yt (by omega)
        have HS5:Aside0 (Sorted M K2 N a b):=⟨f3_no HF2.out (Or.inl (by omega))⟩;clear HF2;go_wp2_with fail;go_end0;exact⟨rfl,⟨K2,HA4.out,HS5.out⟩,HG4.out⟩
     ·have hb3:decide ((a:Int)<(s:Int))=false:=Yt (by omega)
      have HF2:Aside0 (F2 M K N a mid e b):=⟨f2_no HF.out (Or.inl (by omega))⟩;have HA4:=HA3;have HG4:=HG3;obtain⟨K2,rfl⟩: ∃ K2,K2=K:=⟨K,rfl⟩;clear HF HA3 HG3;by_cases c5:mid<e
      ·have hb5:decide ((mid:Int)<(e:Int))=true:=Ys (by omega)
       by_cases c6:e<b
       ·have hb6:decide ((e:Int)<(b:Int))=true:=Ys (by omega)
        go_wp2_with fail;refine(IH.out K2 mid e b _ (by omega) HA4.out c5 c6 hb HF2.out.2.1 HF2.out.2.2.1 HF2.out.2.2.2.2.1 HF2.out.2.2.2.2.2.1).mono ?_;rintro e5 w5 ⟨rfl,⟨K3,ha5,hk5⟩,hg5⟩;have HA5:=Ya ha5;have HS5:Aside0 (Sorted M K3 N a b):=⟨f3_rec HF2.out hk5 (by omega)⟩;have HG5:Aside0 (Fr w w5 g):=⟨grow_trans HG4.out hg5⟩;clear ha5 hk5 hg5 HA4 HF2 HG4;go_wp2_with fail;go_end0;exact⟨rfl,⟨K3,HA5.out,HS5.out⟩,HG5.out⟩
       ·have hb6:decide ((e:Int)<(b:Int))=false:=Yt (by omega)
        have HS5:Aside0 (Sorted M K2 N a b):=⟨f3_no HF2.out (Or.inr (by omega))⟩;clear HF2;go_wp2_with fail;go_end0;exact⟨rfl,⟨K2,HA4.out,HS5.out⟩,HG4.out⟩
      ·have hb5:decide ((mid:Int)<(e:Int))=false:=Yt (by omega)
       have HS5:Aside0 (Sorted M K2 N a b):=⟨f3_no HF2.out (Or.inl (by omega))⟩;clear HF2;go_wp2_with fail;go_end0;exact⟨rfl,⟨K2,HA4.out,HS5.out⟩,HG4.out⟩
 ·have hcb:decide ((mid:Int)<(m:Int))=false:=Yt (by omega)
  go_wp2_with fail;go_loopw [20,21] (fun vs vr wr=> ∃ s r:Nat,s0≤s∧s≤r∧r≤r0∧vs= .int .i64 s∧vr= .int .i64 r∧Aside0 (Arr wr g N M)∧Aside0 (∀ c,s0≤c→c<s→(M c).f0≤(M (p - c)).f0)∧Aside0 (∀ c,r≤c→c<r0→(M (p - c)).f0<(M c).f0)∧Aside0 (Fr w wr g)) (fun vs vr _=>(intOf vr).toNat - (intOf vs).toNat)
  case atStart=>exact⟨s0,r0,Nat.le_refl _,HM.out.sr,Nat.le_refl _,by first|rfl|rw[hs0],by rw[hr0],HA,⟨fun y h1 h2=>by omega⟩,⟨fun y h1 h2=>by omega⟩,⟨grow_refl _ _⟩⟩
  case round=>
   clear HA;obtain⟨s,r,hsr0,hsr,hrr,rfl,rfl,HA1,HL,HR,HG⟩:=hrel;by_cases hlt:s<r
   ·obtain⟨c,hcq⟩: ∃ c,(s+r) / 2=c:=⟨_,rfl⟩
    have hcz:((s:Int)+(r:Int)) / 2=(c:Int):=by omega
    have HB:Aside0 (s≤c∧c<r∧s0≤c∧c<r0∧c<N∧p - c<N∧c≤p):=by
     obtain⟨q1,q2,q3,q4,q5,q6,q7,q8,q9,q10,q11,q12⟩:=HM.out;exact⟨by omega,by omega,by omega,by omega,by omega,by omega,by omega⟩
    have bc:c<N:=HB.out.2.2.2.2.1;obtain⟨q,hq⟩: ∃ q,p - c=q:=⟨_,rfl⟩;have hqz:(p:Int) - (c:Int)=(q:Int):=by have:=HB.out;omega
    have hwp:IntKind.i64.wrap (q:Int)=(q:Int):=by have:=HB.out;rw[IntKind.wrap_i64];omega
    have b1:=HSM.out c HB.out.2.2.2.2.1;have b2:=HSM.out q (by have:=HB.out;omega);have c0:=HA1.out.q0 (x:=c) HB.out.2.2.2.2.1;have c1:=HA1.out.q1 (x:=c) HB.out.2.2.2.2.1;have d0:=HA1.out.q0 (x:=q) (by have:=HB.out;omega);have d1:=HA1.out.q1 (x:=q) (by have:=HB.out;omega);have z1:(c:Int)<(N:Int):=by have:=HB.out;omega
    have z2:(q:Int)<(N:Int):=by have:=HB.out;omega
    have HQ:=Ya hq;clear hcq hq;go_wp2_with fail;refine wp_region_quiet_below (by kernel_rfl) (by kernel_rfl) ?_;(repeat(quiet_step ((go_at_call 86;exact calls_below_of (cmp_calls (M q) (M c) b2.1 b2.2 b1.1 b1.2 _)))));refine wpQuiet_nil ?_;intro wq hw';obtain⟨⟨wz,hbq⟩,hwq⟩:=hw';subst hwq;have HA2:Aside0 (Arr wq g N M):=⟨HA1.out.below hbq⟩;have HG2:Aside0 (Fr w wq g):=⟨grow_trans HG.out (grow_below hbq)⟩;clear c0 c1 d0 d1 HA1 HG hbq hcz z1 z2 hqz;by_cases hlc:(M q).f0<(M c).f0
    ·have hcd:(!decide ((M q).f0 - (M c).f0<0))=false:=by rw[Ys (by omega)];rfl
     have HR2:Aside0 (∀ y,c≤y→y<r0→(M (p - y)).f0<(M y).f0):=⟨mid_right HM.out HB.out.2.2.1 HB.out.2.2.2.1 HL1.out HL2.out (by rw[HQ.out];exact hlc)⟩;clear HR hlc b1 b2;rw[hcd];clear hcd;go_wp2_with fail;go_roundw
     case rel=>exact⟨s,c,hsr0,HB.out.1,by have:=HB.out;omega,rfl,rfl,HA2,HL,HR2,HG2⟩
     case measure=>have:=HB.out;simp[intOf]<;>omega
    ·have hcd:(!decide ((M q).f0 - (M c).f0<0))=true:=by rw[Yt (by omega)];rfl
     have HL2':Aside0 (∀ y,s0≤y→y<c+1→(M y).f0≤(M (p - y)).f0):=⟨mid_left HM.out HB.out.2.2.1 HB.out.2.2.2.1 HL1.out HL2.out (by rw[HQ.out];omega)⟩;clear HL hlc b1 b2;rw[hcd];clear hcd;go_wp2_with fail;go_roundw
     case rel=>exact⟨c+1,r,by have:=HB.out;omega,by have:=HB.out;omega,hrr,by go_num,rfl,HA2,HL2',HR,HG2⟩
     case measure=>have:=HB.out;simp[intOf]<;>omega
   ·have er:s=r:=by omega
    subst er;obtain⟨e,he⟩: ∃ e,s+e=mid+m:=⟨mid+m - s,by have:=HM.out.r0m;omega⟩;have hez:(mid:Int)+(m:Int) - (s:Int)=(e:Int):=by omega
    have HF:Aside0 (F1 M (rotM M s m e) N a s mid e b):=⟨mid_f1 HM.out hsr0 hrr he HL.out HR.out HL1.out HL2.out HST.out HSM.out hb⟩;have b1:a≤s:=by have:=HM.out.s0a;omega
    have b2:s≤mid:=by have:=HM.out.r0mid;omega
    have b3:s≤m:=by have:=HM.out.r0m;omega
    have b4:m≤e:=by omega
    have b5:mid≤e:=by omega
    have b6:e≤b:=by have:=HM.out.s0b;omega
    have b7:a+2≤mid+1:=by have:=HM.out.hi;omega
    have b8:mid+2≤b:=by have:=HM.out.lo;omega
    clear HL HR HL1 HL2 HST HSM hlt he hsr hsr0 hrr;by_cases c1:s<m
    ·have hb1:decide ((s:Int)<(m:Int))=true:=Ys (by omega)
     by_cases c2:m<e
     ·have hb2:decide ((m:Int)<(e:Int))=true:=Ys (by omega)
      go_wp2_with fail;refine(rotate_calls g N cap M s m e _ _ HA1.out hN c1 c2 (by omega)).mono ?_;rintro e3 w3 ⟨rfl,ha3,hg3⟩;have HA3:=Ya ha3;have HG3:Aside0 (Fr w w3 g):=⟨grow_trans HG.out hg3⟩;clear ha3 hg3 HA1 HG;obtain⟨K,hK⟩: ∃ K,K=rotM M s m e:=⟨_,rfl⟩;rw[← hK] at HA3 HF;clear hK;by_cases c3:a<s
      ·have hb3:decide ((a:Int)<(s:Int))=true:=Ys (by omega)
       by_cases c4:s<mid
       ·have hb4:decide ((s:Int)<(mid:Int))=true:=Ys (by omega)
        go_wp2_with fail;refine(IH.out K a s mid _ (by omega) HA3.out c3 c4 (by omega) HF.out.2.1 HF.out.2.2.1 HF.out.2.2.2.1 HF.out.2.2.2.2.1).mono ?_;rintro e4 w4 ⟨rfl,⟨K2,ha4,hk4⟩,hg4⟩;have HA4:=Ya ha4;have HF2:Aside0 (F2 M K2 N a mid e b):=⟨f2_rec HF.out hk4 b5 b6⟩;have HG4:Aside0 (Fr w w4 g):=⟨grow_trans HG3.out hg4⟩;clear ha4 hk4 hg4 HA3 HF HG3;by_cases c5:mid<e
        ·have hb5:decide ((mid:Int)<(e:Int))=true:=Ys (by omega)
         by_cases c6:e<b
         ·have hb6:decide ((e:Int)<(b:Int))=true:=Ys (by omega)
          go_wp2_with fail;refine(IH.out K2 mid e b _ (by omega) HA4.out c5 c6 hb HF2.out.2.1 HF2.out.2.2.1 HF2.out.2.2.2.2.1 HF2.out.2.2.2.2.2.1).mono ?_;rintro e5 w5 ⟨rfl,⟨K3,ha5,hk5⟩,hg5⟩;have HA5:=Ya ha5;have HS5:Aside0 (Sorted M K3 N a b):=⟨f3_rec HF2.out hk5 (by omega)⟩;have HG5:Aside0 (Fr w w5 g):=⟨grow_trans HG4.out hg5⟩;clear ha5 hk5 hg5 HA4 HF2 HG4;go_wp2_with fail;go_end0;exact⟨rfl,⟨K3,HA5.out,HS5.out⟩,HG5.out⟩
         ·have hb6:decide ((e:Int)<(b:Int))=false:=Yt (by omega)
          have HS5:Aside0 (Sorted M K2 N a b):=⟨f3_no HF2.out (Or.inr (by omega))⟩;clear HF2;go_wp2_with fail;go_end0;exact⟨rfl,⟨K2,HA4.out,HS5.out⟩,HG4.out⟩
        ·have hb5:decide ((mid:Int)<(e:Int))=false:=Yt (by omega)
         have HS5:Aside0 (Sorted M K2 N a b):=⟨f3_no HF2.out (Or.inl (by omega))⟩;clear HF2;go_wp2_with fail;go_end0;exact⟨rfl,⟨K2,HA4.out,HS5.out⟩,HG4.out⟩
       ·have hb4:decide ((s:Int)<(mid:Int))=false:=Yt (by omega)
        have HF2:Aside0 (F2 M K N a mid e b):=⟨f2_no HF.out (Or.inr (by omega))⟩;have HA4:=HA3;have HG4:=HG3;obtain⟨K2,rfl⟩: ∃ K2,K2=K:=⟨K,rfl⟩;clear HF HA3 HG3;by_cases c5:mid<e
        ·have hb5:decide ((mid:Int)<(e:Int))=true:=Ys (by omega)
         by_cases c6:e<b
         ·have hb6:decide ((e:Int)<(b:Int))=true:=Ys (by omega)
          go_wp2_with fail;refine(IH.out K2 mid e b _ (by omega) HA4.out c5 c6 hb HF2.out.2.1 HF2.out.2.2.1 HF2.out.2.2.2.2.1 HF2.out.2.2.2.2.2.1).mono ?_;rintro e5 w5 ⟨rfl,⟨K3,ha5,hk5⟩,hg5⟩;have HA5:=Ya ha5;have HS5:Aside0 (Sorted M K3 N a b):=⟨f3_rec HF2.out hk5 (by omega)⟩;have HG5:Aside0 (Fr w w5 g):=⟨grow_trans HG4.out hg5⟩;clear ha5 hk5 hg5 HA4 HF2 HG4;go_wp2_with fail;go_end0;exact⟨rfl,⟨K3,HA5.out,HS5.out⟩,HG5.out⟩
         ·have hb6:decide ((e:Int)<(b:Int))=false:=Yt (by omega)
          have HS5:Aside0 (Sorted M K2 N a b):=⟨f3_no HF2.out (Or.inr (by omega))⟩;clear HF2;go_wp2_with fail;go_end0;exact⟨rfl,⟨K2,HA4.out,HS5.out⟩,HG4.out⟩
        ·have hb5:decide ((mid:Int)<(e:Int))=false:=Yt (by omega)
         have HS5:Aside0 (Sorted M K2 N a b):=⟨f3_no HF2.out (Or.inl (by omega))⟩;clear HF2;go_wp2_with fail;go_end0;exact⟨rfl,⟨K2,HA4.out,HS5.out⟩,HG4.out⟩
      ·have hb3:decide ((a:Int)<(s:Int))=false:=Yt (by omega)
       have HF2:Aside0 (F2 M K N a mid e b):=⟨f2_no HF.out (Or.inl (by omega))⟩;have HA4:=HA3;have HG4:=HG3;obtain⟨K2,rfl⟩: ∃ K2,K2=K:=⟨K,rfl⟩;clear HF HA3 HG3;by_cases c5:mid<e
       ·have hb5:decide ((mid:Int)<(e:Int))=true:=Ys (by omega)
        by_cases c6:e<b
        ·have hb6:decide ((e:Int)<(b:Int))=true:=Ys (by omega)
         go_wp2_with fail;refine(IH.out K2 mid e b _ (by omega) HA4.out c5 c6 hb HF2.out.2.1 HF2.out.2.2.1 HF2.out.2.2.2.2.1 HF2.out.2.2.2.2.2.1).mono ?_;rintro e5 w5 ⟨rfl,⟨K3,ha5,hk5⟩,hg5⟩;have HA5:=Ya ha5;have HS5:Aside0 (Sorted M K3 N a b):=⟨f3_rec HF2.out hk5 (by omega)⟩;have HG5:Aside0 (Fr w w5 g):=⟨grow_trans HG4.out hg5⟩;clear ha5 hk5 hg5 HA4 HF2 HG4;go_wp2_with fail;go_end0;exact⟨rfl,⟨K3,HA5.out,HS5.out⟩,HG5.out⟩
        ·have hb6:decide ((e:Int)<(b:Int))=false:=Yt (by omega)
         have HS5:Aside0 (Sorted M K2 N a b):=⟨f3_no HF2.out (Or.inr (by omega))⟩;clear HF2;go_wp2_with fail;go_end0;exact⟨rfl,⟨K2,HA4.out,HS5.out⟩,HG4.out⟩
       ·have hb5:decide ((mid:Int)<(e:Int))=false:=Yt (by omega)
        have HS5:Aside0 (Sorted M K2 N a b):=⟨f3_no HF2.out (Or.inl (by omega))⟩;clear HF2;go_wp2_with fail;go_end0;exact⟨rfl,⟨K2,HA4.out,HS5.out⟩,HG4.out⟩
     ·have hb2:decide ((m:Int)<(e:Int))=false:=Yt (by omega)
      have HA3:Aside0 (Arr wr g N (rotM M s m e)):=⟨HA1.out.congr fun x _=>rot_none M (by omega) (by omega) (Or.inr (by omega)) x⟩;have HG3:=HG;clear HA1 HG;obtain⟨K,hK⟩: ∃ K,K=rotM M s m e:=⟨_,rfl⟩;rw[← hK] at HA3 HF;clear hK;by_cases c3:a<s
      ·have hb3:decide ((a:Int)<(s:Int))=true:=Ys (by omega)
       by_cases c4:s<mid
       ·have hb4:decide ((s:Int)<(mid:Int))=true:=Ys (by omega)
        go_wp2_with fail;refine(IH.out K a s mid _ (by omega) HA3.out c3 c4 (by omega) HF.out.2.1 HF.out.2.2.1 HF.out.2.2.2.1 HF.out.2.2.2.2.1).mono ?_;rintro e4 w4 ⟨rfl,⟨K2,ha4,hk4⟩,hg4⟩;have HA4:=Ya ha4;have HF2:Aside0 (F2 M K2 N a mid e b):=⟨f2_rec HF.out hk4 b5 b6⟩;have HG4:Aside0 (Fr w w4 g):=⟨grow_trans HG3.out hg4⟩;clear ha4 hk4 hg4 HA3 HF HG3;by_cases c5:mid<e
        ·have hb5:decide ((mid:Int)<(e:Int))=true:=Ys (by omega)
         by_cases c6:e<b
         ·have hb6:decide ((e:Int)<(b:Int))=true:=Ys (by omega)
          go_wp2_with fail;refine(IH.out K2 mid e b _ (by omega) HA4.out c5 c6 hb HF2.out.2.1 HF2.out.2.2.1 HF2.out.2.2.2.2.1 HF2.out.2.2.2.2.2.1).mono ?_;rintro e5 w5 ⟨rfl,⟨K3,ha5,hk5⟩,hg5⟩;have HA5:=Ya ha5;have HS5:Aside0 (Sorted M K3 N a b):=⟨f3_rec HF2.out hk5 (by omega)⟩;have HG5:Aside0 (Fr w w5 g):=⟨grow_trans HG4.out hg5⟩;clear ha5 hk5 hg5 HA4 HF2 HG4;go_wp2_with fail;go_end0;exact⟨rfl,⟨K3,HA5.out,HS5.out⟩,HG5.out⟩
         ·have hb6:decide ((e:Int)<(b:Int))=false:=Yt (by omega)
          have HS5:Aside0 (Sorted M K2 N a b):=⟨f3_no HF2.out (Or.inr (by omega))⟩;clear HF2;go_wp2_with fail;go_end0;exact⟨rfl,⟨K2,HA4.out,HS5.out⟩,HG4.out⟩
        ·have hb5:decide ((mid:Int)<(e:Int))=false:=Yt (by omega)
         have HS5:Aside0 (Sorted M K2 N a b):=⟨f3_no HF2.out (Or.inl (by omega))⟩;clear HF2;go_wp2_with fail;go_end0;exact⟨rfl,⟨K2,HA4.out,HS5.out⟩,HG4.out⟩
       ·have hb4:decide ((s:Int)<(mid:Int))=false:=Yt (by omega)
        have HF2:Aside0 (F2 M K N a mid e b):=⟨f2_no HF.out (Or.inr (by omega))⟩;have HA4:=HA3;have HG4:=HG3;obtain⟨K2,rfl⟩: ∃ K2,K2=K:=⟨K,rfl⟩;clear HF HA3 HG3;by_cases c5:mid<e
        ·have hb5:decide ((mid:Int)<(e:Int))=true:=Ys (by omega)
         by_cases c6:e<b
         ·have hb6:decide ((e:Int)<(b:Int))=true:=Ys (by omega)
          go_wp2_with fail;refine(IH.out K2 mid e b _ (by omega) HA4.out c5 c6 hb HF2.out.2.1 HF2.out.2.2.1 HF2.out.2.2.2.2.1 HF2.out.2.2.2.2.2.1).mono ?_;rintro e5 w5 ⟨rfl,⟨K3,ha5,hk5⟩,hg5⟩;have HA5:=Ya ha5;have HS5:Aside0 (Sorted M K3 N a b):=⟨f3_rec HF2.out hk5 (by omega)⟩;have HG5:Aside0 (Fr w w5 g):=⟨grow_trans HG4.out hg5⟩;clear ha5 hk5 hg5 HA4 HF2 HG4;go_wp2_with fail;go_end0;exact⟨rfl,⟨K3,HA5.out,HS5.out⟩,HG5.out⟩
         ·have hb6:decide ((e:Int)<(b:Int))=false:=Yt (by omega)
          have HS5:Aside0 (Sorted M K2 N a b):=⟨f3_no HF2.out (Or.inr (by omega))⟩;clear HF2;go_wp2_with fail;go_end0;exact⟨rfl,⟨K2,HA4.out,HS5.out⟩,HG4.out⟩
        ·have hb5:decide ((mid:Int)<(e:Int))=false:=Yt (by omega)
         have HS5:Aside0 (Sorted M K2 N a b):=⟨f3_no HF2.out (Or.inl (by omega))⟩;clear HF2;go_wp2_with fail;go_end0;exact⟨rfl,⟨K2,HA4.out,HS5.out⟩,HG4.out⟩
      ·have hb3:decide ((a:Int)<(s:Int))=false:=Yt (by omega)
       have HF2:Aside0 (F2 M K N a mid e b):=⟨f2_no HF.out (Or.inl (by omega))⟩;have HA4:=HA3;have HG4:=HG3;obtain⟨K2,rfl⟩: ∃ K2,K2=K:=⟨K,rfl⟩;clear HF HA3 HG3;by_cases c5:mid<e
       ·have hb5:decide ((mid:Int)<(e:Int))=true:=Ys (by omega)
        by_cases c6:e<b
        ·have hb6:decide ((e:Int)<(b:Int))=true:=Ys (by omega)
         go_wp2_with fail;refine(IH.out K2 mid e b _ (by omega) HA4.out c5 c6 hb HF2.out.2.1 HF2.out.2.2.1 HF2.out.2.2.2.2.1 HF2.out.2.2.2.2.2.1).mono ?_;rintro e5 w5 ⟨rfl,⟨K3,ha5,hk5⟩,hg5⟩;have HA5:=Ya ha5;have HS5:Aside0 (Sorted M K3 N a b):=⟨f3_rec HF2.out hk5 (by omega)⟩;have HG5:Aside0 (Fr w w5 g):=⟨grow_trans HG4.out hg5⟩;clear ha5 hk5 hg5 HA4 HF2 HG4;go_wp2_with fail;go_end0;exact⟨rfl,⟨K3,HA5.out,HS5.out⟩,HG5.out⟩
        ·have hb6:decide ((e:Int)<(b:Int))=false:=Yt (by omega)
         have HS5:Aside0 (Sorted M K2 N a b):=⟨f3_no HF2.out (Or.inr (by omega))⟩;clear HF2;go_wp2_with fail;go_end0;exact⟨rfl,⟨K2,HA4.out,HS5.out⟩,HG4.out⟩
       ·have hb5:decide ((mid:Int)<(e:Int))=false:=Yt (by omega)
        have HS5:Aside0 (Sorted M K2 N a b):=⟨f3_no HF2.out (Or.inl (by omega))⟩;clear HF2;go_wp2_with fail;go_end0;exact⟨rfl,⟨K2,HA4.out,HS5.out⟩,HG4.out⟩
    ·have hb1:decide ((s:Int)<(m:Int))=false:=Yt (by omega)
     have HA3:Aside0 (Arr wr g N (rotM M s m e)):=⟨HA1.out.congr fun x _=>rot_none M (by omega) (by omega) (Or.inl (by omega)) x⟩;have HG3:=HG;clear HA1 HG;obtain⟨K,hK⟩: ∃ K,K=rotM M s m e:=⟨_,rfl⟩;rw[← hK] at HA3 HF;clear hK;by_cases c3:a<s
     ·have hb3:decide ((a:Int)<(s:Int))=true:=Ys (by omega)
      by_cases c4:s<mid
      ·have hb4:decide ((s:Int)<(mid:Int))=true:=Ys (by omega)
       go_wp2_with fail;refine(IH.out K a s mid _ (by omega) HA3.out c3 c4 (by omega) HF.out.2.1 HF.out.2.2.1 HF.out.2.2.2.1 HF.out.2.2.2.2.1).mono ?_;rintro e4 w4 ⟨rfl,⟨K2,ha4,hk4⟩,hg4⟩;have HA4:=Ya ha4;have HF2:Aside0 (F2 M K2 N a mid e b):=⟨f2_rec HF.out hk4 b5 b6⟩;have HG4:Aside0 (Fr w w4 g):=⟨grow_trans HG3.out hg4⟩;clear ha4 hk4 hg4 HA3 HF HG3;by_cases c5:mid<e
       ·have hb5:decide ((mid:Int)<(e:Int))=true:=Ys (by omega)
        by_cases c6:e<b
        ·have hb6:decide ((e:Int)<(b:Int))=true:=Ys (by omega)
         go_wp2_with fail;refine(IH.out K2 mid e b _ (by omega) HA4.out c5 c6 hb HF2.out.2.1 HF2.out.2.2.1 HF2.out.2.2.2.2.1 HF2.out.2.2.2.2.2.1).mono ?_;rintro e5 w5 ⟨rfl,⟨K3,ha5,hk5⟩,hg5⟩;have HA5:=Ya ha5;have HS5:Aside0 (Sorted M K3 N a b):=⟨f3_rec HF2.out hk5 (by omega)⟩;have HG5:Aside0 (Fr w w5 g):=⟨grow_trans HG4.out hg5⟩;clear ha5 hk5 hg5 HA4 HF2 HG4;go_wp2_with fail;go_end0;exact⟨rfl,⟨K3,HA5.out,HS5.out⟩,HG5.out⟩
        ·have hb6:decide ((e:Int)<(b:Int))=false:=Yt (by omega)
         have HS5:Aside0 (Sorted M K2 N a b):=⟨f3_no HF2.out (Or.inr (by omega))⟩;clear HF2;go_wp2_with fail;go_end0;exact⟨rfl,⟨K2,HA4.out,HS5.out⟩,HG4.out⟩
       ·have hb5:decide ((mid:Int)<(e:Int))=false:=Yt (by omega)
        have HS5:Aside0 (Sorted M K2 N a b):=⟨f3_no HF2.out (Or.inl (by omega))⟩;clear HF2;go_wp2_with fail;go_end0;exact⟨rfl,⟨K2,HA4.out,HS5.out⟩,HG4.out⟩
      ·have hb4:decide ((s:Int)<(mid:Int))=false:=Yt (by omega)
       have HF2:Aside0 (F2 M K N a mid e b):=⟨f2_no HF.out (Or.inr (by omega))⟩;have HA4:=HA3;have HG4:=HG3;obtain⟨K2,rfl⟩: ∃ K2,K2=K:=⟨K,rfl⟩;clear HF HA3 HG3;by_cases c5:mid<e
       ·have hb5:decide ((mid:Int)<(e:Int))=true:=Ys (by omega)
        by_cases c6:e<b
        ·have hb6:decide ((e:Int)<(b:Int))=true:=Ys (by omega)
         go_wp2_with fail;refine(IH.out K2 mid e b _ (by omega) HA4.out c5 c6 hb HF2.out.2.1 HF2.out.2.2.1 HF2.out.2.2.2.2.1 HF2.out.2.2.2.2.2.1).mono ?_;rintro e5 w5 ⟨rfl,⟨K3,ha5,hk5⟩,hg5⟩;have HA5:=Ya ha5;have HS5:Aside0 (Sorted M K3 N a b):=⟨f3_rec HF2.out hk5 (by omega)⟩;have HG5:Aside0 (Fr w w5 g):=⟨grow_trans HG4.out hg5⟩;clear ha5 hk5 hg5 HA4 HF2 HG4;go_wp2_with fail;go_end0;exact⟨rfl,⟨K3,HA5.out,HS5.out⟩,HG5.out⟩
        ·have hb6:decide ((e:Int)<(b:Int))=false:=Yt (by omega)
         have HS5:Aside0 (Sorted M K2 N a b):=⟨f3_no HF2.out (Or.inr (by omega))⟩;clear HF2;go_wp2_with fail;go_end0;exact⟨rfl,⟨K2,HA4.out,HS5.out⟩,HG4.out⟩
       ·have hb5:decide ((mid:Int)<(e:Int))=false:=Yt (by omega)
        have HS5:Aside0 (Sorted M K2 N a b):=⟨f3_no HF2.out (Or.inl (by omega))⟩;clear HF2;go_wp2_with fail;go_end0;exact⟨rfl,⟨K2,HA4.out,HS5.out⟩,HG4.out⟩
     ·have hb3:decide ((a:Int)<(s:Int))=false:=Yt (by omega)
      have HF2:Aside0 (F2 M K N a mid e b):=⟨f2_no HF.out (Or.inl (by omega))⟩;have HA4:=HA3;have HG4:=HG3;obtain⟨K2,rfl⟩: ∃ K2,K2=K:=⟨K,rfl⟩;clear HF HA3 HG3;by_cases c5:mid<e
      ·have hb5:decide ((mid:Int)<(e:Int))=true:=Ys (by omega)
       by_cases c6:e<b
       ·have hb6:decide ((e:Int)<(b:Int))=true:=Ys (by omega)
        go_wp2_with fail;refine(IH.out K2 mid e b _ (by omega) HA4.out c5 c6 hb HF2.out.2.1 HF2.out.2.2.1 HF2.out.2.2.2.2.1 HF2.out.2.2.2.2.2.1).mono ?_;rintro e5 w5 ⟨rfl,⟨K3,ha5,hk5⟩,hg5⟩;have HA5:=Ya ha5;have HS5:Aside0 (Sorted M K3 N a b):=⟨f3_rec HF2.out hk5 (by omega)⟩;have HG5:Aside0 (Fr w w5 g):=⟨grow_trans HG4.out hg5⟩;clear ha5 hk5 hg5 HA4 HF2 HG4;go_wp2_with fail;go_end0;exact⟨rfl,⟨K3,HA5.out,HS5.out⟩,HG5.out⟩
       ·have hb6:decide ((e:Int)<(b:Int))=false:=Yt (by omega)
        have HS5:Aside0 (Sorted M K2 N a b):=⟨f3_no HF2.out (Or.inr (by omega))⟩;clear HF2;go_wp2_with fail;go_end0;exact⟨rfl,⟨K2,HA4.out,HS5.out⟩,HG4.out⟩
      ·have hb5:decide ((mid:Int)<(e:Int))=false:=Yt (by omega)
       have HS5:Aside0 (Sorted M K2 N a b):=⟨f3_no HF2.out (Or.inl (by omega))⟩;clear HF2;go_wp2_with fail;go_end0;exact⟨rfl,⟨K2,HA4.out,HS5.out⟩,HG4.out⟩
theorem sym_ok (g N cap:Nat) (hN:N≤1000000): ∀ d,SymOk g N cap d
 |0=>fun M a m b w hd h h1 h2 hb hs hsm l1 l2=>by omega
 |d+1=>fun M a m b w hd h h1 h2 hb hs hsm l1 l2=>by
  by_cases e1:m=a+1
  ·subst e1
   have:=symLo_calls g N cap M a b w h hN h2 hb hs hsm l2;exact this
  ·by_cases e2:b=m+1
   ·subst e2
    have:=symHi_calls g N cap M a m w h hN (by omega) hb hs hsm l1;exact this
   ·exact symMid_calls g N cap d (sym_ok g N cap hN d) M a m b w hd h hN (by omega) (by omega) hb hs hsm l1 l2
end H
namespace H
open P
def Blk (K:Nat→S79) (bs lo hi:Nat):Prop:= ∀ t i j,t * bs+lo≤i→i<j→j<t * bs+bs+lo→j<hi→(K i).f0≤(K j).f0
theorem blk_shift {K:Nat→S79} {bs lo hi:Nat} (h:Blk K bs lo hi):Blk K bs (lo+bs) hi:=fun t i j h1 h2 h3 h4=>by
 have e:(t+1) * bs=t * bs+bs:=Nat.succ_mul t bs;exact h (t+1) i j (by omega) h2 (by omega) h4
theorem blk_head {K:Nat→S79} {bs lo hi c:Nat} (h:Blk K bs lo hi) (h1:c≤lo+bs) (h2:c≤hi):Le K lo c:=fun i j k1 k2 k3=>h 0 i j (by omega) k2 (by omega) (by omega)
theorem blk_snoc {K:Nat→S79} {bs a c k:Nat} (h:Blk K bs 0 a) (ha:a=k * bs) (hl:Le K a c):Blk K bs 0 c:=fun t i j h1 h2 h3 h4=>by
 by_cases e1:j<a
 ·exact h t i j h1 h2 h3 e1
 ·by_cases e2:a≤i
  ·exact hl i j e2 h2 h4
  ·exfalso
   have e:(t+1) * bs=t * bs+bs:=Nat.succ_mul t bs;have l1:t * bs<k * bs:=by omega
   have l2:k * bs<(t+1) * bs:=by omega
   have:=Nat.lt_of_mul_lt_mul_right l1;have:=Nat.lt_of_mul_lt_mul_right l2;omega
theorem blk_mix {K L:Nat→S79} {bs lo hi c d:Nat} (h:Blk K bs lo hi) (hm:Mix K L c d) (hd:hi≤c∨d≤lo):Blk L bs lo hi:=fun t i j h1 h2 h3 h4=>by
 rw[hm.1 i (by omega),hm.1 j (by omega)];exact h t i j h1 h2 h3 h4
theorem blk_nil (K:Nat→S79) (bs lo:Nat):Blk K bs lo lo:=fun t i j h1 h2 h3 h4=>by omega
def Base3 (M K:Nat→S79) (N:Nat):Prop:=Mix M K 0 N∧Stab K N∧Small K N
theorem base_more {M K L:Nat→S79} {N a b:Nat} (h:Base3 M K N) (hl:Sorted K L N a b) (hb:b≤N):Base3 M L N:=⟨mix_trans h.1 (mix_wide hl.1 (Nat.zero_le _) hb),hl.2.1,hl.2.2.1⟩
set_option maxHeartbeats 2000000 in
set_option maxRecDepth 100000 in
theorem stable_calls (g N cap:Nat) (M:Nat→S79) (w:World) (h:Arr w g N M) (hN:N≤1000000) (hs:Stab M N) (hsm:Small M N):
  Calls Try.prog 98 #[.slice (some ⟨g,0,none⟩) N cap, .int .i64 (N:Int), .func (.func 86) #[] #[]] w fun e w'=>e= .returned (.tuple #[])∧(∃ K,Arr w' g N K∧Sorted M K N 0 N)∧Fr w w' g:=by
 have HA:=Ya h;have HB:=Ya (show Base3 M M N from⟨mix_refl _ _ _,hs,hsm⟩);clear h hs hsm;go_enter Try.func98,Try.ntmps98;go_wp2_with fail;go_loopw [7,8] (fun va vb wr=> ∃ a:Nat,a≤N∧va= .int .i64 a∧vb= .int .i64 ((a:Int)+20)∧(∃ k,Aside0 (a=k * 20))∧(∃ K,Aside0 (Arr wr g N K)∧Aside0 (Base3 M K N)∧Aside0 (Blk K 20 0 a))∧Aside0 (Fr w wr g)) (fun va _ _=>N+1 - (intOf va).toNat)
 case atStart=>exact⟨0,by omega,by go_num,by go_num,⟨0,⟨rfl⟩⟩,⟨M,HA,HB,⟨blk_nil _ _ _⟩⟩,⟨grow_refl _ _⟩⟩
 case round=>
  clear HA HB;obtain⟨a,haN,rfl,rfl,⟨k,hk⟩,⟨K,HA1,HB1,HK⟩,HG⟩:=hrel;by_cases hlt:a+20≤N
  ·have hz:(a:Int)+20=((a+20:Nat):Int):=by omega
   have hcb:decide (((a+20:Nat):Int)≤(N:Int))=true:=Ys (by omega);rw[hz];clear hz;go_wp2_with fail;refine(insertion_calls g N cap K a (a+20) _ HA1.out hN (by omega) hlt HB1.out.2.1 HB1.out.2.2).mono ?_;rintro e1 w1 ⟨rfl,⟨K1,ha1,hk1⟩,hg1⟩;have HA2:=Ya ha1;have HB2:Aside0 (Base3 M K1 N):=⟨base_more HB1.out hk1 hlt⟩;have HK2:Aside0 (Blk K1 20 0 (a+20)):=⟨blk_snoc (blk_mix HK.out hk1.1 (Or.inl (Nat.le_refl _))) hk.out hk1.2.2.2⟩;have HG2:Aside0 (Fr w w1 g):=⟨grow_trans HG.out hg1⟩;have hk2:Aside0 (a+20=(k+1) * 20):=by have:=hk.out;exact⟨by omega⟩
   clear ha1 hk1 hg1 HA1 HB1 HK HG hk;go_wp2_with fail;go_roundw
   case rel=>exact⟨a+20,hlt,rfl,by go_num,⟨k+1,hk2⟩,⟨K1,HA2,HB2,HK2⟩,HG2⟩
   case measure=>simp[intOf]<;>omega
  ·have hcb:decide ((a:Int)+20≤(N:Int))=false:=Yt (by omega)
   go_wp2_with fail;refine(insertion_calls g N cap K a N _ HA1.out hN haN (Nat.le_refl _) HB1.out.2.1 HB1.out.2.2).mono ?_;rintro e1 w1 ⟨rfl,⟨K1,ha1,hk1⟩,hg1⟩;have HA2:=Ya ha1;have HB2:Aside0 (Base3 M K1 N):=⟨base_more HB1.out hk1 (Nat.le_refl _)⟩;have HK2:Aside0 (Blk K1 20 0 N):=⟨blk_snoc (blk_mix HK.out hk1.1 (Or.inl (Nat.le_refl _))) hk.out hk1.2.2.2⟩;have HG2:Aside0 (Fr w w1 g):=⟨grow_trans HG.out hg1⟩;clear ha1 hk1 hg1 HA1 HB1 HK HG hk hcb;go_wp2_with fail;go_loopw [6] (fun vs wr=> ∃ s:Nat,0<s∧s≤2000020∧vs= .int .i64 s∧(∃ K,Aside0 (Arr wr g N K)∧Aside0 (Base3 M K N)∧Aside0 (Blk K s 0 N))∧Aside0 (Fr w wr g)) (fun vs _=>N - (intOf vs).toNat)
   case atStart=>exact⟨20,by omega,by omega,by go_num,⟨K1,HA2,HB2,HK2⟩,HG2⟩
   case round=>
    clear HA2 HB2 HK2 HG2;obtain⟨s,hs0,hs1,rfl,⟨K,HA1,HB1,HK⟩,HG⟩:=hrel;by_cases hsn:s<N
    ·obtain⟨s2,hs2⟩: ∃ s2,2 * s=s2:=⟨_,rfl⟩
     have hz:(2:Int) * (s:Int)=(s2:Int):=by omega
     have hz3:(s:Int) * 2=(s2:Int):=by omega
     have bs2:s2≤2000000:=by omega
     have hcs:decide ((s:Int)<(N:Int))=true:=Ys (by omega);have HS:=Ya hs2;have HK0:Aside0 (Blk K s2 0 0∧Blk K s 0 N):=⟨blk_nil _ _ _,HK.out⟩;clear HK hs2;go_wp2_with fail;obtain⟨wo,rfl⟩: ∃ wo:World,wo=wr:=⟨_,rfl⟩;go_loopw [7,8] (fun va vb wr=> ∃ a b:Nat,a≤N∧va= .int .i64 a∧vb= .int .i64 b∧Aside0 (a+s2=b)∧(∃ k,Aside0 (a=k * s2))∧(∃ K,Aside0 (Arr wr g N K)∧Aside0 (Base3 M K N)∧Aside0 (Blk K s2 0 a∧Blk K s a N))∧Aside0 (Fr w wr g)) (fun va _ _=>N+1 - (intOf va).toNat)
     case atStart=>exact⟨0,s2,by omega,by go_num,rfl,⟨by omega⟩,⟨0,⟨by omega⟩⟩,⟨K,HA1,HB1,HK0⟩,HG⟩
     case round=>
      clear HA1 HB1 HK0 HG;obtain⟨a,b,haN,rfl,rfl,HBB,⟨k,hk⟩,⟨K,HA1,HB1,HK⟩,HG⟩:=hrel;obtain⟨m,hm⟩: ∃ m,a+s=m:=⟨_,rfl⟩;have hz2:(a:Int)+(s:Int)=(m:Int):=by omega
      have HM:=Ya hm;clear hm;by_cases hlt:b≤N
      ·have hcb:decide ((b:Int)≤(N:Int))=true:=Ys (by omega)
       go_wp2_with fail;refine(sym_ok g N cap hN N K a m b _ (by omega) HA1.out (by have:=HM.out;omega) (by have:=HM.out;have:=HBB.out;have:=HS.out;omega) hlt HB1.out.2.1 HB1.out.2.2 (blk_head HK.out.2 (by have:=HM.out;omega) (by have:=HM.out;have:=HBB.out;have:=HS.out;omega)) (blk_head (by rw[← HM.out];exact blk_shift HK.out.2) (by have:=HM.out;have:=HBB.out;have:=HS.out;omega) hlt)).mono ?_;rintro e1 w1 ⟨rfl,⟨K1,ha1,hk1⟩,hg1⟩;have HA2:=Ya ha1;have HB2:Aside0 (Base3 M K1 N):=⟨base_more HB1.out hk1 hlt⟩;have HK2:Aside0 (Blk K1 s2 0 b∧Blk K1 s b N):=⟨blk_snoc (blk_mix HK.out.1 hk1.1 (Or.inl (Nat.le_refl _))) hk.out hk1.2.2.2,blk_mix (by rw[show b=a+s+s by have:=HBB.out;have:=HS.out;omega];exact blk_shift (blk_shift HK.out.2)) hk1.1 (Or.inr (Nat.le_refl _))⟩;have HG2:Aside0 (Fr w w1 g):=⟨grow_trans HG.out hg1⟩;have hk2:Aside0 (b=(k+1) * s2):=⟨by rw[Nat.succ_mul, ← hk.out,HBB.out]⟩;have hlb:Aside0 (a<b):=⟨by have:=HBB.out;have:=HS.out;omega⟩;clear ha1 hk1 hg1 HA1 HB1 HK HG hk HBB HM;go_wp2_with fail;go_roundw
       case rel=>exact⟨b,b+s2,hlt,rfl,by rw[Int.natCast_add],⟨rfl⟩,⟨k+1,hk2⟩,⟨K1,HA2,HB2,HK2⟩,HG2⟩
       case measure=>have:=hlb.out;simp[intOf]<;>omega
      ·have hcb:decide ((b:Int)≤(N:Int))=false:=Yt (by omega)
       have hsp:Aside0 (0<s2∧s<s2):=⟨by have:=HS.out;omega⟩;by_cases hmn:m<N
       ·have hcm:decide ((m:Int)<(N:Int))=true:=Ys (by omega)
        go_wp2_with fail;refine(sym_ok g N cap hN N K a m N _ (by omega) HA1.out (by have:=HM.out;omega) hmn (Nat.le_refl _) HB1.out.2.1 HB1.out.2.2 (blk_head HK.out.2 (by have:=HM.out;omega) (by omega)) (blk_head (by rw[← HM.out];exact blk_shift HK.out.2) (by have:=HM.out;have:=HBB.out;have:=HS.out;omega) (Nat.le_refl _))).mono ?_;rintro e1 w1 ⟨rfl,⟨K1,ha1,hk1⟩,hg1⟩;have HA2:=Ya ha1;have HB2:Aside0 (Base3 M K1 N):=⟨base_more HB1.out hk1 (Nat.le_refl _)⟩;have HK2:Aside0 (Blk K1 s2 0 N):=⟨blk_snoc (blk_mix HK.out.1 hk1.1 (Or.inl (Nat.le_refl _))) hk.out hk1.2.2.2⟩;have HG2:Aside0 (Fr w w1 g):=⟨grow_trans HG.out hg1⟩;clear ha1 hk1 hg1 HA1 HB1 HK HG hk HBB HM;go_wp2_with fail;go_roundw
        case rel=>exact⟨s2,hsp.out.1,by omega,rfl,⟨K1,HA2,HB2,HK2⟩,HG2⟩
        case measure=>have:=hsp.out;simp[intOf]<;>omega
       ·have hcm:decide ((m:Int)<(N:Int))=false:=Yt (by omega)
        have HK2:Aside0 (Blk K s2 0 N):=⟨blk_snoc HK.out.1 hk.out (blk_head HK.out.2 (by have:=HM.out;omega) (Nat.le_refl _))⟩;clear HK hk HBB HM;go_wp2_with fail;go_roundw
        case rel=>exact⟨s2,hsp.out.1,by omega,rfl,⟨K,HA1,HB1,HK2⟩,HG⟩
        case measure=>have:=hsp.out;simp[intOf]<;>omega
    ·have hcs:decide ((s:Int)<(N:Int))=false:=Yt (by omega)
     go_wp2_with fail;go_end0;exact⟨rfl,⟨K,HA1.out,HB1.out.1,HB1.out.2.1,HB1.out.2.2,blk_head HK.out (by omega) (Nat.le_refl _)⟩,HG.out⟩
theorem sortStable_calls (g N cap:Nat) (M:Nat→S79) (w:World) (h:Arr w g N M) (hN:N≤1000000) (hs:Stab M N) (hsm:Small M N):
  Calls Try.prog 85 #[.slice (some ⟨g,0,none⟩) N cap, .func (.func 86) #[] #[]] w fun e w'=>e= .returned (.tuple #[])∧(∃ K,Arr w' g N K∧Sorted M K N 0 N)∧Fr w w' g:=by
 go_enter Try.func85,Try.ntmps85;go_wp2_with fail;refine(stable_calls g N cap M w h hN hs hsm).mono ?_;rintro e1 w1 ⟨rfl,h1,h2⟩;go_wp2_with fail;go_end0;exact⟨rfl,h1,h2⟩
end H
namespace H
open P
theorem arr_of_R {w:World} {base g cap:Nat} {ok:Nat→Prop} {xs:List S79} (h:Kd.R k79 79 w base ok (.slice (some ⟨g,0,none⟩) xs.length cap) xs) (hp:0<xs.length):Arr w g xs.length fun i=>xs.getD i z79:=by
 obtain⟨g2,cap2,e,_,_,cells,hb⟩:=Kd.R_form h hp;have eg:g=g2:=by
  injection e with e1 e2 e3
  injection e1 with e1
  injection e1
 subst eg;refine⟨cells,hb,fun x hx=> ?_⟩;obtain⟨ad,ea,h1,h2⟩:=at_T79 (Kd.R_reads' h).2.2 (x:Int) (by omega) (by omega);injection ea with ea
 subst ea;simp only[Int.toNat_natCast,add_plain] at h1 h2;constructor
 ·have:=h1
  simp only[World.cell?,hb] at this
  simpa [rd_T79] using this
 ·have:=h2
  simp only[World.cell?,hb] at this
  simpa [rd_T79] using this
theorem R_of_arr {w w':World} {base g N cap:Nat} {ok ok':Nat→Prop} {xs:List S79} {K:Nat→S79} (h:Kd.R k79 79 w base ok (.slice (some ⟨g,0,none⟩) xs.length cap) xs) (hN:xs.length=N) (hp:0<N) (ha:Arr w' g N K) (hf:Fr w w' g) (hok:ok' g):
  Kd.R k79 79 w' base ok' (.slice (some ⟨g,0,none⟩) N cap) ((List.range N).map K):=by
 obtain⟨h0,inner,ho,hr⟩:=h;obtain⟨cells',hb',hc⟩:=ha;obtain⟨_,hq⟩:=ho;rcases hq with ⟨e,_⟩|⟨g2,cap2,cur,e,hbase,hb,hn,hm,hs,ht⟩
 ·injection e with e1;cases e1
 ·injection e with e1 e2 e3
  injection e1 with e1
  injection e1 with e1
  subst e1;subst e3;obtain⟨c2,hb2,hs2⟩:=hf.2 _ _ _ hb;have ec:c2=cells':=by
   have:=hb2.symm.trans hb';injection this with this
   injection this
  subst ec;have hlen:(c2.toList.take (N * 2)).length=N * 2:=by
   rw[List.length_take,Array.length_toList,hs2,hs];have:N≤cap:=by omega
   have:N * 2≤cap * 2:=Nat.mul_le_mul_right _ this;show min (N * 2) (cap * 2)=N * 2;omega
  refine⟨fun k hk=> ?_,c2.toList.take (N * 2),⟨?_,Or.inr ⟨g,cap,c2,?_,hbase,hb2,?_,hm,by rw[hs2,hs],?_⟩⟩,?_,fun j p hj=> ?_⟩
  ·have:g=k:=by simpa [Value.ownBlock] using hk
   subst this;exact hok
  ·rw[hlen,List.length_map,List.length_range];rfl
  ·rw[List.length_map,List.length_range]
  ·rw[List.length_map,List.length_range];omega
  ·rw[List.length_map,List.length_range];rfl
  ·rw[hlen,List.length_map,List.length_range];rfl
  ·rw[List.getElem?_map] at hj
   obtain⟨q,hq,rfl⟩:=Option.map_eq_some_iff.1 hj;have hjN:j<N:=by
    have:=(List.getElem?_eq_some_iff.1 hq).1
    rwa [List.length_range] at this
   have eq:q=j:=by
    rw[List.getElem?_range hjN] at hq;injection hq with hq;exact hq.symm
   subst eq;have e:((c2.toList.take (N * 2)).drop (q * 2)).take 2=[.int .i64 (K q).f0, .bool (K q).f1]:=by
    obtain⟨c0,c1⟩:=hc q hjN;apply List.ext_getElem?;intro m;rw[List.getElem?_take,List.getElem?_drop,List.getElem?_take]
    match m with
    |0=>rw[Yu (by omega),Yu (by omega),Nat.add_zero,Array.getElem?_toList,c0];rfl
    |1=>rw[Yu (by omega),Yu (by omega),Array.getElem?_toList,c1];rfl
    |m+2=>rw[Yv (by omega)];rfl
   show (Kd.M k79 w' base _ (K q) (((c2.toList.take (N * 2)).drop (q * 2)).take 2));rw[e];exact k79_mkM _ _ _ _
theorem stab_of_list {xs:List S79} (h:xs.Pairwise fun x y=>x.f0=y.f0→x.f1=false∧y.f1=true):Stab (fun i=>xs.getD i z79) xs.length:=by
 intro i j hij hj e;rw[List.pairwise_iff_getElem] at h;have hi:i<xs.length:=by omega
 simp only[List.getD_eq_getElem?_getD,List.getElem?_eq_getElem hi,List.getElem?_eq_getElem hj,Option.getD_some] at e ⊢;exact h i j hi hj hij e
theorem small_steps {l:List S50} {n:Nat} {v:Int} (hv0:0≤v) (hv:v<n) (hE:ends l n) (hl:l.length≤1000000):Small (fun i=>(stepsU l n v).getD i z79) (stepsU l n v).length:=by
 intro i hi;simp only[List.getD_eq_getElem?_getD,List.getElem?_eq_getElem hi,Option.getD_some];obtain⟨k,h1,h2,_⟩:=(mem_stepsU l n v hv0 hv hE _).1 (List.getElem_mem hi);rw[h2];omega
theorem sorted_is {l:List S50} {n:Nat} {v:Int} {K:Nat→S79} (hv0:0≤v) (hv:v<n) (hE:ends l n)
  (h:Sorted (fun i=>(stepsU l n v).getD i z79) K (stepsU l n v).length 0 (stepsU l n v).length):(List.range (stepsU l n v).length).map K=stL l v l.length:=by
 obtain⟨⟨_,m1,m2⟩,hst,_,hle⟩:=h;refine sorted_uniq _ _ ?_ (sorted_stL l v l.length) fun s=> ?_
 ·rw[List.pairwise_map]
  refine List.Pairwise.imp_of_mem (R:=(· < ·)) (fun {a b} ha hb hab=> ?_) List.pairwise_lt_range;rw[List.mem_range] at ha hb;have:=hle a b (Nat.zero_le _) hab hb;by_cases e:(K a).f0=(K b).f0
  ·exact Or.inr ⟨e,hst a b hab hb e⟩
  ·exact Or.inl (by omega)
 ·rw[mem_stL, ← mem_stepsU l n v hv0 hv hE,List.mem_map]
  constructor
  ·rintro⟨i,hi,rfl⟩
   rw[List.mem_range] at hi;obtain⟨y,_,hy,e⟩:=m1 i (Nat.zero_le _) hi;rw[e];simp only[List.getD_eq_getElem?_getD,List.getElem?_eq_getElem hy,Option.getD_some];exact List.getElem_mem hy
  ·intro hs
   obtain⟨y,hy,e⟩:=List.mem_iff_getElem.1 hs;obtain⟨x,_,hx,e2⟩:=m2 y (Nat.zero_le _) hy;refine⟨x,List.mem_range.2 hx,?_⟩;rw[e2];simp only[List.getD_eq_getElem?_getD,List.getElem?_eq_getElem hy,Option.getD_some];exact e
def rowsAt (l:List S50) (n k:Nat):List (List S79):=(List.range n).map fun v=>if v<k then stL l v l.length else []
theorem rowsAt_len (l:List S50) (n k:Nat):(rowsAt l n k).length=n:=by
 unfold rowsAt;rw[List.length_map,List.length_range]
theorem rowsAt_get (l:List S50) (n k v:Nat) (hv:v<n):(rowsAt l n k)[v]? =some (if v<k then stL l v l.length else []):=by
 unfold rowsAt;rw[List.getElem?_map,List.getElem?_range hv];rfl
theorem rowsAt_zero (l:List S50) (n:Nat):rowsAt l n 0=List.replicate n []:=by
 apply List.ext_getElem?;intro v;by_cases hv:v<n
 ·rw[rowsAt_get l n 0 v hv,List.getElem?_replicate,Yu hv,Yv (by omega)]
 ·rw[List.getElem?_eq_none (by rw[rowsAt_len];omega),List.getElem?_eq_none (by rw[List.length_replicate];omega)]
theorem rowsAt_set (l:List S50) (n k:Nat) (hk:k<n):(rowsAt l n k).set k (stL l k l.length)=rowsAt l n (k+1):=by
 apply List.ext_getElem?;intro v;by_cases hv:v<n
 ·rw[rowsAt_get l n (k+1) v hv]
  by_cases e:k=v
  ·subst e
   rw[List.getElem?_set_self (by rw[rowsAt_len];exact hk),Yu (by omega)]
  ·rw[List.getElem?_set_ne e,rowsAt_get l n k v hv]
   by_cases c:v<k
   ·rw[Yu c,Yu (by omega)]
   ·rw[Yv c,Yv (by omega)]
 ·rw[List.getElem?_eq_none (by rw[List.length_set,rowsAt_len];omega),List.getElem?_eq_none (by rw[rowsAt_len];omega)]
theorem rowsAt_self (l:List S50) (n k:Nat) (hk:k<n):(rowsAt l n k).set k []=rowsAt l n k:=by
 apply List.ext_getElem?;intro v;by_cases e:k=v
 ·subst e
  rw[List.getElem?_set_self (by rw[rowsAt_len];exact hk),rowsAt_get l n k k hk,Yv (by omega)]
 ·rw[List.getElem?_set_ne e]
theorem rd_set (X:List (List S79)) (k:Nat) (r:List S79) (hk:k<X.length):rd_L4 (X.set k r) (k:Int)=r:=by
 unfold rd_L4;rw[List.getD_eq_getElem?_getD,Int.toNat_natCast,List.getElem?_set_self hk];rfl
end H
namespace H
open P
structure Right (l:List S50) (F:List Int) (n:Nat):Prop where
 pos:0<n
 fifty:n≤50
 arcs:l.length≤200
 len:F.length=l.length
 ends:ends l n
 nums: ∀ i:Nat,i<l.length→0≤(rd_T50 l i).f3∧(rd_T50 l i).f3≤1048576∧0≤F.getD i 0∧F.getD i 0≤(rd_T50 l i).f2∧(rd_T50 l i).f2≤1048576
theorem stL_len (l:List S50) (v:Int) (k:Nat):(stL l v k).length≤2 * k:=by
 induction k with
 |zero=>exact Nat.le_refl _
 |succ k ih=>
  unfold stL;rw[List.length_append,List.length_append];split<;>split<;>simp<;>omega
def StepOf (l:List S50) (s:S79):Prop:= ∃ i:Nat,i<l.length∧s.f0=i
theorem stL_of {l:List S50} {v:Int} {s:S79} (h:s∈stL l v l.length):StepOf l s:=by
 obtain⟨i,h1,h2,_⟩:=(mem_stL l v l.length s).1 h;exact⟨i,h1,h2⟩
theorem stL_from {l:List S50} {v:Int} {s:S79} (h:s∈stL l v l.length):stFrom l s=v:=by
 obtain⟨i,h1,h2,h3⟩:=(mem_stL l v l.length s).1 h;unfold stFrom;rw[h2];rcases h3 with ⟨h3,h4⟩|⟨h3,h4⟩
 ·rw[h3];exact h4
 ·rw[h3];exact h4
theorem stTo_in {l:List S50} {F:List Int} {n:Nat} (hr:Right l F n) {s:S79} (hs:StepOf l s):0≤stTo l s∧stTo l s<n:=by
 obtain⟨i,h1,h2⟩:=hs;have:=hr.ends i h1;unfold stTo;rw[h2];split
 ·exact this.1
 ·exact this.2
theorem to_f {l:List S50} {F:List Int} {n:Nat} (hr:Right l F n) {s:S79} (hs:StepOf l s) (a:Int) (b:Bool):static_Flowing_To.f a b l F s.f0 s.f1=some (stTo l s):=by
 obtain⟨i,h1,h2⟩:=hs;unfold static_Flowing_To.f static_Flowing_From.f stTo eFrom eTo;rw[h2];cases s.f1<;>simp[h1]
theorem room_f {l:List S50} {F:List Int} {n:Nat} (hr:Right l F n) {s:S79} (hs:StepOf l s) (a:Int) (b:Bool):static_Flowing_Room.f a b l F s.f0 s.f1=some (stRoom l F s):=by
 obtain⟨i,h1,h2⟩:=hs;have h3:=hr.nums i h1;have h4:=hr.len;unfold static_Flowing_Room.f stRoom;rw[h2];have e:rd F (i:Int)=F.getD i 0:=by unfold rd;rw[Int.toNat_natCast]
 cases s.f1
 ·have:wrap64 ((rd_T50 l i).f2 - F.getD i 0)=(rd_T50 l i).f2 - F.getD i 0:=by unfold wrap64;omega
  rw[Yv (by simp),Yu (by omega),Yu (by omega),Yu (by omega),Yv (by simp),e,this,Int.toNat_natCast]
 ·rw[Yu rfl,Yu (by omega),Yu (by omega),Yu rfl,e,Int.toNat_natCast]
end H
namespace Q
theorem Ev.pos {α:Type} {c:Prop} [Decidable c] {f g:Nat→Option α} {r:α} (h:c) (e:Ev f r):Ev (fun k=>if c then f k else g k) r:=
 Ev.congr (fun _=>Yu h) e
theorem Ev.neg {α:Type} {c:Prop} [Decidable c] {f g:Nat→Option α} {r:α} (h: ¬ c) (e:Ev g r):Ev (fun k=>if c then f k else g k) r:=
 Ev.congr (fun _=>Yv h) e
theorem Ev.ite {α:Type} {c:Prop} [Decidable c] {f g:Nat→Option α} {r:α} (e:c→Ev f r) (e': ¬ c→Ev g r):Ev (fun k=>if c then f k else g k) r:=by
 by_cases h:c
 ·exact Ev.pos h (e h)
 ·exact Ev.neg h (e' h)
theorem Ev.succ {α:Type} {g:Nat→Option α} {r:α} (e:Ev (fun k=>g (k+1)) r):Ev g r:=Ev.step (fun _=>rfl) e
theorem Ev.let_ {α β:Type} {a:α} {f:Nat→α→Option β} {r:β} (e:Ev (fun k=>f k a) r):Ev (fun k=>(some a).bind (f k)) r:=e
theorem Ev.call {α β:Type} {g:Option α} {a:α} {f:Nat→α→Option β} {r:β} (h:g=some a) (e:Ev (fun k=>f k a) r):Ev (fun k=>g.bind (f k)) r:=by
 subst h;exact e
theorem Ev.done {α:Type} {a r:α} (h:a=r):Ev (fun _=>some a) r:=h▸Ev.now a
theorem Ev.eq {α:Type} {g:Nat→Option α} {a r:α} (h:Ev g a) (e:a=r):Ev g r:=e▸h
theorem wrap_id {x:Int} (h0: -9223372036854775808≤x) (h1:x≤9223372036854775807):wrap64 x=x:=by
 unfold wrap64;omega
theorem wrap_succ {i n:Nat} (h:i<n) (hn:n≤9223372036854775807):wrap64 ((i:Int)+1)=((i+1:Nat):Int):=by
 unfold wrap64;omega
theorem drop_getD {α:Type} (l:List α) (i:Nat) (d:α) (h:i<l.length):l.drop i=l.getD i d::l.drop (i+1):=by
 rw[List.drop_eq_getElem_cons h,List.getD_eq_getElem?_getD,List.getElem?_eq_getElem h];rfl
theorem rd_nat (xs:List Int) (i:Nat):rd xs (i:Int)=xs.getD i 0:=by
 unfold rd;rw[Int.toNat_natCast]
theorem getD_mem {α:Type} {l:List α} {i:Nat} {d:α} (h:i<l.length):l.getD i d∈l:=by
 rw[List.getD_eq_getElem?_getD,List.getElem?_eq_getElem h];exact List.getElem_mem h
theorem getD_set {α:Type} (l:List α) (i j:Nat) (a d:α) (h:i<l.length):(l.set i a).getD j d=if i=j then a else l.getD j d:=by
 rw[List.getD_eq_getElem?_getD,List.getD_eq_getElem?_getD,List.getElem?_set];by_cases e:i=j
 ·subst e;simp[h]
 ·simp[e]
theorem rd_set (l:List Int) (i j a:Int) (h0:0≤i) (h1:i<l.length) (h2:0≤j):rd (l.set i.toNat a) j=if i=j then a else rd l j:=by
 unfold rd;rw[getD_set _ _ _ _ _ (by omega)];by_cases e:i=j
 ·rw[Yu e,Yu (by omega)]
 ·rw[Yv e,Yv (by omega)]
theorem ext_rd {a b:List Int} (hl:a.length=b.length) (h: ∀ i:Nat,i<a.length→rd a i=rd b i):a=b:=by
 apply List.ext_getElem hl;intro i h1 h2;have:=h i h1;rw[rd_nat,rd_nat,List.getD_eq_getElem?_getD,List.getD_eq_getElem?_getD,List.getElem?_eq_getElem h1,List.getElem?_eq_getElem h2] at this;exact this
end Q
namespace H
open P Q
theorem stFrom_in {l:List S50} {F:List Int} {n:Nat} (hr:Right l F n) {s:S79} (hs:StepOf l s):0≤stFrom l s∧stFrom l s<n:=by
 obtain⟨i,h1,h2⟩:=hs;have:=hr.ends i h1;unfold stFrom;rw[h2];split
 ·exact this.2
 ·exact this.1
end H
namespace P
attribute [local go_sem] max2_int min2_int max_two min_two max_three min_three max_four min_four
def ebbtideref05_nodes.f (a0:Int):Option (Int):=if a0<1 then(some 51) else(if a0>50 then(some 2) else(some 0))
set_option maxHeartbeats 8000000 in
set_option maxRecDepth 100000 in
theorem ebbtideref05_nodes.calls (a0:Int) (r:Int) (w:World) (h:ebbtideref05_nodes.f a0=some r):
  Calls Try.prog 62 #[.int .i64 a0] w fun e w'=>e= .returned (.int .i64 r)∧Drawn0 w w':=by
 have H:=h;unfold ebbtideref05_nodes.f at H;clear h;by_cases c2:a0<1
 ·rw[Yu c2] at H
  have c2b0:decide (a0<1)=true:=Ys c2;clear c2;obtain rfl:=Option.some.inj H;go_enter Try.func62,Try.ntmps62;go_wp2;go_ret;exact⟨by first|rfl|(simp;done)|(simp[*];done),by repeat(first|exact Drawn0.refl _|apply Drawn0.step)⟩
 rw[Yv c2] at H;have c2b0:decide (a0<1)=false:=Yt c2;clear c2;by_cases c3:a0>50
 rotate_left
 ·rw[Yv c3] at H
  have c3b0:decide (50<a0)=false:=Yt c3;clear c3;obtain rfl:=Option.some.inj H;go_enter Try.func62,Try.ntmps62;go_wp2;go_ret;exact⟨by first|rfl|(simp;done)|(simp[*];done),by repeat(first|exact Drawn0.refl _|apply Drawn0.step)⟩
 rw[Yu c3] at H;have c3b0:decide (50<a0)=true:=Ys c3;clear c3;obtain rfl:=Option.some.inj H;go_enter Try.func62,Try.ntmps62;go_wp2;go_ret;exact⟨by first|rfl|(simp;done)|(simp[*];done),by repeat(first|exact Drawn0.refl _|apply Drawn0.step)⟩
end P
namespace P
attribute [local go_sem] max2_int min2_int max_two min_two max_three min_three max_four min_four
def ebbtideref05_Arc.j0:Nat→Bool→Int→Int→Int→Int→Option (Int)
 |0,_,_,_,_,_=>none
 |k+1,x34,x186000,x186001,x186002,x186003=>if x34=true then(some 51) else(if x186002>1048576 then(some 2) else(if x186003>1048576 then(some 2) else(some 0)))
def ebbtideref05_Arc.f (k:Nat) (a0:Int) (Zh:Int) (Zp:Int) (Xj:Int) (Xk:Int):Option (Int):=if Zh<0 then(ebbtideref05_Arc.j0 k true Zh Zp Xj Xk) else(if Zh≥a0 then(ebbtideref05_Arc.j0 k true Zh Zp Xj Xk) else(if Zp<0 then(ebbtideref05_Arc.j0 k true Zh Zp Xj Xk) else(if Zp≥a0 then(ebbtideref05_Arc.j0 k true Zh Zp Xj Xk) else(if Xj<0 then(ebbtideref05_Arc.j0 k true Zh Zp Xj Xk) else(ebbtideref05_Arc.j0 k (decide (Xk<0)) Zh Zp Xj Xk)))))
set_option maxHeartbeats 8000000 in
set_option maxRecDepth 100000 in
theorem ebbtideref05_Arc.calls (k:Nat) (a0:Int) (Zh:Int) (Zp:Int) (Xj:Int) (Xk:Int) (r:Int) (w:World) (h:ebbtideref05_Arc.f k a0 Zh Zp Xj Xk=some r):
  Calls Try.prog 63 #[.int .i64 a0, .agg #[.int .i64 Zh, .int .i64 Zp, .int .i64 Xj, .int .i64 Xk]] w fun e w'=>e= .returned (.int .i64 r)∧Below w.heap.size w w':=by
 have hu50:=Try.underlying50;have HB:=Ya (Yo w.heap.size w);have H:=h;unfold ebbtideref05_Arc.f at H;clear h;have HC3:=Ya H;clear H;go_enter Try.func63,Try.ntmps63;go_upto_region 1 with (first|((with_reducible refine gate_dst (N:=3) rfl ?_);refine Yw ?hg (N:=3) ?hd (cs:= #[.int .i64 Zh, .int .i64 Zp, .int .i64 Xj, .int .i64 Xk]) (t:=50) ?hr ?_;(case hd=>rfl);(case hg=>rfl);(case hr=>first|(go_simp;done)|(go_simp;rfl));intro Xh hg w4 Zg hb;have n0_:=Ya (Yk (by repeat(first|(with_reducible first|exact HB.out|apply Ye|apply Yd|apply Yg)|exact HB.out)) hb);have n1_:=Ya (Zg);have n2_:=Ya ((by rw[hg];exact(Yi (by repeat(first|(with_reducible first|exact HB.out|apply Ye|apply Yd|apply Yg)|exact HB.out))):w.heap.size≤Xh));have n3_:=Ya ((by rw[hg];exact(Yi (by repeat(first|(with_reducible first|exact HB.out|apply Ye|apply Yd|apply Yg)|exact HB.out))):w.heap.size≤Xh));clear HB;have HB:=n0_;have Zk:=n1_;have GW185:=n2_;have GE185:=n3_;clear n0_ n1_ n2_ n3_;clear hb Zg hg))
 (try simp only[Act.put,List.setIfInBounds_toArray,List.set_cons_zero,List.set_cons_succ])
 go_cut [34] (fun v34 wc=> ∃ (kq:Nat) (x34_2:Bool),v34= .bool x34_2∧Aside0 (ebbtideref05_Arc.j0 kq x34_2 Zh Zp Xj Xk=some r)∧Aside0 (kq≤k)∧Aside0 (wc.heap[Xh]? =some (.cells #[.int .i64 Zh, .int .i64 Zp, .int .i64 Xj, .int .i64 Xk] 50 (0,0)))∧Aside0 (Below w.heap.size w wc))
 case first=>
  have H:=HC3.out;clear HC3;by_cases c5:Zh<0
  ·rw[Yu c5] at H
   have c5b0:decide (Zh<0)=true:=Ys c5;clear c5
   (first|rw[c5b0]|(simp only[i64_w,i32_w];rw[c5b0])|skip)
   have H':=Ya H;clear H;have hcz6_0:w4.cell? ⟨Xh,0,none⟩=some (.int .i64 Zh):=bc Zk 0;have hcz6_1:w4.cell? ⟨Xh,1,none⟩=some (.int .i64 Zp):=bc Zk 1;have hcz6_2:w4.cell? ⟨Xh,2,none⟩=some (.int .i64 Xj):=bc Zk 2;have hcz6_3:w4.cell? ⟨Xh,3,none⟩=some (.int .i64 Xk):=bc Zk 3;have hfz6_0:=Yf Zk.out 0;have hfz6_1:=Yf Zk.out 1;have hfz6_2:=Yf Zk.out 2;have hfz6_3:=Yf Zk.out 3;go_wp2;go_meet
   case rel=>exact⟨_,(true),(by first|rfl|(simp;done)|(simp[*];done)),H',⟨by first|omega|exact Nat.le_refl _⟩,⟨Zk.out⟩,⟨HB.out⟩⟩
  rw[Yv c5] at H;have c5b0:decide (Zh<0)=false:=Yt c5;clear c5
  (first|rw[c5b0]|(simp only[i64_w,i32_w];rw[c5b0])|skip)
  by_cases c7:Zh≥a0
  ·rw[Yu c7] at H
   have c7b0:decide (a0≤Zh)=true:=Ys c7;clear c7;have H':=Ya H;clear H;have Wi:w4.cell? ⟨Xh,0,none⟩=some (.int .i64 Zh):=bc Zk 0;have Wj:w4.cell? ⟨Xh,1,none⟩=some (.int .i64 Zp):=bc Zk 1;have Wk:w4.cell? ⟨Xh,2,none⟩=some (.int .i64 Xj):=bc Zk 2;have hcz8_3:w4.cell? ⟨Xh,3,none⟩=some (.int .i64 Xk):=bc Zk 3;have Wl:=Yf Zk.out 0;have Wm:=Yf Zk.out 1;have Wn:=Yf Zk.out 2;have hfz8_3:=Yf Zk.out 3;go_wp2;go_meet
   case rel=>exact⟨_,(true),(by first|rfl|(simp;done)|(simp[*];done)),H',⟨by first|omega|exact Nat.le_refl _⟩,⟨Zk.out⟩,⟨HB.out⟩⟩
  rw[Yv c7] at H;have c7b0:decide (a0≤Zh)=false:=Yt c7;clear c7;by_cases c9:Zp<0
  ·rw[Yu c9] at H
   have c9b0:decide (Zp<0)=true:=Ys c9;clear c9;have H':=Ya H;clear H;have Ww:w4.cell? ⟨Xh,0,none⟩=some (.int .i64 Zh):=bc Zk 0;have Wx:w4.cell? ⟨Xh,1,none⟩=some (.int .i64 Zp):=bc Zk 1;have Wy:w4.cell? ⟨Xh,2,none⟩=some (.int .i64 Xj):=bc Zk 2;have Jl:w4.cell? ⟨Xh,3,none⟩=some (.int .i64 Xk):=bc Zk 3;have Wz:=Yf Zk.out 0;have Va:=Yf Zk.out 1;have Vb:=Yf Zk.out 2;have Jm:=Yf Zk.out 3;go_wp2;go_meet
   case rel=>exact⟨_,(true),(by first|rfl|(simp;done)|(simp[*];done)),H',⟨by first|omega|exact Nat.le_refl _⟩,⟨Zk.out⟩,⟨HB.out⟩⟩
  rw[Yv c9] at H;have c9b0:decide (Zp<0)=false:=Yt c9;clear c9;by_cases c11:Zp≥a0
  ·rw[Yu c11] at H
   have c11b0:decide (a0≤Zp)=true:=Ys c11;clear c11;have H':=Ya H;clear H;have hcz12_0:w4.cell? ⟨Xh,0,none⟩=some (.int .i64 Zh):=bc Zk 0;have hcz12_1:w4.cell? ⟨Xh,1,none⟩=some (.int .i64 Zp):=bc Zk 1;have hcz12_2:w4.cell? ⟨Xh,2,none⟩=some (.int .i64 Xj):=bc Zk 2;have hcz12_3:w4.cell? ⟨Xh,3,none⟩=some (.int .i64 Xk):=bc Zk 3;have hfz12_0:=Yf Zk.out 0;have hfz12_1:=Yf Zk.out 1;have hfz12_2:=Yf Zk.out 2;have hfz12_3:=Yf Zk.out 3;go_wp2;go_meet
   case rel=>exact⟨_,(true),(by first|rfl|(simp;done)|(simp[*];done)),H',⟨by first|omega|exact Nat.le_refl _⟩,⟨Zk.out⟩,⟨HB.out⟩⟩
  rw[Yv c11] at H;have c11b0:decide (a0≤Zp)=false:=Yt c11;clear c11;by_cases c13:Xj<0
  rotate_left
  ·rw[Yv c13] at H
   have c13b0:decide (Xj<0)=false:=Yt c13;clear c13;have H':=Ya H;clear H;have hcz15_0:w4.cell? ⟨Xh,0,none⟩=some (.int .i64 Zh):=bc Zk 0;have hcz15_1:w4.cell? ⟨Xh,1,none⟩=some (.int .i64 Zp):=bc Zk 1;have hcz15_2:w4.cell? ⟨Xh,2,none⟩=some (.int .i64 Xj):=bc Zk 2;have hcz15_3:w4.cell? ⟨Xh,3,none⟩=some (.int .i64 Xk):=bc Zk 3;have hfz15_0:=Yf Zk.out 0;have hfz15_1:=Yf Zk.out 1;have hfz15_2:=Yf Zk.out 2;have hfz15_3:=Yf Zk.out 3;go_wp2;go_meet
   case rel=>exact⟨_,(decide (Xk<0)),(by first|rfl|(simp;done)|(simp[*];done)),H',⟨by first|omega|exact Nat.le_refl _⟩,⟨Zk.out⟩,⟨HB.out⟩⟩
  rw[Yu c13] at H;have c13b0:decide (Xj<0)=true:=Ys c13;clear c13;have H':=Ya H;clear H;have hcz14_0:w4.cell? ⟨Xh,0,none⟩=some (.int .i64 Zh):=bc Zk 0;have hcz14_1:w4.cell? ⟨Xh,1,none⟩=some (.int .i64 Zp):=bc Zk 1;have hcz14_2:w4.cell? ⟨Xh,2,none⟩=some (.int .i64 Xj):=bc Zk 2;have hcz14_3:w4.cell? ⟨Xh,3,none⟩=some (.int .i64 Xk):=bc Zk 3;have hfz14_0:=Yf Zk.out 0;have hfz14_1:=Yf Zk.out 1;have hfz14_2:=Yf Zk.out 2;have hfz14_3:=Yf Zk.out 3;go_wp2;go_meet
  case rel=>exact⟨_,(true),(by first|rfl|(simp;done)|(simp[*];done)),H',⟨by first|omega|exact Nat.le_refl _⟩,⟨Zk.out⟩,⟨HB.out⟩⟩
 case rest=>
  clear HC3;try clear c5
  try clear c5b0
  try clear c7
  try clear c7b0
  try clear c9
  try clear c9b0
  try clear c11
  try clear c11b0
  try clear c13
  try clear c13b0
  try clear Ww
  try clear Wx
  try clear Wy
  try clear Jl
  try clear hcz12_0
  try clear hcz12_1
  try clear hcz12_2
  try clear hcz12_3
  try clear hcz14_0
  try clear hcz14_1
  try clear hcz14_2
  try clear hcz14_3
  try clear hcz15_0
  try clear hcz15_1
  try clear hcz15_2
  try clear hcz15_3
  try clear hcz6_0
  try clear hcz6_1
  try clear hcz6_2
  try clear hcz6_3
  try clear Wi
  try clear Wj
  try clear Wk
  try clear hcz8_3
  try clear Wz
  try clear Va
  try clear Vb
  try clear Jm
  try clear hfz12_0
  try clear hfz12_1
  try clear hfz12_2
  try clear hfz12_3
  try clear hfz14_0
  try clear hfz14_1
  try clear hfz14_2
  try clear hfz14_3
  try clear hfz15_0
  try clear hfz15_1
  try clear hfz15_2
  try clear hfz15_3
  try clear hfz6_0
  try clear hfz6_1
  try clear hfz6_2
  try clear hfz6_3
  try clear Wl
  try clear Wm
  try clear Wn
  try clear hfz8_3
  obtain⟨kq,x34_2,rfl,HA,HJ2,Zk,HB⟩:=hcut;cases kq with
  |zero=>exact absurd HA.out (by simp[ebbtideref05_Arc.j0])
  |succ kj2=>
   have H:=HA.out;clear HA;simp only[ebbtideref05_Arc.j0] at H;by_cases c16:x34_2=true
   ·subst c16
    first|rw[Yu rfl] at H|rw[Yu trivial] at H
    obtain rfl:=Option.some.inj H;go_wp2;go_ret;exact⟨by first|rfl|(simp[errW_none,errW_some]<;>rfl)|(simp[*,errW_none,errW_some]<;>rfl),HB.out⟩
   replace c16:=Bool.eq_false_iff.mpr c16;subst c16;rw[Yv (show ¬ (false=true) by decide)] at H;by_cases c17:Xj>1048576
   ·rw[Yu c17] at H
    have c17b0:decide (1048576<Xj)=true:=Ys c17;clear c17;obtain rfl:=Option.some.inj H;have Jn:wc.cell? ⟨Xh,0,none⟩=some (.int .i64 Zh):=bc Zk 0;have Jo:wc.cell? ⟨Xh,1,none⟩=some (.int .i64 Zp):=bc Zk 1;have Jp:wc.cell? ⟨Xh,2,none⟩=some (.int .i64 Xj):=bc Zk 2;have Jq:wc.cell? ⟨Xh,3,none⟩=some (.int .i64 Xk):=bc Zk 3;have Jr:=Yf Zk.out 0;have Js:=Yf Zk.out 1;have Jt:=Yf Zk.out 2;have Ju:=Yf Zk.out 3;go_wp2;go_ret;exact⟨by first|rfl|(simp[errW_none,errW_some]<;>rfl)|(simp[*,errW_none,errW_some]<;>rfl),HB.out⟩
   rw[Yv c17] at H;have c17b0:decide (1048576<Xj)=false:=Yt c17;clear c17;by_cases c19:Xk>1048576
   rotate_left
   ·rw[Yv c19] at H
    have c19b0:decide (1048576<Xk)=false:=Yt c19;clear c19;obtain rfl:=Option.some.inj H;have hcz21_0:wc.cell? ⟨Xh,0,none⟩=some (.int .i64 Zh):=bc Zk 0;have hcz21_1:wc.cell? ⟨Xh,1,none⟩=some (.int .i64 Zp):=bc Zk 1;have hcz21_2:wc.cell? ⟨Xh,2,none⟩=some (.int .i64 Xj):=bc Zk 2;have hcz21_3:wc.cell? ⟨Xh,3,none⟩=some (.int .i64 Xk):=bc Zk 3;have hfz21_0:=Yf Zk.out 0;have hfz21_1:=Yf Zk.out 1;have hfz21_2:=Yf Zk.out 2;have hfz21_3:=Yf Zk.out 3;go_wp2;go_ret;exact⟨by first|rfl|(simp[errW_none,errW_some]<;>rfl)|(simp[*,errW_none,errW_some]<;>rfl),HB.out⟩
   rw[Yu c19] at H;have c19b0:decide (1048576<Xk)=true:=Ys c19;clear c19;obtain rfl:=Option.some.inj H;have hcz20_0:wc.cell? ⟨Xh,0,none⟩=some (.int .i64 Zh):=bc Zk 0;have hcz20_1:wc.cell? ⟨Xh,1,none⟩=some (.int .i64 Zp):=bc Zk 1;have hcz20_2:wc.cell? ⟨Xh,2,none⟩=some (.int .i64 Xj):=bc Zk 2;have hcz20_3:wc.cell? ⟨Xh,3,none⟩=some (.int .i64 Xk):=bc Zk 3;have hfz20_0:=Yf Zk.out 0;have hfz20_1:=Yf Zk.out 1;have hfz20_2:=Yf Zk.out 2;have hfz20_3:=Yf Zk.out 3;go_wp2;go_ret;exact⟨by first|rfl|(simp[errW_none,errW_some]<;>rfl)|(simp[*,errW_none,errW_some]<;>rfl),HB.out⟩
end P
namespace P
attribute [local go_sem] max2_int min2_int max_two min_two max_three min_three max_four min_four
def ebbtideref05_Check.l0:Nat→Int→Int→Bool→List (S50)→Option (Int)
 |0,_,_,_,_=>none
 |k+1,x4,x187000,x187001,Ut=>if x4<(Ut.length:Int) then(if 0≤x4 then((ebbtideref05_Arc.f k x187000 ((rd_T50 Ut x4).f0) ((rd_T50 Ut x4).f1) ((rd_T50 Ut x4).f2) ((rd_T50 Ut x4).f3)).bind fun t189=>(if t189=0 then(ebbtideref05_Check.l0 k (wrap64 (x4+1)) x187000 x187001 Ut) else(some t189))) else(none)) else(some 0)
def ebbtideref05_Check.f (k:Nat) (Zb:Int) (Zc:Bool) (Za:List (S50)):Option (Int):=(ebbtideref05_nodes.f Zb).bind fun t187=>(if t187=0 then(if (Za.length:Int)>200 then(some 2) else(ebbtideref05_Check.l0 k 0 Zb Zc Za)) else(some t187))
def ebbtideref05_Check.T9:Bool × List (List Nat × List Nat):=(true,[([],[]),([0],[0]),([],[]),([2],[2]),([],[]),([3,4],[3,4]),([5],[5]),([1,6],[1,6]),([7,7,0,1,2,3,4,5,6,7],[7])])
def ebbtideref05_Check.B9:List Nat:=[0,1,0,4,0,28,60,127,255]
theorem ebbtideref05_Check.tab9:rtab .any (opsOf Try.f30 9)=ebbtideref05_Check.T9:=by kernel_rfl
theorem ebbtideref05_Check.bits9:waitsOk ebbtideref05_Check.T9.2 ebbtideref05_Check.B9=true:=by kernel_rfl
set_option maxHeartbeats 8000000 in
set_option maxRecDepth 100000 in
theorem ebbtideref05_Check.calls (k:Nat) (Zb:Int) (Zc:Bool) (Zf:Option Addr) (Ze:Nat) (Za:List (S50)) (r:Int) (w:World) (Zq:Kd.C k50 w Zf Za.length Za) (Zr:Za.length≤Ze) (h:ebbtideref05_Check.f k Zb Zc Za=some r):
  Calls Try.prog 30 #[.agg #[.int .i64 Zb, .bool Zc, .slice Zf Za.length Ze]] w fun e w'=>e= .returned (.int .i64 r)∧Below w.heap.size w w':=by
 have hu24:=Try.underlying24;have hu50:=Try.underlying50;have Zo:=Ya Zq;have Xo:=Ya Zr;clear Zq Zr;have HB:=Ya (Yo w.heap.size w);have H:=h;unfold ebbtideref05_Check.f at H;clear h;replace H:=Option.bind_eq_some_iff.mp H;obtain⟨t187,A20,H⟩:=H;try dsimp only at H
 have A2:=Ya A20;clear A20;by_cases c3:t187=0
 rotate_left
 ·rw[Yv c3] at H
  have c3b0:(t187 == 0)=false:=beq_eq_false_iff_ne.mpr c3;have c3b1:(t187 != 0)=true:=bne_iff_ne.mpr c3;obtain rfl:=Option.some.inj H;go_enter Try.func30,Try.ntmps30;go_wp2_with (first|(refine bx 1 24 #[.int .i64 Zb, .bool Zc, .slice Zf Za.length Ze] ?_;intro Xp hg w20 Zg hb;have Zm:=Ya (Zg);have GW186:=Ya (by rw[hg];exact(Yi HB.out):w.heap.size≤Xp);have GE186:=Ya (by rw[hg];exact(Yi HB.out):w.heap.size≤Xp);replace HB:=Ya (Yk HB.out hb);clear hb Zg hg;have hcz21_0:w20.cell? ⟨Xp,0,none⟩=some (.int .i64 Zb):=bc Zm 0;have hcz21_1:w20.cell? ⟨Xp,1,none⟩=some (.bool Zc):=bc Zm 1;have hcz21_2:w20.cell? ⟨Xp,2,none⟩=some (.slice Zf Za.length Ze):=bc Zm 2;have hfz21_0:=Yf Zm.out 0;have hfz21_1:=Yf Zm.out 1;have hfz21_2:=Yf Zm.out 2)|((with_reducible refine gate_callee (f:=62) rfl ?_);refine gl (some 8) Try.func62 #[.int .i64 Zb] ?_;(with_reducible refine(ebbtideref05_nodes.calls Zb t187 _ A2.out).mono ?_);rintro e w' ⟨rfl,⟨nd,rfl⟩⟩;refine⟨_,rfl,?_⟩));go_ret;exact⟨by first|rfl|(simp[errW_none,errW_some]<;>rfl)|(simp[*,errW_none,errW_some]<;>rfl),bl⟩
 rw[Yu c3] at H;have c3b0:(t187 == 0)=true:=beq_iff_eq.mpr c3;have c3b1:(t187 != 0)=false:=bne_eq_false_iff_eq.mpr c3;clear c3;by_cases c4:(Za.length:Int)>200
 ·rw[Yu c4] at H
  have c4b0:decide (200<(Za.length:Int))=true:=Ys c4;have c4b1:decide (200<Za.length)=true:=Ys (by omega);clear c4;obtain rfl:=Option.some.inj H;go_enter Try.func30,Try.ntmps30;go_wp2_with (first|(refine bx 1 24 #[.int .i64 Zb, .bool Zc, .slice Zf Za.length Ze] ?_;intro Xp hg w5 Zg hb;have Zm:=Ya (Zg);have GW186:=Ya (by rw[hg];exact(Yi HB.out):w.heap.size≤Xp);have GE186:=Ya (by rw[hg];exact(Yi HB.out):w.heap.size≤Xp);replace HB:=Ya (Yk HB.out hb);clear hb Zg hg;have hcz6_0:w5.cell? ⟨Xp,0,none⟩=some (.int .i64 Zb):=bc Zm 0;have hcz6_1:w5.cell? ⟨Xp,1,none⟩=some (.bool Zc):=bc Zm 1;have hcz6_2:w5.cell? ⟨Xp,2,none⟩=some (.slice Zf Za.length Ze):=bc Zm 2;have hfz6_0:=Yf Zm.out 0;have hfz6_1:=Yf Zm.out 1;have hfz6_2:=Yf Zm.out 2)|((with_reducible refine gate_callee (f:=62) rfl ?_);refine gl (some 8) Try.func62 #[.int .i64 Zb] ?_;(with_reducible refine(ebbtideref05_nodes.calls Zb t187 _ A2.out).mono ?_);rintro e w' ⟨rfl,⟨nd,rfl⟩⟩;refine⟨_,rfl,?_⟩));go_ret;exact⟨by first|rfl|(simp[errW_none,errW_some]<;>rfl)|(simp[*,errW_none,errW_some]<;>rfl),bl⟩
 rw[Yv c4] at H;have c4b0:decide (200<(Za.length:Int))=false:=Yt c4;have c4b1:decide (200<Za.length)=false:=Yt (by omega);clear c4;have H':=Ya H;clear H;go_enter Try.func30,Try.ntmps30;go_wp2_with (first|(refine bx 1 24 #[.int .i64 Zb, .bool Zc, .slice Zf Za.length Ze] ?_;intro Xp hg w7 Zg hb;have Zm:=Ya (Zg);have GW186:=Ya (by rw[hg];exact(Yi HB.out):w.heap.size≤Xp);have GE186:=Ya (by rw[hg];exact(Yi HB.out):w.heap.size≤Xp);replace HB:=Ya (Yk HB.out hb);clear hb Zg hg;have Wi:w7.cell? ⟨Xp,0,none⟩=some (.int .i64 Zb):=bc Zm 0;have Wj:w7.cell? ⟨Xp,1,none⟩=some (.bool Zc):=bc Zm 1;have Wk:w7.cell? ⟨Xp,2,none⟩=some (.slice Zf Za.length Ze):=bc Zm 2;have Wl:=Yf Zm.out 0;have Wm:=Yf Zm.out 1;have Wn:=Yf Zm.out 2)|((with_reducible refine gate_callee (f:=62) rfl ?_);refine gl (some 8) Try.func62 #[.int .i64 Zb] ?_;(with_reducible refine(ebbtideref05_nodes.calls Zb t187 _ A2.out).mono ?_);rintro e w' ⟨rfl,⟨nd,rfl⟩⟩;refine⟨_,rfl,?_⟩));go_loopg [4] k (fun kq v4 w'=> ∃ (Xn:Int),v4= .int .i64 Xn∧Aside0 (ebbtideref05_Check.l0 kq Xn Zb Zc Za=some r)∧Aside0 (kq≤k)∧Aside0 (w'.heap[Xp]? =some (.cells #[.int .i64 Zb, .bool Zc,(.slice Zf Za.length Ze)] 24 (0,0)))∧Aside0 (Below w.heap.size w w'))
 case atStart=>exact⟨(0),(by first|rfl|(simp;done)|(simp[*];done)),H',⟨Nat.le_refl _⟩,⟨bk Zm⟩,⟨bl⟩⟩
 case round=>
  clear H';try clear c3
  try clear c3b0
  try clear c3b1
  try clear c4
  try clear c4b0
  try clear c4b1
  try clear hcz6_0
  try clear hcz6_1
  try clear hcz6_2
  try clear Wi
  try clear Wj
  try clear Wk
  try clear hfz6_0
  try clear hfz6_1
  try clear hfz6_2
  try clear Wl
  try clear Wm
  try clear Wn
  obtain⟨Xn,rfl,HA,HK1,Zm,HB⟩:=hrel;cases gk with
  |zero=>exact absurd HA.out (by simp[ebbtideref05_Check.l0])
  |succ k1=>
   have H:=HA.out;clear HA;simp only[ebbtideref05_Check.l0] at H;by_cases c9:Xn<(Za.length:Int)
   rotate_left
   ·rw[Yv c9] at H
    have c9b0:decide (Xn<(Za.length:Int))=false:=Yt c9;clear c9;obtain rfl:=Option.some.inj H;have hcz19_0:wr.cell? ⟨Xp,0,none⟩=some (.int .i64 Zb):=bc Zm 0;have hcz19_1:wr.cell? ⟨Xp,1,none⟩=some (.bool Zc):=bc Zm 1;have hcz19_2:wr.cell? ⟨Xp,2,none⟩=some (.slice Zf Za.length Ze):=bc Zm 2;have hfz19_0:=Yf Zm.out 0;have hfz19_1:=Yf Zm.out 1;have hfz19_2:=Yf Zm.out 2;go_wp2;go_ret;exact⟨by first|rfl|(simp[errW_none,errW_some]<;>rfl)|(simp[*,errW_none,errW_some]<;>rfl),HB.out⟩
   rw[Yu c9] at H;have c9b0:decide (Xn<(Za.length:Int))=true:=Ys c9;clear c9;by_cases c10:0≤Xn
   rotate_left
   ·rw[Yv c10] at H
    exact absurd H (by simp)
   rw[Yu c10] at H;have c10b0:decide (0≤Xn)=true:=Ys c10;clear c10;replace H:=Option.bind_eq_some_iff.mp H;obtain⟨t189,A110,H⟩:=H;try dsimp only at H
   have A11:=Ya A110;clear A110;by_cases c12:t189=0
   rotate_left
   ·rw[Yv c12] at H
    have c12b0:(t189 == 0)=false:=beq_eq_false_iff_ne.mpr c12;have c12b1:(t189 != 0)=true:=bne_iff_ne.mpr c12;obtain rfl:=Option.some.inj H;have Uv:wr.cell? ⟨Xp,0,none⟩=some (.int .i64 Zb):=bc Zm 0;have Uw:wr.cell? ⟨Xp,1,none⟩=some (.bool Zc):=bc Zm 1;have hcz16_2:wr.cell? ⟨Xp,2,none⟩=some (.slice Zf Za.length Ze):=bc Zm 2;have Ux:=Yf Zm.out 0;have Uy:=Yf Zm.out 1;have hfz16_2:=Yf Zm.out 2;try go_wp2
    replace Zm:=Ya (Ym Zm.out);replace HB:=Ya (Yg HB.out);have p188:0≤(Xn:Int):=od;have q188:Xn<(Za.length:Int):=od;obtain⟨Wv,e188,Vg,Vh,Vi,Vj⟩:=at_T50 Zo.out Xn p188 q188;have Ue:=Vj;have Uf:=Vi;have Ug:=Vh;have Uh:=Vg;cases e188;replace Vg:=hc HB Vg;replace Vh:=hc HB Vh;replace Vi:=hc HB Vi;replace Vj:=hc HB Vj;replace p188:=eq_true p188;replace q188:=eq_true q188;refine start_ (n:=9) (S:=fun w'=>w'.cell? ⟨Xp,0,none⟩=some (.int .i64 Zb)∧w'.cell? ⟨Xp,1,none⟩=some (.bool Zc)∧w'.cell? ⟨Xp,2,none⟩=some (.slice (some Wv) Za.length Ze)∧w'.cell? (Wv.add ((Xn).toNat * 4))=some (.int .i64 ((rd_T50 Za Xn).f0))∧w'.cell? ⟨(Wv.add ((Xn).toNat * 4)).block,(Wv.add ((Xn).toNat * 4)).off+1,none⟩=some (.int .i64 ((rd_T50 Za Xn).f1))∧w'.cell? ⟨(Wv.add ((Xn).toNat * 4)).block,(Wv.add ((Xn).toNat * 4)).off+2,none⟩=some (.int .i64 ((rd_T50 Za Xn).f2))∧w'.cell? ⟨(Wv.add ((Xn).toNat * 4)).block,(Wv.add ((Xn).toNat * 4)).off+3,none⟩=some (.int .i64 ((rd_T50 Za Xn).f3))) (ds:=[]) #[false,false,false,false,false,false,false,false,false] (by kernel_rfl) rfl rfl ⟨(Yc Zm.out 0).trans rfl,(Yc Zm.out 1).trans rfl,(Yc Zm.out 2).trans rfl,((HB.out.cell (Yb w _ Uh)).trans Uh),((HB.out.cell (Yb w _ Ug)).trans Ug),((HB.out.cell (Yb w _ Uf)).trans Uf),((HB.out.cell (Yb w _ Ue)).trans Ue)⟩ (fun hHeld=> ?_);refine with_tabW ebbtideref05_Check.tab9 ebbtideref05_Check.bits9 (fun HT_ HW_=> ?_);generalize wr.drew=w17 at Zm HB Vg Vh Vi Vj hHeld ⊢;refine pu 0 23 (bm 9 1) ?_;refine pu 2 25 (bm 9 5) ?_;refine pu 4 27 (bm 9 21) ?_;refine ta 1 24 (bm 9 23) hHeld ?_;refine ta 3 26 (bm 9 31) hHeld ?_;refine pu 5 28 (bm 9 63) ?_;refine ta 6 29 (bm 9 127) hHeld ?_;refine on 7 (some 30) (bm 9 255) fun K hK=> ?_
    refine gs Try.func63 #[.int .i64 Zb, .agg #[.int .i64 ((rd_T50 Za Xn).f0), .int .i64 ((rd_T50 Za Xn).f1), .int .i64 ((rd_T50 Za Xn).f2), .int .i64 ((rd_T50 Za Xn).f3)]] ?_
    with_reducible refine(ebbtideref05_Arc.calls k1 Zb ((rd_T50 Za Xn).f0) ((rd_T50 Za Xn).f1) ((rd_T50 Za Xn).f2) ((rd_T50 Za Xn).f3) t189 _ A11.out).mono ?_
    rintro e w18 ⟨rfl,hb⟩;refine⟨_,rfl,?_⟩;replace Zm:=Ya (Yn Zm.out hb);replace HB:=Ya (Yk HB.out hb)
    (try clear hb)
    (try clear hb2)
    (try clear hk)
    (try clear hi)
    refine hK.out _ _ ⟨bc Zm 0,bc Zm 1,bc Zm 2,(hc HB Uh),(hc HB Ug),(hc HB Uf),(hc HB Ue)⟩ (fun hHeld=> ?_);clear hK K;refine nm ?_;refine pu 8 5 (bm 9 511) ?_;refine done_ (done_of HT_.out (by kernel_rfl)) ?_;try go_wp2
    go_ret;exact⟨by first|rfl|(simp[errW_none,errW_some]<;>rfl)|(simp[*,errW_none,errW_some]<;>rfl),HB.out⟩
   rw[Yu c12] at H;have c12b0:(t189 == 0)=true:=beq_iff_eq.mpr c12;have c12b1:(t189 != 0)=false:=bne_eq_false_iff_eq.mpr c12;clear c12;have H':=Ya H;clear H;have hcz13_0:wr.cell? ⟨Xp,0,none⟩=some (.int .i64 Zb):=bc Zm 0;have hcz13_1:wr.cell? ⟨Xp,1,none⟩=some (.bool Zc):=bc Zm 1;have hcz13_2:wr.cell? ⟨Xp,2,none⟩=some (.slice Zf Za.length Ze):=bc Zm 2;have hfz13_0:=Yf Zm.out 0;have hfz13_1:=Yf Zm.out 1;have hfz13_2:=Yf Zm.out 2;try go_wp2
   replace Zm:=Ya (Ym Zm.out);replace HB:=Ya (Yg HB.out);have p188:0≤(Xn:Int):=od;have q188:Xn<(Za.length:Int):=od;obtain⟨Wv,e188,Vg,Vh,Vi,Vj⟩:=at_T50 Zo.out Xn p188 q188;have Ue:=Vj;have Uf:=Vi;have Ug:=Vh;have Uh:=Vg;cases e188;replace Vg:=hc HB Vg;replace Vh:=hc HB Vh;replace Vi:=hc HB Vi;replace Vj:=hc HB Vj;replace p188:=eq_true p188;replace q188:=eq_true q188;refine start_ (n:=9) (S:=fun w'=>w'.cell? ⟨Xp,0,none⟩=some (.int .i64 Zb)∧w'.cell? ⟨Xp,1,none⟩=some (.bool Zc)∧w'.cell? ⟨Xp,2,none⟩=some (.slice (some Wv) Za.length Ze)∧w'.cell? (Wv.add ((Xn).toNat * 4))=some (.int .i64 ((rd_T50 Za Xn).f0))∧w'.cell? ⟨(Wv.add ((Xn).toNat * 4)).block,(Wv.add ((Xn).toNat * 4)).off+1,none⟩=some (.int .i64 ((rd_T50 Za Xn).f1))∧w'.cell? ⟨(Wv.add ((Xn).toNat * 4)).block,(Wv.add ((Xn).toNat * 4)).off+2,none⟩=some (.int .i64 ((rd_T50 Za Xn).f2))∧w'.cell? ⟨(Wv.add ((Xn).toNat * 4)).block,(Wv.add ((Xn).toNat * 4)).off+3,none⟩=some (.int .i64 ((rd_T50 Za Xn).f3))) (ds:=[]) #[false,false,false,false,false,false,false,false,false] (by kernel_rfl) rfl rfl ⟨(Yc Zm.out 0).trans rfl,(Yc Zm.out 1).trans rfl,(Yc Zm.out 2).trans rfl,((HB.out.cell (Yb w _ Uh)).trans Uh),((HB.out.cell (Yb w _ Ug)).trans Ug),((HB.out.cell (Yb w _ Uf)).trans Uf),((HB.out.cell (Yb w _ Ue)).trans Ue)⟩ (fun hHeld=> ?_);refine with_tabW ebbtideref05_Check.tab9 ebbtideref05_Check.bits9 (fun HT_ HW_=> ?_);generalize wr.drew=w14 at Zm HB Vg Vh Vi Vj hHeld ⊢;refine pu 0 23 (bm 9 1) ?_;refine pu 2 25 (bm 9 5) ?_;refine pu 4 27 (bm 9 21) ?_;refine ta 1 24 (bm 9 23) hHeld ?_;refine ta 3 26 (bm 9 31) hHeld ?_;refine pu 5 28 (bm 9 63) ?_;refine ta 6 29 (bm 9 127) hHeld ?_;refine on 7 (some 30) (bm 9 255) fun K hK=> ?_
   refine gs Try.func63 #[.int .i64 Zb, .agg #[.int .i64 ((rd_T50 Za Xn).f0), .int .i64 ((rd_T50 Za Xn).f1), .int .i64 ((rd_T50 Za Xn).f2), .int .i64 ((rd_T50 Za Xn).f3)]] ?_
   with_reducible refine(ebbtideref05_Arc.calls k1 Zb ((rd_T50 Za Xn).f0) ((rd_T50 Za Xn).f1) ((rd_T50 Za Xn).f2) ((rd_T50 Za Xn).f3) t189 _ A11.out).mono ?_
   rintro e w15 ⟨rfl,hb⟩;refine⟨_,rfl,?_⟩;replace Zm:=Ya (Yn Zm.out hb);replace HB:=Ya (Yk HB.out hb)
   (try clear hb)
   (try clear hb2)
   (try clear hk)
   (try clear hi)
   refine hK.out _ _ ⟨bc Zm 0,bc Zm 1,bc Zm 2,(hc HB Uh),(hc HB Ug),(hc HB Uf),(hc HB Ue)⟩ (fun hHeld=> ?_);clear hK K;refine nm ?_;refine pu 8 5 (bm 9 511) ?_;refine done_ (done_of HT_.out (by kernel_rfl)) ?_;try go_wp2
   go_roundg k1
   case measure=>have:=HK1.out;omega
   case rel=>exact⟨(wrap64 (Xn+1)),(by first|rfl|(simp;done)|(simp[*];done)),H',⟨by have:=HK1.out;omega⟩,⟨Zm.out⟩,⟨HB.out⟩⟩
end P
namespace Q
open P
def arcErr (n:Int) (a:S50):Int:=
 if a.f0<0∨a.f1<0∨a.f2<0∨a.f3<0∨n≤a.f0∨n≤a.f1 then 51 else if 1048576<a.f2∨1048576<a.f3 then 2 else 0
def arcsErr (n:Int):List S50→Int
 |[]=>0
 |a::l=>if arcErr n a=0 then arcsErr n l else arcErr n a
def netErr (n:Int) (l:List S50):Int:=if n<1 then 51 else if n>50 then 2 else if (l.length:Int)>200 then 2 else arcsErr n l
structure ArcOk (n:Int) (a:S50):Prop where
 f0:0≤a.f0
 f1:0≤a.f1
 f2:0≤a.f2
 f3:0≤a.f3
 h0:a.f0<n
 h1:a.f1<n
 h2:a.f2≤1048576
 h3:a.f3≤1048576
structure NetOk (n:Int) (l:List S50):Prop where
 lo:1≤n
 hi:n≤50
 len:l.length≤200
 arcs: ∀ a∈l,ArcOk n a
theorem arcErr_ok {n:Int} {a:S50} (h:arcErr n a=0):ArcOk n a:=by
 unfold arcErr at h;split at h
 ·omega
 ·split at h
  ·omega
  ·constructor<;>omega
theorem arcsErr_ok {n:Int} : ∀ {l:List S50},arcsErr n l=0→ ∀ a∈l,ArcOk n a
 |[],_,a,ha=>by cases ha
 |b::l,h,a,ha=>by
  unfold arcsErr at h;split at h
  ·rename_i hb
   rcases List.mem_cons.1 ha with rfl|ha
   ·exact arcErr_ok hb
   ·exact arcsErr_ok h a ha
  ·exact absurd h (by assumption)
theorem netErr_ok {n:Int} {l:List S50} (h:netErr n l=0):NetOk n l:=by
 unfold netErr at h;split at h
 ·omega
 ·split at h
  ·omega
  ·split at h
   ·omega
   ·exact⟨by omega,by omega,by omega,arcsErr_ok h⟩
theorem NetOk.at_ {n:Int} {l:List S50} (h:NetOk n l) {i:Int} (h0:0≤i) (h1:i<l.length):ArcOk n (rd_T50 l i):=h.arcs _ (getD_mem (by omega))
theorem nodes_eq (n:Int):netfmt_nodes.f n=some (if n<1 then 51 else if n>50 then 2 else 0):=by
 unfold netfmt_nodes.f;split
 ·rfl
 ·split<;>rfl
theorem arc_ev (n:Int) (a:S50):Ev (fun k=>netfmt_arc.f k n a.f0 a.f1 a.f2 a.f3) (arcErr n a):=by
 unfold netfmt_arc.f arcErr;refine Ev.ite (fun h=> ?_) (fun h=> ?_)
 ·refine Ev.succ ?_;simp only[netfmt_arc.j0]
  repeat(first|exact Ev.now _|with_reducible refine Ev.pos (by first|assumption|omega) ?_|with_reducible refine Ev.neg (by first|assumption|omega) ?_|with_reducible refine Ev.let_ ?_)
  exact Ev.done (by unfold mn at h;rw[Yu (by omega)])
 ·refine Ev.succ ?_;simp only[netfmt_arc.j0]
  unfold mn at h;unfold mx;refine Ev.ite (fun g=> ?_) (fun g=> ?_)
  ·have g:=Yr g
   exact Ev.done (by rw[Yu (by omega)])
  ·have g:=of_decide_eq_false (Bool.eq_false_iff.2 g)
   refine Ev.ite (fun g1=> ?_) (fun g1=> ?_)
   ·exact Ev.done (by rw[Yv (by omega),Yu (by omega)])
   ·refine Ev.ite (fun g2=> ?_) (fun g2=> ?_)
    ·exact Ev.done (by rw[Yv (by omega),Yu (by omega)])
    ·exact Ev.done (by rw[Yv (by omega),Yv (by omega)])
theorem check_l0 (l:List S50) (n:Int) (b:Bool) (hl:l.length≤9223372036854775807) (d:Nat): ∀ i:Nat,i+d=l.length→
  Ev (fun k=>netfmt_Check.l0 k l (l.length:Int) (i:Int) n b l) (arcsErr n (l.drop i)):=by
 induction d with
 |zero=>
  intro i hi;refine Ev.succ ?_;simp only[netfmt_Check.l0];repeat(first|exact Ev.now _|with_reducible refine Ev.pos (by first|assumption|omega) ?_|with_reducible refine Ev.neg (by first|assumption|omega) ?_|with_reducible refine Ev.let_ ?_)
  rw[List.drop_of_length_le (by omega)];exact Ev.now _
 |succ d ih=>
  intro i hi;refine Ev.succ ?_;simp only[netfmt_Check.l0];repeat(first|exact Ev.now _|with_reducible refine Ev.pos (by first|assumption|omega) ?_|with_reducible refine Ev.neg (by first|assumption|omega) ?_|with_reducible refine Ev.let_ ?_)
  refine Ev.bind (arc_ev n (rd_T50 l i)) ?_;rw[drop_getD l i z50 (by omega)];have hr:rd_T50 l (i:Int)=l.getD i z50:=by unfold rd_T50;rw[Int.toNat_natCast]
  rw[hr];unfold arcsErr;refine Ev.ite (fun h=> ?_) (fun h=> ?_)
  ·rw[Yu h,wrap_succ (n:=l.length) (by omega) hl]
   exact ih (i+1) (by omega)
  ·rw[Yv h]
   exact Ev.now _
theorem check_ev (n:Int) (b:Bool) (l:List S50):Ev (fun k=>netfmt_Check.f k n b l) (netErr n l):=by
 unfold netfmt_Check.f netErr;refine Ev.call (nodes_eq n) ?_;by_cases h:n<1
 ·rw[Yu h,Yu h]
  repeat(first|exact Ev.now _|with_reducible refine Ev.pos (by first|assumption|omega) ?_|with_reducible refine Ev.neg (by first|assumption|omega) ?_|with_reducible refine Ev.let_ ?_)
 ·rw[Yv h,Yv h]
  by_cases h2:n>50
  ·rw[Yu h2,Yu h2]
   repeat(first|exact Ev.now _|with_reducible refine Ev.pos (by first|assumption|omega) ?_|with_reducible refine Ev.neg (by first|assumption|omega) ?_|with_reducible refine Ev.let_ ?_)
  ·rw[Yv h2,Yv h2]
   repeat(first|exact Ev.now _|with_reducible refine Ev.pos (by first|assumption|omega) ?_|with_reducible refine Ev.neg (by first|assumption|omega) ?_|with_reducible refine Ev.let_ ?_)
   refine Ev.ite (fun g=> ?_) (fun g=> ?_)
   ·rw[Yu g]
    exact Ev.now _
   ·rw[Yv g]
    exact check_l0 l n b (by omega) l.length 0 (by omega)
theorem ref_nodes_eq (n:Int):ebbtideref05_nodes.f n=some (if n<1 then 51 else if n>50 then 2 else 0):=by
 unfold ebbtideref05_nodes.f;split
 ·rfl
 ·split<;>rfl
theorem ref_arc_j0 (x:Bool) (n:Int) (a:S50) (hx:x=true↔a.f0<0∨a.f1<0∨a.f2<0∨a.f3<0∨n≤a.f0∨n≤a.f1):Ev (fun k=>ebbtideref05_Arc.j0 k x a.f0 a.f1 a.f2 a.f3) (arcErr n a):=by
 unfold arcErr;refine Ev.succ ?_;simp only[ebbtideref05_Arc.j0];refine Ev.ite (fun g=> ?_) (fun g=> ?_)
 ·exact Ev.done (by rw[Yu (hx.1 g)])
 ·have g':=fun h=>g (hx.2 h)
  refine Ev.ite (fun g1=> ?_) (fun g1=> ?_)
  ·exact Ev.done (by rw[Yv g',Yu (by omega)])
  ·refine Ev.ite (fun g2=> ?_) (fun g2=> ?_)
   ·exact Ev.done (by rw[Yv g',Yu (by omega)])
   ·exact Ev.done (by rw[Yv g',Yv (by omega)])
theorem ref_arc_ev (n:Int) (a:S50):Ev (fun k=>ebbtideref05_Arc.f k n a.f0 a.f1 a.f2 a.f3) (arcErr n a):=by
 unfold ebbtideref05_Arc.f;refine Ev.ite (fun h=> ?_) (fun h=> ?_)
 ·exact ref_arc_j0 _ _ _ ⟨fun _=>by omega,fun _=>rfl⟩
 refine Ev.ite (fun h=> ?_) (fun h=> ?_)
 ·exact ref_arc_j0 _ _ _ ⟨fun _=>by omega,fun _=>rfl⟩
 refine Ev.ite (fun h=> ?_) (fun h=> ?_)
 ·exact ref_arc_j0 _ _ _ ⟨fun _=>by omega,fun _=>rfl⟩
 refine Ev.ite (fun h=> ?_) (fun h=> ?_)
 ·exact ref_arc_j0 _ _ _ ⟨fun _=>by omega,fun _=>rfl⟩
 refine Ev.ite (fun h=> ?_) (fun h=> ?_)
 ·exact ref_arc_j0 _ _ _ ⟨fun _=>by omega,fun _=>rfl⟩
 ·exact ref_arc_j0 _ _ _ ⟨fun g=>by have:=Yr g;omega,fun g=>Ys (by omega)⟩
theorem ref_check_l0 (l:List S50) (n:Int) (b:Bool) (hl:l.length≤9223372036854775807) (d:Nat): ∀ i:Nat,i+d=l.length→
  Ev (fun k=>ebbtideref05_Check.l0 k (i:Int) n b l) (arcsErr n (l.drop i)):=by
 induction d with
 |zero=>
  intro i hi;refine Ev.succ ?_;simp only[ebbtideref05_Check.l0];repeat(first|exact Ev.now _|with_reducible refine Ev.pos (by first|assumption|omega) ?_|with_reducible refine Ev.neg (by first|assumption|omega) ?_|with_reducible refine Ev.let_ ?_)
  rw[List.drop_of_length_le (by omega)];exact Ev.now _
 |succ d ih=>
  intro i hi;refine Ev.succ ?_;simp only[ebbtideref05_Check.l0];repeat(first|exact Ev.now _|with_reducible refine Ev.pos (by first|assumption|omega) ?_|with_reducible refine Ev.neg (by first|assumption|omega) ?_|with_reducible refine Ev.let_ ?_)
  refine Ev.bind (ref_arc_ev n (rd_T50 l i)) ?_;rw[drop_getD l i z50 (by omega)];have hr:rd_T50 l (i:Int)=l.getD i z50:=by unfold rd_T50;rw[Int.toNat_natCast]
  rw[hr];unfold arcsErr;refine Ev.ite (fun h=> ?_) (fun h=> ?_)
  ·rw[Yu h,wrap_succ (n:=l.length) (by omega) hl]
   exact ih (i+1) (by omega)
  ·rw[Yv h]
   exact Ev.now _
theorem ref_check_ev (n:Int) (b:Bool) (l:List S50):Ev (fun k=>ebbtideref05_Check.f k n b l) (netErr n l):=by
 unfold ebbtideref05_Check.f netErr;refine Ev.call (ref_nodes_eq n) ?_;by_cases h:n<1
 ·rw[Yu h,Yu h]
  repeat(first|exact Ev.now _|with_reducible refine Ev.pos (by first|assumption|omega) ?_|with_reducible refine Ev.neg (by first|assumption|omega) ?_|with_reducible refine Ev.let_ ?_)
 ·rw[Yv h,Yv h]
  by_cases h2:n>50
  ·rw[Yu h2,Yu h2]
   repeat(first|exact Ev.now _|with_reducible refine Ev.pos (by first|assumption|omega) ?_|with_reducible refine Ev.neg (by first|assumption|omega) ?_|with_reducible refine Ev.let_ ?_)
  ·rw[Yv h2,Yv h2]
   repeat(first|exact Ev.now _|with_reducible refine Ev.pos (by first|assumption|omega) ?_|with_reducible refine Ev.neg (by first|assumption|omega) ?_|with_reducible refine Ev.let_ ?_)
   refine Ev.ite (fun g=> ?_) (fun g=> ?_)
   ·rw[Yu g]
    exact Ev.now _
   ·rw[Yv g]
    exact ref_check_l0 l n b (by omega) l.length 0 (by omega)
end Q
namespace P
attribute [local go_sem] max2_int min2_int max_two min_two max_three min_three max_four min_four
def ebbtideref03_SameInts.l0:Nat→List Int→List Int→Int→Option (Bool)
 |0,_,_,_=>none
 |k+1,x0,x1,x5=>if x5<(x0.length:Int) then(if 0≤x5 then(if x5<(x1.length:Int) then(if (rd x0 x5)=(rd x1 x5) then(ebbtideref03_SameInts.l0 k x0 x1 (wrap64 (x5+1))) else(some false)) else(none)) else(none)) else(some true)
def ebbtideref03_SameInts.f (k:Nat) (l0:List Int) (l1:List Int):Option (Bool):=if (l0.length:Int)=(l1.length:Int) then(ebbtideref03_SameInts.l0 k l0 l1 0) else(some false)
theorem ebbtideref03_SameInts.mono_l: ∀ k,(∀ y0 y1 y2,LeO (ebbtideref03_SameInts.l0 k y0 y1 y2) (ebbtideref03_SameInts.l0 (k+1) y0 y1 y2))
 |0=>fun _ _ _ r h=>by simp[ebbtideref03_SameInts.l0] at h
 |k+1=>by
  have ih0:=ebbtideref03_SameInts.mono_l k
  ·intro y0 y1 y2
   unfold ebbtideref03_SameInts.l0;repeat' first
   |(with_reducible exact ih0 _ _ _)
   |(with_reducible exact LeO.refl _)
   |(with_reducible exact LeO.none _)
   |(with_reducible refine LeO.ite ?_ ?_)
   |(with_reducible refine LeO.bind ?_ (fun _=> ?_))
   |refine LeO.ite ?_ ?_
   |refine LeO.bind ?_ (fun _=> ?_)
theorem ebbtideref03_SameInts.mono: ∀ a0 a1 k,LeO (ebbtideref03_SameInts.f k a0 a1) (ebbtideref03_SameInts.f (k+1) a0 a1):=by
 intro a0 a1 k;have ih0:=ebbtideref03_SameInts.mono_l k;unfold ebbtideref03_SameInts.f;repeat' first
   |(with_reducible exact ih0 _ _ _)
   |(with_reducible exact LeO.refl _)
   |(with_reducible exact LeO.none _)
   |(with_reducible refine LeO.ite ?_ ?_)
   |(with_reducible refine LeO.bind ?_ (fun _=> ?_))
   |refine LeO.ite ?_ ?_
   |refine LeO.bind ?_ (fun _=> ?_)
set_option maxHeartbeats 8000000 in
set_option maxRecDepth 100000 in
theorem ebbtideref03_SameInts.calls (k:Nat) (A0:Option Addr) (c0:Nat) (l0:List Int) (A1:Option Addr) (c1:Nat) (l1:List Int) (r:Bool) (w:World) (hr0:Kd.C (Kd.int .i64) w A0 l0.length l0) (hc0:l0.length≤c0) (hr1:Kd.C (Kd.int .i64) w A1 l1.length l1) (hc1:l1.length≤c1) (h:ebbtideref03_SameInts.f k l0 l1=some r):
  Calls Try.prog 22 #[.slice A0 l0.length c0, .slice A1 l1.length c1] w fun e w'=>e= .returned (.bool r)∧Drawn0 w w':=by
 have HR0:=Ya hr0;have HC0:=Ya hc0;clear hr0 hc0;have HR1:=Ya hr1;have HC1:=Ya hc1;clear hr1 hc1;have H:=h;unfold ebbtideref03_SameInts.f at H;clear h;by_cases c3:(l0.length:Int)=(l1.length:Int)
 rotate_left
 ·rw[Yv c3] at H
  have c3b0:((l0.length:Int) == (l1.length:Int))=false:=beq_eq_false_iff_ne.mpr c3;have c3b1:((l0.length:Int) != (l1.length:Int))=true:=bne_iff_ne.mpr c3;have c3b2:(l0.length == l1.length)=false:=by first|simpa using c3|(simp at c3 ⊢;omega)
  obtain rfl:=Option.some.inj H;go_enter Try.func22,Try.ntmps22;go_wp2;repeat(go_quiet (fail);try go_wp2)
  go_ret;exact⟨by first|rfl|(simp;done)|(simp[*];done),by repeat(first|exact Drawn0.refl _|apply Drawn0.step)⟩
 rw[Yu c3] at H;have c3b0:((l0.length:Int) == (l1.length:Int))=true:=beq_iff_eq.mpr c3;have c3b1:((l0.length:Int) != (l1.length:Int))=false:=bne_eq_false_iff_eq.mpr c3;have c3b2:(l0.length == l1.length)=true:=by first|simpa using c3|(simp at c3 ⊢;omega)
 clear c3;have H':=Ya H;clear H;go_enter Try.func22,Try.ntmps22;go_wp2;repeat(go_quiet (fail);try go_wp2)
 go_loopg [5] k (fun kq v5 w'=> ∃ (Zj:Int),v5= .int .i64 Zj∧Aside0 (ebbtideref03_SameInts.l0 kq l0 l1 Zj=some r)∧Aside0 (kq≤k)∧Drawn0 w w')
 case atStart=>exact⟨(0),(by first|rfl|(simp;done)|(simp[*];done)),H',⟨Nat.le_refl _⟩,by repeat(first|exact Drawn0.refl _|apply Drawn0.step)⟩
 case round=>
  clear H';try clear c1
  try clear c3
  try clear c3b0
  try clear c3b1
  try clear c3b2
  obtain⟨Zj,rfl,HA,HK1,⟨m1,rfl⟩⟩:=hrel;cases gk with
  |zero=>exact absurd HA.out (by simp[ebbtideref03_SameInts.l0])
  |succ k1=>
   have H:=HA.out;clear HA;simp only[ebbtideref03_SameInts.l0] at H;by_cases c4:Zj<(l0.length:Int)
   rotate_left
   ·rw[Yv c4] at H
    have c4b0:decide (Zj<(l0.length:Int))=false:=Yt c4;clear c4;obtain rfl:=Option.some.inj H;go_wp2;repeat(go_quiet (fail);try go_wp2)
    go_ret;exact⟨by first|rfl|(simp;done)|(simp[*];done),by repeat(first|exact Drawn0.refl _|apply Drawn0.step)⟩
   rw[Yu c4] at H;have c4b0:decide (Zj<(l0.length:Int))=true:=Ys c4;clear c4;by_cases c5:0≤Zj
   rotate_left
   ·rw[Yv c5] at H
    exact absurd H (by simp)
   rw[Yu c5] at H;have c5b0:decide (0≤Zj)=true:=Ys c5;clear c5;by_cases c6:Zj<(l1.length:Int)
   rotate_left
   ·rw[Yv c6] at H
    exact absurd H (by simp)
   rw[Yu c6] at H;have c6b0:decide (Zj<(l1.length:Int))=true:=Ys c6;clear c6;by_cases c7:(rd l0 Zj)=(rd l1 Zj)
   rotate_left
   ·rw[Yv c7] at H
    have c7b0:((rd l0 Zj) == (rd l1 Zj))=false:=beq_eq_false_iff_ne.mpr c7;have c7b1:((rd l0 Zj) != (rd l1 Zj))=true:=bne_iff_ne.mpr c7;obtain rfl:=Option.some.inj H;have p493:0≤(Zj:Int):=od;have q493:Zj<(l0.length:Int):=od;obtain⟨ad493,e493,hx493_0⟩:=Kd.at_int HR0.out Zj p493 q493;cases e493;replace p493:=eq_true p493;replace q493:=eq_true q493;have p494:0≤(Zj:Int):=od;have q494:Zj<(l1.length:Int):=od;obtain⟨ad494,e494,hx494_0⟩:=Kd.at_int HR1.out Zj p494 q494;cases e494;replace p494:=eq_true p494;replace q494:=eq_true q494;go_wp2;repeat(go_quiet (fail);try go_wp2)
    go_ret;exact⟨by first|rfl|(simp;done)|(simp[*];done),by repeat(first|exact Drawn0.refl _|apply Drawn0.step)⟩
   rw[Yu c7] at H;have c7b0:((rd l0 Zj) == (rd l1 Zj))=true:=beq_iff_eq.mpr c7;have c7b1:((rd l0 Zj) != (rd l1 Zj))=false:=bne_eq_false_iff_eq.mpr c7;clear c7;have H':=Ya H;clear H;have p493:0≤(Zj:Int):=od;have q493:Zj<(l0.length:Int):=od;obtain⟨ad493,e493,hx493_0⟩:=Kd.at_int HR0.out Zj p493 q493;cases e493;replace p493:=eq_true p493;replace q493:=eq_true q493;have p494:0≤(Zj:Int):=od;have q494:Zj<(l1.length:Int):=od;obtain⟨ad494,e494,hx494_0⟩:=Kd.at_int HR1.out Zj p494 q494;cases e494;replace p494:=eq_true p494;replace q494:=eq_true q494;go_wp2;repeat(go_quiet (fail);try go_wp2)
   go_roundg k1
   case measure=>have:=HK1.out;omega
   case rel=>exact⟨(wrap64 (Zj+1)),(by first|rfl|(simp;done)|(simp[*];done)),H',⟨by have:=HK1.out;omega⟩,by repeat(first|exact Drawn0.refl _|apply Drawn0.step)⟩
end P
namespace Q
open P
def flowB:List S50→List Int→Bool
 |[],[]=>true
 |a::l,x::f=>if x<0 then false else if x>a.f2 then false else flowB l f
 |_,_=>false
def askErr (n:Int) (l:List S50) (f:List Int):Int:=if netErr n l=0 then(if flowB l f=true then 0 else 71) else netErr n l
structure FlowOk (l:List S50) (f:List Int):Prop where
 len:f.length=l.length
 at_: ∀ i:Nat,i<f.length→0≤rd f i∧rd f i≤(rd_T50 l i).f2
theorem rdArc_nat (l:List S50) (i:Nat):rd_T50 l (i:Int)=l.getD i z50:=by unfold rd_T50;rw[Int.toNat_natCast]
theorem flowB_len: ∀ {l:List S50} {f:List Int},flowB l f=true→f.length=l.length
 |[],[],_=>rfl
 |[],_::_,h=>by simp[flowB] at h
 |_::_,[],h=>by simp[flowB] at h
 |a::l,x::f,h=>by
  unfold flowB at h;split at h
  ·cases h
  ·split at h
   ·cases h
   ·simp[flowB_len h]
theorem flowB_ok: ∀ {l:List S50} {f:List Int},flowB l f=true→ ∀ i:Nat,i<f.length→0≤f.getD i 0∧f.getD i 0≤(l.getD i z50).f2
 |[],[],_,i,hi=>by simp at hi
 |[],_::_,h,_,_=>by simp[flowB] at h
 |_::_,[],h,_,_=>by simp[flowB] at h
 |a::l,x::f,h,i,hi=>by
  unfold flowB at h;split at h
  ·cases h
  ·split at h
   ·cases h
   ·cases i with
    |zero=>simp;omega
    |succ i=>simpa using flowB_ok h i (by simpa using hi)
theorem flow_ok {l:List S50} {f:List Int} (h:flowB l f=true):FlowOk l f:=
 ⟨flowB_len h,fun i hi=>by rw[rd_nat,rdArc_nat];exact flowB_ok h i hi⟩
theorem FlowOk.int {l:List S50} {f:List Int} (h:FlowOk l f) {i:Int} (h0:0≤i) (h1:i<f.length):0≤rd f i∧rd f i≤(rd_T50 l i).f2:=by
 obtain⟨j,rfl⟩:=Int.eq_ofNat_of_zero_le h0;exact h.at_ j (by omega)
theorem FlowOk.small {n:Int} {l:List S50} {f:List Int} (h:FlowOk l f) (hn:NetOk n l) {i:Int} (h0:0≤i) (h1:i<f.length):0≤rd f i∧rd f i≤1048576:=by
 have h2:=h.int h0 h1;have h3:=(hn.at_ h0 (by rw[← h.len];exact h1)).h2;omega
theorem askErr_ok {n:Int} {l:List S50} {f:List Int} (h:askErr n l f=0):NetOk n l∧FlowOk l f:=by
 unfold askErr at h;split at h
 ·split at h
  ·exact⟨netErr_ok (by assumption),flow_ok (by assumption)⟩
  ·omega
 ·exact absurd h (by assumption)
theorem asked_l0 (l:List S50) (f:List Int) (n:Int) (b:Bool) (hl:l.length≤200) (hf:f.length=l.length) (d:Nat): ∀ i:Nat,i+d=l.length→
  Ev (fun k=>static_Asked.l0 k f (f.length:Int) (i:Int) n b l) (if flowB (l.drop i) (f.drop i)=true then 0 else 71):=by
 induction d with
 |zero=>
  intro i hi;refine Ev.succ ?_;simp only[static_Asked.l0];repeat(first|exact Ev.now _|with_reducible refine Ev.pos (by first|assumption|omega) ?_|with_reducible refine Ev.neg (by first|assumption|omega) ?_|with_reducible refine Ev.let_ ?_)
  rw[List.drop_of_length_le (by omega),List.drop_of_length_le (by omega)];exact Ev.now _
 |succ d ih=>
  intro i hi;refine Ev.succ ?_;simp only[static_Asked.l0];repeat(first|exact Ev.now _|with_reducible refine Ev.pos (by first|assumption|omega) ?_|with_reducible refine Ev.neg (by first|assumption|omega) ?_|with_reducible refine Ev.let_ ?_)
  rw[drop_getD l i z50 (by omega),drop_getD f i 0 (by omega),rdArc_nat,rd_nat];unfold flowB;refine Ev.ite (fun h=> ?_) (fun h=> ?_)
  ·rw[Yu h]
   exact Ev.now _
  ·rw[Yv h]
   repeat(first|exact Ev.now _|with_reducible refine Ev.pos (by first|assumption|omega) ?_|with_reducible refine Ev.neg (by first|assumption|omega) ?_|with_reducible refine Ev.let_ ?_)
   refine Ev.ite (fun g=> ?_) (fun g=> ?_)
   ·rw[Yu g]
    exact Ev.now _
   ·rw[Yv g,wrap_succ (n:=l.length) (by omega) (by omega)]
    exact ih (i+1) (by omega)
theorem flowB_ne {l:List S50} {f:List Int} (h: ¬ ((f.length:Int)=(l.length:Int))): ¬ flowB l f=true:=fun g=>h (by rw[flowB_len g])
theorem asked_ev (n:Int) (b:Bool) (l:List S50) (f:List Int):Ev (fun k=>static_Asked.f k n b l f) (askErr n l f):=by
 unfold static_Asked.f askErr;refine Ev.bind (check_ev n b l) ?_;refine Ev.ite (fun h=> ?_) (fun h=> ?_)
 ·rw[Yu h]
  have hn:=netErr_ok h;refine Ev.ite (fun g=> ?_) (fun g=> ?_)
  ·exact asked_l0 l f n b hn.len (by omega) l.length 0 (by omega)
  ·rw[Yv (flowB_ne g)]
   exact Ev.now _
 ·rw[Yv h]
  exact Ev.now _
end Q
namespace Q
open P
def bal:List S50→List Int→Int→Int
 |a::l,x::f,v=>(if a.f0=v then x else 0) - (if a.f1=v then x else 0)+bal l f v
 |_,_,_=>0
theorem bal_cons (a:S50) (l:List S50) (x:Int) (f:List Int) (v:Int):bal (a::l) (x::f) v=(if a.f0=v then x else 0) - (if a.f1=v then x else 0)+bal l f v:=rfl
def balOf (n:Int) (l:List S50) (f:List Int):List Int:=(List.range n.toNat).map fun v:Nat=>bal l f v
theorem balOf_len (n:Int) (l:List S50) (f:List Int):(balOf n l f).length=n.toNat:=by simp[balOf]
theorem rd_balOf {n:Int} {l:List S50} {f:List Int} {v:Int} (h0:0≤v) (h1:v<n):rd (balOf n l f) v=bal l f v:=by
 obtain⟨j,rfl⟩:=Int.eq_ofNat_of_zero_le h0;have hj:j<n.toNat:=by omega
 rw[rd_nat,balOf,List.getD_eq_getElem?_getD];simp[hj]
def balRes (n:Int) (l:List S50) (f:List Int):List Int × Int:=if askErr n l f=0 then(balOf n l f,0) else([],askErr n l f)
theorem balRes_ok {n:Int} {l:List S50} {f:List Int} (h:askErr n l f=0):balRes n l f=(balOf n l f,0):=by unfold balRes;rw[Yu h]
theorem balRes_no {n:Int} {l:List S50} {f:List Int} (h: ¬ askErr n l f=0):balRes n l f=([],askErr n l f):=by unfold balRes;rw[Yv h]
end Q
namespace H
open P Q
theorem stRoom_in {l:List S50} {F:List Int} {n:Nat} (hr:Right l F n) {s:S79} (hs:StepOf l s):0≤stRoom l F s∧stRoom l F s≤1048576:=by
 obtain⟨i,h1,h2⟩:=hs;have:=hr.nums i h1;unfold stRoom;rw[h2,Int.toNat_natCast];split<;>omega
theorem bal_set (l:List S50) (v:Int): ∀ (f:List Int) (i:Nat) (y:Int),f.length=l.length→i<l.length→
  bal l (f.set i y) v=bal l f v+(if (rd_T50 l i).f0=v then y - f.getD i 0 else 0) - (if (rd_T50 l i).f1=v then y - f.getD i 0 else 0):=by
 induction l with
 |nil=>intro f i y h hi;simp at hi
 |cons a l ih=>
  intro f i y h hi;cases f with
  |nil=>simp at h
  |cons x f=>
   cases i with
   |zero=>
    have e:rd_T50 (a::l) ((0:Nat):Int)=a:=rfl;rw[e];simp only[List.set_cons_zero,List.getD_cons_zero,bal_cons];split<;>split<;>omega
   |succ i=>
    have e:rd_T50 (a::l) ((i+1:Nat):Int)=rd_T50 l (i:Int):=by rw[rdArc_nat,rdArc_nat];rfl
    rw[e];simp only[List.set_cons_succ,List.getD_cons_succ,bal_cons];rw[ih f i y (by simpa using h) (by simpa using hi)];omega
def Trail (l:List S50):Int→List S79→Int→Prop
 |a,[],b=>a=b
 |a,s::L,b=>StepOf l s∧stFrom l s=a∧Trail l (stTo l s) L b
theorem Trail.of {l:List S50} : ∀ {L:List S79} {a b:Int},Trail l a L b→ ∀ s,s∈L→StepOf l s
 |[],_,_,_,s,hs=>by cases hs
 |x::L,_,_,h,s,hs=>(List.mem_cons.1 hs).elim (fun e=>e▸h.1) (h.2.2.of s)
end H
namespace H
open P Q
def outR (R:Int→Bool):List S50→List Int→Int
 |a::l,x::f=>(if R a.f0 then x else 0) - (if R a.f1 then x else 0)+outR R l f
 |_,_=>0
theorem outR_cons (R:Int→Bool) (a:S50) (l:List S50) (x:Int) (f:List Int):outR R (a::l) (x::f)=(if R a.f0 then x else 0) - (if R a.f1 then x else 0)+outR R l f:=rfl
def sumR (R:Int→Bool) (g:Int→Int):Nat→Int
 |0=>0
 |n+1=>sumR R g n+(if R n then g n else 0)
theorem sumR_add (R:Int→Bool) (g h:Int→Int) (n:Nat):sumR R (fun v=>g v+h v) n=sumR R g n+sumR R h n:=by
 induction n with
 |zero=>rfl
 |succ n ih=>unfold sumR;rw[ih];split<;>omega
theorem sumR_one (R:Int→Bool) (a x:Int) (n:Nat) (h0:0≤a) (h1:a<n):sumR R (fun v=>if a=v then x else 0) n=if R a then x else 0:=by
 have aux: ∀ m:Nat,sumR R (fun v=>if a=v then x else 0) m=if a<m then(if R a then x else 0) else 0:=by
  intro m
  induction m with
  |zero=>rw[Yv (by omega)];rfl
  |succ m ih=>
   unfold sumR;rw[ih];show _+(if R m then(if a=(m:Int) then x else 0) else 0)=_;by_cases e:a=(m:Int)
   ·subst e
    rw[Yv (Int.lt_irrefl _),Yu (show (m:Int)<((m+1:Nat):Int) by omega),Yu rfl];omega
   ·have e2:(if R m then(if a=(m:Int) then x else 0) else 0)=0:=by rw[Yv e];split<;>rfl
    rw[e2];by_cases hm:a<(m:Int)
    ·rw[Yu hm,Yu (show a<((m+1:Nat):Int) by omega)]
     omega
    ·rw[Yv hm,Yv (show ¬ a<((m+1:Nat):Int) by omega)]
     omega
 rw[aux,Yu h1]
theorem sumR_zero (R:Int→Bool) (n:Nat):sumR R (fun _=>0) n=0:=by
 induction n with
 |zero=>rfl
 |succ n ih=>unfold sumR;rw[ih];simp
theorem sumR_neg (R:Int→Bool) (g:Int→Int) (n:Nat):sumR R (fun v=> -g v) n= -sumR R g n:=by
 induction n with
 |zero=>rfl
 |succ n ih=>unfold sumR;rw[ih];split<;>omega
theorem sum_bal (R:Int→Bool) (n:Nat): ∀ (l:List S50) (f:List Int),(∀ a,a∈l→(0≤a.f0∧a.f0<n)∧0≤a.f1∧a.f1<n)→f.length=l.length→sumR R (bal l f) n=outR R l f
 |[],[],_,_=>by
  have e:bal ([]:List S50) []=fun _=>0:=rfl
  rw[e,sumR_zero];rfl
 |[],_::_,_,h=>by simp at h
 |_::_,[],_,h=>by simp at h
 |a::l,x::f,h,hl=>by
  obtain⟨⟨h1,h2⟩,h3,h4⟩:=h a List.mem_cons_self;have e:bal (a::l) (x::f)=fun v=>((if a.f0=v then x else 0)+ -(if a.f1=v then x else 0))+bal l f v:=by
   funext v;rw[bal_cons];omega
  rw[e,sumR_add,sumR_add,sumR_one R _ x n h1 h2,sumR_neg,sumR_one R _ x n h3 h4,sum_bal R n l f (fun b hb=>h b (List.mem_cons_of_mem _ hb)) (by simpa using hl),outR_cons];omega
theorem sumR_ends {R:Int→Bool} {g:Int→Int} {s t:Int} (n:Nat) (hs:R s=true) (ht:R t=false) (h0:0≤s) (h1:s<n) (hg: ∀ v:Int,0≤v→v<n→v≠s→v≠t→g v=0):sumR R g n=g s:=by
 have aux: ∀ m:Nat,m≤n→sumR R g m=if s<m then g s else 0:=by
  intro m
  induction m with
  |zero=>intro _;rw[Yv (by omega)];rfl
  |succ m ih=>
   intro hm;unfold sumR;rw[ih (by omega)];show _+(if R m then g m else 0)=_;by_cases e:s=(m:Int)
   ·subst e
    rw[Yv (Int.lt_irrefl _),Yu hs,Yu (show (m:Int)<((m+1:Nat):Int) by omega)];omega
   ·have e2:(if R m then g m else 0)=0:=by
     by_cases e3:t=(m:Int)
     ·rw[← e3,ht];rfl
     ·rw[hg m (by omega) (by omega) (Ne.symm e) (Ne.symm e3)];split<;>rfl
    rw[e2];by_cases h:s<(m:Int)
    ·rw[Yu h,Yu (show s<((m+1:Nat):Int) by omega)];omega
    ·rw[Yv h,Yv (show ¬ s<((m+1:Nat):Int) by omega)];omega
 rw[aux n (Nat.le_refl _),Yu h1]
structure IsFlow (l:List S50) (F:List Int) (n:Nat) (s t:Int):Prop where
 right:Right l F n
 keeps: ∀ v:Int,0≤v→v<n→v≠s→v≠t→bal l F v=0
theorem ends_arcs {l:List S50} {n:Nat} (h:ends l n): ∀ a,a∈l→(0≤a.f0∧a.f0<n)∧0≤a.f1∧a.f1<n:=by
 intro a ha;obtain⟨i,hi,e⟩:=List.getElem_of_mem ha;have h1:=h i hi;unfold eFrom eTo at h1;rw[rdArc_nat,List.getD_eq_getElem?_getD,List.getElem?_eq_getElem hi] at h1;have e2:(some l[i]).getD z50=a:=e;rw[e2] at h1;exact h1
end H
namespace H
open P Q
def esP (l:List S50) (F:List Int) (u:Nat):List S79:=(stL l u l.length).filter fun e=>decide (0<stRoom l F e)
def toP (l:List S50) (e:S79):Nat:=(stTo l e).toNat
def frP (l:List S50) (e:S79):Nat:=(stFrom l e).toNat
def bfP (l:List S50) (F:List Int) (n s:Nat):List (Fd S79):=bfsN (toP l) (esP l F) z79 n s
theorem mem_esP {l:List S50} {F:List Int} {u:Nat} {e:S79} :e∈esP l F u↔e∈stL l u l.length∧0<stRoom l F e:=by
 unfold esP;rw[List.mem_filter,decide_eq_true_eq]
theorem frP_of {l:List S50} {u:Nat} {e:S79} (h:e∈stL l u l.length):frP l e=u:=by
 unfold frP;rw[stL_from h,Int.toNat_natCast]
theorem toP_lt {l:List S50} {F:List Int} {n:Nat} (hr:Right l F n) {s:S79} (hs:StepOf l s):toP l s<n:=by
 have:=stTo_in hr hs;unfold toP;omega
theorem frP_lt {l:List S50} {F:List Int} {n:Nat} (hr:Right l F n) {s:S79} (hs:StepOf l s):frP l s<n:=by
 have:=stFrom_in hr hs;unfold frP;omega
theorem esP_to {l:List S50} {F:List Int} {n:Nat} (hr:Right l F n): ∀ (u:Nat) (e:S79),e∈esP l F u→toP l e<n:=fun u e he=>toP_lt hr (stL_of (mem_esP.1 he).1)
theorem esP_fr {l:List S50} {F:List Int} : ∀ (u:Nat) (e:S79),e∈esP l F u→frP l e=u:=fun u e he=>frP_of (mem_esP.1 he).1
theorem esP_of {l:List S50} {F:List Int} {n:Nat} (hr:Right l F n) {e:S79} (hs:StepOf l e) (h:0<stRoom l F e):e∈esP l F (frP l e):=by
 refine mem_esP.2 ⟨?_,h⟩;have hf:=stFrom_in hr hs;rw[mem_stL];unfold frP;rw[Int.toNat_of_nonneg hf.1];obtain⟨i,h1,h2⟩:=hs;refine⟨i,h1,h2,?_⟩;unfold stFrom;rw[h2];cases e.f1
 ·exact .inl ⟨rfl,rfl⟩
 ·exact .inr ⟨rfl,rfl⟩
theorem bfP_upto {l:List S50} {F:List Int} {n s:Nat} (hr:Right l F n) (hs:s<n):Upto (frP l) (toP l) (esP l F) s (bfP l F n s).length (bfP l F n s):=bfsN_upto (esP_to hr) hs
theorem bfP_head {l:List S50} {F:List Int} {n s:Nat} (hr:Right l F n) (hs:s<n): ∃ x,x∈bfP l F n s∧x.v=s∧x.lv=0:=by
 obtain⟨x,r,h1,h2,h3⟩:=(bfP_upto hr hs).fds.head;exact⟨x,by rw[h1];exact List.mem_cons_self,h2,h3⟩
def netG (l:List S50) (F D:List Int):Net_ S79:=⟨fun v=>stL l v l.length,toP l,frP l,fun v=>D.getD v 0,fun e=>decide (0<stRoom l F e)⟩
theorem leads_trail {l:List S50} {F:List Int} {n:Nat} (hr:Right l F n) {rows:Nat→List S79} (hrows: ∀ u e,e∈rows u→e∈stL l u l.length): ∀ {L:List S79} {s t:Nat},Leads (toP l) rows s L t→Trail l s L t
 |[],s,t,h=>by cases h;rfl
 |x::L,s,t,h=>by
  have hx:=hrows _ _ h.1;refine⟨stL_of hx,stL_from hx,?_⟩;have h1:=stTo_in hr (stL_of hx);have h2:=leads_trail hr hrows h.2;unfold toP at h2;rw[Int.toNat_of_nonneg h1.1] at h2;exact h2
def sideP (l:List S50) (F:List Int) (n s:Nat) (v:Int):Bool:=decide (0≤v∧v.toNat∈nodes (bfP l F n s))
theorem side_closed {l:List S50} {F:List Int} {n s:Nat} (hr:Right l F n) (hs:s<n): ∀ e:S79,StepOf l e→0<stRoom l F e→sideP l F n s (stFrom l e)=true→sideP l F n s (stTo l e)=true:=by
 intro e he hroom h;unfold sideP at h ⊢;rw[decide_eq_true_eq] at h ⊢;obtain⟨x,hx,hxv⟩:=List.mem_map.1 h.2;have h1:=esP_of hr he hroom;have h2:frP l e=x.v:=hxv.symm;rw[h2] at h1;obtain⟨y,hy,h3,_⟩:=bfsN_closed (z:=z79) (esP_to hr) hs hx h1;have h4:=stTo_in hr he;exact⟨h4.1,List.mem_map.2 ⟨y,hy,h3⟩⟩
end H
namespace H
open P Q
theorem sideP_iff {l:List S50} {F:List Int} {n s v:Nat} :sideP l F n s v=true↔v∈nodes (bfP l F n s):=by
 unfold sideP;rw[decide_eq_true_eq,Int.toNat_natCast];exact⟨fun h=>h.2,fun h=>⟨by omega,h⟩⟩
end H
namespace H
open P Q
def wayP (l:List S50) (F:List Int) (n s t:Nat):List S79:=if t∈nodes (bfP l F n s) then wayL (frP l) (bfP l F n s) s t else []
def endsErr (n:Int) (l:List S50) (s t:Int):Int:=if netErr n l=0 then(if 0≤s∧s<n∧0≤t∧t<n∧s≠t then 0 else 70) else netErr n l
end H
namespace H
open P Q
structure Seen (l:List S50) (F:List Int) (n s:Nat) (t:Int) (st:List (Fd S79)):Prop where
 pre: ∃ r,bfP l F n s=st ++ r
 fds:Fds (frP l) (toP l) (esP l F) s st
 hit:st=bfP l F n s∨ ∃ tn:Nat,t=tn∧tn∈nodes st
structure Lp (l:List S50) (F:List Int) (n s:Nat) (t:Int) (st:List (Fd S79)) (i:Nat):Prop where
 upto:Upto (frP l) (toP l) (esP l F) s i st
 rest:bfs (toP l) (esP l F) (n - i) i st=bfP l F n s
 ile:i≤st.length
 nott: ∀ tn:Nat,t=tn→tn ∉ nodes st
structure Li (l:List S50) (F:List Int) (n s:Nat) (t:Int) (x:Fd S79) (X stj:List (Fd S79)) (i j:Nat):Prop where
 fds:Fds (frP l) (toP l) (esP l F) s stj
 mst: ∀ y,y∈stj→y.lv≤x.lv+1
 at_:stj[i]? =some x
 tail:(((stL l x.v l.length).drop j).filter fun e=>decide (0<stRoom l F e)).foldl (vis (toP l) x.lv) stj=X
 nott: ∀ tn:Nat,t=tn→tn ∉ nodes stj
section
variable {l:List S50} {F:List Int} {n s:Nat} {t:Int}
theorem lp_start (hs:s<n) (ht:t≠s):Lp l F n s t [⟨s,z79,0⟩] 0:=
 ⟨upto_start _ _ _ _ _,rfl,Nat.zero_le _,fun tn e hm=>by simp[nodes] at hm;omega⟩
theorem Lp.seen {st:List (Fd S79)} {i:Nat} (h:Lp l F n s t st i) (hi:i=st.length):Seen l F n s t st:=by
 have e:st=bfP l F n s:=by
  rw[← h.rest];cases n - i with
  |zero=>rfl
  |succ k=>unfold bfs;rw[List.getElem?_eq_none (by omega)]
 exact⟨⟨[],by rw[List.append_nil, ← e]⟩,h.upto.fds, .inl e⟩
theorem Lp.len (hr:Right l F n) (hs:s<n) {st:List (Fd S79)} {i:Nat} (h:Lp l F n s t st i):st.length≤n:=fds_len h.upto.fds (esP_to hr) hs
theorem Lp.inner {st:List (Fd S79)} {i:Nat} (h:Lp l F n s t st i) {x:Fd S79} (hx:st[i]? =some x):Li l F n s t x (proc (toP l) (esP l F) st x) st i 0:=
 ⟨h.upto.fds,h.upto.most x hx,hx,by rw[List.drop_zero];rfl,h.nott⟩
theorem Li.next (hr:Right l F n) (hs:s<n) {st:List (Fd S79)} {i:Nat} (h:Lp l F n s t st i) {x:Fd S79} (hx:st[i]? =some x) {stj:List (Fd S79)} (hj:Li l F n s t x (proc (toP l) (esP l F) st x) stj i (stL l x.v l.length).length):Lp l F n s t stj (i+1):=by
 have e:stj=proc (toP l) (esP l F) st x:=by
  have:=hj.tail;rw[List.drop_of_length_le (Nat.le_refl _)] at this;exact this
 have hil:=(List.getElem?_eq_some_iff.1 hx).1;have hl:=h.len hr hs;refine⟨by rw[e];exact h.upto.next hx,?_,?_,hj.nott⟩
 ·have hrest:=h.rest
  rw[show n - i=(n - (i+1))+1 by omega] at hrest;rw[e, ← hrest];rw[bfs,hx]
 ·have:=(List.getElem?_eq_some_iff.1 hj.at_).1
  omega
theorem row_drop {x:Fd S79} {j:Nat} {e:S79} (he:(stL l x.v l.length)[j]? =some e):(stL l x.v l.length).drop j=e::(stL l x.v l.length).drop (j+1):=by
 obtain⟨hlt,h⟩:=List.getElem?_eq_some_iff.1 he;rw[List.drop_eq_getElem_cons hlt,h]
theorem Li.skip {x:Fd S79} {X stj:List (Fd S79)} {i j:Nat} (h:Li l F n s t x X stj i j) {e:S79} (he:(stL l x.v l.length)[j]? =some e) (h0: ¬ 0<stRoom l F e∨toP l e∈nodes stj):Li l F n s t x X stj i (j+1):=by
 refine⟨h.fds,h.mst,h.at_,?_,h.nott⟩;have ht:=h.tail;rw[row_drop he,List.filter_cons] at ht;by_cases hr:0<stRoom l F e
 ·rw[Yu (by simpa using hr),List.foldl_cons] at ht
  have hv:vis (toP l) x.lv stj e=stj:=by unfold vis;rw[Yu (h0.resolve_left (fun h=>h hr))]
  rw[hv] at ht;exact ht
 ·rw[Yv (by simpa using hr)] at ht
  exact ht
theorem Li.add {x:Fd S79} {X stj:List (Fd S79)} {i j:Nat} (h:Li l F n s t x X stj i j) {e:S79} (he:(stL l x.v l.length)[j]? =some e) (hr:0<stRoom l F e) (hn:toP l e ∉ nodes stj):
  Fds (frP l) (toP l) (esP l F) s (stj ++ [⟨toP l e,e,x.lv+1⟩])∧(∀ y,y∈stj ++ [⟨toP l e,e,x.lv+1⟩]→y.lv≤x.lv+1)∧(((stL l x.v l.length).drop (j+1)).filter fun e=>decide (0<stRoom l F e)).foldl (vis (toP l) x.lv) (stj ++ [⟨toP l e,e,x.lv+1⟩])=X∧(stj ++ [⟨toP l e,e,x.lv+1⟩])[i]? =some x:=by
 have hv:vis (toP l) x.lv stj e=stj ++ [⟨toP l e,e,x.lv+1⟩]:=by unfold vis;rw[Yv hn]
 obtain⟨h1,h2⟩:=h.fds.vis h.at_ h.mst (mem_esP.2 ⟨List.mem_of_getElem? he,hr⟩);rw[hv] at h1 h2;have ht:=h.tail;rw[row_drop he,List.filter_cons,Yu (by simpa using hr),List.foldl_cons,hv] at ht;exact⟨h1,h2,ht,by rw[List.getElem?_append_left (List.getElem?_eq_some_iff.1 h.at_).1];exact h.at_⟩
theorem Li.put {x:Fd S79} {X stj:List (Fd S79)} {i j:Nat} (h:Li l F n s t x X stj i j) {e:S79} (he:(stL l x.v l.length)[j]? =some e) (hr:0<stRoom l F e) (hn:toP l e ∉ nodes stj) (ht:t≠toP l e):Li l F n s t x X (stj ++ [⟨toP l e,e,x.lv+1⟩]) i (j+1):=by
 obtain⟨h1,h2,h3,h4⟩:=h.add he hr hn;refine⟨h1,h2,h4,h3,fun tn etn hm=> ?_⟩;rw[nodes_app] at hm;rcases List.mem_append.1 hm with hm|hm
 ·exact h.nott tn etn hm
 ·simp[nodes] at hm
  exact ht (by rw[etn,hm])
theorem Li.found {st:List (Fd S79)} {i:Nat} (hp:Lp l F n s t st i) {x:Fd S79} (hx:st[i]? =some x) (hi:i<n) {stj:List (Fd S79)} {j:Nat} (h:Li l F n s t x (proc (toP l) (esP l F) st x) stj i j) {e:S79} (he:(stL l x.v l.length)[j]? =some e) (hr:0<stRoom l F e) (hn:toP l e ∉ nodes stj) (ht:t=toP l e):
  Seen l F n s t (stj ++ [⟨toP l e,e,x.lv+1⟩]):=by
 obtain⟨h1,h2,h3,h4⟩:=h.add he hr hn;refine⟨?_,h1, .inr ⟨toP l e,ht,by rw[nodes_app];exact List.mem_append_right _ (by simp[nodes])⟩⟩;obtain⟨r,hr1⟩:=fold_pre (toP l) x.lv (((stL l x.v l.length).drop (j+1)).filter fun e=>decide (0<stRoom l F e)) (stj ++ [⟨toP l e,e,x.lv+1⟩]);obtain⟨q,hq⟩:=bfs_pre (toP l) (esP l F) (n - (i+1)) (i+1) (proc (toP l) (esP l F) st x);have hrest:=hp.rest;rw[show n - i=(n - (i+1))+1 by omega,bfs,hx] at hrest;refine⟨r ++ q,?_⟩;rw[← hrest];show bfs (toP l) (esP l F) (n - (i+1)) (i+1) (proc (toP l) (esP l F) st x)=_;rw[hq, ← h3,hr1,List.append_assoc]
def qOf (st:List (Fd S79)) (i:Nat):List Int:=((nodes st).drop i).map fun v:Nat=>(v:Int)
theorem qOf_cons {st:List (Fd S79)} {i:Nat} {x:Fd S79} (hx:st[i]? =some x):qOf st i=(x.v:Int)::qOf st (i+1):=by
 obtain⟨hlt,h⟩:=List.getElem?_eq_some_iff.1 hx;unfold qOf nodes;rw[List.drop_eq_getElem_cons (by simpa using hlt),List.map_cons,List.getElem_map,h]
theorem qOf_snoc {st:List (Fd S79)} {i:Nat} (hi:i≤st.length) (y:Fd S79):qOf (st ++ [y]) i=qOf st i ++ [(y.v:Int)]:=by
 unfold qOf;rw[nodes_app,List.drop_append_of_le_length (by unfold nodes;simpa using hi),List.map_append];rfl
end
end H
namespace H
open P
structure Ks (S:Nat→Prop) (w w':World):Prop where
 os:w'.os=w.os
 tape:w'.tape=w.tape
 output:w'.output=w.output
 size:w.heap.size≤w'.heap.size
 block: ∀ k,k<w.heap.size→ ¬ S k→w'.heap[k]? =w.heap[k]?
section
variable {S T:Nat→Prop} {w w1 w2:World}
theorem Ks.refl (S:Nat→Prop) (w:World):Ks S w w:=⟨rfl,rfl,rfl,Nat.le_refl _,fun _ _ _=>rfl⟩
theorem Ks.trans (h:Ks S w w1) (k:Ks T w1 w2) (hT: ∀ b,T b→b<w.heap.size→S b):Ks S w w2:=
 ⟨k.os.trans h.os,k.tape.trans h.tape,k.output.trans h.output,Nat.le_trans h.size k.size,fun b hb hs=>(k.block b (Nat.lt_of_lt_of_le hb h.size) (fun ht=>hs (hT b ht hb))).trans (h.block b hb hs)⟩
theorem Ks.of_below (h:Below w.heap.size w w1) (S:Nat→Prop):Ks S w w1:=⟨h.os,h.tape,h.output,h.size,fun b hb _=>h.block b hb⟩
theorem Ks.below (h:Ks S w w1) (hb:Below w1.heap.size w1 w2):Ks S w w2:=h.trans (Ks.of_below hb (fun _=>False)) (fun _ h=>h.elim)
theorem Ks.trans' {w0:World} (h:Ks S w w1) (hb:Below w0.heap.size w0 w):Ks S w0 w1:=(Ks.of_below hb S).trans h (fun _ h _=>h)
theorem Ks.set (h:Ks S w w1) {g:Nat} (hg:g<w.heap.size→S g) (j:Nat) (u:Value):Ks S w (w1.setCell ⟨g,j,none⟩ u):=
 ⟨h.os,h.tape,h.output,by simpa [World.setCell] using h.size,fun k hk hs=>(Below.heap_setCell w1 ⟨g,j,none⟩ u k (by rintro rfl;exact hs (hg hk))).trans (h.block k hk hs)⟩
theorem Ks.mono (h:Ks S w w1) (hT: ∀ b,S b→b<w.heap.size→T b):Ks T w w1:=⟨h.os,h.tape,h.output,h.size,fun b hb ht=>h.block b hb (fun hs=>ht (hT b hs hb))⟩
theorem Ks.toBelow {B:Nat} {w0:World} (h:Ks S w w1) (hb:Below B w0 w) (hB:B≤w.heap.size) (hS: ∀ b,S b→B≤b):Below B w0 w1:=
 hb.trans ⟨h.os,h.tape,h.output,h.size,fun k hk=>h.block k (by omega) (fun hs=>by have:=hS k hs;omega)⟩
theorem Ks.blk (h:Ks S w w1) {g:Nat} {o:Obj} (hb:w.heap[g]? =some o) (hs: ¬ S g):w1.heap[g]? =some o:=(h.block g (blk_lt hb) hs).trans hb
theorem Ks.F {α:Type} {d:Kd α} {n:Nat} {ok:Nat→Prop} {A:Option Addr} {xs:List α} (h:Ks S w w1) (hr:Kd.F d w ok A n xs) (hok: ∀ k,ok k→k<w.heap.size→ ¬ S k):Kd.F d w1 ok A n xs:=Kd.F_step hr (fun k ho hlt=>h.block k hlt (hok k ho hlt))
end
structure Qu (w:World) (g:Nat) (A:Option Addr) (R:List Int) (fr sz mo:Nat):Prop where
 hd:w.heap[g]? =some (.cells #[.slice A R.length R.length, .int .i64 (fr:Nat), .int .i64 (sz:Nat), .int .i64 (mo:Nat)] 149 (0,0))
 ring:(A=none∧R=[])∨ ∃ b,A=some ⟨b,0,none⟩∧0<R.length∧w.heap[b]? =some (.cells (nums .i64 R).toArray 3 (0,0))
 szr:sz≤R.length
 frr:fr<R.length∨fr=0∧R=[]
 szm:sz≤mo
 mo50:mo≤50
 len:R.length≤200
def quS (g:Nat) (A:Option Addr) (k:Nat):Prop:=k=g∨ ∃ a,A=some a∧k=a.block
def qL (R:List Int) (fr sz:Nat):List Int:=(List.range sz).map fun i=>R.getD ((fr+i) % R.length) 0
theorem Qu.step {w w1:World} {g:Nat} {A:Option Addr} {R:List Int} {fr sz mo:Nat} (h:Qu w g A R fr sz mo) (hb: ∀ k,k<w.heap.size→quS g A k→w1.heap[k]? =w.heap[k]?):Qu w1 g A R fr sz mo:=by
 refine⟨(hb g (blk_lt h.hd) (.inl rfl)).trans h.hd,?_,h.szr,h.frr,h.szm,h.mo50,h.len⟩;rcases h.ring with h1|⟨b,h1,h2,h3⟩
 ·exact .inl h1
 ·exact .inr ⟨b,h1,h2,(hb b (blk_lt h3) (.inr ⟨_,h1,rfl⟩)).trans h3⟩
theorem Qu.below {w w1:World} {g:Nat} {A:Option Addr} {R:List Int} {fr sz mo:Nat} (h:Qu w g A R fr sz mo) (hb:Below w.heap.size w w1):Qu w1 g A R fr sz mo:=h.step fun k hk _=>hb.block k hk
theorem Qu.ne {w:World} {g b:Nat} {R:List Int} {fr sz mo:Nat} (h:Qu w g (some ⟨b,0,none⟩) R fr sz mo):g≠b:=by
 rcases h.ring with ⟨h1,_⟩|⟨c,h1,h2,h3⟩
 ·cases h1
 ·cases h1
  exact blk_ne h.hd h3 (by decide)
theorem nums_get (R:List Int) (j:Nat) (h:j<R.length):(nums .i64 R).toArray[j]? =some (.int .i64 (R.getD j 0)):=by
 simp[nums,List.getD_eq_getElem?_getD,List.getElem?_eq_getElem h]
theorem mod_add_one (a b m:Nat):((a+1) % m+b) % m=(a+(b+1)) % m:=by
 rw[Nat.mod_add_mod];congr 1;omega
theorem qL_take (R:List Int) (fr sz:Nat) (hf:fr<R.length):qL R fr (sz+1)=R.getD fr 0::qL R ((fr+1) % R.length) sz:=by
 unfold qL;rw[List.range_succ_eq_map,List.map_cons,Nat.add_zero,Nat.mod_eq_of_lt hf,List.map_map];congr 1;apply List.map_congr_left;intro i _;show R.getD ((fr+(i+1)) % R.length) 0=R.getD (((fr+1) % R.length+i) % R.length) 0;rw[mod_add_one]
attribute [local irreducible] wpQuiet
set_option maxHeartbeats 1000000 in
set_option maxRecDepth 100000 in
theorem que_len (g:Nat) (A:Option Addr) (R:List Int) (fr sz mo:Nat) (w:World) (h:Qu w g A R fr sz mo):
  Calls Try.prog 102 #[.pointer (some ⟨g,0,none⟩)] w fun e w'=>e= .returned (.int .i64 sz)∧w'=w:=by
 have c2:w.cell? ⟨g,2,none⟩=some (.int .i64 sz):=(Yc h.hd 2).trans rfl;clear h;go_enter Try.func102,Try.ntmps102;go_wp2;go_ret;exact⟨rfl,rfl⟩
set_option maxHeartbeats 1000000 in
set_option maxRecDepth 100000 in
theorem take_core (g b m fr sz:Nat) (x:Int) (w:World) (c0:w.cell? ⟨g,0,none⟩=some (.slice (some ⟨b,0,none⟩) m m)) (c1:w.cell? ⟨g,1,none⟩=some (.int .i64 fr)) (c2:w.cell? ⟨g,2,none⟩=some (.int .i64 (sz+1:Nat)))
  (c3:w.cell? ⟨b,fr,none⟩=some (.int .i64 x)) (f1:w.frozen? ⟨g,1,none⟩=false) (f2:w.frozen? ⟨g,2,none⟩=false) (hne:g≠b) (p0:(0:Int)≤(fr:Int)) (p1:(fr:Int)<(m:Int)) (p2:(m:Int)≤200) (p4:(sz:Int)+1≤50) (p5:(0:Int)≤(sz:Int)):
  Calls Try.prog 103 #[.pointer (some ⟨g,0,none⟩)] w fun e w'=>e= .returned (.tuple #[.int .i64 x, .int .i64 0])∧w'=((w.setCell ⟨g,1,none⟩ (.int .i64 (((fr:Int)+1) % (m:Int)))).setCell ⟨g,2,none⟩ (.int .i64 sz)).drew.drew:=by
 have hu:=Try.underlying149;have p3:(0:Int)<(m:Int):=by omega
 have e1:((sz:Int)+1 == 0)=false:=beq_eq_false_iff_ne.2 (by omega);go_enter Try.func103,Try.ntmps103;go_wp2_with fail;go_region;go_wp2_with fail;go_region;go_wp2_with fail;go_ret2;exact⟨rfl,rfl⟩
theorem que_take (g b:Nat) (R:List Int) (fr sz mo:Nat) (w:World) (h:Qu w g (some ⟨b,0,none⟩) R fr (sz+1) mo):
  Calls Try.prog 103 #[.pointer (some ⟨g,0,none⟩)] w fun e w'=>e= .returned (.tuple #[.int .i64 (R.getD fr 0), .int .i64 0])∧Qu w' g (some ⟨b,0,none⟩) R ((fr+1) % R.length) sz mo∧Ks (fun k=>k=g) w w':=by
 have hfr:fr<R.length:=by
  rcases h.frr with h1|⟨_,h1⟩
  ·exact h1
  ·have:=h.szr;rw[h1] at this;simp at this
 have hl:=h.len;have hring:w.heap[b]? =some (.cells (nums .i64 R).toArray 3 (0,0)):=by
  rcases h.ring with ⟨h1,_⟩|⟨c,h1,h2,h3⟩
  ·cases h1
  ·cases h1;exact h3
 have hm:=h.szm;have h50:=h.mo50;refine(take_core g b R.length fr sz (R.getD fr 0) w ((Yc h.hd 0).trans rfl) ((Yc h.hd 1).trans rfl) ((Yc h.hd 2).trans rfl) ((Yc hring fr).trans (nums_get R fr hfr)) (Yf h.hd 1) (Yf h.hd 2) h.ne (by omega) (by omega) (by omega) (by omega) (by omega)).mono ?_;rintro e w' ⟨rfl,rfl⟩;have he:((fr:Int)+1) % (R.length:Int)=(((fr+1) % R.length:Nat):Int):=by rw[Int.natCast_emod];rfl
 rw[he];refine⟨rfl,⟨blk_set (blk_set h.hd 1 _) 2 _, .inr ⟨b,rfl,by omega,?_⟩,by have:=h.szr;omega, .inl (Nat.mod_lt _ (by omega)),by omega,h50,hl⟩,?_⟩
 ·exact blk_far (blk_far hring (p:=⟨g,1,none⟩) (Ne.symm h.ne) _) (p:=⟨g,2,none⟩) (Ne.symm h.ne) _
 ·exact(((Ks.refl (fun k=>k=g) w).set (g:=g) (fun _=>rfl) 1 _).set (g:=g) (fun _=>rfl) 2 _).below (below_drew (below_drew (Yo _ _)))
end H
namespace H
open P
def IsI (w:World) (g:Nat) (D:List Int):Prop:=w.heap[g]? =some (.cells (nums .i64 D).toArray 3 (0,0))
def stC (B:List S79):List Value:=B.flatMap fun s=>[.int .i64 s.f0, .bool s.f1]
def IsS (w:World) (g:Nat) (B:List S79):Prop:=w.heap[g]? =some (.cells (stC B).toArray 79 (0,0))
theorem stC_len (B:List S79):(stC B).length=2 * B.length:=by
 induction B with
 |nil=>rfl
 |cons s B ih=>show ([_,_] ++ stC B).length=_;rw[List.length_append,ih,List.length_cons];simp;omega
theorem stC_cons (s:S79) (B:List S79):stC (s::B)= .int .i64 s.f0:: .bool s.f1::stC B:=rfl
theorem stC_get (z:S79): ∀ (B:List S79) (u:Nat),u<B.length→(stC B)[u * 2]? =some (.int .i64 (B.getD u z).f0)∧(stC B)[u * 2+1]? =some (.bool (B.getD u z).f1)
 |[],u,h=>by simp at h
 |s::B,0,_=>⟨rfl,rfl⟩
 |s::B,u+1,h=>by
  have:=stC_get z B u (by simpa using h);rw[stC_cons,show (u+1) * 2=(u * 2+1)+1 by omega,List.getElem?_cons_succ,List.getElem?_cons_succ,List.getElem?_cons_succ,List.getElem?_cons_succ,List.getD_cons_succ];exact this
theorem stC_set: ∀ (B:List S79) (u:Nat) (s:S79),((stC B).set (u * 2) (.int .i64 s.f0)).set (u * 2+1) (.bool s.f1)=stC (B.set u s)
 |[],u,s=>rfl
 |x::B,0,s=>rfl
 |x::B,u+1,s=>by
  rw[stC_cons,show (u+1) * 2=(u * 2+1)+1 by omega,List.set_cons_succ,List.set_cons_succ,List.set_cons_succ,List.set_cons_succ,stC_set B u s];rfl
section
variable {w w1:World} {g:Nat} {D:List Int} {B:List S79}
theorem IsI.lt (h:IsI w g D):g<w.heap.size:=blk_lt h
theorem IsS.lt (h:IsS w g B):g<w.heap.size:=blk_lt h
theorem IsI.same (h:IsI w g D) (e:w1.heap[g]? =w.heap[g]?):IsI w1 g D:=e.trans h
theorem IsS.same (h:IsS w g B) (e:w1.heap[g]? =w.heap[g]?):IsS w1 g B:=e.trans h
theorem IsI.below (h:IsI w g D) (hb:Below w.heap.size w w1):IsI w1 g D:=h.same (hb.block g h.lt)
theorem IsS.below (h:IsS w g B) (hb:Below w.heap.size w w1):IsS w1 g B:=h.same (hb.block g h.lt)
theorem IsI.kept {S:Nat→Prop} (h:IsI w g D) (hk:Ks S w w1) (hs: ¬ S g):IsI w1 g D:=hk.blk h hs
theorem IsS.kept {S:Nat→Prop} (h:IsS w g B) (hk:Ks S w w1) (hs: ¬ S g):IsS w1 g B:=hk.blk h hs
theorem IsI.far (h:IsI w g D) {p:Addr} (hp:g≠p.block) (u:Value):IsI (w.setCell p u) g D:=blk_far h hp u
theorem IsS.far (h:IsS w g B) {p:Addr} (hp:g≠p.block) (u:Value):IsS (w.setCell p u) g B:=blk_far h hp u
theorem IsI.cell (h:IsI w g D) {j:Nat} (hj:j<D.length):w.cell? ⟨g,j,none⟩=some (.int .i64 (D.getD j 0)):=(Yc h j).trans (nums_get D j hj)
theorem IsI.free (h:IsI w g D) (j:Nat):w.frozen? ⟨g,j,none⟩=false:=Yf h j
theorem IsS.free (h:IsS w g B) (j:Nat):w.frozen? ⟨g,j,none⟩=false:=Yf h j
theorem IsS.cell (h:IsS w g B) (z:S79) {j:Nat} (hj:j<B.length):w.cell? ⟨g,j * 2,none⟩=some (.int .i64 (B.getD j z).f0)∧w.cell? ⟨g,j * 2+1,none⟩=some (.bool (B.getD j z).f1):=by
 obtain⟨h1,h2⟩:=stC_get z B j hj;exact⟨(Yc h _).trans (by simpa using h1),(Yc h _).trans (by simpa using h2)⟩
theorem IsI.put (h:IsI w g D) (j:Nat) (x:Int):IsI (w.setCell ⟨g,j,none⟩ (.int .i64 x)) g (D.set j x):=by
 refine(blk_set h j _).trans ?_;simp[nums,List.map_set]
theorem IsS.put (h:IsS w g B) (j:Nat) (s:S79):IsS ((w.setCell ⟨g,j * 2,none⟩ (.int .i64 s.f0)).setCell ⟨g,j * 2+1,none⟩ (.bool s.f1)) g (B.set j s):=by
 refine(blk_set (blk_set h (j * 2) _) (j * 2+1) _).trans ?_;rw[← stC_set];simp
theorem IsI.R (h:IsI w g D) (hl:D.length≤9223372036854775807) {base:Nat} (hb:base≤g) {ok:Nat→Prop} (hok:ok g):Kd.R (Kd.int .i64) 3 w base ok (.slice (some ⟨g,0,none⟩) D.length D.length) D:=by
 refine Kd.R_of_own (enc:=Value.int .i64) ?_ (fun k hk=> ?_)
 ·refine⟨by simp[encs], .inr ⟨g,D.length,_,rfl,hb,h,Nat.le_refl _,by simp only[maxLen];omega,by simp[nums],?_⟩⟩
  simp only[nums,encs,Nat.mul_one];exact List.take_of_length_le (by simp)
 ·have:g=k:=by simpa [Value.ownBlock] using hk
  subst this;exact hok
theorem IsS.R (h:IsS w g B) (hl:B.length≤9223372036854775807) {base:Nat} (hb:base≤g) {ok:Nat→Prop} (hok:ok g):Kd.R k79 79 w base ok (.slice (some ⟨g,0,none⟩) B.length B.length) B:=by
 refine⟨fun k hk=> ?_,stC B,⟨?_, .inr ⟨g,B.length,_,rfl,hb,h,Nat.le_refl _,by simp only[maxLen];omega,?_,?_⟩⟩,?_,fun j p hj=> ?_⟩
 ·have:g=k:=by simpa [Value.ownBlock] using hk
  subst this;exact hok
 ·rw[stC_len];show 2 * B.length=B.length * 2;omega
 ·show (stC B).toArray.size=B.length * 2
  rw[List.size_toArray,stC_len];omega
 ·show (stC B).toArray.toList.take (B.length * 2)=stC B
  rw[List.take_of_length_le (by simp[stC_len];omega)]
 ·rw[stC_len];show 2 * B.length=B.length * 2;omega
 ·obtain⟨hlt,hp⟩:=List.getElem?_eq_some_iff.1 hj
  obtain⟨h1,h2⟩:=stC_get p B j hlt;have hg:B.getD j p=p:=by rw[List.getD_eq_getElem?_getD,hj];rfl
  rw[hg] at h1 h2;have e:((stC B).drop (j * 2)).take 2=[.int .i64 p.f0, .bool p.f1]:=by
   apply List.ext_getElem?;intro m;rw[List.getElem?_take,List.getElem?_drop]
   match m with
   |0=>rw[Yu (by omega),Nat.add_zero,h1];rfl
   |1=>rw[Yu (by omega),h2];rfl
   |m+2=>rw[Yv (by omega)];rfl
  show Kd.M k79 w base _ p (((stC B).drop (j * 2)).take 2);rw[e];exact k79_mkM _ _ _ p
end
end H
namespace P
attribute [local go_sem] max2_int min2_int max_two min_two max_three min_three max_four min_four
def pile_room.f (a0:Int):Option (Bool):=if a0≥0 then(some (decide (a0≤65536))) else(some false)
set_option maxHeartbeats 8000000 in
set_option maxRecDepth 100000 in
theorem pile_room.calls (a0:Int) (r:Bool) (w:World) (h:pile_room.f a0=some r):
  Calls Try.prog 107 #[.int .i64 a0] w fun e w'=>e= .returned (.bool r)∧Drawn0 w w':=by
 have H:=h;unfold pile_room.f at H;clear h;by_cases c2:a0≥0
 rotate_left
 ·rw[Yv c2] at H
  have c2b0:decide (0≤a0)=false:=Yt c2;clear c2;obtain rfl:=Option.some.inj H;go_enter Try.func107,Try.ntmps107;go_wp2;go_ret;exact⟨by first|rfl|(simp;done)|(simp[*];done),by repeat(first|exact Drawn0.refl _|apply Drawn0.step)⟩
 rw[Yu c2] at H;have c2b0:decide (0≤a0)=true:=Ys c2;clear c2;obtain rfl:=Option.some.inj H;go_enter Try.func107,Try.ntmps107;go_wp2;go_ret;exact⟨by first|rfl|(simp;done)|(simp[*];done),by repeat(first|exact Drawn0.refl _|apply Drawn0.step)⟩
end P
namespace H
open P
attribute [local irreducible] wpQuiet
theorem info3:(Try.prog.info? 3).map (fun i=>(i.zero,i.size,i.bytes))=some (some (.int .i64 0),1,8):=by kernel_rfl
def ringAt (X:Nat→Int) (m i:Nat):List Int:=(List.range i).map X ++ List.replicate (2 * m+4 - i) 0
theorem made_ring (X:Nat→Int) (m:Nat) (hm:m≤200): ∀ W:World,(Instr.makeSlice 31 (.int .i64 0) (.int .i64 (2 * (m:Int)+4))).run Try.prog W= .ok (.slice (some ⟨W.heap.size,0,none⟩) 0 (2 * m+4)) (W.alloc (.cells (nums .i64 (ringAt X m 0)).toArray 3)):=by
 intro W;have er:ringAt X m 0=List.replicate (2 * m+4) 0:=by simp[ringAt]
 rw[er];obtain⟨i0,hi,hzz⟩:=Option.map_eq_some_iff.1 info3;simp only[Prod.mk.injEq] at hzz;obtain⟨hz0,hz1,hz2⟩:=hzz;have hr:=run_make (P:=Try.prog) W 31 3 i0 (.int .i64 0) Try.underlying31 hi hz0 .i64 .i64 (0:Int) (2 * (m:Int)+4) (by omega) (by omega) (by rw[hz2];omega) (by omega);rw[hz1] at hr;have e1:(2 * (m:Int)+4).toNat=2 * m+4:=by omega
 rw[e1] at hr;have hl:(madeCells #[Value.int .i64 0] ((2 * m+4) * 1))=(nums .i64 (List.replicate (2 * m+4) 0)).toArray:=by
  apply Array.ext';apply List.ext_getElem
  ·simp[nums,madeCells]
  ·intro i h1 h2
   simp[nums,madeCells,Nat.mod_one]
 exact hr.trans (by rw[← hl];rfl)
theorem ringAt_len (X:Nat→Int) (m i:Nat) (h:i≤m):(ringAt X m i).length=2 * m+4:=by simp[ringAt];omega
theorem ringAt_set (X:Nat→Int) (m i:Nat) (h:i<m):(ringAt X m i).set i (X i)=ringAt X m (i+1):=by
 unfold ringAt;rw[List.set_append_right _ _ (by simp),List.range_succ,List.map_append,List.append_assoc];congr 1;simp only[List.length_map,List.length_range,Nat.sub_self,List.map_cons,List.map_nil,List.cons_append,List.nil_append];rw[show 2 * m+4 - i=(2 * m+4 - (i+1))+1 by omega,List.replicate_succ];rfl
set_option maxHeartbeats 1000000 in
set_option maxRecDepth 100000 in
theorem grow_nil (g:Nat) (w:World) (c0:w.cell? ⟨g,0,none⟩=some (.slice none 0 0)) (c2:w.cell? ⟨g,2,none⟩=some (.int .i64 0)) (f0:w.frozen? ⟨g,0,none⟩=false) (f1:w.frozen? ⟨g,1,none⟩=false) (c1:w.cell? ⟨g,1,none⟩=some (.int .i64 0)):
  Calls Try.prog 108 #[.pointer (some ⟨g,0,none⟩)] w fun e w'=>e= .returned (.tuple #[])∧w'=((w.alloc (.cells (nums .i64 (ringAt (fun _=>0) 0 0)).toArray 3)).setCell ⟨g,0,none⟩ (.slice (some ⟨w.heap.size,0,none⟩) 4 4)).setCell ⟨g,1,none⟩ (.int .i64 0):=by
 have hu:=Try.underlying149;have hg:=Yb w _ c0;have hmk:=made_ring (fun _=>0) 0 (by omega);simp only[Int.ofNat_zero,Int.mul_zero,Int.zero_add,Nat.mul_zero,Nat.zero_add,Int.natCast_zero] at hmk;go_enter Try.func108,Try.ntmps108;go_wp2_with fail;go_loopw [2,16] (fun v2 v16 w'=>v2= .slice (some ⟨w.heap.size,0,none⟩) 0 4∧v16= .int .i64 0∧Aside0 (w'=w.alloc (.cells (nums .i64 (ringAt (fun _=>0) 0 0)).toArray 3))) (fun _ _ _=>0)
 case atStart=>exact⟨rfl,rfl,⟨rfl⟩⟩
 case round=>
  obtain⟨rfl,rfl,HW⟩:=hrel;have hw:=HW.out;subst hw;go_wp2_with fail;exact bodyPost_end (results_none rfl _ _ _) rfl ⟨rfl,rfl⟩
theorem ring_put {W:World} {H:Nat} {X:Nat→Int} {m i:Nat} (h:W.heap[H]? =some (.cells (nums .i64 (ringAt X m i)).toArray 3 (0,0))) (hi:i<m):(W.setCells H (0+i * 1) [.int .i64 (X i)]).heap[H]? =some (.cells (nums .i64 (ringAt X m (i+1))).toArray 3 (0,0)):=by
 rw[show 0+i * 1=i by omega, ← ringAt_set X m i hi];refine(blk_set h i (.int .i64 (X i))).trans ?_;simp[nums,List.map_set]
theorem below_cells {w W:World} {H o:Nat} {v:Value} (h:Below w.heap.size w W) (hH:w.heap.size≤H):Below w.heap.size w (W.setCells H o [v]):=Yh h hH
theorem far_keep {wr W:World} {H o:Nat} {vs:List Value} {a:Addr} {v:Value} (hc:wr.cell? a=some v) (hB:Below wr.heap.size wr W) (hne:a.block≠H):(W.setCells H o vs).cell? a=some v:=
 (World.cell?_of_block (setCells_far vs o a.block hne)).trans (pw_cell_below hB hc)
theorem spare_ok {W wr:World} {H i:Nat} {cs:Array Value} {x:Value} (hb:wr.heap[H]? =some (.cells cs 3 (0,0))) (hW:W.heap[H]? =wr.heap[H]?) (hi:i<cs.size): ∀ j,j<[x].length→(W.cell? ⟨H,0+i * 1+j,none⟩).isSome=true∧W.frozen? ⟨H,0+i * 1+j,none⟩=false:=by
 intro j hj;have hj0:j=0:=by simpa using hj
 subst hj0;have h:=hW.trans hb;refine⟨?_,Yf h _⟩;rw[Yc h,show 0+i * 1+0=i by omega,Array.getElem?_eq_getElem hi];rfl
set_option maxHeartbeats 2000000 in
set_option maxRecDepth 100000 in
theorem grow_core (g b m fr:Nat) (X:Nat→Int) (w:World) (c0:w.cell? ⟨g,0,none⟩=some (.slice (some ⟨b,0,none⟩) m m)) (c1:w.cell? ⟨g,1,none⟩=some (.int .i64 fr)) (c2:w.cell? ⟨g,2,none⟩=some (.int .i64 m)) (hX: ∀ i,i<m→w.cell? ⟨b,(fr+i) % m,none⟩=some (.int .i64 (X i)))
  (f0:w.frozen? ⟨g,0,none⟩=false) (f1:w.frozen? ⟨g,1,none⟩=false) (hm0:0<m) (hm:m≤96) (hfr:fr<m):
  Calls Try.prog 108 #[.pointer (some ⟨g,0,none⟩)] w fun e w'=>e= .returned (.tuple #[])∧ ∃ w1,Below w.heap.size w w1∧w1.heap[w.heap.size]? =some (.cells (nums .i64 (ringAt X m m)).toArray 3 (0,0))∧w'=(w1.setCell ⟨g,0,none⟩ (.slice (some ⟨w.heap.size,0,none⟩) (2 * m+4) (2 * m+4))).setCell ⟨g,1,none⟩ (.int .i64 0):=by
 have hu:=Try.underlying149;obtain⟨i0,hi,hzz⟩:=Option.map_eq_some_iff.1 info3;simp only[Prod.mk.injEq] at hzz;have HI:=Ya hi;have HS1:=Ya hzz.2.1;clear hi hzz;have hg:=Yb w _ c0;have hb:=Yb w _ (hX 0 hm0);have C0:=Ya c0;have C1:=Ya c1;have F0:=Ya f0;have F1:=Ya f1;have HX:=Ya hX;have hmk:=made_ring X m (by omega);have q1:(m:Int)≤96:=by omega
 have q2:(0:Int)<(m:Int):=by omega
 clear hX;go_enter Try.func108,Try.ntmps108;go_wp2_with fail;clear hmk c0 c1 c2 f0 f1;go_loopw [2,16] (fun v2 v16 w'=> ∃ i:Nat,i≤m∧v16= .int .i64 i∧v2= .slice (some ⟨w.heap.size,0,none⟩) i (2 * m+4)∧Aside0 (w'.heap[w.heap.size]? =some (.cells (nums .i64 (ringAt X m i)).toArray 3 (0,0)))∧Aside0 (Below w.heap.size w w')) (fun _ v16 _=>m - (intOf v16).toNat)
 case atStart=>exact⟨0,Nat.zero_le _,rfl,rfl,⟨heap_alloc_new w _⟩,⟨Ye (Yo _ _) _⟩⟩
 case round=>
  obtain⟨i,hi,rfl,rfl,HR,HB⟩:=hrel;by_cases hlt:i<m
  ·have e1:decide ((i:Int)<(m:Int))=true:=Ys (by omega)
   have c0:=pw_cell_below HB.out C0.out;have c1:=pw_cell_below HB.out C1.out;have cx:=pw_cell_below HB.out (HX.out i hlt);have hwr:IntKind.i64.wrap ((fr:Int)+(i:Int))=(fr:Int)+(i:Int):=IntWalk.i64_in _ (by omega);have htm:Int.tmod ((fr:Int)+(i:Int)) (m:Int)=(((fr+i) % m:Nat):Int):=rfl;have hj1:=Nat.mod_lt (fr+i) hm0;generalize (fr+i) % m=j at cx htm hj1;have hj0:(0:Int)≤(j:Int):=by omega
   have hj2:(j:Int)<(m:Int):=by omega
   have hlw:=HB.out.size;have hmz: ¬ m=0:=by omega
   go_wp2_with fail;have KB:Below wr.heap.size wr (wr.alloc (.cells #[.int .i64 (X i)] 3)).drew:=below_drew (Ye (Yo _ _) _);have K0:=far_keep (H:=w.heap.size) (o:=0+i * 1) (vs:=[.int .i64 (X i)]) c0 KB (by show g≠_;omega);have K1:=far_keep (H:=w.heap.size) (o:=0+i * 1) (vs:=[.int .i64 (X i)]) c1 KB (by show g≠_;omega);have K2:=far_keep (H:=w.heap.size) (o:=0+i * 1) (vs:=[.int .i64 (X i)]) cx KB (by show b≠_;omega);have HR2:=Ya (ring_put (W:=(wr.alloc (.cells #[.int .i64 (X i)] 3)).drew) ((heap_alloc_old _ _ (blk_lt HR.out)).trans HR.out) hlt);have HB2:Aside0 (Below w.heap.size w ((wr.alloc (.cells #[.int .i64 (X i)] 3)).drew.setCells w.heap.size (0+i * 1) [.int .i64 (X i)])):=⟨below_cells (below_drew (Ye HB.out _)) (Nat.le_refl _)⟩;go_region_held3 (fun w'=>w'.cell? ⟨g,0,none⟩=some (.slice (some ⟨b,0,none⟩) m m)∧w'.cell? ⟨g,1,none⟩=some (.int .i64 fr)∧w'.cell? ⟨b,j,none⟩=some (.int .i64 (X i))) (first|exact⟨K0,K1,K2⟩|(go_split_ands;exact⟨K0,K1,K2⟩)|go_keep)
    ((refine step_append_room rfl _ _ _ (by rfl) 3 i0 1 Try.underlying31 HI.out HS1.out w.heap.size 0 i (2 * m+4) (by rfl) ⟨wr.heap.size,0,none⟩ 1 1 [.int .i64 (X i)] (by rfl) (by rfl) (World.news_of_block (cs:= #[.int .i64 (X i)]) (t:=3) (fr:=(0,0)) (heap_alloc_new _ _)) (by simp[Value.oneCell']) (by omega) (spare_ok HR.out (heap_alloc_old _ _ (blk_lt HR.out)) (by simp[nums,ringAt_len _ _ _ hi];omega)) ?_))
   clear K0 K1 K2 KB c0 c1 cx htm hwr;generalize (wr.alloc (.cells #[.int .i64 (X i)] 3)).drew.setCells w.heap.size (0+i * 1) [.int .i64 (X i)]=w9 at HR2 HB2 ⊢;go_wp2_with fail;go_roundw
   case rel=>exact⟨i+1,by omega,by go_num,rfl,HR2,HB2⟩
   case measure=>simp[intOf]<;>omega
  ·have ei:i=m:=by omega
   subst ei;have e1:decide ((i:Int)<(i:Int))=false:=Yt (by omega);have c0:=pw_cell_below HB.out C0.out;have c1:=pw_cell_below HB.out C1.out;have f0:wr.frozen? ⟨g,0,none⟩=false:=(HB.out.frozen (p:=⟨g,0,none⟩) hg).trans F0.out;have f1:wr.frozen? ⟨g,1,none⟩=false:=(HB.out.frozen (p:=⟨g,1,none⟩) hg).trans F1.out;go_wp2_with fail;refine bodyPost_end (results_none rfl _ _ _) rfl ⟨rfl,wr,HB.out,HR.out,rfl⟩
theorem ring_full (X:Nat→Int) (m i:Nat) (hi:i<m):(ringAt X m m).getD ((0+i) % (ringAt X m m).length) 0=X i:=by
 rw[ringAt_len X m m (Nat.le_refl _),Nat.zero_add,Nat.mod_eq_of_lt (by omega)];unfold ringAt;rw[List.getD_eq_getElem?_getD,List.getElem?_append_left (by simpa using hi)];simp[hi]
theorem que_grow (g:Nat) (A:Option Addr) (R:List Int) (fr mo:Nat) (w:World) (h:Qu w g A R fr R.length mo):
  Calls Try.prog 108 #[.pointer (some ⟨g,0,none⟩)] w fun e w'=>e= .returned (.tuple #[])∧ ∃ R',R'.length=2 * R.length+4∧Qu w' g (some ⟨w.heap.size,0,none⟩) R' 0 R.length mo∧qL R' 0 R.length=qL R fr R.length∧Ks (fun k=>k=g) w w':=by
 have hg:=blk_lt h.hd;have hs:=h.szm;have h50:=h.mo50;rcases h.ring with ⟨rfl,rfl⟩|⟨b,rfl,hp,hb⟩
 ·rcases h.frr with h1|⟨rfl,_⟩
  ·exact absurd h1 (by simp)
  refine(grow_nil g w ((Yc h.hd 0).trans rfl) ((Yc h.hd 2).trans rfl) (Yf h.hd 0) (Yf h.hd 1) ((Yc h.hd 1).trans rfl)).mono ?_;rintro e w' ⟨rfl,rfl⟩;have hw: ∀ o,(w.alloc o).heap[g]? =some (.cells #[.slice none 0 0, .int .i64 (0:Nat), .int .i64 (0:Nat), .int .i64 mo] 149 (0,0)):=fun o=>(heap_alloc_old _ _ hg).trans h.hd
  refine⟨rfl,ringAt (fun _=>0) 0 0,ringAt_len _ _ _ (Nat.le_refl _),⟨blk_set (blk_set (hw _) 0 _) 1 _, .inr ⟨_,rfl,by rw[ringAt_len _ _ _ (Nat.le_refl _)];omega,?_⟩,Nat.zero_le _, .inl (by rw[ringAt_len _ _ _ (Nat.le_refl _)];omega),hs,h50,by rw[ringAt_len _ _ _ (Nat.le_refl _)];omega⟩,rfl,?_⟩
  ·exact blk_far (blk_far (heap_alloc_new w _) (p:=⟨g,0,none⟩) (by show w.heap.size≠g;omega) _) (p:=⟨g,1,none⟩) (by show w.heap.size≠g;omega) _
  ·exact(((Ks.refl (fun k=>k=g) w).below (Ye (Yo _ _) _)).set (g:=g) (fun _=>rfl) 0 _).set (g:=g) (fun _=>rfl) 1 _
 ·have hfr:fr<R.length:=by
   rcases h.frr with h1|⟨_,h1⟩
   ·exact h1
   ·rw[h1] at hp;exact absurd hp (by simp)
  refine(grow_core g b R.length fr (fun i=>R.getD ((fr+i) % R.length) 0) w ((Yc h.hd 0).trans rfl) ((Yc h.hd 1).trans rfl) ((Yc h.hd 2).trans rfl) (fun i hi=>(Yc hb _).trans (nums_get R _ (Nat.mod_lt _ hp))) (Yf h.hd 0) (Yf h.hd 1) hp (by omega) hfr).mono ?_;rintro e w' ⟨rfl,w1,hbw,hr,rfl⟩;have hw:=(hbw.block g hg).trans h.hd;have hl:=ringAt_len (fun i=>R.getD ((fr+i) % R.length) 0) R.length R.length (Nat.le_refl _);refine⟨rfl,ringAt (fun i=>R.getD ((fr+i) % R.length) 0) R.length R.length,hl,⟨?_, .inr ⟨_,rfl,by omega,?_⟩,by omega, .inl (by omega),hs,h50,by omega⟩,?_,?_⟩
  ·have h2:=blk_set (blk_set hw 0 (.slice (some ⟨w.heap.size,0,none⟩) (2 * R.length+4) (2 * R.length+4))) 1 (.int .i64 0)
   rw[hl];exact h2
  ·exact blk_far (blk_far hr (p:=⟨g,0,none⟩) (by show w.heap.size≠g;omega) _) (p:=⟨g,1,none⟩) (by show w.heap.size≠g;omega) _
  ·unfold qL
   apply List.map_congr_left;intro i hi;exact ring_full _ _ _ (List.mem_range.1 hi)
  ·exact(((Ks.refl (fun k=>k=g) w).below hbw).set (g:=g) (fun _=>rfl) 0 _).set (g:=g) (fun _=>rfl) 1 _
end H
namespace H
open P
attribute [local irreducible] wpQuiet
set_option maxHeartbeats 2000000 in
set_option maxRecDepth 100000 in
theorem put_core (g b m fr sz mo j:Nat) (x:Int) (w:World) (c0:w.cell? ⟨g,0,none⟩=some (.slice (some ⟨b,0,none⟩) m m)) (c1:w.cell? ⟨g,1,none⟩=some (.int .i64 fr)) (c2:w.cell? ⟨g,2,none⟩=some (.int .i64 sz)) (c3:w.cell? ⟨g,3,none⟩=some (.int .i64 mo)) (y:Int) (cx:w.cell? ⟨b,j,none⟩=some (.int .i64 y)) (hj:(fr+sz) % m=j)
  (f2:w.frozen? ⟨g,2,none⟩=false) (fx:w.frozen? ⟨b,j,none⟩=false) (hne:g≠b) (hsm:sz<m) (hmo:sz<mo) (hm:m≤200) (hfr:fr<m) (hmo2:mo≤50):
  Calls Try.prog 101 #[.pointer (some ⟨g,0,none⟩), .int .i64 x] w fun e w'=>e= .returned (.int .i64 0)∧w'=((w.setCell ⟨b,j,none⟩ (.int .i64 x)).setCell ⟨g,2,none⟩ (.int .i64 ((sz:Int)+1))).drew.drew.drew:=by
 have hu:=Try.underlying149;have p0:(0:Int)≤(fr:Int):=by omega
 have p1:(fr:Int)<(m:Int):=by omega
 have p2:(m:Int)≤200:=by omega
 have p3:(sz:Int)<(m:Int):=by omega
 have p4:(0:Int)≤(sz:Int):=by omega
 have p5:(sz:Int)≤50:=by omega
 have p6:(0:Int)<(m:Int):=by omega
 have hj2:((fr:Int)+(sz:Int)) % (m:Int)=(j:Int):=by rw[← hj,Int.natCast_emod];rfl
 have hj1:(j:Int)<(m:Int):=by rw[← hj];have:=Nat.mod_lt (fr+sz) (show 0<m by omega);omega
 have hj0:(0:Int)≤(j:Int):=by omega
 have e1:((sz:Int) == (mo:Int))=false:=beq_eq_false_iff_ne.2 (by omega);have e2:((sz:Int) == (m:Int))=false:=beq_eq_false_iff_ne.2 (by omega);clear hj hsm hmo hfr;go_enter Try.func101,Try.ntmps101;go_wp2_with fail;go_region;go_wp2_with fail;go_region;go_wp2_with fail;go_region;go_wp2_with fail;go_ret;exact⟨rfl,rfl⟩
theorem qL_put (R:List Int) (fr sz:Nat) (x:Int) (h:sz<R.length):qL (R.set ((fr+sz) % R.length) x) fr (sz+1)=qL R fr sz ++ [x]:=by
 unfold qL;rw[List.range_succ,List.map_append,List.length_set];congr 1
 ·apply List.map_congr_left
  intro i hi;have hi:=List.mem_range.1 hi;rw[getD_set_ne];intro e;have h1:(fr+sz - (fr+i)) % R.length=0:=Nat.sub_mod_eq_zero_of_mod_eq e;rw[show fr+sz - (fr+i)=sz - i by omega,Nat.mod_eq_of_lt (by omega)] at h1;omega
 ·rw[List.map_cons,List.map_nil,getD_set_eq _ _ _ _ (Nat.mod_lt _ (by omega))]
theorem qu_put {w:World} {g b:Nat} {R:List Int} {fr sz mo:Nat} (h:Qu w g (some ⟨b,0,none⟩) R fr sz mo) (hs:sz<R.length) (hm:sz<mo) (x:Int):
  Qu ((w.setCell ⟨b,(fr+sz) % R.length,none⟩ (.int .i64 x)).setCell ⟨g,2,none⟩ (.int .i64 ((sz:Int)+1))) g (some ⟨b,0,none⟩) (R.set ((fr+sz) % R.length) x) fr (sz+1) mo:=by
 have hne:=h.ne;have hring:w.heap[b]? =some (.cells (nums .i64 R).toArray 3 (0,0)):=by
  rcases h.ring with ⟨h1,_⟩|⟨c,h1,h2,h3⟩
  ·cases h1
  ·cases h1;exact h3
 refine⟨?_, .inr ⟨b,rfl,by rw[List.length_set];omega,?_⟩,by rw[List.length_set];omega,?_,hm,h.mo50,by rw[List.length_set];exact h.len⟩
 ·rw[List.length_set]
  exact blk_set (blk_far h.hd (p:=⟨b,(fr+sz) % R.length,none⟩) hne _) 2 _
 ·have h1:=blk_far (blk_set hring ((fr+sz) % R.length) (.int .i64 x)) (p:=⟨g,2,none⟩) (Ne.symm hne) (.int .i64 ((sz:Int)+1))
  refine h1.trans ?_;simp[nums,List.map_set]
 ·rcases h.frr with h1|⟨_,h1⟩
  ·exact .inl (by rw[List.length_set];exact h1)
  ·rw[h1] at hs;exact absurd hs (by simp)
theorem que_put_room (g b:Nat) (R:List Int) (fr sz mo:Nat) (x:Int) (w:World) (h:Qu w g (some ⟨b,0,none⟩) R fr sz mo) (hs:sz<R.length) (hm:sz<mo):
  Calls Try.prog 101 #[.pointer (some ⟨g,0,none⟩), .int .i64 x] w fun e w'=>e= .returned (.int .i64 0)∧ ∃ R',Qu w' g (some ⟨b,0,none⟩) R' fr (sz+1) mo∧qL R' fr (sz+1)=qL R fr sz ++ [x]∧Ks (fun k=>k=g∨k=b) w w':=by
 have hring:w.heap[b]? =some (.cells (nums .i64 R).toArray 3 (0,0)):=by
  rcases h.ring with ⟨h1,_⟩|⟨c,h1,h2,h3⟩
  ·cases h1
  ·cases h1;exact h3
 have hfr:fr<R.length:=by
  rcases h.frr with h1|⟨_,h1⟩
  ·exact h1
  ·rw[h1] at hs;exact absurd hs (by simp)
 have hj:=Nat.mod_lt (fr+sz) (show 0<R.length by omega);have h50:=h.mo50;have hl:=h.len;refine(put_core g b R.length fr sz mo ((fr+sz) % R.length) x w ((Yc h.hd 0).trans rfl) ((Yc h.hd 1).trans rfl) ((Yc h.hd 2).trans rfl) ((Yc h.hd 3).trans rfl) _ ((Yc hring _).trans (nums_get R _ hj)) rfl (Yf h.hd 2) (Yf hring _) h.ne hs hm (by omega) hfr h50).mono ?_;rintro e w' ⟨rfl,rfl⟩;exact⟨rfl,_,(qu_put h hs hm x).below (below_drew (below_drew (below_drew (Yo _ _)))),qL_put R fr sz x hs,(((Ks.refl (fun k=>k=g∨k=b) w).set (g:=b) (fun _=> .inr rfl) _ _).set (g:=g) (fun _=> .inl rfl) _ _).below (below_drew (below_drew (below_drew (Yo _ _))))⟩
theorem que_grow_ (g:Nat) (A:Option Addr) (R:List Int) (fr m mo:Nat) (w:World) (hm:R.length=m) (h:Qu w g A R fr m mo):
  Calls Try.prog 108 #[.pointer (some ⟨g,0,none⟩)] w fun e w'=>e= .returned (.tuple #[])∧ ∃ R',R'.length=2 * m+4∧Qu w' g (some ⟨w.heap.size,0,none⟩) R' 0 m mo∧qL R' 0 m=qL R fr m∧Ks (fun k=>k=g) w w':=by
 subst hm;exact que_grow g A R fr mo w h
set_option maxHeartbeats 2000000 in
set_option maxRecDepth 100000 in
theorem que_put_grow (g:Nat) (A:Option Addr) (R:List Int) (fr mo:Nat) (x:Int) (w:World) (h:Qu w g A R fr R.length mo) (hm:R.length<mo):
  Calls Try.prog 101 #[.pointer (some ⟨g,0,none⟩), .int .i64 x] w fun e w'=>e= .returned (.int .i64 0)∧ ∃ b R',w.heap.size≤b∧Qu w' g (some ⟨b,0,none⟩) R' 0 (R.length+1) mo∧qL R' 0 (R.length+1)=qL R fr R.length ++ [x]∧Ks (fun k=>k=g) w w':=by
 have hu:=Try.underlying149;have H:=Ya h;have h50:=h.mo50;have c0:w.cell? ⟨g,0,none⟩=some (.slice A R.length R.length):=(Yc h.hd 0).trans rfl;have c2:w.cell? ⟨g,2,none⟩=some (.int .i64 R.length):=(Yc h.hd 2).trans rfl;have c3:w.cell? ⟨g,3,none⟩=some (.int .i64 mo):=(Yc h.hd 3).trans rfl;generalize hml:R.length=m at *;have HML:=Ya hml;clear hml h;have p4:(0:Int)≤(m:Int):=by omega
 have p5:(m:Int)≤50:=by omega
 have e1:((m:Int) == (mo:Int))=false:=beq_eq_false_iff_ne.2 (by omega);go_enter Try.func101,Try.ntmps101;go_wp2_with fail;go_region;go_wp2_with fail;go_region;go_wp2_with fail;clear c0 c2 c3;go_wp2_with (first|(go_at_call 108;refine(que_grow_ g A R fr m mo _ HML.out (H.out.below (below_drew (below_drew (Yo _ _))))).mono ?_;rintro e_ w3 ⟨rfl,R',hl',hq,hql,hk⟩;obtain⟨b,hbe⟩: ∃ b_,b_=w.heap.size:=⟨_,rfl⟩;(have hq:Qu w3 g (some ⟨b,0,none⟩) R' 0 m mo:=by(rw[hbe];exact hq));have HBE:=Ya hbe;clear hbe;have HQ:=Ya hq;have HQL:=Ya hql;have HK:=Ya hk;clear hq hql hk;obtain⟨M,hM⟩: ∃ M_,M_=R'.length:=⟨_,rfl⟩;have c0:w3.cell? ⟨g,0,none⟩=some (.slice (some ⟨b,0,none⟩) M M):=by(rw[hM];exact(Yc HQ.out.hd 0).trans rfl))|fail);have hm1:m<M:=by omega
 have hm2:M≤104:=by omega
 have hring:w3.heap[b]? =some (.cells (nums .i64 R').toArray 3 (0,0)):=by
  rcases HQ.out.ring with ⟨h1,_⟩|⟨c,h1,h2,h3⟩
  ·cases h1
  ·cases h1;exact h3
 have hne:=HQ.out.ne;have c1:w3.cell? ⟨g,1,none⟩=some (.int .i64 0):=(Yc HQ.out.hd 1).trans rfl;have c2:w3.cell? ⟨g,2,none⟩=some (.int .i64 m):=(Yc HQ.out.hd 2).trans rfl;have cx:w3.cell? ⟨b,m,none⟩=some (.int .i64 (R'.getD m 0)):=(Yc hring _).trans (nums_get R' _ (by omega));have fx:w3.frozen? ⟨b,m,none⟩=false:=Yf hring _;have f2:=Yf HQ.out.hd 2;generalize R'.getD m 0=yy at cx;have HM:=Ya hM;have HL:=Ya hl';clear hM hl' hring;have q0:(0:Int)<(M:Int):=by omega
 have q1:(m:Int)<(M:Int):=by omega
 have q2:(M:Int)≤104:=by omega
 have hj2:(m:Int) % (M:Int)=(m:Int):=Int.emod_eq_of_lt p4 q1;go_wp2_with fail;go_region;go_wp2_with fail;go_ret;have hmod:(0+m) % R'.length=m:=by rw[← HM.out,Nat.zero_add,Nat.mod_eq_of_lt hm1]
 have h1:=qu_put HQ.out (by rw[← HM.out];exact hm1) hm x;have h2:=qL_put R' 0 m x (by rw[← HM.out];exact hm1);rw[hmod] at h1 h2;refine⟨rfl,b,R'.set m x,by rw[HBE.out];exact Nat.le_refl _,?_,?_,?_⟩
 ·exact h1.below (below_drew (Yo _ _))
 ·exact h2.trans (by rw[HQL.out])
 ·have hk:Ks (fun k=>k=g) w w3:=HK.out.trans' (below_drew (below_drew (Yo _ _)))
  exact(((hk.set (g:=b) (fun hlt=>absurd hlt (by rw[HBE.out];exact Nat.lt_irrefl _)) _ _).set (g:=g) (fun _=>rfl) _ _)).below (below_drew (Yo _ _))
theorem que_new (mo:Nat) (w:World) (h50:mo≤50):
  Calls Try.prog 100 #[.int .i64 (mo:Int)] w fun e w'=> ∃ g,e= .returned (.tuple #[.pointer (some ⟨g,0,none⟩), .int .i64 0])∧w.heap.size≤g∧Qu w' g none [] 0 0 mo∧Below w.heap.size w w':=by
 have hrm:pile_room.f (mo:Int)=some true:=by
  unfold pile_room.f;rw[Yu (by omega)];simp;omega
 have HRM:=Ya hrm;clear hrm;have hu:=Try.underlying149;go_enter Try.func100,Try.ntmps100;go_wp2_with (first|(go_at_call 107;refine(pile_room.calls (mo:Int) true _ HRM.out).mono ?_;rintro e_ w1 ⟨rfl,hd⟩;have HD:=Ya hd.below;clear hd)|fail);go_ret2;have hw:=heap_alloc_new w1 (.cells #[.slice none 0 0, .int .i64 0, .int .i64 0, .int .i64 mo] 149);exact⟨w1.heap.size,rfl,HD.out.size,⟨hw, .inl ⟨rfl,rfl⟩,Nat.le_refl _, .inr ⟨rfl,rfl⟩,Nat.zero_le _,h50,Nat.zero_le _⟩,Ye HD.out _⟩
theorem que_put (g:Nat) (A:Option Addr) (R:List Int) (fr sz mo:Nat) (x:Int) (w:World) (h:Qu w g A R fr sz mo) (hm:sz<mo):
  Calls Try.prog 101 #[.pointer (some ⟨g,0,none⟩), .int .i64 x] w fun e w'=>e= .returned (.int .i64 0)∧ ∃ (A':Option Addr) (R':List Int) (fr':Nat),Qu w' g A' R' fr' (sz+1) mo∧qL R' fr' (sz+1)=qL R fr sz ++ [x]∧Ks (quS g A) w w'∧ ∀ k,quS g A' k→quS g A k∨w.heap.size≤k:=by
 by_cases hs:sz<R.length
 ·rcases h.ring with ⟨_,h1⟩|⟨b,rfl,_,_⟩
  ·rw[h1] at hs;exact absurd hs (by simp)
  ·refine(que_put_room g b R fr sz mo x w h hs hm).mono ?_
   rintro e w' ⟨rfl,R',h1,h2,h3⟩;exact⟨rfl,_,R',fr,h1,h2,h3.mono (fun k hk _=>hk.elim .inl (fun h=> .inr ⟨_,rfl,h⟩)),fun k hk=> .inl hk⟩
 ·have e:sz=R.length:=by have:=h.szr;omega
  subst e;refine(que_put_grow g A R fr mo x w h hm).mono ?_;rintro e w' ⟨rfl,b,R',h1,h2,h3,h4⟩;refine⟨rfl,_,R',0,h2,h3,h4.mono (fun k hk _=> .inl hk),fun k hk=> ?_⟩;rcases hk with rfl|⟨a,ha,rfl⟩
  ·exact .inl (.inl rfl)
  ·cases ha;exact .inr h1
end H
namespace P
attribute [local go_sem] max2_int min2_int max_two min_two max_three min_three max_four min_four
def bits_Mul64.f (a0:Int) (a1:Int):Option (Int × Int):=some (IntKind.u64.wrap ((IntKind.u64.wrap ((IntKind.u64.wrap ((a0 / 4294967296) * (a1 / 4294967296)))+((IntKind.u64.wrap ((IntKind.u64.wrap ((a0 / 4294967296) * (Go.bits .and .u64 a1 4294967295)))+((IntKind.u64.wrap ((Go.bits .and .u64 a0 4294967295) * (Go.bits .and .u64 a1 4294967295))) / 4294967296))) / 4294967296)))+((IntKind.u64.wrap ((Go.bits .and .u64 (IntKind.u64.wrap ((IntKind.u64.wrap ((a0 / 4294967296) * (Go.bits .and .u64 a1 4294967295)))+((IntKind.u64.wrap ((Go.bits .and .u64 a0 4294967295) * (Go.bits .and .u64 a1 4294967295))) / 4294967296))) 4294967295)+(IntKind.u64.wrap ((Go.bits .and .u64 a0 4294967295) * (a1 / 4294967296))))) / 4294967296)),IntKind.u64.wrap (a0 * a1))
set_option maxHeartbeats 8000000 in
set_option maxRecDepth 100000 in
theorem bits_Mul64.calls (a0:Int) (a1:Int) (r1:Int) (r2:Int) (w:World) (h:bits_Mul64.f a0 a1=some (r1,r2)):
  Calls Try.prog 111 #[.int .u64 a0, .int .u64 a1] w fun e w'=>e= .returned (.tuple #[.int .u64 r1, .int .u64 r2])∧Drawn0 w w':=by
 have H:=h;unfold bits_Mul64.f at H;clear h;simp only[Option.some.injEq,Prod.mk.injEq] at H;obtain⟨rfl,rfl⟩:=H;go_enter Try.func111,Try.ntmps111;go_wp2;go_ret2;exact⟨by first|rfl|(simp;done)|(simp[*];done),by repeat(first|exact Drawn0.refl _|apply Drawn0.step)⟩
end P
namespace P
attribute [local go_sem] max2_int min2_int max_two min_two max_three min_three max_four min_four
def bits_Mul.f (a0:Int) (a1:Int):Option (Int × Int):=(bits_Mul64.f a0 a1).bind fun bt463=>(some (bt463.1,bt463.2))
set_option maxHeartbeats 8000000 in
set_option maxRecDepth 100000 in
theorem bits_Mul.calls (a0:Int) (a1:Int) (r1:Int) (r2:Int) (w:World) (h:bits_Mul.f a0 a1=some (r1,r2)):
  Calls Try.prog 106 #[.int .u64 a0, .int .u64 a1] w fun e w'=>e= .returned (.tuple #[.int .u64 r1, .int .u64 r2])∧Drawn0 w w':=by
 have H:=h;unfold bits_Mul.f at H;clear h;replace H:=Option.bind_eq_some_iff.mp H;obtain⟨⟨t463,t464⟩,A30,H⟩:=H;try dsimp only at H
 have A3:=Ya A30;clear A30;simp only[Option.some.injEq,Prod.mk.injEq] at H;obtain⟨rfl,rfl⟩:=H;go_enter Try.func106,Try.ntmps106;go_wp2_with (first|((with_reducible refine gate_callee (f:=111) rfl ?_);refine gl (some 25) Try.func111 #[.int .u64 a0, .int .u64 a1] ?_;(with_reducible refine(bits_Mul64.calls a0 a1 t463 t464 _ A3.out).mono ?_);rintro e w' ⟨rfl,⟨nd,rfl⟩⟩;refine⟨_,rfl,?_⟩));go_ret2;exact⟨by first|rfl|(simp;done)|(simp[*];done),by repeat(first|exact Drawn0.refl _|apply Drawn0.step)⟩
end P
namespace H
open P
attribute [local irreducible] wpQuiet
theorem mul_small: ∀ n:Nat,n<51→bits_Mul.f 1 (n:Int)=some (0,(n:Int)):=by decide +kernel
theorem info3s:(Try.prog.info? 3).map (·.size)=some 1:=by kernel_rfl
def repAt (x:Int) (n k:Nat):List Value:=nums .i64 (List.replicate k x ++ List.replicate (n - k) 0)
theorem repAt_len (x:Int) (n k:Nat) (h:k≤n):(repAt x n k).length=n:=by simp[repAt,nums];omega
theorem made_rep (x:Int) (n:Nat) (hn:n≤50): ∀ W:World,(Instr.makeSlice 31 (.int .i64 (n:Int)) (.int .i64 (n:Int))).run Try.prog W= .ok (.slice (some ⟨W.heap.size,0,none⟩) n n) (W.alloc (.cells (repAt x n 0).toArray 3)):=by
 intro W;rw[print_make 31 3 .i64 8 Try.underlying31 (by kernel_rfl) (by omega) n (by omega) W];have hl:(madeCells #[Value.int .i64 0] n)=(repAt x n 0).toArray:=by
  apply Array.ext';apply List.ext_getElem
  ·simp[repAt,nums,madeCells]
  ·intro i h1 h2
   simp[repAt,nums,madeCells,Nat.mod_one]
 rw[hl]
theorem repAt_splice (x:Int) (n k m:Nat) (hk:k+m≤n):splice (repAt x n k) k (nums .i64 (List.replicate m x))=repAt x n (k+m):=by
 unfold repAt nums;simp only[List.map_append,List.map_replicate];unfold splice;rw[List.take_append_of_le_length (by simp),List.take_of_length_le (by simp),List.drop_append,List.drop_eq_nil_of_le (by simp),List.nil_append, ← List.append_assoc,List.replicate_append_replicate];simp;omega
theorem nums_one (L:List Int): ∀ v,v∈nums .i64 L→v.oneCell'=true:=by
 intro v hv;obtain⟨_,_,rfl⟩:=List.mem_map.1 hv;rfl
theorem one_cell {W:World} {b:Nat} {u:Value} (hc:W.cell? ⟨b,0,none⟩=some u): ∀ (j:Nat) (v:Value),[u][j]? =some v→W.cell? ((⟨b,0,none⟩:Addr).add j)=some v:=by
 intro j v hv;cases j with
 |zero=>rw[add_plain];injection hv with hv;rw[← hv];exact hc
 |succ j=>cases hv
set_option maxHeartbeats 2000000 in
set_option maxRecDepth 100000 in
theorem repeat_core (b c n:Nat) (x:Int) (w:World) (hb:w.cell? ⟨b,0,none⟩=some (.int .i64 x)) (hn0:0<n) (hn:n≤50):
  Calls Try.prog 99 #[.slice (some ⟨b,0,none⟩) 1 1, .int .i64 (n:Int)] w fun e w'=>e= .returned (.slice (some ⟨w.heap.size,0,none⟩) n n)∧w'.heap[w.heap.size]? =some (.cells (nums .i64 (List.replicate n x)).toArray 3 (0,0))∧Below w.heap.size w w':=by
 have hmul:=mul_small n (by omega);have HM:=Ya hmul;clear hmul;have hmk:=made_rep x n hn;have hbl:=Yb w _ hb;have HBC:=Ya hb;have q1:(n:Int)≤50:=by omega
 have q2:(0:Int)<(n:Int):=by omega
 have e1:decide ((n:Int)<0)=false:=Yt (by omega);go_enter Try.func99,Try.ntmps99;go_wp2_with (first|(go_at_call 106;refine(bits_Mul.calls 1 (n:Int) 0 (n:Int) _ HM.out).mono ?_;rintro e_ w1 ⟨rfl,hd⟩;obtain⟨nq,hnq⟩:=hd.out;subst hnq)|((with_reducible refine wpList_copy_splice rfl (.tmp 31) (.tmp 32) 31 31 rfl 3 Try.underlying31 info3s (some ⟨w.heap.size,0,none⟩) (some ⟨b,0,none⟩) n n 1 1 rfl rfl w.heap.size 0 (repAt x n 0) 3 (heap_alloc_new _ _) [.int .i64 x] ?cn (fun _=>⟨rfl,⟨b,0,none⟩,rfl,?cc⟩) ?cf ?c1 w.heap.size w ?cb (Nat.le_refl _) ?_);(case cn=>(show 1=min 1 n;omega));(case cc=>exact one_cell (pw_cell_below (Ye (Yd (Yo _ _) nq) _) HBC.out));(case cf=>(rw[repAt_len x n 0 (Nat.zero_le _)];show 0+1≤n;omega));(case c1=>simp[Value.oneCell']);(case cb=>exact Ye (Yd (Yo _ _) nq) _);intro w2 hr hbw;have HR:=Ya (hr.trans (by rw[show ([.int .i64 x]:List Value)=nums .i64 (List.replicate 1 x) from rfl,repAt_splice x n 0 1 (by omega)]));have HB:=Ya hbw;clear hr hbw)|fail);clear hmk;go_loopw [8] (fun v8 w'=> ∃ k:Nat,0<k∧k≤n∧v8= .int .i64 k∧Aside0 (w'.heap[w.heap.size]? =some (.cells (repAt x n k).toArray 3 (0,0)))∧Aside0 (Below w.heap.size w w')) (fun v8 _=>n - (intOf v8).toNat)
 case atStart=>exact⟨1,by omega,by omega,rfl,HR,HB⟩
 case round=>
  clear HR HB;obtain⟨k,hk0,hk,rfl,HR,HB⟩:=hrel;by_cases hlt:k<n
  ·have e2:decide ((k:Int)<(n:Int))=true:=Ys (by omega)
   have r0:(0:Int)≤(k:Int):=by omega
   have r1:(k:Int)≤(n:Int):=by omega
   have r2:(k:Int)<(n:Int):=by omega
   have r3: ¬ n=k:=by omega
   obtain⟨m,hm⟩: ∃ m_,m_=min k (n - k):=⟨_,rfl⟩;have hm1:k+m≤n:=by omega
   have hm2:0<m:=by omega
   have hm3:m≤k:=by omega
   have hsrc: ∀ (W:World),W.heap=wr.heap→ ∀ (j:Nat) (v:Value),(nums .i64 (List.replicate m x))[j]? =some v→W.cell? ((⟨w.heap.size,0,none⟩:Addr).add j)=some v:=by
    intro W hW j v hv;rw[add_plain,World.cell?_of_block (w:=wr) (by rw[hW]),Yc HR.out j];have hj:j<m:=by have:=(List.getElem?_eq_some_iff.1 hv).1;simpa [nums] using this
    rw[← hv];simp only[repAt,nums,List.map_append,List.map_replicate,List.getElem?_toArray];rw[List.getElem?_append_left (by simp;omega),List.getElem?_replicate,List.getElem?_replicate,Yu (by omega),Yu hj]
   have HS:=Ya hsrc;have HM2:Aside0 ((nums .i64 (List.replicate m x)).length=Nat.min k (n - k)):=⟨by rw[nums_length,List.length_replicate];exact hm⟩;have HFT:Aside0 (k+(nums .i64 (List.replicate m x)).length≤(repAt x n k).length):=⟨by rw[repAt_len x n k hk,nums_length,List.length_replicate];exact hm1⟩;clear hsrc hm;have hwr:IntKind.i64.wrap ((k:Int)+(m:Int))=(k:Int)+(m:Int):=IntWalk.i64_in _ (by omega);go_wp2_with fail;go_region_held3 (fun w'=>True) (trivial)
    ((refine step_copy_splice rfl _ _ 31 31 (by rfl) 3 Try.underlying31 info3s (some ⟨w.heap.size,k,none⟩) (some ⟨w.heap.size,0,none⟩) (n - k) (n - k) k n (by rfl) (by rfl) w.heap.size k (repAt x n k) 3 HR.out _ HM2.out (fun _=>⟨rfl,⟨w.heap.size,0,none⟩,rfl,HS.out _ (by rfl)⟩) HFT.out (nums_one _) w.heap.size w (below_drew HB.out) (Nat.le_refl _) ?_;intro w9 hr9 hb9))
   have HR9:Aside0 (w9.heap[w.heap.size]? =some (.cells (repAt x n (k+m)).toArray 3 (0,0))):=⟨by rw[← repAt_splice x n k m hm1];exact hr9⟩;have HB9:=Ya hb9;rw[nums_length,List.length_replicate,hwr];clear hr9 hb9 hwr HM2 HFT HS;go_wp2_with fail;go_roundw
   case rel=>exact⟨k+m,by omega,hm1,by go_num,HR9,HB9⟩
   case measure=>simp[intOf];omega
  ·have ek:k=n:=by omega
   subst ek;have e2:decide ((k:Int)<(k:Int))=false:=Yt (by omega);go_wp2_with fail;go_ret;exact⟨rfl,HR.out.trans (by simp[repAt]),HB.out⟩
end H
namespace H
theorem exists_least {P:Nat→Prop} : ∀ m,P m→ ∃ n,P n∧ ∀ k,P k→n≤k:=by
 intro m
 induction m using Nat.strongRecOn with
 |_ m ih=>
  intro hm;by_cases h: ∃ k,k<m∧P k
  ·obtain⟨k,hk,hp⟩:=h
   exact ih k hk hp
  ·exact⟨m,hm,fun k hk=>Nat.le_of_not_lt fun hl=>h ⟨k,hl,hk⟩⟩
open Classical in
noncomputable def least (P:Nat→Prop):Nat:=if h: ∃ n,P n∧ ∀ k,P k→n≤k then Classical.choose h else 0
theorem least_both {P:Nat→Prop} (h: ∃ m,P m):P (least P)∧ ∀ k,P k→least P≤k:=by
 obtain⟨m,hm⟩:=h;unfold least;rw[dif_pos (exists_least m hm)];exact Classical.choose_spec (exists_least m hm)
theorem least_spec {P:Nat→Prop} (h: ∃ m,P m):P (least P):=(least_both h).1
theorem least_le {P:Nat→Prop} {m:Nat} (h:P m):least P≤m:=(least_both ⟨m,h⟩).2 m h
theorem least_lt {P Q:Nat→Prop} {m:Nat} (h:Q m) (hm:m<least P):least Q<least P:=Nat.lt_of_le_of_lt (least_le h) hm
end H
namespace H
open P
attribute [local irreducible] wpQuiet
def stz (n:Nat):List Value:=stC (List.replicate n z79)
theorem made_steps (n:Nat) (hn:n≤50): ∀ W:World,(Instr.makeSlice 67 (.int .i64 (n:Int)) (.int .i64 (n:Int))).run Try.prog W= .ok (.slice (some ⟨W.heap.size,0,none⟩) n n) (W.alloc (.cells (stz n).toArray 79)):=by
 intro W;obtain⟨i0,hi,hzz⟩:=Option.map_eq_some_iff.1 info79;simp only[Prod.mk.injEq] at hzz;obtain⟨hz0,hz1,hz2⟩:=hzz;have hr:=run_make (P:=Try.prog) W 67 79 i0 _ Try.underlying67 hi hz0 .i64 .i64 (n:Int) (n:Int) (by omega) (by omega) (by rw[hz2];omega) (by omega);rw[hz1] at hr;simp only[Int.toNat_natCast] at hr;have hl:(madeCells (Value.agg #[.int .i64 0, .bool false]).cells (n * 2))=(stz n).toArray:=by
  apply Array.ext';apply List.ext_getElem?;intro i;unfold stz;by_cases h:i<n * 2
  ·have h2:=stC_get z79 (List.replicate n z79) (i / 2) (by simp;omega)
   have hg:(List.replicate n z79).getD (i / 2) z79=z79:=by
    rw[List.getD_eq_getElem?_getD,List.getElem?_replicate,Yu (by omega)];rfl
   rw[hg] at h2;rcases Nat.mod_two_eq_zero_or_one i with hm|hm
   ·rw[show i / 2 * 2=i by omega] at h2
    show _=(stC _)[i]?;rw[h2.1];simp[madeCells,Value.cells,h,hm,z79]
   ·rw[show i / 2 * 2+1=i by omega] at h2
    show _=(stC _)[i]?;rw[h2.2];simp[madeCells,Value.cells,h,hm,z79]
  ·rw[List.getElem?_eq_none (by simp[size_madeCells];omega),List.getElem?_eq_none (by simp[stC_len];omega)]
 rw[← hl];exact hr
structure Sm (n0:Nat) (Zc:Bool) (A2:Option Addr) (c2:Nat) (l:List S50) (A3:Option Addr) (c3:Nat) (F:List Int) (A4:Option Addr) (c4:Nat) (g3 gd gb gq:Nat) (w:World) (st:List (Fd S79)) (i:Nat) (w':World):Prop where
 D:IsI w' gd (dOf n0 st)
 B:IsS w' gb (bOf z79 n0 st)
 b3:w'.heap[g3]? =some (.cells #[.int .i64 n0, .bool Zc, .slice A2 l.length c2, .slice A3 F.length c3, .slice A4 n0 c4] 107 (0,0))
 que: ∃ (A:Option Addr) (R:List Int) (fr:Nat),Qu w' gq A R fr (st.length - i) n0∧qL R fr (st.length - i)=qOf st i∧ ∀ k,quS gq A k→w.heap.size≤k∧k≠gd∧k≠gb∧k≠g3
 below:Below w.heap.size w w'
theorem Sm.step {n0:Nat} {Zc:Bool} {A2:Option Addr} {c2:Nat} {l:List S50} {A3:Option Addr} {c3:Nat} {F:List Int} {A4:Option Addr} {c4:Nat} {g3 gd gb gq:Nat} {w:World} {st:List (Fd S79)} {i:Nat} {w1 w2:World}
  (h:Sm n0 Zc A2 c2 l A3 c3 F A4 c4 g3 gd gb gq w st i w1) (hb:Below w1.heap.size w1 w2):Sm n0 Zc A2 c2 l A3 c3 F A4 c4 g3 gd gb gq w st i w2:=by
 obtain⟨A,R,fr,h1,h2,h3⟩:=h.que;exact⟨h.D.below hb,h.B.below hb,Yn h.b3 hb,⟨A,R,fr,h1.below hb,h2,h3⟩,Yk h.below hb⟩
def seekW (w:World) (gd gb u:Nat) (a:Int) (e:S79):World:=(((w.setCell ⟨gd,u,none⟩ (.int .i64 a)).setCell ⟨gb,u * 2,none⟩ (.int .i64 e.f0)).setCell ⟨gb,u * 2+1,none⟩ (.bool e.f1)).drew
theorem seek_far (w:World) {gd gb g:Nat} (u:Nat) (a:Int) (e:S79) (h1:g≠gd) (h2:g≠gb):(seekW w gd gb u a e).heap[g]? =w.heap[g]? :=
 (Below.heap_setCell _ ⟨gb,u * 2+1,none⟩ _ g h2).trans ((Below.heap_setCell _ ⟨gb,u * 2,none⟩ _ g h2).trans (Below.heap_setCell _ ⟨gd,u,none⟩ _ g h1))
theorem seek_D {w:World} {gd gb:Nat} {D:List Int} (h:IsI w gd D) (hne:gd≠gb) (u:Nat) (a:Int) (e:S79):IsI (seekW w gd gb u a e) gd (D.set u a):=
 IsI.below ((((h.put u a).far (p:=⟨gb,u * 2,none⟩) hne _)).far (p:=⟨gb,u * 2+1,none⟩) hne _) (below_drew (Yo _ _))
theorem seek_B {w:World} {gd gb:Nat} {B:List S79} (h:IsS w gb B) (hne:gd≠gb) (u:Nat) (a:Int) (e:S79):IsS (seekW w gd gb u a e) gb (B.set u e):=
 IsS.below ((h.far (p:=⟨gd,u,none⟩) (Ne.symm hne) _).put u e) (below_drew (Yo _ _))
def SR (n0:Nat) (Zc:Bool) (A2:Option Addr) (c2:Nat) (l:List S50) (A3:Option Addr) (c3:Nat) (F:List Int) (A4:Option Addr) (c4:Nat) (g3 gd gb gq s:Nat) (t:Int) (w w':World) (m:Nat):Prop:=
 ∃ (st:List (Fd S79)) (i:Nat),m=n0 - i∧Lp l F n0 s t st i∧Sm n0 Zc A2 c2 l A3 c3 F A4 c4 g3 gd gb gq w st i w'
set_option maxHeartbeats 2000000 in
set_option maxRecDepth 100000 in
theorem seek_calls (n0:Nat) (Zc:Bool) (A2:Option Addr) (c2:Nat) (l:List S50) (A3:Option Addr) (c3:Nat) (F:List Int) (A4:Option Addr) (c4:Nat) (s:Nat) (t:Int) (w:World)
  (hR:Right l F n0) (hs:s<n0) (hts:t≠s) (hc2:l.length≤c2) (hc3:F.length≤c3) (h2:Kd.C k50 w A2 l.length l) (h3:Kd.C (Kd.int .i64) w A3 F.length F) (h4:(Kd.slice 79 k79).C w A4 n0 (rowsAt l n0 n0)):
  Calls Try.prog 91 #[.agg #[.int .i64 n0, .bool Zc, .slice A2 l.length c2, .slice A3 F.length c3, .slice A4 n0 c4], .int .i64 (s:Int), .int .i64 t] w fun e w'=> ∃ (gd gb:Nat) (st:List (Fd S79)),e= .returned (.tuple #[.slice (some ⟨gd,0,none⟩) n0 n0, .slice (some ⟨gb,0,none⟩) n0 n0])∧w.heap.size≤gd∧w.heap.size≤gb∧gd≠gb∧IsI w' gd (dOf n0 st)∧IsS w' gb (bOf z79 n0 st)∧Below w.heap.size w w'∧Seen l F n0 s t st:=by
 have hu24:=Try.underlying24;have hu115:=Try.underlying104;have hu118:=Try.underlying107;have HR:=Ya hR;have HC2:=Ya hc2;have HC3:=Ya hc3;have H2:=Ya h2;have H3:=Ya h3;have H4:=Ya h4;have HTS:=Ya hts;have hn50:n0≤50:=hR.fifty;have hn0:0<n0:=hR.pos;obtain⟨ad4,eA4⟩: ∃ ad,A4=some ad:=by
  obtain⟨ad,c,h_,_⟩:=Kd.C_get H4.out [] (0:Int) (by omega) (by omega);exact⟨ad,h_⟩
 subst eA4;have hmk:=made_steps n0 hn50;have HB:=Ya (Yo w.heap.size w);clear hR h2 h3 h4 hc2 hc3 hts;go_enter Try.func91,Try.ntmps91;go_upto_region 1 with (first|((with_reducible refine gate_dst (N:=3) rfl ?_);refine Yw ?hg (N:=3) ?hd (cs:= #[.int .i64 n0, .bool Zc, .slice A2 l.length c2, .slice A3 F.length c3, .slice (some ad4) n0 c4]) (t:=107) ?hr ?_;(case hd=>rfl);(case hg=>rfl);(case hr=>first|(go_simp;done)|(go_simp;rfl));intro g3 hg w5 Zg hb;have n0_:=Ya (Yk HB.out hb);have B3:=Ya Zg;clear HB;have HB:=n0_;have GE3:Aside0 (w.heap.size≤g3):=⟨Nat.le_of_eq hg.symm⟩;clear n0_ hb Zg hg)|fail)
 have hc0:w5.cell? ⟨g3,0,none⟩=some (.int .i64 n0):=(Yc B3.out 0).trans rfl;go_step3;go_upto_region 1 with fail
 go_cut [6,7] (fun v6 v7 wx=> ∃ gd gb:Nat,v6= .slice (some ⟨gd,0,none⟩) n0 n0∧v7= .slice (some ⟨gb,0,none⟩) n0 n0∧Aside0 (IsI wx gd (List.replicate n0 (-1)))∧Aside0 (IsS wx gb (List.replicate n0 z79))∧Aside0 (w5.heap.size≤gd∧w5.heap.size≤gb∧gd≠gb)∧Aside0 (Below w5.heap.size w5 wx))
 case first=>
  go_region_held3 (fun w'=>w'.cell? ⟨g3,0,none⟩=some (.int .i64 n0)) (first|(exact pw_cell_below (below_drew (Yo _ _)) (by assumption))|(exact pw_cell_below (Ye (Yo _ _) _) (by assumption))|(exact pw_cell_below hbr (by assumption))|go_keep)
   (first|(go_at_call 99;refine(repeat_core _ 1 n0 (-1) _ (by simp[go_sem]) hn0 hn50).mono ?_;rintro e_ w6 ⟨rfl,hrep,hbr⟩))
  ·go_wp2_with fail
   go_meet;have hbb:=Yk (below_drew (Ye (Yo w5.heap.size w5) _)) hbr;have hsz:=hbr.size;have e1:(w5.alloc (.cells #[.int .i64 (-1)] 3)).drew.heap.size=w5.heap.size+1:=by simp
   rw[e1] at hrep hsz;exact⟨w5.heap.size+1,w6.heap.size,rfl,rfl,⟨IsI.below hrep (Ye (Yo _ _) _)⟩,⟨heap_alloc_new w6 _⟩,⟨Nat.le_succ _,Nat.le_of_succ_le hsz,Nat.ne_of_lt (blk_lt hrep)⟩,⟨Ye hbb _⟩⟩
  ·go_wp2_with fail
   go_meet;have hbb:=Yk (below_drew (Ye (Ye (Yo w5.heap.size w5) _) _)) hbr;have hsz:=hbr.size;have e1:((w5.alloc (.cells #[.int .i64 (-1)] 3)).alloc (.cells (stz n0).toArray 79)).drew.heap.size=w5.heap.size+2:=by simp
   rw[e1] at hrep hsz;have hst:IsS w6 (w5.heap.size+1) (List.replicate n0 z79):=by
    refine IsS.below (w:=((w5.alloc (.cells #[.int .i64 (-1)] 3)).alloc (.cells (stz n0).toArray 79)).drew) ?_ hbr;have h_:=heap_alloc_new (w5.alloc (.cells #[.int .i64 (-1)] 3)) (.cells (stz n0).toArray 79);have e2:(w5.alloc (.cells #[.int .i64 (-1)] 3)).heap.size=w5.heap.size+1:=by simp
    rw[e2] at h_;exact h_
   exact⟨w5.heap.size+2,w5.heap.size+1,rfl,rfl,⟨hrep⟩,⟨hst⟩,⟨by omega,by omega,by omega⟩,⟨hbb⟩⟩
  ·go_wp2_with fail
   go_meet;have hbb:=Yk (below_drew (Ye (Ye (Yo w5.heap.size w5) _) _)) hbr;have hsz:=hbr.size;have e1:((w5.alloc (.cells (stz n0).toArray 79)).alloc (.cells #[.int .i64 (-1)] 3)).drew.heap.size=w5.heap.size+2:=by simp
   rw[e1] at hrep hsz;have hst:IsS w6 w5.heap.size (List.replicate n0 z79):=by
    refine IsS.below (w:=((w5.alloc (.cells (stz n0).toArray 79)).alloc (.cells #[.int .i64 (-1)] 3)).drew) ?_ hbr;exact IsS.below (w:=w5.alloc (.cells (stz n0).toArray 79)) (heap_alloc_new w5 _) (below_drew (Ye (Yo _ _) _))
   exact⟨w5.heap.size+2,w5.heap.size,rfl,rfl,⟨hrep⟩,⟨hst⟩,⟨by omega,by omega,by omega⟩,⟨hbb⟩⟩
 case rest=>
  obtain⟨gd,gb,rfl,rfl,HD,HS,HG,HBC⟩:=hcut;have m0_:=Ya (Yk HB.out HBC.out);have m1_:=Ya (Yn B3.out HBC.out);clear hmk hc0;have GD:Aside0 (g3≠gd∧g3≠gb∧gd≠gb∧w.heap.size≤gd∧w.heap.size≤gb):=⟨by have h1:=blk_lt B3.out;have h2:=HG.out;have h3:=HB.out.size;omega⟩;clear HB B3 HG HBC;have HB:=m0_;have B3:=m1_;clear m0_ m1_;have hd0:wc.cell? ⟨gd,s,none⟩=some (.int .i64 ((List.replicate n0 (-1:Int)).getD s 0)):=HD.out.cell (by simpa using hs);have hf0:=HD.out.free s;have ps:(0:Int)≤(s:Int):=by omega
  have qs:(s:Int)<(n0:Int):=by omega
  have hc0:wc.cell? ⟨g3,0,none⟩=some (.int .i64 n0):=(Yc B3.out 0).trans rfl;have hn3:g3≠gd:=GD.out.1;go_wp2_with fail;have m0_:Aside0 (IsI (wc.setCell ⟨gd,s,none⟩ (.int .i64 0)) gd (dOf n0 [⟨s,z79,0⟩])):=⟨by rw[dOf_one];exact HD.out.put s 0⟩;have m1_:Aside0 (IsS (wc.setCell ⟨gd,s,none⟩ (.int .i64 0)) gb (bOf z79 n0 [⟨s,z79,0⟩])):=⟨by rw[bOf_one];exact HS.out.far (by have:=GD.out;show gb≠gd;omega) _⟩;have m2_:Aside0 ((wc.setCell ⟨gd,s,none⟩ (.int .i64 0)).heap[g3]? =some (.cells #[.int .i64 n0, .bool Zc, .slice A2 l.length c2, .slice A3 F.length c3, .slice (some ad4) n0 c4] 107 (0,0))):=⟨blk_far B3.out (p:=⟨gd,s,none⟩) hn3 _⟩;have m3_:=Ya (Yh (j:=s) (v:= .int .i64 0) HB.out GD.out.2.2.2.1);clear HD HS B3 HB hd0 hf0 hc0 hn3;have HD:=m0_;have HS:=m1_;have B3:=m2_;have HB:=m3_;clear m0_ m1_ m2_ m3_;generalize wc.setCell ⟨gd,s,none⟩ (.int .i64 0)=w8 at *;go_wp2_with (first|(go_at_call 100;refine(que_new n0 _ hn50).mono ?_;rintro e_ w9 ⟨gq,rfl,hge,hq,hbq⟩;have m0_:=Ya (HD.out.below hbq);have m1_:=Ya (HS.out.below hbq);have m2_:=Ya (Yn B3.out hbq);have m3_:=Ya (Yk HB.out hbq);have GQ:Aside0 (w.heap.size≤gq∧gq≠gd∧gq≠gb∧gq≠g3):=⟨by have h1:=HD.out.lt;have h2:=HS.out.lt;have h3:=blk_lt B3.out;have h4:=HB.out.size;omega⟩;have HQ:=Ya hq;clear HD HS B3 HB hq hbq hge;have HD:=m0_;have HS:=m1_;have B3:=m2_;have HB:=m3_;clear m0_ m1_ m2_ m3_)|(go_at_call 101;refine(que_put_grow gq none [] 0 n0 (s:Int) _ HQ.out hn0).mono ?_;rintro e_ w10 ⟨rfl,bq,R1,hbq,hq,hql,hk⟩;have HM:Aside0 (Sm n0 Zc A2 c2 l A3 c3 F (some ad4) c4 g3 gd gb gq w [⟨s,z79,0⟩] 0 w10):=⟨⟨HD.out.kept hk (Ne.symm GQ.out.2.1),HS.out.kept hk (Ne.symm GQ.out.2.2.1),hk.blk B3.out (Ne.symm GQ.out.2.2.2),⟨_,R1,0,hq,hql,fun k hk2=>(by rcases hk2 with rfl|⟨a,ha,rfl⟩;exact GQ.out;cases ha;have h1:=HD.out.lt;have h2:=HS.out.lt;have h3:=blk_lt B3.out;have h4:=HB.out.size;show w.heap.size≤bq∧bq≠gd∧bq≠gb∧bq≠g3;omega)⟩,hk.toBelow HB.out HB.out.size (fun b hb=>by have:=GQ.out;omega)⟩⟩;clear HD HS B3 HB HQ hq hql hk hbq)|fail);go_step3;go_wp2_with fail;go_loopw [10] (fun v10 w'=> ∃ m,SR n0 Zc A2 c2 l A3 c3 F (some ad4) c4 g3 gd gb gq s t w w' m) (fun _ w'=>least (SR n0 Zc A2 c2 l A3 c3 F (some ad4) c4 g3 gd gb gq s t w w'))
  case atStart=>exact⟨_,_,_,rfl,lp_start hs HTS.out,HM.out⟩
  case round=>
   clear HM;have hsp:=least_spec hrel;obtain⟨M,hM⟩: ∃ M_,M_=least (SR n0 Zc A2 c2 l A3 c3 F (some ad4) c4 g3 gd gb gq s t w wr):=⟨_,rfl⟩;rw[← hM] at hsp;have HLE:=Ya hM;clear hM hrel;obtain⟨st,i,hmi,hlp,hsm⟩:=hsp;have HMI:=Ya hmi;have HLP:=Ya hlp;have HSM:=Ya hsm;clear hmi hlp hsm;have hstn:=HLP.out.len HR.out hs;have hile:=HLP.out.ile;obtain⟨A,R,fr,hq,hql,hsep⟩:=HSM.out.que;by_cases hlt:i<st.length
   ·obtain⟨x,hx⟩: ∃ x,st[i]? =some x:=⟨_,List.getElem?_eq_getElem hlt⟩
    obtain⟨k,hk⟩: ∃ k,st.length - i=k+1:=⟨st.length - i - 1,by omega⟩;rw[hk] at hq hql;have hk2:st.length - (i+1)=k:=by omega
    obtain⟨bq,eA⟩: ∃ b,A=some ⟨b,0,none⟩:=by
     rcases hq.ring with ⟨_,h1⟩|⟨b,h1,_⟩
     ·have:=hq.szr;rw[h1] at this;simp at this
     ·exact⟨b,h1⟩
    subst eA;have hfr:fr<R.length:=by
     rcases hq.frr with h1|⟨_,h1⟩
     ·exact h1
     ·have:=hq.szr;rw[h1] at this;simp at this
    rw[qL_take R fr k hfr,qOf_cons hx] at hql;injection hql with hv hql
    have hxn:x.v<n0:=fds_lt HLP.out.upto.fds (esP_to HR.out) hs _ (List.mem_map_of_mem (List.mem_of_getElem? hx));have HTK:=Ya (by have h_:=que_take gq bq R fr k n0 wr hq;rw[hv] at h_;exact h_);have HQL:=Ya hql;have HSEP:=Ya hsep;have HX:=Ya hx;have HQ:=Ya hq;have HK2:=Ya hk2;obtain⟨ad,cv0,had,_,hKv,hcell⟩:=Kd.C_get H4.out [] (x.v:Int) (by omega) (by omega);cases had;have hrow:(rowsAt l n0 n0).getD (x.v:Int).toNat []=stL l x.v l.length:=by rw[Int.toNat_natCast,List.getD_eq_getElem?_getD,rowsAt_get l n0 n0 _ hxn,Yu hxn];rfl
    rw[hrow] at hKv;obtain⟨Av,cv,rfl,hlv,hCv⟩:=hKv;have hrw:=hcell 0 _ rfl;have e0:(x.v:Int).toNat * (Kd.slice 79 k79).sz+0=x.v:=by rw[Int.toNat_natCast];show x.v * 1+0=x.v;omega
    rw[e0] at hrw;have HCV:=Ya hCv;have HRC:=Ya hrw;have px:(0:Int)≤(x.v:Int):=by omega
    have qx:(x.v:Int)<(n0:Int):=by omega
    obtain⟨v,hvx⟩: ∃ v_,v_=x.v:=⟨_,rfl⟩;have hlen4:(stL l x.v l.length).length≤400:=by have:=stL_len l x.v l.length;have:=HR.out.arcs;omega
    clear hq hql hsep hx hv hk hk2 hcell hrow hlv hCv hrw e0;have e1:decide ((0:Int)<(k:Int)+1)=true:=Ys (by omega);go_wp2_with (first|(go_at_call 102;refine(que_len gq _ R fr (k+1) n0 _ HQ.out).mono ?_;rintro e_ w_ ⟨rfl,hw_⟩;subst hw_)|(go_at_call 103;refine HTK.out.mono ?_;rintro e_ w11 ⟨rfl,hq2,hk11⟩;have HM:Aside0 (Sm n0 Zc A2 c2 l A3 c3 F (some ad4) c4 g3 gd gb gq w st (i+1) w11):=⟨⟨HSM.out.D.kept hk11 (fun e=>(HSEP.out gq (.inl rfl)).2.1 e.symm),HSM.out.B.kept hk11 (fun e=>(HSEP.out gq (.inl rfl)).2.2.1 e.symm),hk11.blk HSM.out.b3 (fun e=>(HSEP.out gq (.inl rfl)).2.2.2 e.symm),⟨_,R,_,by rw[HK2.out];exact hq2,by rw[HK2.out];exact HQL.out,HSEP.out⟩,hk11.toBelow HSM.out.below HSM.out.below.size (fun b hb=>by have:=HSEP.out gq (.inl rfl);omega)⟩⟩;clear hq2 hk11;have hc4:w11.cell? ⟨g3,4,none⟩=some (.slice (some ad4) n0 c4):=(Yc HM.out.b3 4).trans rfl;have hcr:=pw_cell_below HM.out.below HRC.out)|fail);clear hc4 hcr HRC;obtain⟨LN,hLN⟩: ∃ n_,n_=(stL l x.v l.length).length:=⟨_,rfl⟩;rw[← hLN] at hlen4 ⊢;have HLN:=Ya hLN;clear hLN;obtain⟨w2,hw2⟩: ∃ x_:World,x_=w11:=⟨_,rfl⟩;subst hw2;go_loopw [54] (fun v54 w'=> ∃ (j:Nat) (stj:List (Fd S79)),j≤LN∧v54= .int .i64 j∧Aside0 (Li l F n0 s t x (proc (toP l) (esP l F) st x) stj i j)∧Aside0 (Sm n0 Zc A2 c2 l A3 c3 F (some ad4) c4 g3 gd gb gq w stj (i+1) w')) (fun v54 _=>LN - (intOf v54).toNat)
    case atStart=>exact⟨0,st,Nat.zero_le _,rfl,⟨HLP.out.inner HX.out⟩,HM⟩
    case round=>
     clear HM;obtain⟨j,stj,hj,rfl,HLI,HSJ⟩:=hrel;by_cases hltj:j<LN
     ·have c55:decide ((j:Int)<(LN:Int))=true:=Ys (by omega)
      have pj:(0:Int)≤(j:Int):=by omega
      have qj:(j:Int)<(LN:Int):=by omega
      obtain⟨adj,eadj,hs0,hs1⟩:=at_T79 (Yq HCV.out HSJ.out.below) (j:Int) pj (by rw[← HLN.out];exact qj);cases eadj;simp only[Int.toNat_natCast] at hs0 hs1;obtain⟨e,hee⟩: ∃ e_,e_=rd_T79 (stL l x.v l.length) (j:Int):=⟨_,rfl⟩;rw[← hee] at hs0 hs1;have hej:(stL l x.v l.length)[j]? =some e:=by
       rw[hee];unfold rd_T79;rw[Int.toNat_natCast,List.getD_eq_getElem?_getD,List.getElem?_eq_getElem (by rw[← HLN.out];exact hltj)];rfl
      have hso:StepOf l e:=stL_of (List.mem_of_getElem? hej);have HEJ:=Ya hej;have HSO:=Ya hso;clear hee hej hso;obtain⟨u,hu⟩: ∃ u_:Nat,stTo l e=(u_:Int):=⟨(stTo l e).toNat,by have:=stTo_in HR.out HSO.out;omega⟩;obtain⟨rm,hrm⟩: ∃ d_,d_=stRoom l F e:=⟨_,rfl⟩;obtain⟨y,hy⟩: ∃ y_,y_=(dOf n0 stj).getD u 0:=⟨_,rfl⟩;have hun:u<n0:=by have:=stTo_in HR.out HSO.out;omega
      have hup:toP l e=u:=by unfold toP;rw[hu,Int.toNat_natCast]
      have HTO:=Ya (to_f HR.out HSO.out (n0:Int) Zc);have HRM:=Ya (room_f HR.out HSO.out (n0:Int) Zc);rw[hu] at HTO;rw[← hrm] at HRM;have hrm0:0≤rm:=by rw[hrm];exact(stRoom_in HR.out HSO.out).1
      have HY:=Ya hy;have HUP:=Ya hup;have HRMV:=Ya hrm;have hneg:=dOf_neg stj 0 hun;rw[← hy] at hneg;clear hu hrm hy hup;have pu:(0:Int)≤(u:Int):=by omega
      have qu:(u:Int)<(n0:Int):=by omega
      by_cases hmem:u∈nodes stj
      ·have hy0: ¬ y<0:=fun h=>hneg.1 h hmem
       have ey:decide (0≤y)=true:=Ys (by omega);have HNX:Aside0 (Li l F n0 s t x (proc (toP l) (esP l F) st x) stj i (j+1)):=⟨HLI.out.skip HEJ.out (.inr (by rw[HUP.out];exact hmem))⟩;clear hneg hmem hy0;go_wp2_with (first|((with_reducible refine gate_dst (N:=13) rfl ?_);refine Yw ?hg (N:=13) ?hd (cs:= #[.int .i64 0, .bool false]) (t:=79) ?hr ?_;(case hd=>rfl);(case hg=>rfl);(case hr=>first|(go_simp;done)|(go_simp;rfl));intro g8 hg w6 Zg hb;have GE8:Aside0 (wr.heap.size≤g8):=⟨Nat.le_of_eq hg.symm⟩;have B8:=Ya Zg;have HBL:=Ya hb;clear Zg hg hb;have hcz0:w6.cell? ⟨g8,0,none⟩=some (.int .i64 0):=(Yc B8.out 0).trans rfl;have hcz1:w6.cell? ⟨g8,1,none⟩=some (.bool false):=(Yc B8.out 1).trans rfl;have hfz0:=Yf B8.out 0;have hfz1:=Yf B8.out 1)|((with_reducible refine gate_store (t:=79) (p:=13) rfl ?_);refine store_event (t:=79) (p:=13) (v:= ?vo) (w1:=((w6.setCell ⟨g8,0,none⟩ (.int .i64 e.f0)).setCell ⟨g8,1,none⟩ (.bool e.f1))) ?hg ?ho ?hn ?hr ?_;(case ho=>rfl);(case hg=>rfl);(case hn=>rfl);(case hr=>first|(go_simp;done)|(go_simp;rfl));intro w8 hw;have m0_:Aside0 (w8.heap[g8]? =some (.cells #[.int .i64 e.f0, .bool e.f1] 79 (0,0))):=⟨by rw[hw];refine Yx (cs:= #[.int .i64 e.f0, .bool false]) ?_ 1 _ rfl;refine Yx (cs:= #[.int .i64 0, .bool false]) ?_ 0 _ rfl;exact B8.out⟩;have m1_:Aside0 (Below wr.heap.size wr w8):=⟨by rw[hw];exact Yh (Yh HBL.out GE8.out) GE8.out⟩;clear hw B8 HBL hcz0 hcz1 hfz0 hfz1 hs0 hs1;have B8:=m0_;clear m0_;have m0_:=Ya (HSJ.out.step m1_.out);have HG8:Aside0 (g8≠gd∧g8≠gb∧g8≠g3):=⟨by have h1:=HSJ.out.D.lt;have h2:=HSJ.out.B.lt;have h3:=blk_lt HSJ.out.b3;have h4:=GE8.out;omega⟩;clear HSJ m1_;have HSJ:=m0_;clear m0_;have c0:w8.cell? ⟨g3,0,none⟩=some (.int .i64 n0):=(Yc HSJ.out.b3 0).trans rfl;have c1:w8.cell? ⟨g3,1,none⟩=some (.bool Zc):=(Yc HSJ.out.b3 1).trans rfl;have c2_:w8.cell? ⟨g3,2,none⟩=some (.slice A2 l.length c2):=(Yc HSJ.out.b3 2).trans rfl;have c3_:w8.cell? ⟨g3,3,none⟩=some (.slice A3 F.length c3):=(Yc HSJ.out.b3 3).trans rfl;have s0:w8.cell? ⟨g8,0,none⟩=some (.int .i64 e.f0):=(Yc B8.out 0).trans rfl;have s1:w8.cell? ⟨g8,1,none⟩=some (.bool e.f1):=(Yc B8.out 1).trans rfl;have hcu:w8.cell? ⟨gd,u,none⟩=some (.int .i64 y):=(by rw[HY.out];exact HSJ.out.D.cell (by rw[dOf_len];exact hun)))|(go_at_call 93;refine(static_Flowing_To.calls (n0:Int) Zc A2 c2 l A3 c3 F e.f0 e.f1 (u:Int) _ (Yq H2.out HSJ.out.below) HC2.out (Yq H3.out HSJ.out.below) HC3.out HTO.out).mono ?_;rintro e_ w9 ⟨rfl,hb9⟩;have m0_:=Ya (HSJ.out.step hb9);have m1_:=Ya (Yn B8.out hb9);clear HSJ B8 hb9 c0 c1 c2_ c3_ s0 s1 hcu;have HSJ:=m0_;have B8:=m1_;clear m0_ m1_;have c0:w9.cell? ⟨g3,0,none⟩=some (.int .i64 n0):=(Yc HSJ.out.b3 0).trans rfl;have c1:w9.cell? ⟨g3,1,none⟩=some (.bool Zc):=(Yc HSJ.out.b3 1).trans rfl;have c2_:w9.cell? ⟨g3,2,none⟩=some (.slice A2 l.length c2):=(Yc HSJ.out.b3 2).trans rfl;have c3_:w9.cell? ⟨g3,3,none⟩=some (.slice A3 F.length c3):=(Yc HSJ.out.b3 3).trans rfl;have s0:w9.cell? ⟨g8,0,none⟩=some (.int .i64 e.f0):=(Yc B8.out 0).trans rfl;have s1:w9.cell? ⟨g8,1,none⟩=some (.bool e.f1):=(Yc B8.out 1).trans rfl;have hcu:w9.cell? ⟨gd,u,none⟩=some (.int .i64 y):=(by rw[HY.out];exact HSJ.out.D.cell (by rw[dOf_len];exact hun)))|fail);go_roundw
       case rel=>exact⟨j+1,stj,by omega,by go_num,HNX,HSJ⟩
       case measure=>simp[intOf]<;>omega
      ·have hy0:y<0:=hneg.2 hmem
       have ey:decide (0≤y)=false:=Yt (by omega);have HMEM:Aside0 (toP l e ∉ nodes stj):=⟨by rw[HUP.out];exact hmem⟩;clear hneg hmem hy0;by_cases hr0:rm=0
       ·have er:(rm == 0)=true:=beq_iff_eq.2 hr0
        have HNX:Aside0 (Li l F n0 s t x (proc (toP l) (esP l F) st x) stj i (j+1)):=⟨HLI.out.skip HEJ.out (.inl (by rw[← HRMV.out];omega))⟩;clear hr0;go_wp2_with (first|((with_reducible refine gate_dst (N:=13) rfl ?_);refine Yw ?hg (N:=13) ?hd (cs:= #[.int .i64 0, .bool false]) (t:=79) ?hr ?_;(case hd=>rfl);(case hg=>rfl);(case hr=>first|(go_simp;done)|(go_simp;rfl));intro g8 hg w6 Zg hb;have GE8:Aside0 (wr.heap.size≤g8):=⟨Nat.le_of_eq hg.symm⟩;have B8:=Ya Zg;have HBL:=Ya hb;clear Zg hg hb;have hcz0:w6.cell? ⟨g8,0,none⟩=some (.int .i64 0):=(Yc B8.out 0).trans rfl;have hcz1:w6.cell? ⟨g8,1,none⟩=some (.bool false):=(Yc B8.out 1).trans rfl;have hfz0:=Yf B8.out 0;have hfz1:=Yf B8.out 1)|((with_reducible refine gate_store (t:=79) (p:=13) rfl ?_);refine store_event (t:=79) (p:=13) (v:= ?vo) (w1:=((w6.setCell ⟨g8,0,none⟩ (.int .i64 e.f0)).setCell ⟨g8,1,none⟩ (.bool e.f1))) ?hg ?ho ?hn ?hr ?_;(case ho=>rfl);(case hg=>rfl);(case hn=>rfl);(case hr=>first|(go_simp;done)|(go_simp;rfl));intro w8 hw;have m0_:Aside0 (w8.heap[g8]? =some (.cells #[.int .i64 e.f0, .bool e.f1] 79 (0,0))):=⟨by rw[hw];refine Yx (cs:= #[.int .i64 e.f0, .bool false]) ?_ 1 _ rfl;refine Yx (cs:= #[.int .i64 0, .bool false]) ?_ 0 _ rfl;exact B8.out⟩;have m1_:Aside0 (Below wr.heap.size wr w8):=⟨by rw[hw];exact Yh (Yh HBL.out GE8.out) GE8.out⟩;clear hw B8 HBL hcz0 hcz1 hfz0 hfz1 hs0 hs1;have B8:=m0_;clear m0_;have m0_:=Ya (HSJ.out.step m1_.out);have HG8:Aside0 (g8≠gd∧g8≠gb∧g8≠g3):=⟨by have h1:=HSJ.out.D.lt;have h2:=HSJ.out.B.lt;have h3:=blk_lt HSJ.out.b3;have h4:=GE8.out;omega⟩;clear HSJ m1_;have HSJ:=m0_;clear m0_;have c0:w8.cell? ⟨g3,0,none⟩=some (.int .i64 n0):=(Yc HSJ.out.b3 0).trans rfl;have c1:w8.cell? ⟨g3,1,none⟩=some (.bool Zc):=(Yc HSJ.out.b3 1).trans rfl;have c2_:w8.cell? ⟨g3,2,none⟩=some (.slice A2 l.length c2):=(Yc HSJ.out.b3 2).trans rfl;have c3_:w8.cell? ⟨g3,3,none⟩=some (.slice A3 F.length c3):=(Yc HSJ.out.b3 3).trans rfl;have s0:w8.cell? ⟨g8,0,none⟩=some (.int .i64 e.f0):=(Yc B8.out 0).trans rfl;have s1:w8.cell? ⟨g8,1,none⟩=some (.bool e.f1):=(Yc B8.out 1).trans rfl;have hcu:w8.cell? ⟨gd,u,none⟩=some (.int .i64 y):=(by rw[HY.out];exact HSJ.out.D.cell (by rw[dOf_len];exact hun)))|(go_at_call 93;refine(static_Flowing_To.calls (n0:Int) Zc A2 c2 l A3 c3 F e.f0 e.f1 (u:Int) _ (Yq H2.out HSJ.out.below) HC2.out (Yq H3.out HSJ.out.below) HC3.out HTO.out).mono ?_;rintro e_ w9 ⟨rfl,hb9⟩;have m0_:=Ya (HSJ.out.step hb9);have m1_:=Ya (Yn B8.out hb9);clear HSJ B8 hb9 c0 c1 c2_ c3_ s0 s1 hcu;have HSJ:=m0_;have B8:=m1_;clear m0_ m1_;have c0:w9.cell? ⟨g3,0,none⟩=some (.int .i64 n0):=(Yc HSJ.out.b3 0).trans rfl;have c1:w9.cell? ⟨g3,1,none⟩=some (.bool Zc):=(Yc HSJ.out.b3 1).trans rfl;have c2_:w9.cell? ⟨g3,2,none⟩=some (.slice A2 l.length c2):=(Yc HSJ.out.b3 2).trans rfl;have c3_:w9.cell? ⟨g3,3,none⟩=some (.slice A3 F.length c3):=(Yc HSJ.out.b3 3).trans rfl;have s0:w9.cell? ⟨g8,0,none⟩=some (.int .i64 e.f0):=(Yc B8.out 0).trans rfl;have s1:w9.cell? ⟨g8,1,none⟩=some (.bool e.f1):=(Yc B8.out 1).trans rfl;have hcu:w9.cell? ⟨gd,u,none⟩=some (.int .i64 y):=(by rw[HY.out];exact HSJ.out.D.cell (by rw[dOf_len];exact hun)))|(go_at_call 89;refine(static_Flowing_Room.calls (n0:Int) Zc A2 c2 l A3 c3 F e.f0 e.f1 rm _ (Yq H2.out HSJ.out.below) HC2.out (Yq H3.out HSJ.out.below) HC3.out HRM.out).mono ?_;rintro e_ w10 ⟨rfl,hb9⟩;have m0_:=Ya (HSJ.out.step hb9);have m1_:=Ya (Yn B8.out hb9);clear HSJ B8 hb9 c0 c1 c2_ c3_ s0 s1 hcu;have HSJ:=m0_;have B8:=m1_;clear m0_ m1_;have c0:w10.cell? ⟨g3,0,none⟩=some (.int .i64 n0):=(Yc HSJ.out.b3 0).trans rfl;have c1:w10.cell? ⟨g3,1,none⟩=some (.bool Zc):=(Yc HSJ.out.b3 1).trans rfl;have c2_:w10.cell? ⟨g3,2,none⟩=some (.slice A2 l.length c2):=(Yc HSJ.out.b3 2).trans rfl;have c3_:w10.cell? ⟨g3,3,none⟩=some (.slice A3 F.length c3):=(Yc HSJ.out.b3 3).trans rfl;have s0:w10.cell? ⟨g8,0,none⟩=some (.int .i64 e.f0):=(Yc B8.out 0).trans rfl;have s1:w10.cell? ⟨g8,1,none⟩=some (.bool e.f1):=(Yc B8.out 1).trans rfl;have hcu:w10.cell? ⟨gd,u,none⟩=some (.int .i64 y):=(by rw[HY.out];exact HSJ.out.D.cell (by rw[dOf_len];exact hun)))|fail);go_roundw
        case rel=>exact⟨j+1,stj,by omega,by go_num,HNX,HSJ⟩
        case measure=>simp[intOf]<;>omega
       ·have er:(rm == 0)=false:=beq_eq_false_iff_ne.2 hr0
        have HRP:Aside0 (0<stRoom l F e):=⟨by rw[← HRMV.out];omega⟩;clear hr0;go_wp2_with (first|((with_reducible refine gate_dst (N:=13) rfl ?_);refine Yw ?hg (N:=13) ?hd (cs:= #[.int .i64 0, .bool false]) (t:=79) ?hr ?_;(case hd=>rfl);(case hg=>rfl);(case hr=>first|(go_simp;done)|(go_simp;rfl));intro g8 hg w6 Zg hb;have GE8:Aside0 (wr.heap.size≤g8):=⟨Nat.le_of_eq hg.symm⟩;have B8:=Ya Zg;have HBL:=Ya hb;clear Zg hg hb;have hcz0:w6.cell? ⟨g8,0,none⟩=some (.int .i64 0):=(Yc B8.out 0).trans rfl;have hcz1:w6.cell? ⟨g8,1,none⟩=some (.bool false):=(Yc B8.out 1).trans rfl;have hfz0:=Yf B8.out 0;have hfz1:=Yf B8.out 1)|((with_reducible refine gate_store (t:=79) (p:=13) rfl ?_);refine store_event (t:=79) (p:=13) (v:= ?vo) (w1:=((w6.setCell ⟨g8,0,none⟩ (.int .i64 e.f0)).setCell ⟨g8,1,none⟩ (.bool e.f1))) ?hg ?ho ?hn ?hr ?_;(case ho=>rfl);(case hg=>rfl);(case hn=>rfl);(case hr=>first|(go_simp;done)|(go_simp;rfl));intro w8 hw;have m0_:Aside0 (w8.heap[g8]? =some (.cells #[.int .i64 e.f0, .bool e.f1] 79 (0,0))):=⟨by rw[hw];refine Yx (cs:= #[.int .i64 e.f0, .bool false]) ?_ 1 _ rfl;refine Yx (cs:= #[.int .i64 0, .bool false]) ?_ 0 _ rfl;exact B8.out⟩;have m1_:Aside0 (Below wr.heap.size wr w8):=⟨by rw[hw];exact Yh (Yh HBL.out GE8.out) GE8.out⟩;clear hw B8 HBL hcz0 hcz1 hfz0 hfz1 hs0 hs1;have B8:=m0_;clear m0_;have m0_:=Ya (HSJ.out.step m1_.out);have HG8:Aside0 (g8≠gd∧g8≠gb∧g8≠g3):=⟨by have h1:=HSJ.out.D.lt;have h2:=HSJ.out.B.lt;have h3:=blk_lt HSJ.out.b3;have h4:=GE8.out;omega⟩;clear HSJ m1_;have HSJ:=m0_;clear m0_;have c0:w8.cell? ⟨g3,0,none⟩=some (.int .i64 n0):=(Yc HSJ.out.b3 0).trans rfl;have c1:w8.cell? ⟨g3,1,none⟩=some (.bool Zc):=(Yc HSJ.out.b3 1).trans rfl;have c2_:w8.cell? ⟨g3,2,none⟩=some (.slice A2 l.length c2):=(Yc HSJ.out.b3 2).trans rfl;have c3_:w8.cell? ⟨g3,3,none⟩=some (.slice A3 F.length c3):=(Yc HSJ.out.b3 3).trans rfl;have s0:w8.cell? ⟨g8,0,none⟩=some (.int .i64 e.f0):=(Yc B8.out 0).trans rfl;have s1:w8.cell? ⟨g8,1,none⟩=some (.bool e.f1):=(Yc B8.out 1).trans rfl;have hcu:w8.cell? ⟨gd,u,none⟩=some (.int .i64 y):=(by rw[HY.out];exact HSJ.out.D.cell (by rw[dOf_len];exact hun)))|(go_at_call 93;refine(static_Flowing_To.calls (n0:Int) Zc A2 c2 l A3 c3 F e.f0 e.f1 (u:Int) _ (Yq H2.out HSJ.out.below) HC2.out (Yq H3.out HSJ.out.below) HC3.out HTO.out).mono ?_;rintro e_ w9 ⟨rfl,hb9⟩;have m0_:=Ya (HSJ.out.step hb9);have m1_:=Ya (Yn B8.out hb9);clear HSJ B8 hb9 c0 c1 c2_ c3_ s0 s1 hcu;have HSJ:=m0_;have B8:=m1_;clear m0_ m1_;have c0:w9.cell? ⟨g3,0,none⟩=some (.int .i64 n0):=(Yc HSJ.out.b3 0).trans rfl;have c1:w9.cell? ⟨g3,1,none⟩=some (.bool Zc):=(Yc HSJ.out.b3 1).trans rfl;have c2_:w9.cell? ⟨g3,2,none⟩=some (.slice A2 l.length c2):=(Yc HSJ.out.b3 2).trans rfl;have c3_:w9.cell? ⟨g3,3,none⟩=some (.slice A3 F.length c3):=(Yc HSJ.out.b3 3).trans rfl;have s0:w9.cell? ⟨g8,0,none⟩=some (.int .i64 e.f0):=(Yc B8.out 0).trans rfl;have s1:w9.cell? ⟨g8,1,none⟩=some (.bool e.f1):=(Yc B8.out 1).trans rfl;have hcu:w9.cell? ⟨gd,u,none⟩=some (.int .i64 y):=(by rw[HY.out];exact HSJ.out.D.cell (by rw[dOf_len];exact hun)))|(go_at_call 89;refine(static_Flowing_Room.calls (n0:Int) Zc A2 c2 l A3 c3 F e.f0 e.f1 rm _ (Yq H2.out HSJ.out.below) HC2.out (Yq H3.out HSJ.out.below) HC3.out HRM.out).mono ?_;rintro e_ w10 ⟨rfl,hb9⟩;have m0_:=Ya (HSJ.out.step hb9);have m1_:=Ya (Yn B8.out hb9);clear HSJ B8 hb9 c0 c1 c2_ c3_ s0 s1 hcu;have HSJ:=m0_;have B8:=m1_;clear m0_ m1_;have c0:w10.cell? ⟨g3,0,none⟩=some (.int .i64 n0):=(Yc HSJ.out.b3 0).trans rfl;have c1:w10.cell? ⟨g3,1,none⟩=some (.bool Zc):=(Yc HSJ.out.b3 1).trans rfl;have c2_:w10.cell? ⟨g3,2,none⟩=some (.slice A2 l.length c2):=(Yc HSJ.out.b3 2).trans rfl;have c3_:w10.cell? ⟨g3,3,none⟩=some (.slice A3 F.length c3):=(Yc HSJ.out.b3 3).trans rfl;have s0:w10.cell? ⟨g8,0,none⟩=some (.int .i64 e.f0):=(Yc B8.out 0).trans rfl;have s1:w10.cell? ⟨g8,1,none⟩=some (.bool e.f1):=(Yc B8.out 1).trans rfl;have hcu:w10.cell? ⟨gd,u,none⟩=some (.int .i64 y):=(by rw[HY.out];exact HSJ.out.D.cell (by rw[dOf_len];exact hun)))|fail);obtain⟨lv,hlv⟩: ∃ n_,n_=x.lv:=⟨_,rfl⟩;have hxm:x∈stj:=List.mem_of_getElem? HLI.out.at_;have hlv50:x.lv<50:=by have:=lv_lt HLI.out.fds hxm;have:=fds_len HLI.out.fds (esP_to HR.out) hs;omega
        have hcv:w10.cell? ⟨gd,x.v,none⟩=some (.int .i64 (lv:Int)):=by
         rw[hlv, ← dOf_mem HLI.out.fds.nodup hxm 0 hxn];exact HSJ.out.D.cell (by rw[dOf_len];exact hxn)
        rw[← hlv] at hlv50;have HLV:=Ya hlv;clear hlv hxm c0 c1 c2_ c3_;obtain⟨hb0,hb1⟩:=HSJ.out.B.cell z79 (j:=u) (by rw[bOf_len];exact hun);generalize ((bOf z79 n0 stj).getD u z79)=zz at hb0 hb1;have fd:=HSJ.out.D.free u;have fb0:=HSJ.out.B.free (u * 2);have fb1:=HSJ.out.B.free (u * 2+1);obtain⟨n1,n2,n3⟩:=HG8.out;obtain⟨n4,n5,n6,n7,n8⟩:=GD.out;have pl0:(0:Int)≤(lv:Int):=by omega
        have pl1:(lv:Int)<50:=by omega
        go_region;have m0_:Aside0 (IsI (seekW w10 gd gb u ((lv:Int)+1) e) gd (dOf n0 (stj ++ [⟨toP l e,e,x.lv+1⟩]))):=⟨by
         rw[dOf_snoc n0 HMEM.out,HUP.out, ← HLV.out];exact seek_D HSJ.out.D n6 u _ e⟩
        have m1_:Aside0 (IsS (seekW w10 gd gb u ((lv:Int)+1) e) gb (bOf z79 n0 (stj ++ [⟨toP l e,e,x.lv+1⟩]))):=⟨by
         rw[bOf_snoc z79 n0 HMEM.out,HUP.out];exact seek_B HSJ.out.B n6 u _ e⟩
        have m2_:Aside0 ((seekW w10 gd gb u ((lv:Int)+1) e).heap[g3]? =some (.cells #[.int .i64 n0, .bool Zc, .slice A2 l.length c2, .slice A3 F.length c3, .slice (some ad4) n0 c4] 107 (0,0))):=⟨(seek_far w10 u _ e n4 n5).trans HSJ.out.b3⟩;have m3_:Aside0 (Below w.heap.size w (seekW w10 gd gb u ((lv:Int)+1) e)):=⟨below_drew (Yh (Yh (Yh HSJ.out.below n7) n8) n8)⟩;obtain⟨Aj,Rj,frj,hqj,hqlj,hsj⟩:=HSJ.out.que;have hqj2:=hqj.step (w1:=seekW w10 gd gb u ((lv:Int)+1) e) (fun k _ hk=>seek_far w10 u _ e (hsj k hk).2.1 (hsj k hk).2.2.1);have HQJ:=Ya hqj2;have HQLJ:=Ya hqlj;have HSEPJ:=Ya hsj;have hif:i<stj.length:=(List.getElem?_eq_some_iff.1 HLI.out.at_).1;have hadd:=HLI.out.add HEJ.out HRP.out HMEM.out;have hcount:stj.length+1≤n0:=by have:=fds_len hadd.1 (esP_to HR.out) hs;simpa using this
        clear hqj hqj2 hqlj hsj HSJ B8 hb0 hb1 fd fb0 fb1 hcv hcu s0 s1 n1 n2 n3 hadd HG8;have HD:=m0_;have HS:=m1_;have B3:=m2_;have HB:=m3_;clear m0_ m1_ m2_ m3_;generalize hw12:(((w10.setCell ⟨gd,u,none⟩ (.int .i64 ((lv:Int)+1))).setCell ⟨gb,u * 2,none⟩ (.int .i64 e.f0)).setCell ⟨gb,u * 2+1,none⟩ (.bool e.f1)).drew=w12;rw[show seekW w10 gd gb u ((lv:Int)+1) e=w12 from hw12] at HD HS B3 HB HQJ;clear hw12;by_cases htu:t=(u:Int)
        ·have et:((u:Int) == t)=true:=by rw[htu];simp
         have HSN:=Ya (HLI.out.found HLP.out HX.out (by omega) HEJ.out HRP.out HMEM.out (by rw[HUP.out];exact htu));clear htu;go_wp2_with fail;rw[Exit.noGoto_ret];go_ret2;exact⟨gd,gb,_,rfl,n7,n8,n6,HD.out,HS.out,HB.out,HSN.out⟩
        ·have et:((u:Int) == t)=false:=beq_eq_false_iff_ne.2 (Ne.symm htu)
         have HNX:=Ya (HLI.out.put HEJ.out HRP.out HMEM.out (by rw[HUP.out];exact htu));clear htu;go_wp2_with (first|(go_at_call 101;refine(que_put gq Aj Rj frj (stj.length - (i+1)) n0 (u:Int) _ HQJ.out (by omega)).mono ?_;rintro e_ w13 ⟨rfl,A',R',fr',hq',hql',hk',hs'⟩;have HM:Aside0 (Sm n0 Zc A2 c2 l A3 c3 F (some ad4) c4 g3 gd gb gq w (stj ++ [⟨toP l e,e,x.lv+1⟩]) (i+1) w13):=⟨⟨HD.out.kept hk' (fun h=>(HSEPJ.out _ h).2.1 rfl),HS.out.kept hk' (fun h=>(HSEPJ.out _ h).2.2.1 rfl),hk'.blk B3.out (fun h=>(HSEPJ.out _ h).2.2.2 rfl),⟨A',R',fr',by rw[List.length_append,List.length_singleton,show stj.length+1 - (i+1)=stj.length - (i+1)+1 by omega];exact hq',by rw[List.length_append,List.length_singleton,show stj.length+1 - (i+1)=stj.length - (i+1)+1 by omega,hql',HQLJ.out,qOf_snoc (by omega)];show _=qOf stj (i+1) ++ [((toP l e:Nat):Int)];rw[HUP.out],fun k hk=>(hs' k hk).elim (HSEPJ.out k) (fun h=>by have h1:=HB.out.size;have h2:=HD.out.lt;have h3:=HS.out.lt;have h4:=blk_lt B3.out;omega)⟩,hk'.toBelow HB.out HB.out.size (fun b hb=>(HSEPJ.out b hb).1)⟩⟩;clear HD HS B3 HB hq' hql' hk' hs')|fail);go_roundw
         case rel=>exact⟨j+1,_,by omega,by go_num,HNX,HM⟩
         case measure=>simp[intOf]<;>omega
     ·have ej:j=LN:=by omega
      subst ej;have c55:decide ((j:Int)<(j:Int))=false:=Yt (by omega);go_wp2_with fail;go_roundw
      case rel=>exact⟨_,stj,i+1,rfl,Li.next HR.out hs HLP.out HX.out (by have h_:=HLI.out;rw[HLN.out] at h_;exact h_),HSJ.out⟩
      case measure=>exact least_lt ⟨stj,i+1,rfl,Li.next HR.out hs HLP.out HX.out (by have h_:=HLI.out;rw[HLN.out] at h_;exact h_),HSJ.out⟩ (by rw[← HLE.out,HMI.out];omega)
   ·have hi:i=st.length:=by omega
    rw[show st.length - i=0 by omega] at hq;have HQ:=Ya hq;clear hq hql hsep;go_wp2_with (first|(go_at_call 102;refine(que_len gq A R fr 0 n0 _ HQ.out).mono ?_;rintro e_ w_ ⟨rfl,hw_⟩;subst hw_)|fail);rw[Exit.noGoto_ret];go_ret2;have hg:=GD.out;exact⟨gd,gb,st,rfl,hg.2.2.2.1,hg.2.2.2.2,hg.2.2.1,HSM.out.D,HSM.out.B,HSM.out.below,HLP.out.seen hi⟩
end H
namespace H
open P
def revM (M:Nat→S79) (N i x:Nat):S79:=if x<i∨N - i≤x then M (N - 1 - x) else M x
theorem revM_step (M:Nat→S79) (N i j:Nat) (h:i+j+1=N) (hij:i<j) (x:Nat) (hx:x<N):revM M N (i+1) x=upd (upd (revM M N i) i (revM M N i j)) j (revM M N i i) x:=by
 unfold upd revM;by_cases e1:x=j
 ·subst e1
  rw[Yu (by omega),Yu rfl,Yv (by omega)];congr 1;omega
 ·rw[Yv e1]
  by_cases e2:x=i
  ·subst e2
   rw[Yu (by omega),Yu rfl,Yv (by omega)];congr 1;omega
  ·rw[Yv e2]
   by_cases e3:x<i∨N - i≤x
   ·rw[Yu (by omega),Yu e3]
   ·rw[Yv (by omega),Yv e3]
set_option maxHeartbeats 2000000 in
set_option maxRecDepth 100000 in
theorem reverse_calls (g N cap:Nat) (M:Nat→S79) (w:World) (h:Arr w g N M) (hN0:0<N) (hN:N≤1000000):
  Calls Try.prog 88 #[.slice (some ⟨g,0,none⟩) N cap] w fun e w'=>e= .returned (.tuple #[])∧Arr w' g N (fun x=>M (N - 1 - x))∧Fr w w' g:=by
 have HA:=Ya h;have p0:(0:Int)<(N:Int):=by omega
 have p1:(N:Int)≤1000000:=by omega
 clear h;go_enter Try.func88,Try.ntmps88;go_wp2_with fail;go_loopw [2,3] (fun v2 v3 w'=> ∃ i j:Nat,i+j+1=N∧v2= .int .i64 i∧v3= .int .i64 j∧i≤j+1∧Aside0 (Arr w' g N (revM M N i))∧Aside0 (Fr w w' g)) (fun v2 _ _=>N - (intOf v2).toNat)
 case atStart=>exact⟨0,N - 1,by omega,rfl,by first|go_num|(congr 1;omega),by omega,⟨HA.out.congr (fun x hx=>by unfold revM;rw[Yv (by omega)])⟩,⟨grow_refl w g⟩⟩
 case round=>
  obtain⟨i,j,hij,rfl,rfl,hle,HR,HF⟩:=hrel;by_cases hlt:i<j
  ·have e1:decide ((i:Int)<(j:Int))=true:=Ys (by omega)
   have q0:(0:Int)≤(i:Int):=by omega
   have q1:(i:Int)<(N:Int):=by omega
   have q2:(0:Int)≤(j:Int):=by omega
   have q3:(j:Int)<(N:Int):=by omega
   have q4:(1:Int)≤(j:Int):=by omega
   have a0:=HR.out.cell0 (x:=i) (by omega);have a1:=HR.out.cell1 (x:=i) (by omega);have b0:=HR.out.cell0 (x:=j) (by omega);have b1:=HR.out.cell1 (x:=j) (by omega);have f0:=HR.out.free (i * 2);have f1:=HR.out.free (i * 2+1);have f2:=HR.out.free (j * 2);have f3:=HR.out.free (j * 2+1);have n1:i * 2≠j * 2:=by omega
   have n2:i * 2≠j * 2+1:=by omega
   have n3:i * 2+1≠j * 2:=by omega
   have n4:i≠j:=by omega
   have HA2:=Ya ((((HR.out.put (x:=i) (by omega) (revM M N i j)).put (x:=j) (by omega) (revM M N i i)).congr (fun x hx=>revM_step M N i j hij hlt x hx)).drew);have HF2:Aside0 (Fr w ((((((wr.setCell ⟨g,i * 2,none⟩ (.int .i64 (revM M N i j).f0)).setCell ⟨g,i * 2+1,none⟩ (.bool (revM M N i j).f1)).setCell ⟨g,j * 2,none⟩ (.int .i64 (revM M N i i).f0)).setCell ⟨g,j * 2+1,none⟩ (.bool (revM M N i i).f1)).drew)) g):=⟨grow_drew (grow_set (grow_set (grow_set (grow_set HF.out _ _) _ _) _ _) _ _)⟩;clear HR HF;generalize revM M N i i=si at *;generalize revM M N i j=sj at *;go_wp2_with fail;go_region;clear a0 a1 b0 b1 f0 f1 f2 f3 n1 n2 n3 n4;generalize ((((wr.setCell ⟨g,i * 2,none⟩ (.int .i64 sj.f0)).setCell ⟨g,i * 2+1,none⟩ (.bool sj.f1)).setCell ⟨g,j * 2,none⟩ (.int .i64 si.f0)).setCell ⟨g,j * 2+1,none⟩ (.bool si.f1)).drew=w9 at HA2 HF2 ⊢;go_wp2_with fail;go_roundw
   case rel=>exact⟨i+1,j - 1,by omega,by go_num,by first|go_num|(congr 1;omega),by omega,HA2,HF2⟩
   case measure=>simp[intOf]<;>omega
  ·have e1:decide ((i:Int)<(j:Int))=false:=Yt (by omega)
   go_wp2_with fail;refine bodyPost_end (results_none rfl _ _ _) rfl ⟨rfl,HR.out.congr (fun x hx=> ?_),HF.out⟩;unfold revM;by_cases e3:x<i∨N - i≤x
   ·rw[Yu e3]
   ·rw[Yv e3]
    congr 1;omega
theorem map_rev (xs:List S79) (z:S79):(List.range xs.length).map (fun x=>xs.getD (xs.length - 1 - x) z)=xs.reverse:=by
 apply List.ext_getElem (by simp);intro j h1 h2;have hj:j<xs.length:=by simpa using h2
 rw[List.getElem_map,List.getElem_range,List.getElem_reverse,List.getD_eq_getElem?_getD,List.getElem?_eq_getElem (by omega)];rfl
theorem reverse_row (base:Nat) (ok:Nat→Prop) (v:Value) (xs:List S79) (w:World) (h:Kd.R k79 79 w base ok v xs) (hp:0<xs.length) (hl:xs.length≤1000000):
  Calls Try.prog 88 #[v] w fun e w'=>e= .returned (.tuple #[])∧Kd.R k79 79 w' base ok v xs.reverse∧w.grownBy w' v.ownBlock:=by
 obtain⟨g,cap,rfl,hb,hlt,_⟩:=Kd.R_form h hp;refine(reverse_calls g xs.length cap _ w (arr_of_R h hp) hp hl).mono ?_;rintro e w' ⟨rfl,ha,hf⟩;have hr:=R_of_arr (ok':=ok) h rfl hp ha hf (h.1 g rfl);rw[map_rev] at hr;exact⟨rfl,hr,hf.1⟩
end H
namespace H
open P
attribute [local irreducible] wpQuiet
theorem fromS_f {l:List S50} {F:List Int} {n:Nat} (hr:Right l F n) {s:S79} (hs:StepOf l s) (a:Int) (b:Bool):static_Flowing_From.f a b l F s.f0 s.f1=some (stFrom l s):=by
 obtain⟨i,h1,h2⟩:=hs;unfold static_Flowing_From.f stFrom eFrom eTo;rw[h2];cases s.f1<;>simp[h1]
theorem bOf_mem {n:Nat} {st:List (Fd S79)} (h:(nodes st).Nodup) {x:Fd S79} (hx:x∈st) (z d:S79) (hv:x.v<n):(bOf z n st).getD x.v d=x.by_:=by
 rw[bOf_get z st d hv,fnd_of h hx]
theorem back_step {l:List S50} {F:List Int} {s:Nat} {st:List (Fd S79)} (h:Fds (frP l) (toP l) (esP l F) s st) {x:Fd S79} (hx:x∈st) (hne:x.v≠s):
  ∃ y,y∈st∧x.by_∈esP l F y.v∧x.lv=y.lv+1∧frP l x.by_=y.v∧backL (frP l) st s x.lv x.v=x.by_::backL (frP l) st s y.lv y.v:=by
 rcases h.mem_lv hx with ⟨h1,_⟩|⟨_,_,y,hy,h4,h5⟩
 ·exact absurd h1 hne
 ·refine⟨y,hy,h4,h5,esP_fr _ _ h4,?_⟩
  rw[h5];rw[backL,Yv hne,fnd_of h.nodup hx];show x.by_::_=_;rw[esP_fr _ _ h4]
theorem back_end {fr:S79→Nat} {st:List (Fd S79)} {s k:Nat} :backL fr st s k s=[]:=by
 cases k with
 |zero=>rfl
 |succ k=>rw[backL,Yu rfl]
theorem way_of {l:List S50} {F:List Int} {n s:Nat} {st:List (Fd S79)} (hr:Right l F n) (hs:s<n) (h:Fds (frP l) (toP l) (esP l F) s st) (hp: ∃ r,bfP l F n s=st ++ r) {x:Fd S79} (hx:x∈st):wayP l F n s x.v=(backL (frP l) st s x.lv x.v).reverse:=by
 obtain⟨r,hr1⟩:=hp;unfold wayP;rw[Yu (by rw[hr1,nodes_app];exact List.mem_append_left _ (List.mem_map_of_mem hx))];unfold wayL;rw[hr1,backL_more h esP_fr r x.lv hx (Nat.le_refl _) (by rw[List.length_append];have:=lv_lt h hx;omega)]
set_option maxHeartbeats 2000000 in
set_option maxRecDepth 100000 in
theorem way_calls (n0:Nat) (Zc:Bool) (A2:Option Addr) (c2:Nat) (l:List S50) (A3:Option Addr) (c3:Nat) (F:List Int) (A4:Option Addr) (c4:Nat) (s t:Nat) (w:World)
  (hR:Right l F n0) (hs:s<n0) (ht:t<n0) (hts:s≠t) (hc2:l.length≤c2) (hc3:F.length≤c3) (h2:Kd.C k50 w A2 l.length l) (h3:Kd.C (Kd.int .i64) w A3 F.length F) (h4:(Kd.slice 79 k79).C w A4 n0 (rowsAt l n0 n0)):
  Calls Try.prog 75 #[.agg #[.int .i64 n0, .bool Zc, .slice A2 l.length c2, .slice A3 F.length c3, .slice A4 n0 c4], .int .i64 (s:Int), .int .i64 (t:Int)] w fun e w'=> ∃ v:Value,e= .returned (.tuple #[v, .bool (decide (t∈nodes (bfP l F n0 s)))])∧Kd.R k79 79 w' w.heap.size (fun _=>True) v (wayP l F n0 s t)∧Below w.heap.size w w':=by
 have hu118:=Try.underlying107;have hu115:=Try.underlying104;have HR:=Ya hR;have HC2:=Ya hc2;have HC3:=Ya hc3;have H2:=Ya h2;have H3:=Ya h3;have H4:=Ya h4;have HB:=Ya (Yo w.heap.size w);have hn50:=hR.fifty;have pt:(0:Int)≤(t:Int):=by omega
 have qt:(t:Int)<(n0:Int):=by omega
 clear hR h2 h3 h4 hc2 hc3;go_enter Try.func75,Try.ntmps75;go_upto_region 2 with (first|((with_reducible refine gate_dst (N:=3) rfl ?_);refine Yw ?hg (N:=3) ?hd (cs:= #[.int .i64 n0, .bool Zc, .slice A2 l.length c2, .slice A3 F.length c3, .slice A4 n0 c4]) (t:=107) ?hr ?_;(case hd=>rfl);(case hg=>rfl);(case hr=>first|(go_simp;done)|(go_simp;rfl));intro g3 hg w5 Zg hb;have n0_:=Ya (Yk HB.out hb);have B3:=Ya Zg;clear HB;have HB:=n0_;have GE3:Aside0 (w.heap.size≤g3):=⟨Nat.le_of_eq hg.symm⟩;clear n0_ hb Zg hg;have c0:w5.cell? ⟨g3,0,none⟩=some (.int .i64 n0):=(Yc B3.out 0).trans rfl;have c1:w5.cell? ⟨g3,1,none⟩=some (.bool Zc):=(Yc B3.out 1).trans rfl;have c2_:w5.cell? ⟨g3,2,none⟩=some (.slice A2 l.length c2):=(Yc B3.out 2).trans rfl;have c3_:w5.cell? ⟨g3,3,none⟩=some (.slice A3 F.length c3):=(Yc B3.out 3).trans rfl;have c4_:w5.cell? ⟨g3,4,none⟩=some (.slice A4 n0 c4):=(Yc B3.out 4).trans rfl)|(go_at_call 91;refine(seek_calls n0 Zc A2 c2 l A3 c3 F A4 c4 s (t:Int) _ HR.out hs (by omega) HC2.out HC3.out (Yq H2.out HB.out) (Yq H3.out HB.out) (Yq H4.out HB.out)).mono ?_;rintro e_ w6 ⟨gd,gb,st,rfl,hg1,hg2,hg3,hd,hs_,hb,hsn⟩;have HD:=Ya hd;have HS:=Ya hs_;have HSN:=Ya hsn;have HG:Aside0 (g3≠gd∧g3≠gb∧gd≠gb∧w.heap.size≤gd∧w.heap.size≤gb):=⟨by have:=blk_lt B3.out;have:=HB.out.size;omega⟩;have m0_:=Ya (Yk HB.out hb);have m1_:=Ya (Yn B3.out hb);clear HB B3 hd hs_ hb hsn hg1 hg2 hg3 c0 c1 c2_ c3_ c4_;have HB:=m0_;have B3:=m1_;clear m0_ m1_)|fail)
 obtain⟨y,hy⟩: ∃ y_,y_=(dOf n0 st).getD t 0:=⟨_,rfl⟩;have hcy:w6.cell? ⟨gd,t,none⟩=some (.int .i64 y):=by rw[hy];exact HD.out.cell (by rw[dOf_len];exact ht)
 have hneg:=dOf_neg st 0 ht;rw[← hy] at hneg;clear hy;by_cases hmem:t∈nodes st
 ·have ey:decide (y<0)=false:=Yt (fun h=>hneg.1 h hmem)
  obtain⟨x0,hx0,hxt⟩:=List.mem_map.1 hmem;clear hneg hmem;have hstn:=fds_len HSN.out.fds (esP_to HR.out) hs;have HX0:=Ya hx0;have HXT:=Ya hxt;clear hx0 hxt;go_wp2_with fail;clear hcy HD;have m0_:=Ya (Ye HB.out (.cells #[] 79));have m1_:=Ya (HS.out.below (Ye (Yo _ _) (.cells #[] 79)));have m2_:=Ya (Yn B3.out (Ye (Yo _ _) (.cells #[] 79)));have HO:Aside0 (Kd.R k79 79 (w6.alloc (.cells #[] 79)) w.heap.size (fun k=>k≠gb∧k≠g3) (.slice (some ⟨w6.heap.size,0,none⟩) 0 0) []):=⟨IsS.R (B:=[]) (heap_alloc_new w6 _) (by simp) HB.out.size ⟨by have:=HS.out.lt;omega,by have:=blk_lt B3.out;omega⟩⟩;clear HB HS B3;have HB:=m0_;have HS:=m1_;have B3:=m2_;clear m0_ m1_ m2_;generalize w6.alloc (.cells #[] 79)=w7 at *;generalize Value.slice (some ⟨w6.heap.size,0,none⟩) 0 0=v0 at *;go_loopw [10,11] (fun v10 v11 w'=> ∃ (x:Fd S79) (O:List S79),v11= .int .i64 x.v∧x∈st∧Aside0 (O ++ backL (frP l) st s x.lv x.v=backL (frP l) st s x0.lv x0.v)∧O.length+x.lv≤50∧Aside0 (Kd.R k79 79 w' w.heap.size (fun k=>k≠gb∧k≠g3) v10 O)∧Aside0 (IsS w' gb (bOf z79 n0 st))∧Aside0 (w'.heap[g3]? =some (.cells #[.int .i64 n0, .bool Zc, .slice A2 l.length c2, .slice A3 F.length c3, .slice A4 n0 c4] 107 (0,0)))∧Aside0 (Below w.heap.size w w')) (fun _ v11 _=>((dOf n0 st).getD (intOf v11).toNat 0).toNat)
  case atStart=>exact⟨x0,[],by rw[HXT.out],HX0.out,⟨rfl⟩,by have:=lv_lt HSN.out.fds HX0.out;show 0+_≤50;omega,HO,HS,B3,HB⟩
  case round=>
   clear HO HS B3 HB;obtain⟨x,O,rfl,hx,HBK,hlen,HO,HS,B3,HB⟩:=hrel;have hxn:x.v<n0:=fds_lt HSN.out.fds (esP_to HR.out) hs _ (List.mem_map_of_mem hx);by_cases hxs:x.v=s
   ·have e1:((x.v:Int) != (s:Int))=false:=by rw[hxs];simp
    have hO:O=backL (frP l) st s x0.lv x0.v:=by
     have h_:=HBK.out;rw[hxs,back_end,List.append_nil] at h_;exact h_
    have hlp:0<O.length:=by
     rw[hO,(backL_spec HSN.out.fds esP_fr x0.lv HX0.out (Nat.le_refl _)).1];rcases HSN.out.fds.mem_lv HX0.out with ⟨h1,_⟩|⟨_,_,_,_,_,h5⟩
     ·rw[HXT.out] at h1;exact absurd h1.symm hts
     ·omega
    have HWY:Aside0 (wayP l F n0 s t=O.reverse):=⟨by rw[← HXT.out,way_of HR.out hs HSN.out.fds HSN.out.pre HX0.out,hO]⟩;have HIN:Aside0 (t∈nodes (bfP l F n0 s)):=⟨by
     obtain⟨r,hr⟩:=HSN.out.pre;rw[hr,nodes_app, ← HXT.out];exact List.mem_append_left _ (List.mem_map_of_mem HX0.out)⟩
    have HOL:Aside0 (O.length≤50):=⟨by omega⟩;have HLP:=Ya hlp;clear hO hlp hlen hxs;go_wp2_with (first|(go_at_call 88;refine(reverse_row w.heap.size _ u10 O _ HO.out HLP.out (by have:=HOL.out;omega)).mono ?_;rintro e_ w9 ⟨rfl,hr,hg⟩;have m0_:=Ya hr;have m1_:=Ya (pw_below_grown HB.out _ HB.out.size hg (fun k hk=>Kd.R_base HO.out k hk));clear HO HB hr hg;have HO:=m0_;have HB:=m1_;clear m0_ m1_)|fail);go_ret2;exact⟨u10,by rw[Ys HIN.out];rfl,by rw[HWY.out];exact Kd.R_mono HO.out (fun _ _=>trivial),HB.out⟩
   ·have e1:((x.v:Int) != (s:Int))=true:=by rw[bne_iff_ne];omega
    obtain⟨z,hz,hze,hlv,hfz,hbk⟩:=back_step HSN.out.fds hx hxs;obtain⟨b0,b1⟩:=HS.out.cell z79 (j:=x.v) (by rw[bOf_len];exact hxn);rw[bOf_mem HSN.out.fds.nodup hx _ _ hxn] at b0 b1;have hso:StepOf l x.by_:=stL_of (mem_esP.1 hze).1;have hfr:stFrom l x.by_=(z.v:Int):=by have h_:=stFrom_in HR.out hso;unfold frP at hfz;omega
    have hfm:=fromS_f HR.out hso (n0:Int) Zc;rw[hfr] at hfm;obtain⟨e,hee⟩: ∃ e_,e_=x.by_:=⟨_,rfl⟩;rw[← hee] at b0 b1 hfm hbk;have HFM:=Ya hfm;have HEE:=Ya hee;have HBK2:Aside0 ((O ++ [e]) ++ backL (frP l) st s z.lv z.v=backL (frP l) st s x0.lv x0.v):=⟨by rw[← HBK.out,hbk,List.append_assoc];rfl⟩;have HZ:=Ya hz;have HLV:=Ya hlv;have hl2:(O ++ [e]).length+z.lv≤50:=by rw[List.length_append,List.length_singleton];omega
    have HL2:=Ya hl2;have hOl:O.length≤50:=by omega
    have hmz:((dOf n0 st).getD z.v 0).toNat<((dOf n0 st).getD x.v 0).toNat:=by
     rw[dOf_mem HSN.out.fds.nodup hz 0 (fds_lt HSN.out.fds (esP_to HR.out) hs _ (List.mem_map_of_mem hz)),dOf_mem HSN.out.fds.nodup hx 0 hxn];omega
    have HMZ:=Ya hmz;have px:(0:Int)≤(x.v:Int):=by omega
    have qx:(x.v:Int)<(n0:Int):=by omega
    clear hz hze hlv hfz hbk hso hfr hfm hee HBK hlen hl2 hmz;go_wp2_with (first|((with_reducible refine gate_builtin (b:= .append) (xs:= #[.tmp 36, .tmp 41]) rfl ?_);at_builtin;refine Kd.R_append k79 (w0:=w) w.heap.size rfl (.tmp 36) (.tmp 41) 67 79 (.agg #[(.int .i64 0),(.bool false)]) 16 rfl Try.underlying67 info79 rfl (by decide) (by omega) u10 O e [.int .i64 e.f0, .bool e.f1] (fun k=>k≠gb∧k≠g3) (fun _=>False) rfl rfl ?aP (fun _ hk=>hk.elim) ?aF ?aO ?aB ?aS ?aL ?_;(case aP=>exact k79_mkM _ _ _ e);(case aF=>exact(fun k hk=>⟨by have:=HS.out.lt;omega,by have:=blk_lt B3.out;omega⟩));(case aO=>exact HO.out);(case aB=>exact HB.out);(case aS=>exact HB.out.size);(case aL=>omega);intro v1 w9 ho hb hg hat;have m0_:=Ya ho;have m1_:=Ya hb;have m2_:=Ya (HS.out.same (hg.block gb HS.out.lt (fun h=>(HO.out.1 gb h.symm).1 rfl)));have m3_:=Ya ((hg.block g3 (blk_lt B3.out) (fun h=>(HO.out.1 g3 h.symm).2 rfl)).trans B3.out);clear HO HS B3 HB ho hb hg hat b0 b1;have HO:=m0_;have HB:=m1_;have HS:=m2_;have B3:=m3_;clear m0_ m1_ m2_ m3_)|fail);obtain⟨d0,d1⟩:=HS.out.cell z79 (j:=x.v) (by rw[bOf_len];exact hxn);rw[bOf_mem HSN.out.fds.nodup hx _ _ hxn, ← HEE.out] at d0 d1;have q0: ∀ p:BelowW w9,p.at_.cell? ⟨g3,0,none⟩=some (.int .i64 n0):=fun p=>p.cell ((Yc B3.out 0).trans rfl)
    have q1: ∀ p:BelowW w9,p.at_.cell? ⟨g3,1,none⟩=some (.bool Zc):=fun p=>p.cell ((Yc B3.out 1).trans rfl)
    have q2: ∀ p:BelowW w9,p.at_.cell? ⟨g3,2,none⟩=some (.slice A2 l.length c2):=fun p=>p.cell ((Yc B3.out 2).trans rfl)
    have q3: ∀ p:BelowW w9,p.at_.cell? ⟨g3,3,none⟩=some (.slice A3 F.length c3):=fun p=>p.cell ((Yc B3.out 3).trans rfl)
    have q4: ∀ p:BelowW w9,p.at_.cell? ⟨gb,x.v * 2,none⟩=some (.int .i64 e.f0):=fun p=>p.cell d0
    have q5: ∀ p:BelowW w9,p.at_.cell? ⟨gb,x.v * 2+1,none⟩=some (.bool e.f1):=fun p=>p.cell d1
    have HCA:Aside0 (∀ p:BelowW w9,Kd.C k50 p.at_ A2 l.length l):=⟨fun p=>Yq (Yq H2.out HB.out) p.below⟩;have HCF:Aside0 (∀ p:BelowW w9,Kd.C (Kd.int .i64) p.at_ A3 F.length F):=⟨fun p=>Yq (Yq H3.out HB.out) p.below⟩;clear d0 d1;refine wp_region_quiet_below (by kernel_rfl) (by kernel_rfl) ?_;(repeat(quiet_step ((first|(go_at_call 87;exact calls_below_of (static_Flowing_From.calls (n0:Int) Zc A2 c2 l A3 c3 F e.f0 e.f1 (z.v:Int) _ (HCA.out _) HC2.out (HCF.out _) HC3.out HFM.out))))));refine wpQuiet_nil ?_;intro wq hw';obtain⟨⟨wz,hbq⟩,hwq⟩:=hw';subst hwq;have m0_:=Ya (Yp HO.out hbq);have m1_:=Ya (HS.out.below hbq);have m2_:=Ya (Yn B3.out hbq);have m3_:=Ya (Yk HB.out hbq);clear HO HS B3 HB HCA HCF q0 q1 q2 q3 q4 q5 hbq;have HO:=m0_;have HS:=m1_;have B3:=m2_;have HB:=m3_;clear m0_ m1_ m2_ m3_;go_wp2_with fail;go_roundw
    case rel=>exact⟨z,O ++ [e],rfl,HZ.out,HBK2,HL2.out,HO,HS,B3,HB⟩
    case measure=>have h_:=HMZ.out;simpa [intOf] using h_
 ·have ey:decide (y<0)=true:=Ys (hneg.2 hmem)
  have hfull:t ∉ nodes (bfP l F n0 s):=by
   rcases HSN.out.hit with h|⟨tn,h1,h2⟩
   ·rw[← h];exact hmem
   ·have:tn=t:=by omega
    subst this;exact absurd h2 hmem
  have HFU:=Ya hfull;clear hneg hmem hfull;go_wp2_with fail;go_ret2;refine⟨.slice none 0 0,by rw[Yt HFU.out];rfl,?_,HB.out⟩;unfold wayP;rw[Yv HFU.out];exact Kd.R_nil _ _ _ _ _
end H
namespace H
open P
set_option maxHeartbeats 1000000 in
set_option maxRecDepth 100000 in
theorem insertion_nil (A:Option Addr) (cap:Nat) (f:Value) (w:World):
  Calls Try.prog 104 #[.slice A 0 cap, .int .i64 0, .int .i64 0,f] w fun e w'=>e= .returned (.tuple #[])∧w'=w:=by
 go_enter Try.func104,Try.ntmps104;go_wp2;go_loopw [8] (fun i wr=>i= .int .i64 1∧Aside0 (wr=w)) (fun i _=>0)
 case atStart=>exact⟨by go_num,⟨rfl⟩⟩
 case round=>
  obtain⟨rfl,HW⟩:=hrel;go_wp2;go_end0;exact⟨rfl,HW.out⟩
set_option maxHeartbeats 1000000 in
set_option maxRecDepth 100000 in
theorem stable_nil (A:Option Addr) (cap:Nat) (f:Value) (w:World):
  Calls Try.prog 98 #[.slice A 0 cap, .int .i64 0,f] w fun e w'=>e= .returned (.tuple #[])∧w'=w:=by
 go_enter Try.func98,Try.ntmps98;go_wp2_with fail;go_loopw [7,8] (fun va vb wr=>va= .int .i64 0∧vb= .int .i64 20∧Aside0 (wr=w)) (fun va _ _=>0)
 case atStart=>exact⟨by go_num,by go_num,⟨rfl⟩⟩
 case round=>
  obtain⟨rfl,rfl,HW⟩:=hrel;go_wp2_with fail;refine(insertion_nil A cap f _).mono ?_;rintro e1 w1 ⟨rfl,rfl⟩;go_wp2_with fail;go_loopw [6] (fun vs wr=>vs= .int .i64 20∧Aside0 (wr=w)) (fun vs _=>0)
  case atStart=>exact⟨by go_num,HW⟩
  case round=>
   clear HW;obtain⟨rfl,HW⟩:=hrel;go_wp2_with fail;go_end0;exact⟨rfl,HW.out⟩
theorem sortStable_nil (A:Option Addr) (cap:Nat) (f:Value) (w:World):
  Calls Try.prog 85 #[.slice A 0 cap,f] w fun e w'=>e= .returned (.tuple #[])∧w'=w:=by
 go_enter Try.func85,Try.ntmps85;go_wp2_with fail;refine(stable_nil A cap f w).mono ?_;rintro e1 w1 ⟨rfl,rfl⟩;go_wp2_with fail;go_end0;exact⟨rfl,rfl⟩
end H
end Go.Proofs.Ytoedkglggapggaa
