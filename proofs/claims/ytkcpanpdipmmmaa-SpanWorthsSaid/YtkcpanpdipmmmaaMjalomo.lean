/- What the law's row needs of these texts, taken out of them by wip/tool/mini.py: QRawMem QQueGrow QLeast QReverseWalk QLevelDef QFarsWalk QFastWalk QFlowWalk QEndsLaw QRightOf QEndsRight QFillMem QPhaseWalk QFillWalk QSpanFill P177 P101 P178 P179 P180 P181 QOpen QCheckRef QMostLaw QWorthLaw QSpanMostLaw QLSpanWorths. -/
import Derived.Test.YtkcpanpdipmmmaaMkjnjnn
import Derived.Test.YtkcpanpdipmmmaaMdkhnlc
import Derived.Deep.RegionHeld3
import Derived.Deep.RegionLaw
import Derived.Deep.AppendLies
import Derived.IntWalk
import Derived.Laws.IdiomCopy
import Derived.Test.YtkcpanpdipmmmaaProg
import Derived.Test.YtkcpanpdipmmmaaMjbllec
import Derived.Test.YtkcpanpdipmmmaaMahlchd
import Derived.Laws.CopyOwn
import Derived.RegionTactic
import Derived.ChangeAlike
import Derived.BigRegion
import Derived.LoopTactic
import Derived.WalkKit
import Derived.WalkMore
import Derived.Deep.DeepCutAuto
import Derived.Lib.SliceRun
import Derived.Test.YtkcpanpdipmmmaaVjmefen
import Derived.Deep.Slices
import Derived.Deep.Fields
import Derived.ChangeSame
import Derived.ChangeArms
import Derived.OpenShut
set_option linter.unusedVariables false
set_option linter.unusedSimpArgs false
namespace Go.Proofs.Ytkcpanpdipmmmaa.H
open Go.RowKit Go.Proofs.YtkcpanpdipmmmaaW.PrintWords Go.Proofs.YtkcpanpdipmmmaaW.PrintLast Go.Proofs.YtkcpanpdipmmmaaW.PrintMore Go.Proofs.Ytkcpanpdipmmmaa.P
def IsI (w:World) (g:Nat) (D:List Int):Prop:=w.heap[g]? =some (.cells (nums .i64 D).toArray 3 (0,0))
def stC (B:List S38):List Value:=B.flatMap fun s=>[.int .i64 s.f0, .bool s.f1]
def IsS (w:World) (g:Nat) (B:List S38):Prop:=w.heap[g]? =some (.cells (stC B).toArray 38 (0,0))
theorem stC_len (B:List S38):(stC B).length=2 * B.length:=by
 induction B with
 |nil=>rfl
 |cons s B ih=>show ([_,_] ++ stC B).length=_;rw[List.length_append,ih,List.length_cons];simp;omega
theorem stC_cons (s:S38) (B:List S38):stC (s::B)= .int .i64 s.f0:: .bool s.f1::stC B:=rfl
theorem stC_get (z:S38): ∀ (B:List S38) (u:Nat),u<B.length→(stC B)[u * 2]? =some (.int .i64 (B.getD u z).f0)∧(stC B)[u * 2+1]? =some (.bool (B.getD u z).f1)
 |[],u,h=>by simp at h
 |s::B,0,_=>⟨rfl,rfl⟩
 |s::B,u+1,h=>by
  have:=stC_get z B u (by simpa using h)
  rw[stC_cons,show (u+1) * 2=(u * 2+1)+1 by omega,List.getElem?_cons_succ,List.getElem?_cons_succ,List.getElem?_cons_succ,List.getElem?_cons_succ,List.getD_cons_succ]
  exact this
section
variable {w w1:World} {g:Nat} {D:List Int} {B:List S38}
theorem IsI.lt (h:IsI w g D):g<w.heap.size:=blk_lt h
theorem IsI.same (h:IsI w g D) (e:w1.heap[g]? =w.heap[g]?):IsI w1 g D:=e.trans h
theorem IsI.below (h:IsI w g D) (hb:Below w.heap.size w w1):IsI w1 g D:=h.same (hb.block g h.lt)
theorem IsI.cell (h:IsI w g D) {j:Nat} (hj:j<D.length):w.cell? ⟨g,j,none⟩=some (.int .i64 (D.getD j 0)):=(blk_cell h j).trans (nums_get D j hj)
theorem IsI.free (h:IsI w g D) (j:Nat):w.frozen? ⟨g,j,none⟩=false:=blk_frozen h j
theorem IsI.put (h:IsI w g D) (j:Nat) (x:Int):IsI (w.setCell ⟨g,j,none⟩ (.int .i64 x)) g (D.set j x):=by
 refine(blk_set h j _).trans ?_
 simp[nums,List.map_set]
theorem IsI.R (h:IsI w g D) (hl:D.length≤9223372036854775807) {base:Nat} (hb:base≤g) {ok:Nat→Prop} (hok:ok g):Kd.R (Kd.int .i64) 3 w base ok (.slice (some ⟨g,0,none⟩) D.length D.length) D:=by
 refine Kd.R_of_own (enc:=Value.int .i64) ?_ (fun k hk=> ?_)
 ·refine⟨by simp[encs], .inr ⟨g,D.length,_,rfl,hb,h,Nat.le_refl _,by simp only[maxLen];omega,by simp[nums],?_⟩⟩
  simp only[nums,encs,Nat.mul_one]
  exact List.take_of_length_le (by simp)
 ·have:g=k:=by simpa [Value.ownBlock] using hk
  subst this;exact hok
theorem IsS.R (h:IsS w g B) (hl:B.length≤9223372036854775807) {base:Nat} (hb:base≤g) {ok:Nat→Prop} (hok:ok g):Kd.R k38 38 w base ok (.slice (some ⟨g,0,none⟩) B.length B.length) B:=by
 refine⟨fun k hk=> ?_,stC B,⟨?_, .inr ⟨g,B.length,_,rfl,hb,h,Nat.le_refl _,by simp only[maxLen];omega,?_,?_⟩⟩,?_,fun j p hj=> ?_⟩
 ·have:g=k:=by simpa [Value.ownBlock] using hk
  subst this;exact hok
 ·rw[stC_len];show 2 * B.length=B.length * 2;omega
 ·show (stC B).toArray.size=B.length * 2
  rw[List.size_toArray,stC_len];omega
 ·show (stC B).toArray.toList.take (B.length * 2)=stC B
  rw[List.take_of_length_le (by simp[stC_len];omega)]
 ·rw[stC_len];show 2 * B.length=B.length * 2;omega
 ·obtain⟨hlt,hp⟩:=List.getElem?_eq_some_iff.1 hj
  obtain⟨h1,h2⟩:=stC_get p B j hlt
  have hg:B.getD j p=p:=by rw[List.getD_eq_getElem?_getD,hj];rfl
  rw[hg] at h1 h2
  have e:((stC B).drop (j * 2)).take 2=[.int .i64 p.f0, .bool p.f1]:=by
   apply List.ext_getElem?
   intro m
   rw[List.getElem?_take,List.getElem?_drop]
   match m with
   |0=>rw[if_pos (by omega),Nat.add_zero,h1];rfl
   |1=>rw[if_pos (by omega),h2];rfl
   |m+2=>rw[if_neg (by omega)];rfl
  show Kd.M k38 w base _ p (((stC B).drop (j * 2)).take 2)
  rw[e]
  exact k38_mkM _ _ _ p
end
end Go.Proofs.Ytkcpanpdipmmmaa.H
namespace Go.Proofs.Ytkcpanpdipmmmaa.H
open Go.RowKit Go.Proofs.YtkcpanpdipmmmaaW.PrintWords Go.Proofs.YtkcpanpdipmmmaaW.PrintLast Go.Proofs.YtkcpanpdipmmmaaW.PrintMore Go.Proofs.Ytkcpanpdipmmmaa.P
attribute [local irreducible] wpQuiet
theorem info3:(Try.prog.info? 3).map (fun i=>(i.zero,i.size,i.bytes))=some (some (.int .i64 0),1,8):=by kernel_rfl
end Go.Proofs.Ytkcpanpdipmmmaa.H
namespace Go.Proofs.Ytkcpanpdipmmmaa.H
theorem exists_least {P:Nat→Prop} : ∀ m,P m→ ∃ n,P n∧ ∀ k,P k→n≤k:=by
 intro m
 induction m using Nat.strongRecOn with
 |_ m ih=>
  intro hm
  by_cases h: ∃ k,k<m∧P k
  ·obtain⟨k,hk,hp⟩:=h
   exact ih k hk hp
  ·exact⟨m,hm,fun k hk=>Nat.le_of_not_lt fun hl=>h ⟨k,hl,hk⟩⟩
open Classical in
noncomputable def least (P:Nat→Prop):Nat:=if h: ∃ n,P n∧ ∀ k,P k→n≤k then Classical.choose h else 0
theorem least_both {P:Nat→Prop} (h: ∃ m,P m):P (least P)∧ ∀ k,P k→least P≤k:=by
 obtain⟨m,hm⟩:=h
 unfold least
 rw[dif_pos (exists_least m hm)]
 exact Classical.choose_spec (exists_least m hm)
theorem least_spec {P:Nat→Prop} (h: ∃ m,P m):P (least P):=(least_both h).1
theorem least_le {P:Nat→Prop} {m:Nat} (h:P m):least P≤m:=(least_both ⟨m,h⟩).2 m h
theorem least_lt {P Q:Nat→Prop} {m:Nat} (h:Q m) (hm:m<least P):least Q<least P:=Nat.lt_of_le_of_lt (least_le h) hm
end Go.Proofs.Ytkcpanpdipmmmaa.H
namespace Go.Proofs.Ytkcpanpdipmmmaa.H
open Go.RowKit Go.Proofs.YtkcpanpdipmmmaaW.PrintWords Go.Proofs.YtkcpanpdipmmmaaW.PrintLast Go.Proofs.YtkcpanpdipmmmaaW.PrintMore Go.Proofs.Ytkcpanpdipmmmaa.P
def revM (M:Nat→S38) (N i x:Nat):S38:=if x<i∨N - i≤x then M (N - 1 - x) else M x
theorem revM_step (M:Nat→S38) (N i j:Nat) (h:i+j+1=N) (hij:i<j) (x:Nat) (hx:x<N):revM M N (i+1) x=upd (upd (revM M N i) i (revM M N i j)) j (revM M N i i) x:=by
 unfold upd revM
 by_cases e1:x=j
 ·subst e1
  rw[if_pos (by omega),if_pos rfl,if_neg (by omega)]
  congr 1;omega
 ·rw[if_neg e1]
  by_cases e2:x=i
  ·subst e2
   rw[if_pos (by omega),if_pos rfl,if_neg (by omega)]
   congr 1;omega
  ·rw[if_neg e2]
   by_cases e3:x<i∨N - i≤x
   ·rw[if_pos (by omega),if_pos e3]
   ·rw[if_neg (by omega),if_neg e3]
set_option maxHeartbeats 2000000 in
set_option maxRecDepth 100000 in
theorem reverse_calls (g N cap:Nat) (M:Nat→S38) (w:World) (h:Arr w g N M) (hN0:0<N) (hN:N≤1000000):
  Calls Try.prog 148 #[.slice (some ⟨g,0,none⟩) N cap] w fun e w'=>e= .returned (.tuple #[])∧Arr w' g N (fun x=>M (N - 1 - x))∧Fr w w' g:=by
 have HA:=Aside0.mk h
 have p0:(0:Int)<(N:Int):=by omega
 have p1:(N:Int)≤1000000:=by omega
 clear h
 go_enter Try.func148,Try.ntmps148
 go_wp2_with fail
 go_loopw [2,3] (fun v2 v3 w'=> ∃ i j:Nat,i+j+1=N∧v2= .int .i64 i∧v3= .int .i64 j∧i≤j+1∧Aside0 (Arr w' g N (revM M N i))∧Aside0 (Fr w w' g)) (fun v2 _ _=>N - (intOf v2).toNat)
 case atStart=>exact⟨0,N - 1,by omega,rfl,by first|go_num|(congr 1;omega),by omega,⟨HA.out.congr (fun x hx=>by unfold revM;rw[if_neg (by omega)])⟩,⟨grow_refl w g⟩⟩
 case round=>
  obtain⟨i,j,hij,rfl,rfl,hle,HR,HF⟩:=hrel
  by_cases hlt:i<j
  ·have e1:decide ((i:Int)<(j:Int))=true:=decide_eq_true (by omega)
   have q0:(0:Int)≤(i:Int):=by omega
   have q1:(i:Int)<(N:Int):=by omega
   have q2:(0:Int)≤(j:Int):=by omega
   have q3:(j:Int)<(N:Int):=by omega
   have q4:(1:Int)≤(j:Int):=by omega
   have a0:=HR.out.cell0 (x:=i) (by omega)
   have a1:=HR.out.cell1 (x:=i) (by omega)
   have b0:=HR.out.cell0 (x:=j) (by omega)
   have b1:=HR.out.cell1 (x:=j) (by omega)
   have f0:=HR.out.free (i * 2)
   have f1:=HR.out.free (i * 2+1)
   have f2:=HR.out.free (j * 2)
   have f3:=HR.out.free (j * 2+1)
   have n1:i * 2≠j * 2:=by omega
   have n2:i * 2≠j * 2+1:=by omega
   have n3:i * 2+1≠j * 2:=by omega
   have n4:i≠j:=by omega
   have HA2:=Aside0.mk ((((HR.out.put (x:=i) (by omega) (revM M N i j)).put (x:=j) (by omega) (revM M N i i)).congr (fun x hx=>revM_step M N i j hij hlt x hx)).drew)
   have HF2:Aside0 (Fr w ((((((wr.setCell ⟨g,i * 2,none⟩ (.int .i64 (revM M N i j).f0)).setCell ⟨g,i * 2+1,none⟩ (.bool (revM M N i j).f1)).setCell ⟨g,j * 2,none⟩ (.int .i64 (revM M N i i).f0)).setCell ⟨g,j * 2+1,none⟩ (.bool (revM M N i i).f1)).drew)) g):=⟨grow_drew (grow_set (grow_set (grow_set (grow_set HF.out _ _) _ _) _ _) _ _)⟩
   clear HR HF
   generalize revM M N i i=si at *
   generalize revM M N i j=sj at *
   go_wp2_with fail
   go_region
   clear a0 a1 b0 b1 f0 f1 f2 f3 n1 n2 n3 n4
   generalize ((((wr.setCell ⟨g,i * 2,none⟩ (.int .i64 sj.f0)).setCell ⟨g,i * 2+1,none⟩ (.bool sj.f1)).setCell ⟨g,j * 2,none⟩ (.int .i64 si.f0)).setCell ⟨g,j * 2+1,none⟩ (.bool si.f1)).drew=w9 at HA2 HF2 ⊢
   go_wp2_with fail
   go_roundw
   case rel=>exact⟨i+1,j - 1,by omega,by go_num,by first|go_num|(congr 1;omega),by omega,HA2,HF2⟩
   case measure=>simp[intOf]<;>omega
  ·have e1:decide ((i:Int)<(j:Int))=false:=decide_eq_false (by omega)
   go_wp2_with fail
   refine bodyPost_end (results_none rfl _ _ _) rfl ⟨rfl,HR.out.congr (fun x hx=> ?_),HF.out⟩
   unfold revM
   by_cases e3:x<i∨N - i≤x
   ·rw[if_pos e3]
   ·rw[if_neg e3]
    congr 1;omega
theorem map_rev (xs:List S38) (z:S38):(List.range xs.length).map (fun x=>xs.getD (xs.length - 1 - x) z)=xs.reverse:=by
 apply List.ext_getElem (by simp)
 intro j h1 h2
 have hj:j<xs.length:=by simpa using h2
 rw[List.getElem_map,List.getElem_range,List.getElem_reverse,List.getD_eq_getElem?_getD,List.getElem?_eq_getElem (by omega)]
 rfl
theorem reverse_row (base:Nat) (ok:Nat→Prop) (v:Value) (xs:List S38) (w:World) (h:Kd.R k38 38 w base ok v xs) (hp:0<xs.length) (hl:xs.length≤1000000):
  Calls Try.prog 148 #[v] w fun e w'=>e= .returned (.tuple #[])∧Kd.R k38 38 w' base ok v xs.reverse∧w.grownBy w' v.ownBlock:=by
 obtain⟨g,cap,rfl,hb,hlt,_⟩:=Kd.R_form h hp
 refine(reverse_calls g xs.length cap _ w (arr_of_R h hp) hp hl).mono ?_
 rintro e w' ⟨rfl,ha,hf⟩
 have hr:=R_of_arr (ok':=ok) h rfl hp ha hf (h.1 g rfl)
 rw[map_rev] at hr
 exact⟨rfl,hr,hf.1⟩
end Go.Proofs.Ytkcpanpdipmmmaa.H
namespace Go.Proofs.Ytkcpanpdipmmmaa.H
open Go.RowKit Go.Proofs.YtkcpanpdipmmmaaW.PrintWords Go.Proofs.YtkcpanpdipmmmaaW.PrintLast Go.Proofs.YtkcpanpdipmmmaaW.PrintMore Go.Proofs.Ytkcpanpdipmmmaa.P Go.Proofs.Ytkcpanpdipmmmaa.Q
def endsErr (n:Int) (l:List S74) (s t:Int):Int:=if netErr n l=0 then(if 0≤s∧s<n∧0≤t∧t<n∧s≠t then 0 else 70) else netErr n l
end Go.Proofs.Ytkcpanpdipmmmaa.H
namespace Go.Proofs.Ytkcpanpdipmmmaa.H
open Go.RowKit Go.Proofs.YtkcpanpdipmmmaaW.PrintWords Go.Proofs.YtkcpanpdipmmmaaW.PrintLast Go.Proofs.YtkcpanpdipmmmaaW.PrintMore Go.Proofs.Ytkcpanpdipmmmaa.P
attribute [local irreducible] wpQuiet
theorem fromS_f {l:List S74} {F:List Int} {n:Nat} (hr:Right l F n) {s:S38} (hs:StepOf l s) (a:Int) (b:Bool):static_Flowing_From.f a b l F s.f0 s.f1=some (stFrom l s):=by
 obtain⟨i,h1,h2⟩:=hs
 unfold static_Flowing_From.f stFrom eFrom eTo
 rw[h2]
 cases s.f1<;>simp[h1]
end Go.Proofs.Ytkcpanpdipmmmaa.H
namespace Go.Proofs.Ytkcpanpdipmmmaa.H
open Go.RowKit Go.Proofs.YtkcpanpdipmmmaaW.PrintWords Go.Proofs.YtkcpanpdipmmmaaW.PrintLast Go.Proofs.YtkcpanpdipmmmaaW.PrintMore Go.Proofs.Ytkcpanpdipmmmaa.P
attribute [local irreducible] wpQuiet
set_option maxHeartbeats 4000000 in
set_option maxRecDepth 100000 in
theorem fastest_calls (n0:Nat) (a0_1:Bool) (A2:Option Addr) (c2:Nat) (l:List S74) (A3:Option Addr) (c3:Nat) (F:List Int) (A4:Option Addr) (c4:Nat) (AD:Option Addr) (cD:Nat) (AI:Option Addr) (cI:Nat) (AB:Option Addr) (cB:Nat) (x:Rch) (rk:Nat→Nat) (s t:Nat) (w:World)
  (hR:Right l F n0) (hx:x.Ok n0) (hby:ByOk l F n0 s x rk) (hs:s<n0) (ht:t<n0) (hts:s≠t) (hI:x.I.getD t false=true) (hc2:l.length≤c2) (hc3:F.length≤c3) (h2:Kd.C k74 w A2 l.length l) (h3:Kd.C (Kd.int .i64) w A3 F.length F) (h5:Kd.C k38 w AB n0 x.B):
  Calls Try.prog 152 #[.agg #[.int .i64 (n0:Int), .bool a0_1, .slice A2 l.length c2, .slice A3 F.length c3, .slice A4 n0 c4], .agg #[.slice AD n0 cD, .slice AI n0 cI, .slice AB n0 cB], .int .i64 (s:Int), .int .i64 (t:Int)] w fun e w'=> ∃ v:Value,e= .returned v∧Kd.R k38 38 w' w.heap.size (fun _=>True) v (backB l x s (n0+1) t).reverse∧Below w.heap.size w w':=by
 have hu118:=Try.underlying118
 have hu115:=Try.underlying115
 have hu109:=Try.underlying109
 have hn50:=hR.fifty
 obtain⟨ad,eAB,_⟩:=h5.2.2 (by omega)
 subst eAB
 obtain⟨FULL,hFU⟩: ∃ L_,L_=backB l x s (n0+1) t:=⟨_,rfl⟩
 rw[← hFU]
 have HFU:=Aside0.mk hFU
 have HR:=Aside0.mk hR
 have HX:=Aside0.mk hx
 have HBY:=Aside0.mk hby
 have HIT:=Aside0.mk hI
 have HC2:=Aside0.mk hc2
 have HC3:=Aside0.mk hc3
 have H2:=Aside0.mk h2
 have H3:=Aside0.mk h3
 have H5:=Aside0.mk h5
 have HB:=Aside0.mk (Below.refl w.heap.size w)
 clear hR hx hby hI hc2 hc3 h2 h3 h5 hFU
 go_enter Try.func152,Try.ntmps152
 go_upto_region 2 with (first|((with_reducible refine gate_dst (N:=4) rfl ?_);refine box_event ?hg (N:=4) ?hd (cs:= #[.int .i64 (n0:Int), .bool a0_1, .slice A2 l.length c2, .slice A3 F.length c3, .slice A4 n0 c4]) (t:=118) ?hr ?_;(case hd=>rfl);(case hg=>rfl);(case hr=>first|(go_simp;done)|(go_simp;rfl));intro g4 hg w5 hbox hb;have B4:=Aside0.mk hbox;have m0_:=Aside0.mk (below_step HB.out hb);clear HB hb hbox hg;have HB:=m0_;clear m0_)|((with_reducible refine gate_dst (N:=5) rfl ?_);refine box_event ?hg (N:=5) ?hd (cs:= #[.slice AD n0 cD, .slice AI n0 cI, .slice (some ad) n0 cB]) (t:=109) ?hr ?_;(case hd=>rfl);(case hg=>rfl);(case hr=>first|(go_simp;done)|(go_simp;rfl));intro g5 hg w6 hbox hb;have B5:=Aside0.mk hbox;have m0_:=Aside0.mk (below_step HB.out hb);have m1_:=Aside0.mk (blk_below B4.out hb);clear HB B4 hb hbox hg;have HB:=m0_;have B4:=m1_;clear m0_ m1_)|fail)
 have HO:Aside0 (Kd.R k38 38 (w6.alloc (.cells #[] 38)) w.heap.size (fun k=>k≠g4∧k≠g5) (.slice (some ⟨w6.heap.size,0,none⟩) 0 0) []):=⟨IsS.R (B:=[]) (heap_alloc_new w6 _) (by simp) HB.out.size ⟨by have:=blk_lt B4.out;omega,by have:=blk_lt B5.out;omega⟩⟩
 have m0_:=Aside0.mk (below_alloc HB.out (.cells #[] 38))
 have m1_:=Aside0.mk (blk_below B4.out (below_alloc (Below.refl _ _) (.cells #[] 38)))
 have m2_:=Aside0.mk (blk_below B5.out (below_alloc (Below.refl _ _) (.cells #[] 38)))
 clear HB B4 B5
 have HB:=m0_
 have B4:=m1_
 have B5:=m2_
 clear m0_ m1_ m2_
 generalize w6.alloc (.cells #[] 38)=w7 at *
 generalize Value.slice (some ⟨w6.heap.size,0,none⟩) 0 0=v0 at *
 go_wp2_with fail
 go_loopw [9,10] (fun v9 v10 w'=> ∃ (v m:Nat) (O:List S38),v10= .int .i64 (v:Int)∧v<n0∧Aside0 (x.I.getD v false=true)∧Aside0 (cntB rk n0 v<m)∧Aside0 (O ++ backB l x s m v=FULL)∧Aside0 (O.length+cntB rk n0 v≤50)∧Aside0 (Kd.R k38 38 w' w.heap.size (fun k=>k≠g4∧k≠g5) v9 O)∧Aside0 (w'.heap[g4]? =some (.cells #[.int .i64 (n0:Int), .bool a0_1, .slice A2 l.length c2, .slice A3 F.length c3, .slice A4 n0 c4] 118 (0,0)))∧Aside0 (w'.heap[g5]? =some (.cells #[.slice AD n0 cD, .slice AI n0 cI, .slice (some ad) n0 cB] 109 (0,0)))∧Aside0 (Below w.heap.size w w')) (fun _ v10 _=>cntB rk n0 (intOf v10).toNat)
 case atStart=>exact⟨t,n0+1,[],rfl,ht,HIT,⟨by have:=cntB_le rk n0 t;omega⟩,⟨by rw[List.nil_append];exact HFU.out.symm⟩,⟨by have:=cntB_le rk n0 t;show 0+_≤_;omega⟩,HO,B4,B5,HB⟩
 case round=>
  clear HO B4 B5 HB
  obtain⟨v,m,O,rfl,hv,HI,HM,HBK,HLN,HO,B4,B5,HB⟩:=hrel
  obtain⟨m,rfl⟩: ∃ m_,m=m_+1:=⟨m - 1,by have:=HM.out;omega⟩
  by_cases hvs:v=s
  ·have e1:((v:Int) != (s:Int))=false:=by rw[hvs];simp
   have hO:O=FULL:=by
    have h_:=HBK.out
    rw[backB,if_pos hvs,List.append_nil] at h_
    exact h_
   have hlp:0<O.length:=by
    rw[hO,HFU.out,backB,if_neg (Ne.symm hts)]
    simp
   have HOE:=Aside0.mk hO
   have HLP:=Aside0.mk hlp
   clear hO hlp hvs
   go_wp2_with (first|(go_at_call 148;refine(reverse_row w.heap.size _ u9 O _ HO.out HLP.out (by have:=HLN.out;omega)).mono ?_;rintro e_ w9 ⟨rfl,hr,hg⟩;have m0_:=Aside0.mk hr;have m1_:=Aside0.mk (pw_below_grown HB.out _ HB.out.size hg (fun k hk=>Kd.R_base HO.out k hk));clear HO HB hr hg;have HO:=m0_;have HB:=m1_;clear m0_ m1_)|fail)
   go_ret
   exact⟨_,rfl,by rw[← HOE.out];exact Kd.R_mono HO.out (fun _ _=>trivial),HB.out⟩
  ·have e1:((v:Int) != (s:Int))=true:=by rw[bne_iff_ne];omega
   obtain⟨a1,a2,a3,a4,a5,a6⟩:=HBY.out.is_ v hv HI.out hvs
   obtain⟨e,hee⟩: ∃ e_,e_=x.B.getD v z38:=⟨_,rfl⟩
   have hfl:=frP_lt HR.out a1
   have hlt:=cntB_lt (n:=n0) hfl a6
   have hff:=stFrom_in HR.out a1
   have hfm:=fromS_f HR.out a1 (n0:Int) a0_1
   rw[← hee] at a1 a4 hfl hlt hff hfm
   obtain⟨u,hu⟩: ∃ u_,u_=frP l e:=⟨_,rfl⟩
   have hfi:stFrom l e=(u:Int):=by rw[hu];unfold frP;omega
   rw[hfi] at hfm
   rw[← hu] at a4 hfl hlt
   have HFM:=Aside0.mk hfm
   have HBK2:Aside0 ((O ++ [e]) ++ backB l x s m u=FULL):=⟨by rw[← HBK.out,backB,if_neg hvs, ← hee, ← hu,List.append_assoc];rfl⟩
   have HA4:=Aside0.mk a4
   have HM2:Aside0 (cntB rk n0 u<m):=⟨by have:=HM.out;omega⟩
   have HLN2:Aside0 ((O ++ [e]).length+cntB rk n0 u≤50):=⟨by rw[List.length_append,List.length_singleton];have:=HLN.out;omega⟩
   have HLT:=Aside0.mk hlt
   have hOl:O.length≤50:=by have:=HLN.out;omega
   have hB:=HX.out.hB
   have pv:(0:Int)≤(v:Int):=by omega
   have qv:(v:Int)<(n0:Int):=by omega
   obtain⟨ad',ead,b0,b1⟩:=at_T38 (Kd.C_below H5.out HB.out) (v:Int) pv qv
   injection ead with ead
   subst ead
   have hrd:rd_T38 x.B (v:Int)=e:=by rw[hee];unfold rd_T38;rw[Int.toNat_natCast]
   have HRD:=Aside0.mk hrd
   rw[hrd,Int.toNat_natCast] at b0 b1
   clear a1 a2 a3 a4 a5 a6 hlt hff hfm hfi hu hee hrd HBK HM hvs hB HI
   have x2:wr.cell? ⟨g5,2,none⟩=some (.slice (some ad) n0 cB):=(blk_cell B5.out 2).trans rfl
   go_wp2_with (first|((with_reducible refine gate_builtin (b:= .append) (xs:= #[.tmp 24, .tmp 30]) rfl ?_);at_builtin;refine Kd.R_append k38 (w0:=w) w.heap.size rfl (.tmp 24) (.tmp 30) 34 38 (.agg #[(.int .i64 0),(.bool false)]) 16 rfl Try.underlying34 info38 rfl (by decide) (by omega) u9 O e [.int .i64 e.f0, .bool e.f1] (fun k=>k≠g4∧k≠g5) (fun _=>False) rfl rfl ?aP (fun _ hk=>hk.elim) ?aF ?aO ?aB ?aS ?aL ?_;(case aP=>exact k38_mkM _ _ _ e);(case aF=>exact(fun k hk=>⟨by have:=blk_lt B4.out;omega,by have:=blk_lt B5.out;omega⟩));(case aO=>exact HO.out);(case aB=>exact HB.out);(case aS=>exact HB.out.size);(case aL=>omega);intro v1 w9 ho hb hg hat;have m0_:=Aside0.mk ho;have m1_:=Aside0.mk hb;have m2_:=Aside0.mk ((hg.block g4 (blk_lt B4.out) (fun h=>(HO.out.1 g4 h.symm).1 rfl)).trans B4.out);have m3_:=Aside0.mk ((hg.block g5 (blk_lt B5.out) (fun h=>(HO.out.1 g5 h.symm).2 rfl)).trans B5.out);clear HO B4 B5 HB ho hb hg hat b0 b1 x2;have HO:=m0_;have HB:=m1_;have B4:=m2_;have B5:=m3_;clear m0_ m1_ m2_ m3_)|fail)
   obtain⟨ad',ead,d0,d1⟩:=at_T38 (Kd.C_below H5.out HB.out) (v:Int) pv qv
   injection ead with ead
   subst ead
   rw[HRD.out,Int.toNat_natCast] at d0 d1
   have q0: ∀ p:BelowW w9,p.at_.cell? ⟨g4,0,none⟩=some (.int .i64 (n0:Int)):=fun p=>p.cell ((blk_cell B4.out 0).trans rfl)
   have q1: ∀ p:BelowW w9,p.at_.cell? ⟨g4,1,none⟩=some (.bool a0_1):=fun p=>p.cell ((blk_cell B4.out 1).trans rfl)
   have q2: ∀ p:BelowW w9,p.at_.cell? ⟨g4,2,none⟩=some (.slice A2 l.length c2):=fun p=>p.cell ((blk_cell B4.out 2).trans rfl)
   have q3: ∀ p:BelowW w9,p.at_.cell? ⟨g4,3,none⟩=some (.slice A3 F.length c3):=fun p=>p.cell ((blk_cell B4.out 3).trans rfl)
   have q4: ∀ p:BelowW w9,p.at_.cell? ⟨g5,2,none⟩=some (.slice (some ad) n0 cB):=fun p=>p.cell ((blk_cell B5.out 2).trans rfl)
   have q5: ∀ p:BelowW w9,p.at_.cell? (ad.add (v * 2))=some (.int .i64 e.f0):=fun p=>p.cell d0
   have q6: ∀ p:BelowW w9,p.at_.cell? ⟨(ad.add (v * 2)).block,(ad.add (v * 2)).off+1,none⟩=some (.bool e.f1):=fun p=>p.cell d1
   have HCA:Aside0 (∀ p:BelowW w9,Kd.C k74 p.at_ A2 l.length l):=⟨fun p=>Kd.C_below (Kd.C_below H2.out HB.out) p.below⟩
   have HCF:Aside0 (∀ p:BelowW w9,Kd.C (Kd.int .i64) p.at_ A3 F.length F):=⟨fun p=>Kd.C_below (Kd.C_below H3.out HB.out) p.below⟩
   clear d0 d1
   refine wp_region_quiet_below (by kernel_rfl) (by kernel_rfl) ?_;(repeat(quiet_step ((first|(go_at_call 106;exact calls_below_of (static_Flowing_From.calls (n0:Int) a0_1 A2 c2 l A3 c3 F e.f0 e.f1 (u:Int) _ (HCA.out _) HC2.out (HCF.out _) HC3.out HFM.out))))));refine wpQuiet_nil ?_;intro wq hw';obtain⟨⟨wz,hbq⟩,hwq⟩:=hw';subst hwq
   have m0_:=Aside0.mk (Kd.R_below HO.out hbq)
   have m1_:=Aside0.mk (blk_below B4.out hbq)
   have m2_:=Aside0.mk (blk_below B5.out hbq)
   have m3_:=Aside0.mk (below_step HB.out hbq)
   clear HO B4 B5 HB HCA HCF q0 q1 q2 q3 q4 q5 q6 hbq
   have HO:=m0_
   have B4:=m1_
   have B5:=m2_
   have HB:=m3_
   clear m0_ m1_ m2_ m3_
   go_wp2_with fail
   go_roundw
   case rel=>exact⟨u,m,O ++ [e],rfl,hfl,HA4,HM2,HBK2,HLN2,HO,B4,B5,HB⟩
   case measure=>have h_:=HLT.out;simpa [intOf] using h_
end Go.Proofs.Ytkcpanpdipmmmaa.H
namespace Go.Proofs.Ytkcpanpdipmmmaa.H
open Go.RowKit Go.Proofs.YtkcpanpdipmmmaaW.PrintWords Go.Proofs.YtkcpanpdipmmmaaW.PrintLast Go.Proofs.YtkcpanpdipmmmaaW.PrintMore Go.Proofs.Ytkcpanpdipmmmaa.P
set_option maxHeartbeats 2000000 in
set_option maxRecDepth 100000 in
theorem go_calls (n0:Int) (a0_1:Bool) (A2:Option Addr) (c2:Nat) (l:List S74) (gF cF:Nat) (F:List Int) (s:S38) (k:Int) (w:World)
  (hF:IsI w gF F) {i:Nat} (hi:i<F.length) (hs:s.f0=i) (hk: -9223372036854775808<k∧k≤9223372036854775807)
  (h1:s.f1=false→ -9223372036854775808≤F.getD i 0+k∧F.getD i 0+k≤9223372036854775807) (h2:s.f1=true→ -9223372036854775808≤F.getD i 0 - k∧F.getD i 0 - k≤9223372036854775807):
  Calls Try.prog 154 #[.agg #[.int .i64 n0, .bool a0_1, .slice A2 l.length c2, .slice (some ⟨gF,0,none⟩) F.length cF], .agg #[.int .i64 s.f0, .bool s.f1], .int .i64 k] w fun e w'=>e= .returned (.tuple #[])∧IsI w' gF (goS F s k)∧Ks (fun b=>b=gF) w w':=by
 have hu115:=Try.underlying115
 have hu38:=Try.underlying38
 obtain⟨x,y⟩:=s
 simp only at hs h1 h2
 subst hs
 have HF:=Aside0.mk hF
 have hg:=hF.lt
 clear hF
 cases y
 ·have hb:=h1 rfl
  have hwr:IntKind.i64.wrap (F.getD i 0+k)=F.getD i 0+k:=IntWalk.i64_in _ (by omega)
  clear h1 h2
  obtain⟨y0,hy0⟩: ∃ y,y=F.getD i 0:=⟨_,rfl⟩
  rw[← hy0] at hwr hb
  have HY:=Aside0.mk hy0
  clear hy0
  go_enter Try.func154,Try.ntmps154
  go_upto_region 1 with (first|((with_reducible refine gate_dst (N:=3) rfl ?_);refine box_event ?hg (N:=3) ?hd (cs:= #[.int .i64 n0, .bool a0_1, .slice A2 l.length c2, .slice (some ⟨gF,0,none⟩) F.length cF]) (t:=115) ?hr ?_;(case hd=>rfl);(case hg=>rfl);(case hr=>first|(go_simp;done)|(go_simp;rfl));intro g3 hg3 w3 hbox hb;have B3:=Aside0.mk hbox;have HB3:=Aside0.mk hb;have G3:Aside0 (w.heap.size≤g3):=⟨Nat.le_of_eq hg3.symm⟩;clear hg3;have m0_:=Aside0.mk (HF.out.below hb);clear HF hb hbox;have HF:=m0_;clear m0_)|((with_reducible refine gate_dst (N:=4) rfl ?_);refine box_event ?hg (N:=4) ?hd (cs:= #[.int .i64 (i:Int), .bool false]) (t:=38) ?hr ?_;(case hd=>rfl);(case hg=>rfl);(case hr=>first|(go_simp;done)|(go_simp;rfl));intro g4 hg4 w4 hbox hb;have B4:=Aside0.mk hbox;have G4:Aside0 (w.heap.size≤g4):=⟨Nat.le_trans HB3.out.size (Nat.le_of_eq hg4.symm)⟩;clear hg4;have HB4:=Aside0.mk (below_step HB3.out hb);have m0_:=Aside0.mk (HF.out.below hb);have m1_:=Aside0.mk (blk_below B3.out hb);clear HF B3 HB3 hb hbox;have HF:=m0_;have B3:=m1_;clear m0_ m1_;have a3:w4.cell? ⟨g3,3,none⟩=some (.slice (some ⟨gF,0,none⟩) F.length cF):=(blk_cell B3.out 3).trans rfl;have b0:w4.cell? ⟨g4,0,none⟩=some (.int .i64 (i:Int)):=(blk_cell B4.out 0).trans rfl;have b1:w4.cell? ⟨g4,1,none⟩=some (.bool false):=(blk_cell B4.out 1).trans rfl)|fail)
  have c0:=HF.out.cell hi
  have f0:=HF.out.free i
  rw[← HY.out] at c0
  go_wp2_with fail
  refine bodyPost_end (results_none rfl _ _ _) rfl ⟨rfl,?_,(Ks.of_below HB4.out (fun b=>b=gF)).set (g:=gF) (fun _=>rfl) i _⟩
  have e:goS F ⟨(i:Int),false⟩ k=F.set i (y0+k):=by unfold goS;simp[HY.out,Int.sub_eq_add_neg]
  rw[e]
  exact HF.out.put i _
 ·have hb:=h2 rfl
  have hwr:IntKind.i64.wrap (F.getD i 0+ -k)=F.getD i 0+ -k:=IntWalk.i64_in _ (by omega)
  have hwn:IntKind.i64.wrap (-k)= -k:=IntWalk.i64_in _ (by omega)
  clear h1 h2
  obtain⟨y0,hy0⟩: ∃ y,y=F.getD i 0:=⟨_,rfl⟩
  rw[← hy0] at hwr hb
  have HY:=Aside0.mk hy0
  clear hy0
  go_enter Try.func154,Try.ntmps154
  go_upto_region 1 with (first|((with_reducible refine gate_dst (N:=3) rfl ?_);refine box_event ?hg (N:=3) ?hd (cs:= #[.int .i64 n0, .bool a0_1, .slice A2 l.length c2, .slice (some ⟨gF,0,none⟩) F.length cF]) (t:=115) ?hr ?_;(case hd=>rfl);(case hg=>rfl);(case hr=>first|(go_simp;done)|(go_simp;rfl));intro g3 hg3 w3 hbox hb;have B3:=Aside0.mk hbox;have HB3:=Aside0.mk hb;have G3:Aside0 (w.heap.size≤g3):=⟨Nat.le_of_eq hg3.symm⟩;clear hg3;have m0_:=Aside0.mk (HF.out.below hb);clear HF hb hbox;have HF:=m0_;clear m0_)|((with_reducible refine gate_dst (N:=4) rfl ?_);refine box_event ?hg (N:=4) ?hd (cs:= #[.int .i64 (i:Int), .bool true]) (t:=38) ?hr ?_;(case hd=>rfl);(case hg=>rfl);(case hr=>first|(go_simp;done)|(go_simp;rfl));intro g4 hg4 w4 hbox hb;have B4:=Aside0.mk hbox;have G4:Aside0 (w.heap.size≤g4):=⟨Nat.le_trans HB3.out.size (Nat.le_of_eq hg4.symm)⟩;clear hg4;have HB4:=Aside0.mk (below_step HB3.out hb);have m0_:=Aside0.mk (HF.out.below hb);have m1_:=Aside0.mk (blk_below B3.out hb);clear HF B3 HB3 hb hbox;have HF:=m0_;have B3:=m1_;clear m0_ m1_;have a3:w4.cell? ⟨g3,3,none⟩=some (.slice (some ⟨gF,0,none⟩) F.length cF):=(blk_cell B3.out 3).trans rfl;have b0:w4.cell? ⟨g4,0,none⟩=some (.int .i64 (i:Int)):=(blk_cell B4.out 0).trans rfl;have b1:w4.cell? ⟨g4,1,none⟩=some (.bool true):=(blk_cell B4.out 1).trans rfl)|fail)
  have c0:=HF.out.cell hi
  have f0:=HF.out.free i
  rw[← HY.out] at c0
  go_wp2_with fail
  refine bodyPost_end (results_none rfl _ _ _) rfl ⟨rfl,?_,(Ks.of_below HB4.out (fun b=>b=gF)).set (g:=gF) (fun _=>rfl) i _⟩
  have e:goS F ⟨(i:Int),true⟩ k=F.set i (y0+ -k):=by unfold goS;simp[HY.out,Int.sub_eq_add_neg]
  rw[e]
  exact HF.out.put i _
def minF (l:List S74) (F:List Int):Int→List S38→Int
 |a,[]=>a
 |a,s::L=>minF l F (min a (stRoom l F s)) L
theorem minF_least (l:List S74) (F:List Int): ∀ (L:List S38) (a:Int),L≠[]→minF l F a L=min a (leastR l F L)
 |[],a,h=>absurd rfl h
 |[s],a,_=>rfl
 |s::t::L,a,_=>by
  show minF l F (min a (stRoom l F s)) (t::L)=_
  rw[minF_least l F (t::L) _ (by simp)]
  show _=min a (min (stRoom l F s) (leastR l F (t::L)))
  omega
theorem minF_cons (l:List S74) (F:List Int) (s:S38) (L:List S38):minF l F (stRoom l F s) L=leastR l F (s::L):=by
 cases L with
 |nil=>rfl
 |cons t L=>rw[minF_least l F (t::L) _ (by simp)];rfl
attribute [local go_sem] max2_int min2_int max_two min_two
set_option maxHeartbeats 2000000 in
set_option maxRecDepth 100000 in
theorem least_calls (n0:Nat) (a0_1:Bool) (A2:Option Addr) (c2:Nat) (l:List S74) (A3:Option Addr) (c3:Nat) (F:List Int) (g cW:Nat) (W:List S38) (w:World)
  (hR:Right l F n0) (hW: ∀ s,s∈W→StepOf l s) (hne:0<W.length) (hl:W.length≤1000000) (hcW:W.length≤cW)
  (hc: ∀ (j:Nat) (e:S38),W[j]? =some e→w.cell? ⟨g,j * 2,none⟩=some (.int .i64 e.f0)∧w.cell? ⟨g,j * 2+1,none⟩=some (.bool e.f1))
  (hc2:l.length≤c2) (hc3:F.length≤c3) (h2:Kd.C k74 w A2 l.length l) (h3:Kd.C (Kd.int .i64) w A3 F.length F):
  Calls Try.prog 153 #[.agg #[.int .i64 (n0:Int), .bool a0_1, .slice A2 l.length c2, .slice A3 F.length c3], .slice (some ⟨g,0,none⟩) W.length cW] w fun e w'=>e= .returned (.int .i64 (leastR l F W))∧Below w.heap.size w w':=by
 have hu115:=Try.underlying115
 have hu38:=Try.underlying38
 have HR:=Aside0.mk hR
 have HC:=Aside0.mk hc
 have HW:=Aside0.mk hW
 have HC2:=Aside0.mk hc2
 have HC3:=Aside0.mk hc3
 have H2:=Aside0.mk h2
 have H3:=Aside0.mk h3
 obtain⟨e0,he0⟩: ∃ e,W[0]? =some e:=⟨_,List.getElem?_eq_getElem hne⟩
 have hm0:=List.mem_of_getElem? he0
 have HFM:=Aside0.mk (room_f hR (hW e0 hm0) (n0:Int) a0_1)
 have HE0:=Aside0.mk he0
 have p1:(0:Int)<(W.length:Int):=by omega
 have p2:(1:Int)≤(W.length:Int):=by omega
 clear hR hc hW hc2 hc3 h2 h3 he0 hm0
 go_enter Try.func153,Try.ntmps153
 go_upto_region 1 with (first|((with_reducible refine gate_dst (N:=2) rfl ?_);refine box_event ?hg (N:=2) ?hd (cs:= #[.int .i64 (n0:Int), .bool a0_1, .slice A2 l.length c2, .slice A3 F.length c3]) (t:=115) ?hr ?_;(case hd=>rfl);(case hg=>rfl);(case hr=>first|(go_simp;done)|(go_simp;rfl));intro g2 hg2 w3 hbox hb;have B2:=Aside0.mk hbox;have HB:=Aside0.mk hb;clear hg2 hb hbox)|fail)
 have a0:w3.cell? ⟨g2,0,none⟩=some (.int .i64 n0):=(blk_cell B2.out 0).trans rfl;have a1:w3.cell? ⟨g2,1,none⟩=some (.bool a0_1):=(blk_cell B2.out 1).trans rfl;have a2:w3.cell? ⟨g2,2,none⟩=some (.slice A2 l.length c2):=(blk_cell B2.out 2).trans rfl;have a3:w3.cell? ⟨g2,3,none⟩=some (.slice A3 F.length c3):=(blk_cell B2.out 3).trans rfl
 obtain⟨b0,b1⟩:=HC.out 0 e0 HE0.out
 replace b0:=pw_cell_below HB.out b0
 replace b1:=pw_cell_below HB.out b1
 have q0: ∀ p:BelowW w3,p.at_.cell? ⟨g2,0,none⟩=some (.int .i64 n0):=fun p=>p.cell a0
 have q1: ∀ p:BelowW w3,p.at_.cell? ⟨g2,1,none⟩=some (.bool a0_1):=fun p=>p.cell a1
 have q2: ∀ p:BelowW w3,p.at_.cell? ⟨g2,2,none⟩=some (.slice A2 l.length c2):=fun p=>p.cell a2
 have q3: ∀ p:BelowW w3,p.at_.cell? ⟨g2,3,none⟩=some (.slice A3 F.length c3):=fun p=>p.cell a3
 have q4: ∀ p:BelowW w3,p.at_.cell? ⟨g,0,none⟩=some (.int .i64 e0.f0):=fun p=>p.cell (by simpa using b0)
 have q5: ∀ p:BelowW w3,p.at_.cell? ⟨g,1,none⟩=some (.bool e0.f1):=fun p=>p.cell (by simpa using b1)
 have HCA:Aside0 (∀ p:BelowW w3,Kd.C k74 p.at_ A2 l.length l):=⟨fun p=>Kd.C_below (Kd.C_below H2.out HB.out) p.below⟩
 have HCF:Aside0 (∀ p:BelowW w3,Kd.C (Kd.int .i64) p.at_ A3 F.length F):=⟨fun p=>Kd.C_below (Kd.C_below H3.out HB.out) p.below⟩
 clear a0 a1 a2 a3 b0 b1
 refine wp_region_quiet_below (by kernel_rfl) (by kernel_rfl) ?_;(repeat(quiet_step ((first|(go_at_call 104;exact calls_below_of (static_Flowing_Room.calls (n0:Int) a0_1 A2 c2 l A3 c3 F e0.f0 e0.f1 _ _ (HCA.out _) HC2.out (HCF.out _) HC3.out HFM.out))))));refine wpQuiet_nil ?_;intro wq hw';obtain⟨⟨wz,hbq⟩,hwq⟩:=hw';subst hwq
 have m0_:=Aside0.mk (below_step HB.out hbq)
 have m1_:=Aside0.mk (blk_below B2.out hbq)
 clear HB B2 hbq q0 q1 q2 q3 q4 q5 HCA HCF
 have HB:=m0_
 have B2:=m1_
 clear m0_ m1_
 go_upto_region 2 with fail
 go_cut [14,15,16] (fun v14 v15 v16 wx=> ∃ oz cz:Nat,v14= .slice (some ⟨g,oz,none⟩) (W.length - 1) cz∧(1<W.length→oz=2)∧v15= .int .i64 ((W.length - 1:Nat):Int)∧v16= .int .i64 0∧wx=wq)
 case first=>
  by_cases hcap:cW=1
  ·have e9:W.length=1:=by omega
   go_wp2_with fail
   go_meet
   exact⟨0,0,by simp[e9],fun h=>by omega,by simp[e9],rfl,rfl⟩
  ·go_wp2_with fail
   go_meet
   exact⟨2,_,rfl,fun h=>rfl,rfl,rfl,rfl⟩
 case rest=>
  obtain⟨oz,cz,rfl,hoz,rfl,rfl,rfl⟩:=hcut
  go_wp2_with fail
  go_loopw [5,16] (fun v5 v16 w'=> ∃ (a:Int) (j:Nat),v5= .int .i64 a∧v16= .int .i64 (j:Int)∧j+1≤W.length∧Aside0 (minF l F a (W.drop (j+1))=leastR l F W)∧Aside0 (w'.heap[g2]? =some (.cells #[.int .i64 (n0:Int), .bool a0_1, .slice A2 l.length c2, .slice A3 F.length c3] 115 (0,0)))∧Aside0 (Below w.heap.size w w')) (fun _ v16 _=>W.length - (intOf v16).toNat)
  case atStart=>exact⟨stRoom l F e0,0,rfl,rfl,by omega,⟨by
   have hd:W=e0::W.drop 1:=by
    obtain⟨h1,h2⟩:=List.getElem?_eq_some_iff.1 HE0.out
    have h_:=List.drop_eq_getElem_cons (i:=0) (l:=W) (by omega)
    rw[List.drop_zero,h2] at h_
    exact h_
   rw[Nat.zero_add,minF_cons, ← hd]⟩,B2,HB⟩
  case round=>
   clear B2 HB
   obtain⟨a,j,rfl,rfl,hj,HM,B2,HB⟩:=hrel
   by_cases hlt:j+1<W.length
   ·have e1:decide ((j:Int)<((W.length - 1:Nat):Int))=true:=decide_eq_true (by omega)
    obtain rfl:=hoz (by omega)
    obtain⟨e,he⟩: ∃ e,W[j+1]? =some e:=⟨_,List.getElem?_eq_getElem hlt⟩
    obtain⟨b0,b1⟩:=HC.out (j+1) e he
    have b0:wr.cell? ⟨g,2+j * 2,none⟩=some (.int .i64 e.f0):=by rw[show 2+j * 2=(j+1) * 2 by omega];exact pw_cell_below HB.out b0
    have b1:wr.cell? ⟨g,2+j * 2+1,none⟩=some (.bool e.f1):=by rw[show 2+j * 2=(j+1) * 2 by omega];exact pw_cell_below HB.out b1
    have HFM2:=Aside0.mk (room_f HR.out (HW.out e (List.mem_of_getElem? he)) (n0:Int) a0_1)
    have hM2:minF l F (min a (stRoom l F e)) (W.drop (j+1+1))=leastR l F W:=by
     rw[← HM.out]
     obtain⟨h1,h2⟩:=List.getElem?_eq_some_iff.1 he
     rw[List.drop_eq_getElem_cons h1,h2]
     rfl
    obtain⟨rm,hrm⟩: ∃ r_,r_=stRoom l F e:=⟨_,rfl⟩
    rw[← hrm] at hM2
    rw[← hrm] at HFM2
    clear he hrm
    have q1:(0:Int)≤(j:Int):=by omega
    have q2:(j:Int)<((W.length - 1:Nat):Int):=by omega
    go_upto_region 5 with fail
    have HN:Aside0 ((wr.alloc (.cells #[.int .i64 e.f0, .bool e.f1] 38)).heap[wr.heap.size]? =some (.cells #[.int .i64 e.f0, .bool e.f1] 38 (0,0))):=⟨heap_alloc_new _ _⟩
    have m0_:=Aside0.mk (below_alloc HB.out (.cells #[.int .i64 e.f0, .bool e.f1] 38))
    have m1_:=Aside0.mk (blk_below B2.out (below_alloc (Below.refl _ _) (.cells #[.int .i64 e.f0, .bool e.f1] 38)))
    clear HB B2 b0 b1
    have HB:=m0_
    have B2:=m1_
    clear m0_ m1_
    generalize wr.alloc (.cells #[.int .i64 e.f0, .bool e.f1] 38)=w5 at *
    generalize wr.heap.size=g7 at *
    have a0:w5.cell? ⟨g2,0,none⟩=some (.int .i64 n0):=(blk_cell B2.out 0).trans rfl;have a1:w5.cell? ⟨g2,1,none⟩=some (.bool a0_1):=(blk_cell B2.out 1).trans rfl;have a2:w5.cell? ⟨g2,2,none⟩=some (.slice A2 l.length c2):=(blk_cell B2.out 2).trans rfl;have a3:w5.cell? ⟨g2,3,none⟩=some (.slice A3 F.length c3):=(blk_cell B2.out 3).trans rfl
    have b0:w5.cell? ⟨g7,0,none⟩=some (.int .i64 e.f0):=(blk_cell HN.out 0).trans rfl
    have b1:w5.cell? ⟨g7,1,none⟩=some (.bool e.f1):=(blk_cell HN.out 1).trans rfl
    have hmn:(if rm<a then rm else a)=min a rm:=by split<;>omega
    go_wp2_with (first|(go_at_call 104;refine(static_Flowing_Room.calls (n0:Int) a0_1 A2 c2 l A3 c3 F e.f0 e.f1 _ _ (Kd.C_below H2.out HB.out) HC2.out (Kd.C_below H3.out HB.out) HC3.out HFM2.out).mono ?_;rintro e_ w6 ⟨rfl,hb⟩;have m0_:=Aside0.mk (below_step HB.out hb);have m1_:=Aside0.mk (blk_below B2.out hb);clear HB B2 a0 a1 a2 a3 b0 b1 hb;have HB:=m0_;have B2:=m1_;clear m0_ m1_)|fail)
    go_roundw
    case rel=>exact⟨min a rm,j+1,rfl,by go_num,by omega,⟨hM2⟩,B2,HB⟩
    case measure=>show W.length - ((j:Int)+1).toNat<W.length - (j:Int).toNat;omega
   ·have e1:decide ((j:Int)<((W.length - 1:Nat):Int))=false:=decide_eq_false (by omega)
    have hr:a=leastR l F W:=by
     rw[← HM.out,List.drop_of_length_le (by omega)]
     rfl
    have HRR:=Aside0.mk hr
    clear hr
    go_wp2_with fail
    go_ret
    exact⟨by rw[← HRR.out];rfl,HB.out⟩
end Go.Proofs.Ytkcpanpdipmmmaa.H
namespace Go.Proofs.Ytkcpanpdipmmmaa.Q
open Go.RowKit Go.Proofs.YtkcpanpdipmmmaaW.PrintWords Go.Proofs.YtkcpanpdipmmmaaW.PrintLast Go.Proofs.YtkcpanpdipmmmaaW.PrintMore Go.Proofs.Ytkcpanpdipmmmaa.P
open Go.Proofs.Ytkcpanpdipmmmaa.H (endsErr)
theorem ends_ev (n:Int) (b:Bool) (l:List S74) (s t:Int):Ev (fun k=>static_Ends.f k n b l s t) (endsErr n l s t):=by
 unfold static_Ends.f endsErr
 refine Ev.bind (check_ev n b l) ?_
 refine Ev.ite (fun h=> ?_) (fun h=> ?_)
 ·rw[if_pos h]
  refine Ev.ite (fun g=> ?_) (fun g=> ?_)
  ·exact Ev.done (by unfold mn at g;rw[if_neg (by omega)])
  ·unfold mn at g
   refine Ev.ite (fun g2=> ?_) (fun g2=> ?_)
   ·exact Ev.done (by unfold mx at g2;rw[if_neg (by omega)])
   ·unfold mx at g2
    refine Ev.ite (fun g3=> ?_) (fun g3=> ?_)
    ·exact Ev.done (by rw[if_neg (by omega)])
    ·exact Ev.done (by rw[if_pos (by omega)])
 ·rw[if_neg h]
  exact Ev.now _
theorem ref_ends_ev (n:Int) (b:Bool) (l:List S74) (s t:Int):Ev (fun k=>ebbtideref07_Ends.f k n b l s t) (endsErr n l s t):=by
 unfold ebbtideref07_Ends.f endsErr
 refine Ev.bind (ref_check_ev n b l) ?_
 refine Ev.ite (fun h=> ?_) (fun h=> ?_)
 ·rw[if_pos h]
  refine Ev.call (node_eq n b l s) ?_
  refine Ev.ite (fun g=> ?_) (fun g=> ?_)
  ·have g:=of_decide_eq_true g
   refine Ev.call (node_eq n b l t) ?_
   refine Ev.ite (fun g2=> ?_) (fun g2=> ?_)
   ·have g2:=of_decide_eq_true g2
    refine Ev.ite (fun g3=> ?_) (fun g3=> ?_)
    ·exact Ev.done (by rw[if_neg (by omega)])
    ·exact Ev.done (by rw[if_pos (by omega)])
   ·have g2:=of_decide_eq_false (Bool.eq_false_iff.2 g2)
    exact Ev.done (by rw[if_neg (by omega)])
  ·have g:=of_decide_eq_false (Bool.eq_false_iff.2 g)
   exact Ev.done (by rw[if_neg (by omega)])
 ·rw[if_neg h]
  exact Ev.now _
end Go.Proofs.Ytkcpanpdipmmmaa.Q
namespace Go.Proofs.Ytkcpanpdipmmmaa.H
open Go.RowKit Go.Proofs.YtkcpanpdipmmmaaW.PrintWords Go.Proofs.YtkcpanpdipmmmaaW.PrintLast Go.Proofs.YtkcpanpdipmmmaaW.PrintMore Go.Proofs.Ytkcpanpdipmmmaa.P Go.Proofs.Ytkcpanpdipmmmaa.Q
theorem right_of {n:Int} {l:List S74} {F:List Int} (h:askErr n l F=0): ∃ n0:Nat,n=n0∧Right l F n0:=by
 obtain⟨hn,hf⟩:=askErr_ok h
 have h1:=hn.lo
 have h2:=hn.hi
 obtain⟨n0,rfl⟩: ∃ n0:Nat,n=n0:=⟨n.toNat,by omega⟩
 refine⟨n0,rfl,⟨by omega,by omega,hn.len,hf.len,fun i hi=> ?_,fun i hi=> ?_⟩⟩
 ·have ha:=hn.at_ (i:=(i:Int)) (by omega) (by omega)
  exact⟨⟨ha.f0,ha.h0⟩,⟨ha.f1,ha.h1⟩⟩
 ·have ha:=hn.at_ (i:=(i:Int)) (by omega) (by omega)
  have hb:=hf.at_ i (by rw[hf.len];exact hi)
  rw[rd_nat] at hb
  exact⟨ha.f3,ha.h3,hb.1,hb.2,ha.h2⟩
end Go.Proofs.Ytkcpanpdipmmmaa.H
namespace Go.Proofs.Ytkcpanpdipmmmaa.Q
open Go.RowKit Go.Proofs.YtkcpanpdipmmmaaW.PrintWords Go.Proofs.YtkcpanpdipmmmaaW.PrintLast Go.Proofs.YtkcpanpdipmmmaaW.PrintMore Go.Proofs.Ytkcpanpdipmmmaa.P
open Go.Proofs.Ytkcpanpdipmmmaa.H (endsErr Right right_of)
theorem ends_zero {n:Int} {l:List S74} {s t:Int} (h:endsErr n l s t=0): ∃ n0 s0 t0:Nat,n=n0∧s=s0∧t=t0∧s0<n0∧t0<n0∧s0≠t0∧NetOk n0 l∧Right l (List.replicate l.length 0) n0:=by
 have hb:NetOk n l∧0≤s∧s<n∧0≤t∧t<n∧s≠t:=by
  unfold endsErr at h
  by_cases hn:netErr n l=0
  ·rw[if_pos hn] at h
   split at h
   ·rename_i he
    exact⟨netErr_ok hn,he⟩
   ·cases h
  ·rw[if_neg hn] at h;exact absurd h hn
 obtain⟨hn,h1,h2,h3,h4,h5⟩:=hb
 have hz:FlowOk l (List.replicate l.length 0):=by
  refine⟨by simp,fun i hi=> ?_⟩
  rw[List.length_replicate] at hi
  have ha:=(hn.at_ (i:=(i:Int)) (by omega) (by omega)).f2
  rw[rd_nat,List.getD_eq_getElem?_getD,List.getElem?_replicate,if_pos hi]
  exact⟨Int.le_refl _,ha⟩
 obtain⟨n0,rfl,hr⟩:=right_of (ask_of hn hz)
 exact⟨n0,s.toNat,t.toNat,rfl,by omega,by omega,by omega,by omega,by omega,hn,hr⟩
end Go.Proofs.Ytkcpanpdipmmmaa.Q
namespace Go.Proofs.Ytkcpanpdipmmmaa.H
open Go.RowKit Go.Proofs.YtkcpanpdipmmmaaW.PrintWords Go.Proofs.YtkcpanpdipmmmaaW.PrintLast Go.Proofs.YtkcpanpdipmmmaaW.PrintMore Go.Proofs.Ytkcpanpdipmmmaa.P
section
variable {n0:Nat} {a0_1:Bool} {A2:Option Addr} {c2:Nat} {l:List S74} {gF cF:Nat} {A4:Option Addr} {c4 gx gd gn B:Nat} {F D:List Int} {nx:List Nat} {w w1:World}
theorem isI_C {g:Nat} {X:List Int} (h:IsI w g X) (hl:X.length≤9223372036854775807):Kd.C (Kd.int .i64) w (some ⟨g,0,none⟩) X.length X:=(Kd.R_reads' (h.R hl (base:=0) (Nat.zero_le _) (ok:=fun _=>True) trivial)).2.2
end
end Go.Proofs.Ytkcpanpdipmmmaa.H
namespace Go.Proofs.Ytkcpanpdipmmmaa.H
open Go.RowKit Go.Proofs.YtkcpanpdipmmmaaW.PrintWords Go.Proofs.YtkcpanpdipmmmaaW.PrintLast Go.Proofs.YtkcpanpdipmmmaaW.PrintMore Go.Proofs.Ytkcpanpdipmmmaa.P
open Go.Proofs.Ytkcpanpdipmmmaa.Q (bal)
theorem pushW_snoc (F:List Int) (k:Int) (L:List S38) (e:S38):pushW F k (L ++ [e])=goS (pushW F k L) e k:=by unfold pushW;rw[List.foldl_append];rfl
theorem Right.take {l:List S74} {F:List Int} {n:Nat} {k:Int} (h0:0≤k) (hr:Right l F n) {L:List S38} (h: ∀ s,s∈L→StepOf l s∧k≤stRoom l F s) (hp:L.Pairwise (fun a b=>a.f0≠b.f0)) (j:Nat):Right l (H.pushW F k (L.take j)) n:=
 Right.pushW h0 _ hr (fun s hs=>h s (List.mem_of_mem_take hs)) (hp.sublist (List.take_sublist _ _))
theorem take_snoc {L:List S38} {j:Nat} {e:S38} (h:L[j]? =some e):L.take (j+1)=L.take j ++ [e]:=by
 rw[List.take_add_one,h];rfl
theorem ks_cellF {gF g j:Nat} {w w1:World} {v:Value} (h:Ks (fun b=>b=gF) w w1) (hc:w.cell? ⟨g,j,none⟩=some v) (hne: ¬ g=gF):w1.cell? ⟨g,j,none⟩=some v:=by
 have hb:=h.block g (World.block_lt_of_cell? w _ hc) hne
 simpa [World.cell?,hb] using hc
end Go.Proofs.Ytkcpanpdipmmmaa.H
namespace Go.Proofs.Ytkcpanpdipmmmaa.H
open Go.RowKit Go.Proofs.YtkcpanpdipmmmaaW.PrintWords Go.Proofs.YtkcpanpdipmmmaaW.PrintLast Go.Proofs.YtkcpanpdipmmmaaW.PrintMore Go.Proofs.Ytkcpanpdipmmmaa.P
open Go.Proofs.Ytkcpanpdipmmmaa.Q (bal ends_zero)
theorem made_ints (n:Nat) (hn:n≤500): ∀ W:World,(Instr.makeSlice 25 (.int .i64 (n:Int)) (.int .i64 (n:Int))).run Try.prog W= .ok (.slice (some ⟨W.heap.size,0,none⟩) n n) (W.alloc (.cells (nums .i64 (List.replicate n 0)).toArray 3)):=by
 intro W
 rw[print_make 25 3 .i64 8 Try.underlying25 (by kernel_rfl) (by omega) n (by omega) W]
 have hl:(madeCells #[Value.int .i64 0] n)=(nums .i64 (List.replicate n 0)).toArray:=by
  apply Array.ext'
  apply List.ext_getElem
  ·simp[nums,madeCells]
  ·intro i h1 h2
   simp[nums,madeCells,Nat.mod_one]
 rw[hl]
end Go.Proofs.Ytkcpanpdipmmmaa.H
namespace Go.Proofs.Ytkcpanpdipmmmaa.H
open Go.RowKit Go.Proofs.YtkcpanpdipmmmaaW.PrintWords Go.Proofs.YtkcpanpdipmmmaaW.PrintLast Go.Proofs.YtkcpanpdipmmmaaW.PrintMore Go.Proofs.Ytkcpanpdipmmmaa.P
open Go.Proofs.Ytkcpanpdipmmmaa.Q (bal ends_zero)
def fillRes (l:List S74) (n s t:Nat) (H:Int):List Int × List Int × List Bool × List S38:=(fillS l n s t H,(reachS l (fillS l n s t H) n s).D,(reachS l (fillS l n s t H) n s).I,(reachS l (fillS l n s t H) n s).B)
def Ss (n0:Nat) (l:List S74) (s t:Nat) (Hz:Int) (R:List Int) (gF g4 g9:Nat) (a0_1:Bool) (A2:Option Addr) (c2:Nat) (w w':World) (k:Nat):Prop:=
 ∃ F:List Int,SpanOk l F n0 s t (Hz+1)∧209715200<(k:Int)+bal l F s∧spanS l n0 s t Hz k F=R∧IsI w' gF F∧w'.heap[g4]? =some (.cells #[.int .i64 (n0:Int), .bool a0_1, .slice A2 l.length c2] 24 (0,0))∧w'.heap[g9]? =some (.cells #[.slice none 0 0, .slice none 0 0, .slice none 0 0] 109 (0,0))∧Below w.heap.size w w'
set_option maxHeartbeats 20000000 in
set_option maxRecDepth 100000 in
theorem fill_core (n0:Nat) (a0_1:Bool) (A0_2:Option Addr) (c0_2:Nat) (l:List S74) (s t:Nat) (a3:Int) (w:World) (hr:Right l (List.replicate l.length 0) n0) (hs:s<n0) (ht:t<n0) (hst:s≠t) (hH:0≤a3) (hC:Kd.C k74 w A0_2 l.length l) (hc:l.length≤c0_2):
  Calls Try.prog 118 #[.agg #[.int .i64 (n0:Int), .bool a0_1, .slice A0_2 l.length c0_2], .int .i64 (s:Int), .int .i64 (t:Int), .int .i64 a3] w fun e w'=> ∃ v0_ v1_ v2_ v3_:Value,e= .returned (.tuple #[v0_, .agg #[v1_,v2_,v3_]])∧Kd.R (Kd.int .i64) 3 w' w.heap.size (fun k_=>some k_≠(v1_:Value).ownBlock) v0_ (fillS l n0 s t a3)∧Kd.R (Kd.int .i64) 3 w' w.heap.size (fun k_=>some k_≠(v0_:Value).ownBlock) v1_ (reachS l (fillS l n0 s t a3) n0 s).D∧Kd.R Kd.bool 4 w' w.heap.size (fun _=>True) v2_ (reachS l (fillS l n0 s t a3) n0 s).I∧Kd.R k38 38 w' w.heap.size (fun _=>True) v3_ (reachS l (fillS l n0 s t a3) n0 s).B∧Below w.heap.size w w':=by
 have hu24:=Try.underlying24
 have hu109:=Try.underlying109
 have hu118:=Try.underlying118
 have hu115:=Try.underlying115
 have hu38:=Try.underlying38
 have hn50:=hr.fifty
 have harc:=hr.arcs
 have hmk:=made_ints l.length (by omega)
 obtain⟨R,hR⟩: ∃ R,R=fillS l n0 s t a3:=⟨_,rfl⟩
 rw[← hR]
 have HRR:Aside0 (spanS l n0 s t a3 300000000 (List.replicate l.length 0)=R):=⟨hR.symm⟩
 have H0:=Aside0.mk (span_zero (t:=t) (s:=s) hr (c:=a3+1) (by omega))
 have HZ:=Aside0.mk (zeros_of (s:=s) (t:=t) hr).2
 have H2:=Aside0.mk hC
 have HC2:=Aside0.mk hc
 clear hr hR hC hc
 go_enter Try.func118,Try.ntmps118
 go_upto_region 1 with (first|((with_reducible refine gate_dst (N:=4) rfl ?_);refine box_event ?hg (N:=4) ?hd (cs:= #[.int .i64 (n0:Int), .bool a0_1, .slice A0_2 l.length c0_2]) (t:=24) ?hr ?_;(case hd=>rfl);(case hg=>rfl);(case hr=>first|(go_simp;done)|(go_simp;rfl));intro g4 hg4 w5 hbox hb;have B4:=Aside0.mk hbox;have HB:=Aside0.mk hb;have HG4:Aside0 (w.heap.size≤g4):=⟨Nat.le_of_eq hg4.symm⟩;clear hg4 hbox hb)|fail)
 have B9:Aside0 ((w5.alloc (.cells #[.slice none 0 0, .slice none 0 0, .slice none 0 0] 109)).heap[w5.heap.size]? =some (.cells #[.slice none 0 0, .slice none 0 0, .slice none 0 0] 109 (0,0))):=⟨heap_alloc_new w5 _⟩
 have m0_:=Aside0.mk (blk_below B4.out (below_alloc (Below.refl _ _) (.cells #[.slice none 0 0, .slice none 0 0, .slice none 0 0] 109)))
 have m1_:=Aside0.mk (below_alloc HB.out (.cells #[.slice none 0 0, .slice none 0 0, .slice none 0 0] 109))
 have hg49:g4<w5.heap.size:=blk_lt B4.out
 have hg9w:w.heap.size≤w5.heap.size:=HB.out.size
 clear B4 HB
 have B4:=m0_
 have HB:=m1_
 clear m0_ m1_
 generalize w5.alloc (.cells #[.slice none 0 0, .slice none 0 0, .slice none 0 0] 109)=w6 at *
 generalize w5.heap.size=g9 at *
 have x2:w6.cell? ⟨g4,2,none⟩=some (.slice A0_2 l.length c0_2):=(blk_cell B4.out 2).trans rfl
 go_step3
 go_wp2_with fail
 go_step3
 go_wp2_with fail
 have hIA:Aside0 (IsI (w6.alloc (.cells (nums .i64 (List.replicate l.length 0)).toArray 3)) w6.heap.size (List.replicate l.length 0)):=⟨heap_alloc_new w6 _⟩
 have m0_:=Aside0.mk (blk_below B4.out (below_alloc (Below.refl _ _) (.cells (nums .i64 (List.replicate l.length 0)).toArray 3)))
 have m1_:=Aside0.mk (blk_below B9.out (below_alloc (Below.refl _ _) (.cells (nums .i64 (List.replicate l.length 0)).toArray 3)))
 have m2_:=Aside0.mk (below_alloc HB.out (.cells (nums .i64 (List.replicate l.length 0)).toArray 3))
 have hgF:w.heap.size≤w6.heap.size∧g4≠w6.heap.size∧g9≠w6.heap.size:=⟨HB.out.size,by have:=blk_lt B4.out;omega,by have:=blk_lt B9.out;omega⟩
 clear B4 B9 HB x2 hmk
 have B4:=m0_
 have B9:=m1_
 have HB:=m2_
 clear m0_ m1_ m2_
 generalize w6.alloc (.cells (nums .i64 (List.replicate l.length 0)).toArray 3)=w7 at *
 generalize w6.heap.size=gF at *
 go_loopw [] (fun w'=> ∃ k,Ss n0 l s t a3 R gF g4 g9 a0_1 A0_2 c0_2 w w' k) (fun w'=>least (fun k=>Ss n0 l s t a3 R gF g4 g9 a0_1 A0_2 c0_2 w w' k))
 case atStart=>exact⟨300000000,_,H0.out,by rw[HZ.out];omega,HRR.out,hIA.out,B4.out,B9.out,HB.out⟩
 case round=>
  clear B4 B9 HB hIA
  have hmin:=least_spec hrel
  obtain⟨kk,hkk⟩: ∃ k_,k_=least (fun k=>Ss n0 l s t a3 R gF g4 g9 a0_1 A0_2 c0_2 w wr k):=⟨_,rfl⟩
  rw[← hkk] at hmin
  have HLE:=Aside0.mk hkk
  clear hrel hkk
  obtain⟨F,hok,hgk,hgp,hF,hB4,hB9,hB⟩:=hmin
  have hgt:=flow_top hok.flow hs hst
  obtain⟨k,rfl⟩: ∃ k,kk=k+1:=⟨kk - 1,by omega⟩
  have hRt:=hok.flow.right
  have hFl:=hRt.len
  obtain⟨q,hq,_⟩:=hok.nums
  obtain⟨_,hRO⟩:=reach_ok hRt hs (tightP_noGain hRt hq)
  have HRO:=Aside0.mk hRO
  have HRT:=Aside0.mk hRt
  have HOK:=Aside0.mk hok
  have HGK:=Aside0.mk hgk
  have HGP:=Aside0.mk hgp
  have HF:=Aside0.mk hF
  have B4:=Aside0.mk hB4
  have B9:=Aside0.mk hB9
  have HB:=Aside0.mk hB
  have hRI:=hRO.ok.hI
  have hRD:=hRO.ok.hD
  have hRB:=hRO.ok.hB
  have keyF:=from_calls n0 a0_1 A0_2 c0_2 l (some ⟨gF,0,none⟩) l.length F s wr hRt hs (Kd.C_below H2.out hB) HC2.out (isI_C hF (by omega)) (by omega)
  have er:(goesR l F n0 (n0+1) (startR n0 s)).1=reachS l F n0 s:=rfl
  rw[hFl,er] at keyF
  obtain⟨x,hxd⟩: ∃ x,x=reachS l F n0 s:=⟨_,rfl⟩
  rw[← hxd] at keyF hRI hRD hRB
  have HKF:=Aside0.mk keyF
  have HXD:=Aside0.mk hxd
  have hFL:=Aside0.mk hFl
  clear hok hgk hgp hF hB4 hB9 hB hRt hFl hq hRO keyF er hxd hgt
  have x0:wr.cell? ⟨g4,0,none⟩=some (.int .i64 (n0:Int)):=(blk_cell B4.out 0).trans rfl
  have x1:wr.cell? ⟨g4,1,none⟩=some (.bool a0_1):=(blk_cell B4.out 1).trans rfl
  have x2:wr.cell? ⟨g4,2,none⟩=some (.slice A0_2 l.length c0_2):=(blk_cell B4.out 2).trans rfl
  go_upto_region 3 with (first|(go_at_call 97;refine HKF.out.mono ?_;rintro e_ w8 ⟨v0,v1,v2,rfl,r0,r1,r2,hb⟩;obtain⟨A0,c0,ev0⟩:=Kd.R_slice r0;obtain⟨A1,c1,ev1⟩:=Kd.R_slice r1;obtain⟨A2,c2,ev2⟩:=Kd.R_slice r2;subst ev0;subst ev1;subst ev2;rw[hRD] at r0 ⊢;rw[hRI] at r1 ⊢;rw[hRB] at r2 ⊢;have R0:=Aside0.mk r0;have R1:=Aside0.mk r1;have R2:=Aside0.mk r2;have m0_:=Aside0.mk (HF.out.below hb);have m1_:=Aside0.mk (blk_below B4.out hb);have m2_:=Aside0.mk (blk_below B9.out hb);have hwr8:=hb.size;have m3_:=Aside0.mk (below_step HB.out hb);have hgFr:gF<wr.heap.size:=HF.out.lt;have hg9r_:g9<wr.heap.size:=blk_lt B9.out;have hwrw:w.heap.size≤wr.heap.size:=HB.out.size;clear HF B4 B9 HB r0 r1 r2 hb x0 x1 x2 HKF;have HF:=m0_;have B4:=m1_;have B9:=m2_;have HB:=m3_;clear m0_ m1_ m2_ m3_)|fail)
  have hC109:Below w8.heap.size w8 (w8.alloc (.cells #[.slice A0 n0 c0, .slice A1 n0 c1, .slice A2 n0 c2] 109)):=below_alloc (Below.refl _ _) _
  have B11:Aside0 ((w8.alloc (.cells #[.slice A0 n0 c0, .slice A1 n0 c1, .slice A2 n0 c2] 109)).heap[w8.heap.size]? =some (.cells #[.slice A0 n0 c0, .slice A1 n0 c1, .slice A2 n0 c2] 109 (0,0))):=⟨heap_alloc_new w8 _⟩
  have hg11:wr.heap.size≤w8.heap.size:=hwr8
  have hg9r:g9<wr.heap.size:=hg9r_
  have hlts:g9<w8.heap.size∧g4<w8.heap.size∧gF<w8.heap.size:=⟨blk_lt B9.out,blk_lt B4.out,HF.out.lt⟩
  have m0_:=Aside0.mk (HF.out.below hC109)
  have m1_:=Aside0.mk (blk_below B4.out hC109)
  have m2_:=Aside0.mk (blk_below B9.out hC109)
  have m3_:=Aside0.mk (below_step HB.out hC109)
  have m4_:=Aside0.mk (Kd.R_below R0.out hC109)
  have m5_:=Aside0.mk (Kd.R_below R1.out hC109)
  have m6_:=Aside0.mk (Kd.R_below R2.out hC109)
  clear HF B4 B9 HB R0 R1 R2 hC109
  have HF:=m0_
  have B4:=m1_
  have B9:=m2_
  have HB:=m3_
  have R0:=m4_
  have R1:=m5_
  have R2:=m6_
  clear m0_ m1_ m2_ m3_ m4_ m5_ m6_ hwr8
  generalize w8.alloc (.cells #[.slice A0 n0 c0, .slice A1 n0 c1, .slice A2 n0 c2] 109)=w9 at *
  generalize w8.heap.size=g11 at *
  have y0:w9.cell? ⟨g11,0,none⟩=some (.slice A0 n0 c0):=(blk_cell B11.out 0).trans rfl
  have y1:w9.cell? ⟨g11,1,none⟩=some (.slice A1 n0 c1):=(blk_cell B11.out 1).trans rfl
  have y2:w9.cell? ⟨g11,2,none⟩=some (.slice A2 n0 c2):=(blk_cell B11.out 2).trans rfl
  have pt:(0:Int)≤(t:Int):=by omega
  have qt:(t:Int)<(n0:Int):=by omega
  obtain⟨ad0,cc0,e0,_,hK0,hc0⟩:=Kd.C_get (Kd.R_reads' R0.out).2.2 0 (t:Int) pt (by rw[hRD];exact qt)
  obtain⟨ad1,cc1,e1,_,hK1,hc1⟩:=Kd.C_get (Kd.R_reads' R1.out).2.2 false (t:Int) pt (by rw[hRI];exact qt)
  subst e0
  subst e1
  have hd:w9.cell? (ad0.add t)=some (.int .i64 (x.D.getD t 0)):=by
   have e:cc0=[.int .i64 (x.D.getD t 0)]:=hK0
   have h_:=hc0 0 (.int .i64 (x.D.getD t 0)) (by rw[e];rfl)
   have e2:(t:Int).toNat * (Kd.int .i64).sz+0=t:=by rw[Int.toNat_natCast];show t * 1+0=t;omega
   rw[e2] at h_
   exact h_
  have hi:w9.cell? (ad1.add t)=some (.bool (x.I.getD t false)):=by
   have e:cc1=[.bool (x.I.getD t false)]:=hK1
   have h_:=hc1 0 (.bool (x.I.getD t false)) (by rw[e];rfl)
   have e2:(t:Int).toNat * Kd.bool.sz+0=t:=by rw[Int.toNat_natCast];show t * 1+0=t;omega
   rw[e2] at h_
   exact h_
  clear hK0 hK1 hc0 hc1
  obtain⟨dt,hdt⟩: ∃ d_,d_=x.D.getD t 0:=⟨_,rfl⟩
  obtain⟨it,hit⟩: ∃ d_,d_=x.I.getD t false:=⟨_,rfl⟩
  rw[← hdt] at hd
  rw[← hit] at hi
  have HDT:=Aside0.mk hdt
  have HIT:=Aside0.mk hit
  clear hdt hit
  have hNear:nearS l F n0 s t a3↔it=true∧dt≤a3:=by unfold nearS;rw[← HXD.out, ← HDT.out, ← HIT.out]
  by_cases hn:it=true∧dt≤a3
  ·have HN:=Aside0.mk (hNear.2 hn)
   obtain⟨hn1,hn2⟩:=hn
   subst hn1
   have t1:(!true)=false:=rfl
   have t2:decide (a3<dt)=false:=decide_eq_false (by omega)
   clear hNear
   go_upto_region 5 with fail
   clear hd hi y0 y1 y2
   obtain⟨hTW,hTL⟩:=wayS_ok HRT.out (by rw[← HXD.out];rw[← HXD.out] at HRO;exact HRO.out) ht HN.out.1
   obtain⟨rk,hby⟩:=HRO.out.by_
   rw[← HXD.out] at hby
   have HBY:=Aside0.mk hby
   have HXO:Aside0 (x.Ok n0):=⟨by rw[HXD.out];exact HRO.out.ok⟩
   have HIX:Aside0 (x.I.getD t false=true):=⟨HIT.out.symm⟩
   obtain⟨L,hLd⟩: ∃ L_,L_=wayS l F n0 s t:=⟨_,rfl⟩
   have hLx:L=(backB l x s (n0+1) t).reverse:=by rw[hLd,HXD.out];rfl
   rw[← hLd] at hTW hTL
   obtain⟨p1,p2,p3,p4,p5,p6,p7⟩:=push_way HOK.out.flow hst hTW.leads hTW.apart
   obtain⟨so1,so2⟩:=span_near HOK.out hs ht hst HN.out
   have sgo:spanS l n0 s t a3 k (pushW F (leastR l F L) L)=R:=by rw[← HGP.out,spanS_go HN.out, ← hLd]
   rw[← hLd] at so1 so2
   have hLp:0<L.length:=List.length_pos_iff.2 p3
   have hLn:L.length≤50:=by omega
   obtain⟨m,hm⟩: ∃ m_,m_=leastR l F L:=⟨_,rfl⟩
   rw[← hm] at p2 p6 so1 so2 sgo
   have HMM:=Aside0.mk hm
   have HP5:=Aside0.mk p5
   have HAP:=Aside0.mk hTW.apart
   have HSO:=Aside0.mk so1
   have HSB:=Aside0.mk so2
   have HSG:=Aside0.mk sgo
   have HLX:=Aside0.mk hLx
   have HRL:Aside0 (∀ e,e∈L→m≤stRoom l F e):=⟨fun e he=>by rw[hm];exact leastR_le he⟩
   clear hTW hTL hby hLd hLx p1 p3 p4 p5 p7 so1 so2 sgo hm
   have x0:w9.cell? ⟨g4,0,none⟩=some (.int .i64 (n0:Int)):=(blk_cell B4.out 0).trans rfl
   have x1:w9.cell? ⟨g4,1,none⟩=some (.bool a0_1):=(blk_cell B4.out 1).trans rfl
   have x2:w9.cell? ⟨g4,2,none⟩=some (.slice A0_2 l.length c0_2):=(blk_cell B4.out 2).trans rfl
   go_upto_region 6 with (first|(go_at_call 101;refine(at_calls n0 a0_1 A0_2 c0_2 l (some ⟨gF,0,none⟩) l.length l.length _ (Kd.C_below H2.out HB.out) HC2.out (by omega) (by omega) (by omega) (fun k hk=>(HRT.out.ends k hk).1) (fun k hk=>(HRT.out.ends k hk).2)).mono ?_;rintro e_ w10 ⟨vr,rfl,hS,hb⟩;obtain⟨A4,c4,ev⟩:=Kd.S_slice hS;subst ev;rw[rowsAt_len] at hS ⊢;have m0_:=Aside0.mk (HF.out.below hb);have m1_:=Aside0.mk (blk_below B4.out hb);have m2_:=Aside0.mk (blk_below B9.out hb);have m3_:=Aside0.mk (below_step HB.out hb);have m4_:=Aside0.mk (blk_below B11.out hb);have m5_:=Aside0.mk (Kd.R_below R2.out hb);clear HF B4 B9 HB B11 R0 R1 R2 hS hb x0 x1 x2;have HF:=m0_;have B4:=m1_;have B9:=m2_;have HB:=m3_;have B11:=m4_;have R2:=m5_;clear m0_ m1_ m2_ m3_ m4_ m5_)|fail)
   have hA:Below w10.heap.size w10 (w10.alloc (.cells #[.int .i64 (n0:Int), .bool a0_1, .slice A0_2 l.length c0_2, .slice (some ⟨gF,0,none⟩) l.length l.length, .slice A4 n0 c4] 118)):=below_alloc (Below.refl _ _) _
   have B13:Aside0 ((w10.alloc (.cells #[.int .i64 (n0:Int), .bool a0_1, .slice A0_2 l.length c0_2, .slice (some ⟨gF,0,none⟩) l.length l.length, .slice A4 n0 c4] 118)).heap[w10.heap.size]? =some (.cells #[.int .i64 (n0:Int), .bool a0_1, .slice A0_2 l.length c0_2, .slice (some ⟨gF,0,none⟩) l.length l.length, .slice A4 n0 c4] 118 (0,0))):=⟨heap_alloc_new w10 _⟩
   have hg13:w.heap.size≤w10.heap.size∧gF<w10.heap.size:=⟨HB.out.size,HF.out.lt⟩
   have m0_:=Aside0.mk (HF.out.below hA)
   have m1_:=Aside0.mk (blk_below B4.out hA)
   have m2_:=Aside0.mk (blk_below B9.out hA)
   have m3_:=Aside0.mk (below_step HB.out hA)
   have m4_:=Aside0.mk (blk_below B11.out hA)
   have m5_:=Aside0.mk (Kd.R_below R2.out hA)
   clear HF B4 B9 HB B11 R2 hA
   have HF:=m0_
   have B4:=m1_
   have B9:=m2_
   have HB:=m3_
   have B11:=m4_
   have R2:=m5_
   clear m0_ m1_ m2_ m3_ m4_ m5_
   generalize w10.alloc (.cells #[.int .i64 (n0:Int), .bool a0_1, .slice A0_2 l.length c0_2, .slice (some ⟨gF,0,none⟩) l.length l.length, .slice A4 n0 c4] 118)=w11 at *
   generalize w10.heap.size=g13 at *
   have u0:w11.cell? ⟨g13,0,none⟩=some (.int .i64 (n0:Int)):=(blk_cell B13.out 0).trans rfl
   have u1:w11.cell? ⟨g13,1,none⟩=some (.bool a0_1):=(blk_cell B13.out 1).trans rfl
   have u2:w11.cell? ⟨g13,2,none⟩=some (.slice A0_2 l.length c0_2):=(blk_cell B13.out 2).trans rfl
   have u3:w11.cell? ⟨g13,3,none⟩=some (.slice (some ⟨gF,0,none⟩) l.length l.length):=(blk_cell B13.out 3).trans rfl
   have u4:w11.cell? ⟨g13,4,none⟩=some (.slice A4 n0 c4):=(blk_cell B13.out 4).trans rfl
   have y0:w11.cell? ⟨g11,0,none⟩=some (.slice (some ad0) n0 c0):=(blk_cell B11.out 0).trans rfl
   have y1:w11.cell? ⟨g11,1,none⟩=some (.slice (some ad1) n0 c1):=(blk_cell B11.out 1).trans rfl
   have y2:w11.cell? ⟨g11,2,none⟩=some (.slice A2 n0 c2):=(blk_cell B11.out 2).trans rfl
   have HC2B:Aside0 (Kd.C k38 w11 A2 n0 x.B):=⟨by have h_:=(Kd.R_reads' R2.out).2.2;rw[hRB] at h_;exact h_⟩
   have keyW:=fastest_calls n0 a0_1 A0_2 c0_2 l (some ⟨gF,0,none⟩) l.length F A4 c4 (some ad0) c0 (some ad1) c1 A2 c2 x rk s t w11 HRT.out HXO.out HBY.out hs ht hst HIX.out HC2.out (by have:=hFL.out;omega) (Kd.C_below H2.out HB.out) (isI_C HF.out (by have:=hFL.out;omega)) HC2B.out
   rw[hFL.out, ← HLX.out] at keyW
   have HKW:=Aside0.mk keyW
   clear keyW R2 HC2B
   go_upto_region 7 with (first|(go_at_call 152;refine HKW.out.mono ?_;rintro e_ w12 ⟨vw,rfl,hRv,hb⟩;have m0_:=Aside0.mk (HF.out.below hb);have m1_:=Aside0.mk (blk_below B4.out hb);have m2_:=Aside0.mk (blk_below B9.out hb);have m3_:=Aside0.mk (below_step HB.out hb);have m4_:=Aside0.mk (blk_below B13.out hb);have hbs:=hb.size;have hw11:w.heap.size≤w11.heap.size:=HB.out.size;have hgF11:gF<w11.heap.size:=HF.out.lt;clear HF B4 B9 HB B11 B13 HKW hb u0 u1 u2 u3 u4 y0 y1 y2;have HF:=m0_;have B4:=m1_;have B9:=m2_;have HB:=m3_;have B13:=m4_;clear m0_ m1_ m2_ m3_ m4_)|fail)
   obtain⟨Aw,cw,ew⟩:=Kd.R_slice hRv
   subst ew
   have hCw:=(Kd.R_reads' hRv).2.2
   have hcw:=(Kd.R_reads' hRv).2.1
   obtain⟨adw,eadw,_⟩:=hCw.2.2 hLp
   subst eadw
   obtain⟨g,eg⟩:=Kd.R_head hRv
   subst eg
   have hgb:w11.heap.size≤g:=Kd.R_base hRv g rfl
   have HWC:Aside0 (∀ (j:Nat) (e:S38),L[j]? =some e→w12.cell? ⟨g,j * 2,none⟩=some (.int .i64 e.f0)∧w12.cell? ⟨g,j * 2+1,none⟩=some (.bool e.f1)):=⟨by
    intro j e hj
    obtain⟨ad,ead,c0,c1⟩:=at_T38 hCw (j:Int) (by omega) (by have:=(List.getElem?_eq_some_iff.1 hj).1;omega)
    injection ead with ead
    subst ead
    have hee:rd_T38 L (j:Int)=e:=by
     unfold rd_T38
     rw[Int.toNat_natCast,List.getD_eq_getElem?_getD,hj]
     rfl
    rw[hee,Int.toNat_natCast,add_at,Nat.zero_add] at c0 c1
    exact⟨c0,c1⟩⟩
   have hgl:g<w12.heap.size:=Kd.R_lt hRv g rfl
   clear hRv hCw
   have u0:w12.cell? ⟨g13,0,none⟩=some (.int .i64 (n0:Int)):=(blk_cell B13.out 0).trans rfl
   have u1:w12.cell? ⟨g13,1,none⟩=some (.bool a0_1):=(blk_cell B13.out 1).trans rfl
   have u2:w12.cell? ⟨g13,2,none⟩=some (.slice A0_2 l.length c0_2):=(blk_cell B13.out 2).trans rfl
   have u3:w12.cell? ⟨g13,3,none⟩=some (.slice (some ⟨gF,0,none⟩) l.length l.length):=(blk_cell B13.out 3).trans rfl
   have keyL:=least_calls n0 a0_1 A0_2 c0_2 l (some ⟨gF,0,none⟩) l.length F g cw L w12 HRT.out HP5.out hLp (by omega) hcw HWC.out HC2.out (by have:=hFL.out;omega) (Kd.C_below H2.out HB.out) (isI_C HF.out (by have:=hFL.out;omega))
   rw[hFL.out, ← HMM.out] at keyL
   have HKL:=Aside0.mk keyL
   clear keyL
   go_upto_region 8 with (first|(go_at_call 153;refine HKL.out.mono ?_;rintro e_ w13 ⟨rfl,hb⟩;have m0_:=Aside0.mk (HF.out.below hb);have m1_:=Aside0.mk (blk_below B4.out hb);have m2_:=Aside0.mk (blk_below B9.out hb);have m3_:=Aside0.mk (below_step HB.out hb);have m4_:=Aside0.mk (blk_below B13.out hb);have m5_:Aside0 (∀ (j:Nat) (e:S38),L[j]? =some e→w13.cell? ⟨g,j * 2,none⟩=some (.int .i64 e.f0)∧w13.cell? ⟨g,j * 2+1,none⟩=some (.bool e.f1)):=⟨fun j e hj=>⟨pw_cell_below hb (HWC.out j e hj).1,pw_cell_below hb (HWC.out j e hj).2⟩⟩;have hgl13:g<w13.heap.size:=Nat.lt_of_lt_of_le hgl hb.size;clear HF B4 B9 HB B13 HWC HKL hb u0 u1 u2 u3;have HF:=m0_;have B4:=m1_;have B9:=m2_;have HB:=m3_;have B13:=m4_;have HWC:=m5_;clear m0_ m1_ m2_ m3_ m4_ m5_)|fail)
   go_wp2_with fail
   go_loopw [60] (fun v60 w'=> ∃ j:Nat,j≤L.length∧v60= .int .i64 (j:Int)∧Aside0 (IsI w' gF (pushW F m (L.take j)))∧Aside0 (w'.heap[g4]? =some (.cells #[.int .i64 (n0:Int), .bool a0_1, .slice A0_2 l.length c0_2] 24 (0,0)))∧Aside0 (w'.heap[g9]? =some (.cells #[.slice none 0 0, .slice none 0 0, .slice none 0 0] 109 (0,0)))∧Aside0 (w'.heap[g13]? =some (.cells #[.int .i64 (n0:Int), .bool a0_1, .slice A0_2 l.length c0_2, .slice (some ⟨gF,0,none⟩) l.length l.length, .slice A4 n0 c4] 118 (0,0)))∧Aside0 (∀ (j:Nat) (e:S38),L[j]? =some e→w'.cell? ⟨g,j * 2,none⟩=some (.int .i64 e.f0)∧w'.cell? ⟨g,j * 2+1,none⟩=some (.bool e.f1))∧Aside0 (g<w'.heap.size)∧Aside0 (Below w.heap.size w w')) (fun v60 _=>L.length - (intOf v60).toNat)
   case atStart=>exact⟨0,by omega,rfl,by rw[List.take_zero];exact HF,B4,B9,B13,HWC,⟨hgl13⟩,HB⟩
   case round=>
    clear HF B4 B9 HB B13 HWC hgl hgl13
    obtain⟨j,hj,rfl,HF,B4,B9,B13,HWC,HGL,HB⟩:=hrel
    by_cases hlt:j<L.length
    ·have e3:decide ((j:Int)<(L.length:Int))=true:=decide_eq_true (by omega)
     obtain⟨e,he⟩: ∃ e,L[j]? =some e:=⟨_,List.getElem?_eq_getElem hlt⟩
     obtain⟨c0,c1⟩:=HWC.out j e he
     have hmem:=List.mem_of_getElem? he
     have hso:=HP5.out e hmem
     have hrj:=Right.take (k:=m) (by omega) HRT.out (L:=L) (fun x hx=>⟨HP5.out x hx,HRL.out x hx⟩) HAP.out j
     have hgo:goS (pushW F m (L.take j)) e m=pushW F m (L.take (j+1)):=by rw[take_snoc he,pushW_snoc]
     obtain⟨i,hi,hei⟩:=hso
     have hnj:=hrj.nums i hi
     have hlj:=hrj.len
     obtain⟨Fj,hFj⟩: ∃ F_,F_=pushW F m (L.take j):=⟨_,rfl⟩
     rw[← hFj] at hgo hnj hlj HF
     have HGO:=Aside0.mk hgo
     have HNJ:=Aside0.mk hnj
     have HLJ:=Aside0.mk hlj
     have HEI:=Aside0.mk hei
     clear hrj hgo hnj hlj hei hFj he hmem
     have pj:(0:Int)≤(j:Int):=by omega
     have qj:(j:Int)<(L.length:Int):=by omega
     go_upto_region 11 with fail
     have HN:Aside0 ((wr.alloc (.cells #[.int .i64 e.f0, .bool e.f1] 38)).heap[wr.heap.size]? =some (.cells #[.int .i64 e.f0, .bool e.f1] 38 (0,0))):=⟨heap_alloc_new _ _⟩
     have hbA:Below wr.heap.size wr (wr.alloc (.cells #[.int .i64 e.f0, .bool e.f1] 38)):=below_alloc (Below.refl _ _) _
     have hszr:w.heap.size≤wr.heap.size:=HB.out.size
     have m0_:=Aside0.mk (HF.out.below hbA)
     have m1_:=Aside0.mk (blk_below B4.out hbA)
     have m2_:=Aside0.mk (blk_below B9.out hbA)
     have m3_:=Aside0.mk (blk_below B13.out hbA)
     have m5_:=Aside0.mk (below_step HB.out hbA)
     have m4_:Aside0 (∀ (q:Nat) (e_:S38),L[q]? =some e_→(wr.alloc (.cells #[.int .i64 e.f0, .bool e.f1] 38)).cell? ⟨g,q * 2,none⟩=some (.int .i64 e_.f0)∧(wr.alloc (.cells #[.int .i64 e.f0, .bool e.f1] 38)).cell? ⟨g,q * 2+1,none⟩=some (.bool e_.f1)):=⟨fun q e_ hq=>⟨pw_cell_below hbA (HWC.out q e_ hq).1,pw_cell_below hbA (HWC.out q e_ hq).2⟩⟩
     have hlts2:gF<wr.heap.size:=HF.out.lt
     clear HF B4 B9 B13 HB HWC c0 c1 hbA
     have HF:=m0_
     have B4:=m1_
     have B9:=m2_
     have B13:=m3_
     have HWC:=m4_
     have HB:=m5_
     clear m0_ m1_ m2_ m3_ m4_ m5_
     have HGL:=HGL.out
     generalize wr.alloc (.cells #[.int .i64 e.f0, .bool e.f1] 38)=w14 at *
     generalize wr.heap.size=g17 at *
     have u0:w14.cell? ⟨g13,0,none⟩=some (.int .i64 (n0:Int)):=(blk_cell B13.out 0).trans rfl
     have u1:w14.cell? ⟨g13,1,none⟩=some (.bool a0_1):=(blk_cell B13.out 1).trans rfl
     have u2:w14.cell? ⟨g13,2,none⟩=some (.slice A0_2 l.length c0_2):=(blk_cell B13.out 2).trans rfl
     have u3:w14.cell? ⟨g13,3,none⟩=some (.slice (some ⟨gF,0,none⟩) l.length l.length):=(blk_cell B13.out 3).trans rfl
     have b0:w14.cell? ⟨g17,0,none⟩=some (.int .i64 e.f0):=(blk_cell HN.out 0).trans rfl
     have b1:w14.cell? ⟨g17,1,none⟩=some (.bool e.f1):=(blk_cell HN.out 1).trans rfl
     have hgw:g<w14.heap.size:=by have:=blk_lt HN.out;omega
     have hlF:i<Fj.length:=by have:=HLJ.out;omega
     have keyG:=go_calls (n0:Int) a0_1 A0_2 c0_2 l gF l.length Fj e m w14 HF.out (i:=i) hlF HEI.out ⟨by omega,by omega⟩ (fun _=>by have:=HNJ.out;omega) (fun _=>by have:=HNJ.out;omega)
     rw[HLJ.out] at keyG
     have HKG:=Aside0.mk keyG
     clear keyG
     go_wp2_with (first|(go_at_call 154;refine HKG.out.mono ?_;rintro e_ w15 ⟨rfl,hil,hks⟩;rw[HGO.out] at hil;have m1_:=Aside0.mk (hks.blk B4.out (by show ¬ g4=gF;exact hgF.2.1));have m2_:=Aside0.mk (hks.blk B9.out (by show ¬ g9=gF;exact hgF.2.2));have m3_:=Aside0.mk (hks.blk B13.out (by show ¬ g13=gF;omega));have m4_:Aside0 (∀ (q:Nat) (e_:S38),L[q]? =some e_→w15.cell? ⟨g,q * 2,none⟩=some (.int .i64 e_.f0)∧w15.cell? ⟨g,q * 2+1,none⟩=some (.bool e_.f1)):=⟨fun q e_ hq=>⟨ks_cellF hks (HWC.out q e_ hq).1 (by omega),ks_cellF hks (HWC.out q e_ hq).2 (by omega)⟩⟩;have m5_:=Aside0.mk (hks.toBelow HB.out HB.out.size (fun b hb=>by have hb:b=gF:=hb;omega));have hgw2:g<w15.heap.size:=Nat.lt_of_lt_of_le hgw hks.size;clear HF B4 B9 B13 HB HWC HN HKG hks u0 u1 u2 u3 b0 b1)|fail)
     go_roundw
     case rel=>exact⟨j+1,by omega,by go_num,⟨hil⟩,m1_,m2_,m3_,m4_,⟨hgw2⟩,m5_⟩
     case measure=>simp[intOf];omega
    ·have e3:decide ((j:Int)<(L.length:Int))=false:=decide_eq_false (by omega)
     have htk:L.take j=L:=List.take_of_length_le (by omega)
     rw[htk] at HF
     have hSs:Ss n0 l s t a3 R gF g4 g9 a0_1 A0_2 c0_2 w wr k:=⟨pushW F m L,HSO.out,by have:=HSB.out;have:=HGK.out;omega,HSG.out,HF.out,B4.out,B9.out,HB.out⟩
     go_wp2_with fail
     go_roundw
     case rel=>exact⟨k,hSs⟩
     case measure=>exact least_lt hSs (by rw[← HLE.out];exact Nat.lt_succ_self k)
  ·have HN:Aside0 (¬ nearS l F n0 s t a3):=⟨fun h=>hn (hNear.1 h)⟩
   have HE:Aside0 (F=R):=⟨by rw[← HGP.out,spanS_end HN.out]⟩
   have z0:w9.cell? ⟨g9,0,none⟩=some (.slice none 0 0):=(blk_cell B9.out 0).trans rfl
   have z1:w9.cell? ⟨g9,1,none⟩=some (.slice none 0 0):=(blk_cell B9.out 1).trans rfl
   have z2:w9.cell? ⟨g9,2,none⟩=some (.slice none 0 0):=(blk_cell B9.out 2).trans rfl
   have f0:=blk_frozen B9.out 0
   have f1:=blk_frozen B9.out 1
   have f2:=blk_frozen B9.out 2
   cases it with
   |false=>
    have t1:(!false)=true:=rfl
    go_upto_region 4 with fail
    have hne:g9≠g11:=by omega
    go_region_held3 (fun w'=>w'.cell? ⟨g11,0,none⟩=some (.slice (some ad0) n0 c0)∧w'.cell? ⟨g11,1,none⟩=some (.slice (some ad1) n0 c1)∧w'.cell? ⟨g11,2,none⟩=some (.slice A2 n0 c2))
     (first|((try dsimp only);(refine⟨?_,?_,?_⟩)<;>first|(exact pw_cell_below (below_drew (Below.refl _ _)) (by assumption))|go_keep)|go_keep)
     (first|fail)
    clear y0 y1 y2 z0 z1 z2 f0 f1 f2 hd hi
    have hBZ:Below w.heap.size w (((w9.setCell ⟨g9,0,none⟩ (.slice (some ad0) n0 c0)).setCell ⟨g9,1,none⟩ (.slice (some ad1) n0 c1)).setCell ⟨g9,2,none⟩ (.slice A2 n0 c2)).drew:=below_drew (below_set (below_set (below_set HB.out hg9w) hg9w) hg9w)
    have hsame: ∀ k,k≠g9→(((w9.setCell ⟨g9,0,none⟩ (.slice (some ad0) n0 c0)).setCell ⟨g9,1,none⟩ (.slice (some ad1) n0 c1)).setCell ⟨g9,2,none⟩ (.slice A2 n0 c2)).drew.heap[k]? =w9.heap[k]? :=fun k hk=>((Below.heap_setCell _ ⟨g9,2,none⟩ _ k hk).trans (Below.heap_setCell _ ⟨g9,1,none⟩ _ k hk)).trans (Below.heap_setCell _ ⟨g9,0,none⟩ _ k hk)
    obtain⟨wz,hwz⟩: ∃ W,W=(((w9.setCell ⟨g9,0,none⟩ (.slice (some ad0) n0 c0)).setCell ⟨g9,1,none⟩ (.slice (some ad1) n0 c1)).setCell ⟨g9,2,none⟩ (.slice A2 n0 c2)).drew:=⟨_,rfl⟩
    rw[← hwz] at hBZ hsame
    have hRF0:=(HF.out.same (hsame gF (Ne.symm hgF.2.2))).R (base:=w.heap.size) (ok:=fun k_=>some k_≠(Value.slice (some ad0) n0 c0).ownBlock) (by have:=hFL.out;omega) hgF.1 (fun h=>by have:=Kd.R_base R0.out gF h.symm;omega)
    rw[hFL.out] at hRF0
    have hRF:Kd.R (Kd.int .i64) 3 wz w.heap.size (fun k_=>some k_≠(Value.slice (some ad0) n0 c0).ownBlock) (.slice (some ⟨gF,0,none⟩) l.length l.length) R:=by rw[← HE.out];exact hRF0
    have hR0:Kd.R (Kd.int .i64) 3 wz w.heap.size (fun k_=>some k_≠(Value.slice (some ⟨gF,0,none⟩) l.length l.length).ownBlock) (.slice (some ad0) n0 c0) (reachS l R n0 s).D:=by
     rw[← HE.out, ← HXD.out]
     exact Kd.R_mono (Kd.R_lower (Kd.R_move (Kd.R_bound R0.out) (fun k hk=>hsame k (by have:=hk.2.1;omega))) hwrw) (fun k hk=>by have:=hk.2.1;simp[Value.ownBlock];omega)
    have hR1:Kd.R Kd.bool 4 wz w.heap.size (fun _=>True) (.slice (some ad1) n0 c1) (reachS l R n0 s).I:=by
     rw[← HE.out, ← HXD.out]
     exact Kd.R_mono (Kd.R_lower (Kd.R_move (Kd.R_bound R1.out) (fun k hk=>hsame k (by have:=hk.2.1;omega))) hwrw) (fun _ _=>trivial)
    have hR2:Kd.R k38 38 wz w.heap.size (fun _=>True) (.slice A2 n0 c2) (reachS l R n0 s).B:=by
     rw[← HE.out, ← HXD.out]
     exact Kd.R_mono (Kd.R_lower (Kd.R_move (Kd.R_bound R2.out) (fun k hk=>hsame k (by have:=hk.2.1;omega))) hwrw) (fun _ _=>trivial)
    rw[hwz] at hBZ hRF hR0 hR1 hR2
    clear hwz hsame hRF0
    go_wp2_with fail
    (try rw[Exit.noGoto_ret]);refine bodyPost_ret (results_tc rfl _ _ g9 109 #[.slice (some ad0) n0 c0, .slice (some ad1) n0 c1, .slice A2 n0 c2] (0,0) _ rfl (blk_drew (blk_put (cs:= #[.slice (some ad0) n0 c0, .slice (some ad1) n0 c1, .slice none 0 0]) (blk_put (cs:= #[.slice (some ad0) n0 c0, .slice none 0 0, .slice none 0 0]) (blk_put (cs:= #[.slice none 0 0, .slice none 0 0, .slice none 0 0]) B9.out 0 _ rfl) 1 _ rfl) 2 _ rfl)) Try.underlying109 rfl (by kernel_rfl)) rfl ?_;exact⟨.slice (some ⟨gF,0,none⟩) l.length l.length,_,_,_,rfl,hRF,hR0,hR1,hR2,hBZ⟩
   |true=>
    have t1:(!true)=false:=rfl
    have t2:decide (a3<dt)=true:=decide_eq_true (Int.not_le.1 (fun h=>hn ⟨rfl,h⟩))
    go_upto_region 4 with fail
    have hne:g9≠g11:=by omega
    go_region_held3 (fun w'=>w'.cell? ⟨g11,0,none⟩=some (.slice (some ad0) n0 c0)∧w'.cell? ⟨g11,1,none⟩=some (.slice (some ad1) n0 c1)∧w'.cell? ⟨g11,2,none⟩=some (.slice A2 n0 c2))
     (first|((try dsimp only);(refine⟨?_,?_,?_⟩)<;>first|(exact pw_cell_below (below_drew (Below.refl _ _)) (by assumption))|go_keep)|go_keep)
     (first|fail)
    clear y0 y1 y2 z0 z1 z2 f0 f1 f2 hd hi
    have hBZ:Below w.heap.size w (((w9.setCell ⟨g9,0,none⟩ (.slice (some ad0) n0 c0)).setCell ⟨g9,1,none⟩ (.slice (some ad1) n0 c1)).setCell ⟨g9,2,none⟩ (.slice A2 n0 c2)).drew:=below_drew (below_set (below_set (below_set HB.out hg9w) hg9w) hg9w)
    have hsame: ∀ k,k≠g9→(((w9.setCell ⟨g9,0,none⟩ (.slice (some ad0) n0 c0)).setCell ⟨g9,1,none⟩ (.slice (some ad1) n0 c1)).setCell ⟨g9,2,none⟩ (.slice A2 n0 c2)).drew.heap[k]? =w9.heap[k]? :=fun k hk=>((Below.heap_setCell _ ⟨g9,2,none⟩ _ k hk).trans (Below.heap_setCell _ ⟨g9,1,none⟩ _ k hk)).trans (Below.heap_setCell _ ⟨g9,0,none⟩ _ k hk)
    obtain⟨wz,hwz⟩: ∃ W,W=(((w9.setCell ⟨g9,0,none⟩ (.slice (some ad0) n0 c0)).setCell ⟨g9,1,none⟩ (.slice (some ad1) n0 c1)).setCell ⟨g9,2,none⟩ (.slice A2 n0 c2)).drew:=⟨_,rfl⟩
    rw[← hwz] at hBZ hsame
    have hRF0:=(HF.out.same (hsame gF (Ne.symm hgF.2.2))).R (base:=w.heap.size) (ok:=fun k_=>some k_≠(Value.slice (some ad0) n0 c0).ownBlock) (by have:=hFL.out;omega) hgF.1 (fun h=>by have:=Kd.R_base R0.out gF h.symm;omega)
    rw[hFL.out] at hRF0
    have hRF:Kd.R (Kd.int .i64) 3 wz w.heap.size (fun k_=>some k_≠(Value.slice (some ad0) n0 c0).ownBlock) (.slice (some ⟨gF,0,none⟩) l.length l.length) R:=by rw[← HE.out];exact hRF0
    have hR0:Kd.R (Kd.int .i64) 3 wz w.heap.size (fun k_=>some k_≠(Value.slice (some ⟨gF,0,none⟩) l.length l.length).ownBlock) (.slice (some ad0) n0 c0) (reachS l R n0 s).D:=by
     rw[← HE.out, ← HXD.out]
     exact Kd.R_mono (Kd.R_lower (Kd.R_move (Kd.R_bound R0.out) (fun k hk=>hsame k (by have:=hk.2.1;omega))) hwrw) (fun k hk=>by have:=hk.2.1;simp[Value.ownBlock];omega)
    have hR1:Kd.R Kd.bool 4 wz w.heap.size (fun _=>True) (.slice (some ad1) n0 c1) (reachS l R n0 s).I:=by
     rw[← HE.out, ← HXD.out]
     exact Kd.R_mono (Kd.R_lower (Kd.R_move (Kd.R_bound R1.out) (fun k hk=>hsame k (by have:=hk.2.1;omega))) hwrw) (fun _ _=>trivial)
    have hR2:Kd.R k38 38 wz w.heap.size (fun _=>True) (.slice A2 n0 c2) (reachS l R n0 s).B:=by
     rw[← HE.out, ← HXD.out]
     exact Kd.R_mono (Kd.R_lower (Kd.R_move (Kd.R_bound R2.out) (fun k hk=>hsame k (by have:=hk.2.1;omega))) hwrw) (fun _ _=>trivial)
    rw[hwz] at hBZ hRF hR0 hR1 hR2
    clear hwz hsame hRF0
    go_wp2_with fail
    (try rw[Exit.noGoto_ret]);refine bodyPost_ret (results_tc rfl _ _ g9 109 #[.slice (some ad0) n0 c0, .slice (some ad1) n0 c1, .slice A2 n0 c2] (0,0) _ rfl (blk_drew (blk_put (cs:= #[.slice (some ad0) n0 c0, .slice (some ad1) n0 c1, .slice none 0 0]) (blk_put (cs:= #[.slice (some ad0) n0 c0, .slice none 0 0, .slice none 0 0]) (blk_put (cs:= #[.slice none 0 0, .slice none 0 0, .slice none 0 0]) B9.out 0 _ rfl) 1 _ rfl) 2 _ rfl)) Try.underlying109 rfl (by kernel_rfl)) rfl ?_;exact⟨.slice (some ⟨gF,0,none⟩) l.length l.length,_,_,_,rfl,hRF,hR0,hR1,hR2,hBZ⟩
theorem span_Fill_calls (a0_0:Int) (a0_1:Bool) (A0_2:Option Addr) (c0_2:Nat) (l0_2:List S74) (a1:Int) (a2:Int) (a3:Int) (r1:List Int) (r2:List Int) (r3:List Bool) (r4:List S38) (w:World) (hr0_2:Kd.C k74 w A0_2 l0_2.length l0_2) (hc0_2:l0_2.length≤c0_2) (h:(if endsErr a0_0 l0_2 a1 a2=0∧0≤a3 then some (fillRes l0_2 a0_0.toNat a1.toNat a2.toNat a3) else none)=some (r1,r2,r3,r4)):
  Calls Try.prog 118 #[.agg #[.int .i64 a0_0, .bool a0_1, .slice A0_2 l0_2.length c0_2], .int .i64 a1, .int .i64 a2, .int .i64 a3] w fun e w'=> ∃ v0_ v1_ v2_ v3_:Value,e= .returned (.tuple #[v0_, .agg #[v1_,v2_,v3_]])∧Kd.R (Kd.int .i64) 3 w' w.heap.size (fun k_=>some k_≠(v1_:Value).ownBlock) v0_ r1∧Kd.R (Kd.int .i64) 3 w' w.heap.size (fun k_=>some k_≠(v0_:Value).ownBlock) v1_ r2∧Kd.R Kd.bool 4 w' w.heap.size (fun _=>True) v2_ r3∧Kd.R k38 38 w' w.heap.size (fun _=>True) v3_ r4∧Below w.heap.size w w':=by
 by_cases he:endsErr a0_0 l0_2 a1 a2=0∧0≤a3
 ·rw[if_pos he] at h
  obtain⟨n0,s0,t0,rfl,rfl,rfl,hs,ht,hst,hn,hr⟩:=ends_zero he.1
  simp only[Int.toNat_natCast] at h
  injection h with h
  unfold fillRes at h
  injection h with h1 h
  injection h with h2 h
  injection h with h3 h4
  subst h1
  subst h2
  subst h3
  subst h4
  exact fill_core n0 a0_1 A0_2 c0_2 l0_2 s0 t0 a3 w hr hs ht hst he.2 hr0_2 hc0_2
 ·rw[if_neg he] at h;cases h
end Go.Proofs.Ytkcpanpdipmmmaa.H
namespace Go.Proofs.Ytkcpanpdipmmmaa.P
open Go.RowKit Go.Proofs.YtkcpanpdipmmmaaW.PrintWords Go.Proofs.YtkcpanpdipmmmaaW.PrintLast Go.Proofs.YtkcpanpdipmmmaaW.PrintMore
attribute [local go_sem] max2_int min2_int max_two min_two max_three min_three max_four min_four
def span_Fill.f (a0_0:Int) (a0_1:Bool) (l0_2:List (S74)) (a1:Int) (a2:Int) (a3:Int):Option (List Int × List Int × List Bool × (List (S38))):=(if H.endsErr a0_0 l0_2 a1 a2=0∧0≤a3 then some (H.fillRes l0_2 a0_0.toNat a1.toNat a2.toNat a3) else none)
theorem span_Fill.calls (a0_0:Int) (a0_1:Bool) (A0_2:Option Addr) (c0_2:Nat) (l0_2:List (S74)) (a1:Int) (a2:Int) (a3:Int) (r1:List Int) (r2:List Int) (r3:List Bool) (r4:List (S38)) (w:World) (hr0_2:Kd.C k74 w A0_2 l0_2.length l0_2) (hc0_2:l0_2.length≤c0_2) (h:span_Fill.f a0_0 a0_1 l0_2 a1 a2 a3=some (r1,r2,r3,r4)):
  Calls Try.prog 118 #[.agg #[.int .i64 a0_0, .bool a0_1, .slice A0_2 l0_2.length c0_2], .int .i64 a1, .int .i64 a2, .int .i64 a3] w fun e w'=> ∃ v0_ v1_ v2_ v3_:Value,e= .returned (.tuple #[v0_, .agg #[v1_,v2_,v3_]])∧Kd.R (Kd.int .i64) 3 w' w.heap.size (fun k_=>some k_≠(v1_:Value).ownBlock) v0_ r1∧Kd.R (Kd.int .i64) 3 w' w.heap.size (fun k_=>some k_≠(v0_:Value).ownBlock) v1_ r2∧Kd.R Kd.bool 4 w' w.heap.size (fun _=>True) v2_ r3∧Kd.R k38 38 w' w.heap.size (fun _=>True) v3_ r4∧Below w.heap.size w w':=H.span_Fill_calls a0_0 a0_1 A0_2 c0_2 l0_2 a1 a2 a3 r1 r2 r3 r4 w hr0_2 hc0_2 h
end Go.Proofs.Ytkcpanpdipmmmaa.P
namespace Go.Proofs.Ytkcpanpdipmmmaa.P
open Go.RowKit Go.Proofs.YtkcpanpdipmmmaaW.PrintWords Go.Proofs.YtkcpanpdipmmmaaW.PrintLast Go.Proofs.YtkcpanpdipmmmaaW.PrintMore
attribute [local go_sem] max2_int min2_int max_two min_two max_three min_three max_four min_four
def maxflow_Value.l0:Nat→Int→List Int→Int→List (S74)→Int→Int→Option (Int)
 |0,_,_,_,_,_,_=>none
 |k+1,x1,x2,x7,x11,x12,x13=>if x13<x12 then(if 0≤x13 then(if x13<(x11.length:Int) then(if ((rd_T74 x11 x13).f0)=x1 then(if x13<(x2.length:Int) then(if ((rd_T74 x11 x13).f1)=x1 then(maxflow_Value.l0 k x1 x2 (wrap64 ((wrap64 (x7+(rd x2 x13))) - (rd x2 x13))) x11 x12 (wrap64 (x13+1))) else(maxflow_Value.l0 k x1 x2 (wrap64 (x7+(rd x2 x13))) x11 x12 (wrap64 (x13+1)))) else(none)) else(if ((rd_T74 x11 x13).f1)=x1 then(if x13<(x2.length:Int) then(maxflow_Value.l0 k x1 x2 (wrap64 (x7 - (rd x2 x13))) x11 x12 (wrap64 (x13+1))) else(none)) else(maxflow_Value.l0 k x1 x2 x7 x11 x12 (wrap64 (x13+1))))) else(none)) else(none)) else(some x7)
def maxflow_Value.f (k:Nat) (a0_0:Int) (a0_1:Bool) (l0_2:List (S74)) (a1:Int) (l2:List Int):Option (Int):=maxflow_Value.l0 k a1 l2 0 l0_2 (l0_2.length:Int) 0
set_option maxHeartbeats 8000000 in
set_option maxRecDepth 100000 in
theorem maxflow_Value.calls (k:Nat) (a0_0:Int) (a0_1:Bool) (A0_2:Option Addr) (c0_2:Nat) (l0_2:List (S74)) (a1:Int) (A2:Option Addr) (c2:Nat) (l2:List Int) (r:Int) (w:World) (hr0_2:Kd.C k74 w A0_2 l0_2.length l0_2) (hc0_2:l0_2.length≤c0_2) (hr2:Kd.C (Kd.int .i64) w A2 l2.length l2) (hc2:l2.length≤c2) (h:maxflow_Value.f k a0_0 a0_1 l0_2 a1 l2=some r):
  Calls Try.prog 119 #[.agg #[.int .i64 a0_0, .bool a0_1, .slice A0_2 l0_2.length c0_2], .int .i64 a1, .slice A2 l2.length c2] w fun e w'=>e= .returned (.int .i64 r)∧Below w.heap.size w w':=by
 have hu24:=Try.underlying24
 have hu74:=Try.underlying74
 have HR0_2:=Aside0.mk hr0_2
 have HC0_2:=Aside0.mk hc0_2
 clear hr0_2 hc0_2
 have HR2:=Aside0.mk hr2
 have HC2:=Aside0.mk hc2
 clear hr2 hc2
 have HB:=Aside0.mk (Below.refl w.heap.size w)
 have H:(maxflow_Value.l0 k a1 l2 0 l0_2 (l0_2.length:Int) 0)=some r:=h
 clear h
 have H':=Aside0.mk H
 clear H
 go_enter Try.func119,Try.ntmps119
 go_wp2_with (first|((with_reducible refine gate_dst (N:=3) rfl ?_);refine box_event ?hg (N:=3) ?hd (cs:= #[.int .i64 a0_0, .bool a0_1, .slice A0_2 l0_2.length c0_2]) (t:=24) ?hr ?_;(case hd=>rfl);(case hg=>rfl);(case hr=>first|(go_simp;done)|(go_simp;rfl));intro gb758 hg w4 hbox hb;have n0_:=Aside0.mk (below_step HB.out hb);have n1_:=Aside0.mk (hbox);have n2_:=Aside0.mk ((by rw[hg];exact(below_size HB.out):w.heap.size≤gb758));have n3_:=Aside0.mk ((by rw[hg];exact(below_size HB.out):w.heap.size≤gb758));clear HB;have HB:=n0_;have BK758:=n1_;have GW758:=n2_;have GE758:=n3_;clear n0_ n1_ n2_ n3_;clear hb hbox hg;have hcz5_0:w4.cell? ⟨gb758,0,none⟩=some (.int .i64 a0_0):=(blk_cell BK758.out 0).trans rfl;have hcz5_1:w4.cell? ⟨gb758,1,none⟩=some (.bool a0_1):=(blk_cell BK758.out 1).trans rfl;have hcz5_2:w4.cell? ⟨gb758,2,none⟩=some (.slice A0_2 l0_2.length c0_2):=(blk_cell BK758.out 2).trans rfl;have hfz5_0:=blk_frozen BK758.out 0;have hfz5_1:=blk_frozen BK758.out 1;have hfz5_2:=blk_frozen BK758.out 2))
 go_loopg [7,13] k (fun kq v7 v13 w'=> ∃ (x7_1:Int) (x13_1:Int),v7= .int .i64 x7_1∧v13= .int .i64 x13_1∧Aside0 (maxflow_Value.l0 kq a1 l2 x7_1 l0_2 (l0_2.length:Int) x13_1=some r)∧Aside0 (kq≤k)∧Aside0 (w'.heap[gb758]? =some (.cells #[.int .i64 a0_0, .bool a0_1,(.slice A0_2 l0_2.length c0_2)] 24 (0,0)))∧Aside0 (Below w.heap.size w w'))
 case atStart=>exact⟨(0),(0),(by first|rfl|(simp;done)|(simp[*];done)),(by first|rfl|(simp;done)|(simp[*];done)),H',⟨Nat.le_refl _⟩,⟨BK758.out⟩,⟨HB.out⟩⟩
 case round=>
  clear H'
  try clear c1
  try clear c2
  try clear p2
  try clear hcz5_0
  try clear hcz5_1
  try clear hcz5_2
  try clear hfz5_0
  try clear hfz5_1
  try clear hfz5_2
  obtain⟨x7_1,x13_1,rfl,rfl,HA,HK1,BK758,HB⟩:=hrel
  cases gk with
  |zero=>exact absurd HA.out (by simp[maxflow_Value.l0])
  |succ k1=>
   have H:=HA.out
   clear HA
   simp only[maxflow_Value.l0] at H
   by_cases c6:x13_1<(l0_2.length:Int)
   rotate_left
   ·rw[if_neg c6] at H
    have c6b0:decide (x13_1<(l0_2.length:Int))=false:=decide_eq_false c6
    clear c6
    obtain rfl:=Option.some.inj H
    go_wp2
    go_ret
    exact⟨by first|rfl|(simp[errW_none,errW_some]<;>rfl)|(simp[*,errW_none,errW_some]<;>rfl),HB.out⟩
   rw[if_pos c6] at H
   have c6b0:decide (x13_1<(l0_2.length:Int))=true:=decide_eq_true c6
   clear c6
   by_cases c7:0≤x13_1
   rotate_left
   ·rw[if_neg c7] at H
    exact absurd H (by simp)
   rw[if_pos c7] at H
   have c7b0:decide (0≤x13_1)=true:=decide_eq_true c7
   clear c7
   by_cases c8:x13_1<(l0_2.length:Int)
   rotate_left
   ·rw[if_neg c8] at H
    exact absurd H (by simp)
   rw[if_pos c8] at H
   have c8b0:decide (x13_1<(l0_2.length:Int))=true:=decide_eq_true c8
   clear c8
   by_cases c9:((rd_T74 l0_2 x13_1).f0)=a1
   rotate_left
   ·rw[if_neg c9] at H
    have c9b0:(((rd_T74 l0_2 x13_1).f0) == a1)=false:=beq_eq_false_iff_ne.mpr c9
    have c9b1:(((rd_T74 l0_2 x13_1).f0) != a1)=true:=bne_iff_ne.mpr c9
    by_cases c18:((rd_T74 l0_2 x13_1).f1)=a1
    rotate_left
    ·rw[if_neg c18] at H
     have c18b0:(((rd_T74 l0_2 x13_1).f1) == a1)=false:=beq_eq_false_iff_ne.mpr c18
     have c18b1:(((rd_T74 l0_2 x13_1).f1) != a1)=true:=bne_iff_ne.mpr c18
     have H':=Aside0.mk H
     clear H
     have p759:0≤(x13_1:Int):=of_decide_eq_true (by first|(with_reducible assumption)|assumption)
     have q759:x13_1<(l0_2.length:Int):=of_decide_eq_true (by first|(with_reducible assumption)|assumption)
     obtain⟨ad759,e759,hx759_0,hx759_1,hx759_2,hx759_3⟩:=at_T74 HR0_2.out x13_1 p759 q759
     cases e759
     replace hx759_0:=(HB.out.cell (World.block_lt_of_cell? w _ hx759_0)).trans hx759_0
     replace hx759_1:=(HB.out.cell (World.block_lt_of_cell? w _ hx759_1)).trans hx759_1
     replace hx759_2:=(HB.out.cell (World.block_lt_of_cell? w _ hx759_2)).trans hx759_2
     replace hx759_3:=(HB.out.cell (World.block_lt_of_cell? w _ hx759_3)).trans hx759_3
     replace p759:=eq_true p759
     replace q759:=eq_true q759
     go_wp2_with (first|((with_reducible refine gate_dst (N:=9) rfl ?_);refine box_event ?hg (N:=9) ?hd (cs:= #[.int .i64 0, .int .i64 0, .int .i64 0, .int .i64 0]) (t:=74) ?hr ?_;(case hd=>rfl);(case hg=>rfl);(case hr=>first|(go_simp;done)|(go_simp;rfl));intro gb760 hg w23 hbox hb;have n0_:=Aside0.mk (blk_below BK758.out hb);have n1_:=Aside0.mk (below_step HB.out hb);have n2_:=Aside0.mk (hbox);have n3_:=Aside0.mk ((by rw[hg];exact(below_size HB.out):w.heap.size≤gb760));have n4_:=Aside0.mk ((by rw[hg];exact(below_size HB.out):w.heap.size≤gb760));have n5_:=Aside0.mk ((by rw[hg];exact Nat.ne_of_lt (blk_lt BK758.out):gb758≠gb760));have n6_:=Aside0.mk ((by rw[hg];exact Nat.ne_of_gt (blk_lt BK758.out):gb760≠gb758));clear BK758;clear HB;have BK758:=n0_;have HB:=n1_;have BK760:=n2_;have GW760:=n3_;have GE760:=n4_;have NB758_760:=n5_;have NB760_758:=n6_;clear n0_ n1_ n2_ n3_ n4_ n5_ n6_;clear hb hbox hg;have hnb24:=NB760_758.out;have hnc24:=NB758_760.out;have hcz25_0:w23.cell? ⟨gb760,0,none⟩=some (.int .i64 0):=(blk_cell BK760.out 0).trans rfl;have hcz25_1:w23.cell? ⟨gb760,1,none⟩=some (.int .i64 0):=(blk_cell BK760.out 1).trans rfl;have hcz25_2:w23.cell? ⟨gb760,2,none⟩=some (.int .i64 0):=(blk_cell BK760.out 2).trans rfl;have hcz25_3:w23.cell? ⟨gb760,3,none⟩=some (.int .i64 0):=(blk_cell BK760.out 3).trans rfl;have hfz25_0:=blk_frozen BK760.out 0;have hfz25_1:=blk_frozen BK760.out 1;have hfz25_2:=blk_frozen BK760.out 2;have hfz25_3:=blk_frozen BK760.out 3))
     go_roundg k1
     case measure=>have:=HK1.out;omega
     case rel=>exact⟨(x7_1),(wrap64 (x13_1+1)),(by first|rfl|(simp;done)|(simp[*];done)),(by first|rfl|(simp;done)|(simp[*];done)),H',⟨by have:=HK1.out;omega⟩,⟨by(with_reducible repeat(first|refine blk_drewN ?_ _|refine blk_drew ?_|refine blk_alloc ?_ _));refine blk_far ?_ NB758_760.out _;(with_reducible repeat(first|refine blk_drewN ?_ _|refine blk_drew ?_|refine blk_alloc ?_ _));refine blk_far ?_ NB758_760.out _;(with_reducible repeat(first|refine blk_drewN ?_ _|refine blk_drew ?_|refine blk_alloc ?_ _));refine blk_far ?_ NB758_760.out _;(with_reducible repeat(first|refine blk_drewN ?_ _|refine blk_drew ?_|refine blk_alloc ?_ _));refine blk_far ?_ NB758_760.out _;(with_reducible repeat(first|refine blk_drewN ?_ _|refine blk_drew ?_|refine blk_alloc ?_ _));exact BK758.out⟩,⟨by repeat(first|(with_reducible first|exact HB.out|apply below_alloc|apply pw_below_drewN|apply below_drew1|refine below_set ?_ GE758.out|refine below_set ?_ GE760.out)|exact HB.out)⟩⟩
    rw[if_pos c18] at H
    have c18b0:(((rd_T74 l0_2 x13_1).f1) == a1)=true:=beq_iff_eq.mpr c18
    have c18b1:(((rd_T74 l0_2 x13_1).f1) != a1)=false:=bne_eq_false_iff_eq.mpr c18
    clear c18
    by_cases c19:x13_1<(l2.length:Int)
    rotate_left
    ·rw[if_neg c19] at H
     exact absurd H (by simp)
    rw[if_pos c19] at H
    have c19b0:decide (x13_1<(l2.length:Int))=true:=decide_eq_true c19
    clear c19
    have H':=Aside0.mk H
    clear H
    have p759:0≤(x13_1:Int):=of_decide_eq_true (by first|(with_reducible assumption)|assumption)
    have q759:x13_1<(l0_2.length:Int):=of_decide_eq_true (by first|(with_reducible assumption)|assumption)
    obtain⟨ad759,e759,hx759_0,hx759_1,hx759_2,hx759_3⟩:=at_T74 HR0_2.out x13_1 p759 q759
    cases e759
    replace hx759_0:=(HB.out.cell (World.block_lt_of_cell? w _ hx759_0)).trans hx759_0
    replace hx759_1:=(HB.out.cell (World.block_lt_of_cell? w _ hx759_1)).trans hx759_1
    replace hx759_2:=(HB.out.cell (World.block_lt_of_cell? w _ hx759_2)).trans hx759_2
    replace hx759_3:=(HB.out.cell (World.block_lt_of_cell? w _ hx759_3)).trans hx759_3
    replace p759:=eq_true p759
    replace q759:=eq_true q759
    go_wp2_with (first|((with_reducible refine gate_dst (N:=9) rfl ?_);refine box_event ?hg (N:=9) ?hd (cs:= #[.int .i64 0, .int .i64 0, .int .i64 0, .int .i64 0]) (t:=74) ?hr ?_;(case hd=>rfl);(case hg=>rfl);(case hr=>first|(go_simp;done)|(go_simp;rfl));intro gb760 hg w20 hbox hb;have n0_:=Aside0.mk (blk_below BK758.out hb);have n1_:=Aside0.mk (below_step HB.out hb);have n2_:=Aside0.mk (hbox);have n3_:=Aside0.mk ((by rw[hg];exact(below_size HB.out):w.heap.size≤gb760));have n4_:=Aside0.mk ((by rw[hg];exact(below_size HB.out):w.heap.size≤gb760));have n5_:=Aside0.mk ((by rw[hg];exact Nat.ne_of_lt (blk_lt BK758.out):gb758≠gb760));have n6_:=Aside0.mk ((by rw[hg];exact Nat.ne_of_gt (blk_lt BK758.out):gb760≠gb758));clear BK758;clear HB;have BK758:=n0_;have HB:=n1_;have BK760:=n2_;have GW760:=n3_;have GE760:=n4_;have NB758_760:=n5_;have NB760_758:=n6_;clear n0_ n1_ n2_ n3_ n4_ n5_ n6_;clear hb hbox hg;have hnb21:=NB760_758.out;have hnc21:=NB758_760.out;have hcz22_0:w20.cell? ⟨gb760,0,none⟩=some (.int .i64 0):=(blk_cell BK760.out 0).trans rfl;have hcz22_1:w20.cell? ⟨gb760,1,none⟩=some (.int .i64 0):=(blk_cell BK760.out 1).trans rfl;have hcz22_2:w20.cell? ⟨gb760,2,none⟩=some (.int .i64 0):=(blk_cell BK760.out 2).trans rfl;have hcz22_3:w20.cell? ⟨gb760,3,none⟩=some (.int .i64 0):=(blk_cell BK760.out 3).trans rfl;have hfz22_0:=blk_frozen BK760.out 0;have hfz22_1:=blk_frozen BK760.out 1;have hfz22_2:=blk_frozen BK760.out 2;have hfz22_3:=blk_frozen BK760.out 3;have p763:0≤(x13_1:Int):=of_decide_eq_true (by first|(with_reducible assumption)|assumption);have q763:x13_1<(l2.length:Int):=of_decide_eq_true (by first|(with_reducible assumption)|assumption);obtain⟨ad763,e763,hx763_0⟩:=Kd.at_int HR2.out x13_1 p763 q763;cases e763;have hn763_0:ad763.block≠gb760:=Nat.ne_of_lt (Nat.lt_of_lt_of_le (by have:=World.block_lt_of_cell? _ _ hx763_0;first|rwa [add_block] at this|exact this) GW760.out);have hn763_1:ad763.block≠gb760:=Nat.ne_of_lt (Nat.lt_of_lt_of_le (by have:=World.block_lt_of_cell? _ _ hx763_0;first|rwa [add_block] at this|exact this) GW760.out);have hn763_2:ad763.block≠gb760:=Nat.ne_of_lt (Nat.lt_of_lt_of_le (by have:=World.block_lt_of_cell? _ _ hx763_0;first|rwa [add_block] at this|exact this) GW760.out);have hn763_3:ad763.block≠gb760:=Nat.ne_of_lt (Nat.lt_of_lt_of_le (by have:=World.block_lt_of_cell? _ _ hx763_0;first|rwa [add_block] at this|exact this) GW760.out);replace hx763_0:=(HB.out.cell (World.block_lt_of_cell? w _ hx763_0)).trans hx763_0;replace hx763_0:=(cell_far (p:=⟨gb760,0,none⟩) (by first|(rw[add_block];exact hn763_0)|(show (Addr.add _ _).block≠_;rw[add_block];exact hn763_0)|exact hn763_0) (.int .i64 ((rd_T74 l0_2 x13_1).f0))).trans hx763_0;replace hx763_0:=(cell_far (p:=⟨gb760,1,none⟩) (by first|(rw[add_block];exact hn763_1)|(show (Addr.add _ _).block≠_;rw[add_block];exact hn763_1)|exact hn763_1) (.int .i64 ((rd_T74 l0_2 x13_1).f1))).trans hx763_0;replace hx763_0:=(cell_far (p:=⟨gb760,2,none⟩) (by first|(rw[add_block];exact hn763_2)|(show (Addr.add _ _).block≠_;rw[add_block];exact hn763_2)|exact hn763_2) (.int .i64 ((rd_T74 l0_2 x13_1).f2))).trans hx763_0;replace hx763_0:=(cell_far (p:=⟨gb760,3,none⟩) (by first|(rw[add_block];exact hn763_3)|(show (Addr.add _ _).block≠_;rw[add_block];exact hn763_3)|exact hn763_3) (.int .i64 ((rd_T74 l0_2 x13_1).f3))).trans hx763_0;clear hn763_0;clear hn763_1;clear hn763_2;clear hn763_3;replace p763:=eq_true p763;replace q763:=eq_true q763))
    go_roundg k1
    case measure=>have:=HK1.out;omega
    case rel=>exact⟨(wrap64 (x7_1 - (rd l2 x13_1))),(wrap64 (x13_1+1)),(by first|rfl|(simp;done)|(simp[*];done)),(by first|rfl|(simp;done)|(simp[*];done)),H',⟨by have:=HK1.out;omega⟩,⟨by(with_reducible repeat(first|refine blk_drewN ?_ _|refine blk_drew ?_|refine blk_alloc ?_ _));refine blk_far ?_ NB758_760.out _;(with_reducible repeat(first|refine blk_drewN ?_ _|refine blk_drew ?_|refine blk_alloc ?_ _));refine blk_far ?_ NB758_760.out _;(with_reducible repeat(first|refine blk_drewN ?_ _|refine blk_drew ?_|refine blk_alloc ?_ _));refine blk_far ?_ NB758_760.out _;(with_reducible repeat(first|refine blk_drewN ?_ _|refine blk_drew ?_|refine blk_alloc ?_ _));refine blk_far ?_ NB758_760.out _;(with_reducible repeat(first|refine blk_drewN ?_ _|refine blk_drew ?_|refine blk_alloc ?_ _));exact BK758.out⟩,⟨by repeat(first|(with_reducible first|exact HB.out|apply below_alloc|apply pw_below_drewN|apply below_drew1|refine below_set ?_ GE758.out|refine below_set ?_ GE760.out)|exact HB.out)⟩⟩
   rw[if_pos c9] at H
   have c9b0:(((rd_T74 l0_2 x13_1).f0) == a1)=true:=beq_iff_eq.mpr c9
   have c9b1:(((rd_T74 l0_2 x13_1).f0) != a1)=false:=bne_eq_false_iff_eq.mpr c9
   clear c9
   by_cases c10:x13_1<(l2.length:Int)
   rotate_left
   ·rw[if_neg c10] at H
    exact absurd H (by simp)
   rw[if_pos c10] at H
   have c10b0:decide (x13_1<(l2.length:Int))=true:=decide_eq_true c10
   clear c10
   by_cases c11:((rd_T74 l0_2 x13_1).f1)=a1
   rotate_left
   ·rw[if_neg c11] at H
    have c11b0:(((rd_T74 l0_2 x13_1).f1) == a1)=false:=beq_eq_false_iff_ne.mpr c11
    have c11b1:(((rd_T74 l0_2 x13_1).f1) != a1)=true:=bne_iff_ne.mpr c11
    have H':=Aside0.mk H
    clear H
    have p759:0≤(x13_1:Int):=of_decide_eq_true (by first|(with_reducible assumption)|assumption)
    have q759:x13_1<(l0_2.length:Int):=of_decide_eq_true (by first|(with_reducible assumption)|assumption)
    obtain⟨ad759,e759,hx759_0,hx759_1,hx759_2,hx759_3⟩:=at_T74 HR0_2.out x13_1 p759 q759
    cases e759
    replace hx759_0:=(HB.out.cell (World.block_lt_of_cell? w _ hx759_0)).trans hx759_0
    replace hx759_1:=(HB.out.cell (World.block_lt_of_cell? w _ hx759_1)).trans hx759_1
    replace hx759_2:=(HB.out.cell (World.block_lt_of_cell? w _ hx759_2)).trans hx759_2
    replace hx759_3:=(HB.out.cell (World.block_lt_of_cell? w _ hx759_3)).trans hx759_3
    replace p759:=eq_true p759
    replace q759:=eq_true q759
    go_wp2_with (first|((with_reducible refine gate_dst (N:=9) rfl ?_);refine box_event ?hg (N:=9) ?hd (cs:= #[.int .i64 0, .int .i64 0, .int .i64 0, .int .i64 0]) (t:=74) ?hr ?_;(case hd=>rfl);(case hg=>rfl);(case hr=>first|(go_simp;done)|(go_simp;rfl));intro gb760 hg w15 hbox hb;have n0_:=Aside0.mk (blk_below BK758.out hb);have n1_:=Aside0.mk (below_step HB.out hb);have n2_:=Aside0.mk (hbox);have n3_:=Aside0.mk ((by rw[hg];exact(below_size HB.out):w.heap.size≤gb760));have n4_:=Aside0.mk ((by rw[hg];exact(below_size HB.out):w.heap.size≤gb760));have n5_:=Aside0.mk ((by rw[hg];exact Nat.ne_of_lt (blk_lt BK758.out):gb758≠gb760));have n6_:=Aside0.mk ((by rw[hg];exact Nat.ne_of_gt (blk_lt BK758.out):gb760≠gb758));clear BK758;clear HB;have BK758:=n0_;have HB:=n1_;have BK760:=n2_;have GW760:=n3_;have GE760:=n4_;have NB758_760:=n5_;have NB760_758:=n6_;clear n0_ n1_ n2_ n3_ n4_ n5_ n6_;clear hb hbox hg;have hnb16:=NB760_758.out;have hnc16:=NB758_760.out;have hcz17_0:w15.cell? ⟨gb760,0,none⟩=some (.int .i64 0):=(blk_cell BK760.out 0).trans rfl;have hcz17_1:w15.cell? ⟨gb760,1,none⟩=some (.int .i64 0):=(blk_cell BK760.out 1).trans rfl;have hcz17_2:w15.cell? ⟨gb760,2,none⟩=some (.int .i64 0):=(blk_cell BK760.out 2).trans rfl;have hcz17_3:w15.cell? ⟨gb760,3,none⟩=some (.int .i64 0):=(blk_cell BK760.out 3).trans rfl;have hfz17_0:=blk_frozen BK760.out 0;have hfz17_1:=blk_frozen BK760.out 1;have hfz17_2:=blk_frozen BK760.out 2;have hfz17_3:=blk_frozen BK760.out 3;have p761:0≤(x13_1:Int):=of_decide_eq_true (by first|(with_reducible assumption)|assumption);have q761:x13_1<(l2.length:Int):=of_decide_eq_true (by first|(with_reducible assumption)|assumption);obtain⟨ad761,e761,hx761_0⟩:=Kd.at_int HR2.out x13_1 p761 q761;cases e761;have hn761_0:ad761.block≠gb760:=Nat.ne_of_lt (Nat.lt_of_lt_of_le (by have:=World.block_lt_of_cell? _ _ hx761_0;first|rwa [add_block] at this|exact this) GW760.out);have hn761_1:ad761.block≠gb760:=Nat.ne_of_lt (Nat.lt_of_lt_of_le (by have:=World.block_lt_of_cell? _ _ hx761_0;first|rwa [add_block] at this|exact this) GW760.out);have hn761_2:ad761.block≠gb760:=Nat.ne_of_lt (Nat.lt_of_lt_of_le (by have:=World.block_lt_of_cell? _ _ hx761_0;first|rwa [add_block] at this|exact this) GW760.out);have hn761_3:ad761.block≠gb760:=Nat.ne_of_lt (Nat.lt_of_lt_of_le (by have:=World.block_lt_of_cell? _ _ hx761_0;first|rwa [add_block] at this|exact this) GW760.out);replace hx761_0:=(HB.out.cell (World.block_lt_of_cell? w _ hx761_0)).trans hx761_0;replace hx761_0:=(cell_far (p:=⟨gb760,0,none⟩) (by first|(rw[add_block];exact hn761_0)|(show (Addr.add _ _).block≠_;rw[add_block];exact hn761_0)|exact hn761_0) (.int .i64 ((rd_T74 l0_2 x13_1).f0))).trans hx761_0;replace hx761_0:=(cell_far (p:=⟨gb760,1,none⟩) (by first|(rw[add_block];exact hn761_1)|(show (Addr.add _ _).block≠_;rw[add_block];exact hn761_1)|exact hn761_1) (.int .i64 ((rd_T74 l0_2 x13_1).f1))).trans hx761_0;replace hx761_0:=(cell_far (p:=⟨gb760,2,none⟩) (by first|(rw[add_block];exact hn761_2)|(show (Addr.add _ _).block≠_;rw[add_block];exact hn761_2)|exact hn761_2) (.int .i64 ((rd_T74 l0_2 x13_1).f2))).trans hx761_0;replace hx761_0:=(cell_far (p:=⟨gb760,3,none⟩) (by first|(rw[add_block];exact hn761_3)|(show (Addr.add _ _).block≠_;rw[add_block];exact hn761_3)|exact hn761_3) (.int .i64 ((rd_T74 l0_2 x13_1).f3))).trans hx761_0;clear hn761_0;clear hn761_1;clear hn761_2;clear hn761_3;replace p761:=eq_true p761;replace q761:=eq_true q761))
    go_roundg k1
    case measure=>have:=HK1.out;omega
    case rel=>exact⟨(wrap64 (x7_1+(rd l2 x13_1))),(wrap64 (x13_1+1)),(by first|rfl|(simp;done)|(simp[*];done)),(by first|rfl|(simp;done)|(simp[*];done)),H',⟨by have:=HK1.out;omega⟩,⟨by(with_reducible repeat(first|refine blk_drewN ?_ _|refine blk_drew ?_|refine blk_alloc ?_ _));refine blk_far ?_ NB758_760.out _;(with_reducible repeat(first|refine blk_drewN ?_ _|refine blk_drew ?_|refine blk_alloc ?_ _));refine blk_far ?_ NB758_760.out _;(with_reducible repeat(first|refine blk_drewN ?_ _|refine blk_drew ?_|refine blk_alloc ?_ _));refine blk_far ?_ NB758_760.out _;(with_reducible repeat(first|refine blk_drewN ?_ _|refine blk_drew ?_|refine blk_alloc ?_ _));refine blk_far ?_ NB758_760.out _;(with_reducible repeat(first|refine blk_drewN ?_ _|refine blk_drew ?_|refine blk_alloc ?_ _));exact BK758.out⟩,⟨by repeat(first|(with_reducible first|exact HB.out|apply below_alloc|apply pw_below_drewN|apply below_drew1|refine below_set ?_ GE758.out|refine below_set ?_ GE760.out)|exact HB.out)⟩⟩
   rw[if_pos c11] at H
   have c11b0:(((rd_T74 l0_2 x13_1).f1) == a1)=true:=beq_iff_eq.mpr c11
   have c11b1:(((rd_T74 l0_2 x13_1).f1) != a1)=false:=bne_eq_false_iff_eq.mpr c11
   clear c11
   have H':=Aside0.mk H
   clear H
   have p759:0≤(x13_1:Int):=of_decide_eq_true (by first|(with_reducible assumption)|assumption)
   have q759:x13_1<(l0_2.length:Int):=of_decide_eq_true (by first|(with_reducible assumption)|assumption)
   obtain⟨ad759,e759,hx759_0,hx759_1,hx759_2,hx759_3⟩:=at_T74 HR0_2.out x13_1 p759 q759
   cases e759
   replace hx759_0:=(HB.out.cell (World.block_lt_of_cell? w _ hx759_0)).trans hx759_0
   replace hx759_1:=(HB.out.cell (World.block_lt_of_cell? w _ hx759_1)).trans hx759_1
   replace hx759_2:=(HB.out.cell (World.block_lt_of_cell? w _ hx759_2)).trans hx759_2
   replace hx759_3:=(HB.out.cell (World.block_lt_of_cell? w _ hx759_3)).trans hx759_3
   replace p759:=eq_true p759
   replace q759:=eq_true q759
   go_wp2_with (first|((with_reducible refine gate_dst (N:=9) rfl ?_);refine box_event ?hg (N:=9) ?hd (cs:= #[.int .i64 0, .int .i64 0, .int .i64 0, .int .i64 0]) (t:=74) ?hr ?_;(case hd=>rfl);(case hg=>rfl);(case hr=>first|(go_simp;done)|(go_simp;rfl));intro gb760 hg w12 hbox hb;have n0_:=Aside0.mk (blk_below BK758.out hb);have n1_:=Aside0.mk (below_step HB.out hb);have n2_:=Aside0.mk (hbox);have n3_:=Aside0.mk ((by rw[hg];exact(below_size HB.out):w.heap.size≤gb760));have n4_:=Aside0.mk ((by rw[hg];exact(below_size HB.out):w.heap.size≤gb760));have n5_:=Aside0.mk ((by rw[hg];exact Nat.ne_of_lt (blk_lt BK758.out):gb758≠gb760));have n6_:=Aside0.mk ((by rw[hg];exact Nat.ne_of_gt (blk_lt BK758.out):gb760≠gb758));clear BK758;clear HB;have BK758:=n0_;have HB:=n1_;have BK760:=n2_;have GW760:=n3_;have GE760:=n4_;have NB758_760:=n5_;have NB760_758:=n6_;clear n0_ n1_ n2_ n3_ n4_ n5_ n6_;clear hb hbox hg;have hnb13:=NB760_758.out;have hnc13:=NB758_760.out;have hcz14_0:w12.cell? ⟨gb760,0,none⟩=some (.int .i64 0):=(blk_cell BK760.out 0).trans rfl;have hcz14_1:w12.cell? ⟨gb760,1,none⟩=some (.int .i64 0):=(blk_cell BK760.out 1).trans rfl;have hcz14_2:w12.cell? ⟨gb760,2,none⟩=some (.int .i64 0):=(blk_cell BK760.out 2).trans rfl;have hcz14_3:w12.cell? ⟨gb760,3,none⟩=some (.int .i64 0):=(blk_cell BK760.out 3).trans rfl;have hfz14_0:=blk_frozen BK760.out 0;have hfz14_1:=blk_frozen BK760.out 1;have hfz14_2:=blk_frozen BK760.out 2;have hfz14_3:=blk_frozen BK760.out 3;have p761:0≤(x13_1:Int):=of_decide_eq_true (by first|(with_reducible assumption)|assumption);have q761:x13_1<(l2.length:Int):=of_decide_eq_true (by first|(with_reducible assumption)|assumption);obtain⟨ad761,e761,hx761_0⟩:=Kd.at_int HR2.out x13_1 p761 q761;cases e761;have hn761_0:ad761.block≠gb760:=Nat.ne_of_lt (Nat.lt_of_lt_of_le (by have:=World.block_lt_of_cell? _ _ hx761_0;first|rwa [add_block] at this|exact this) GW760.out);have hn761_1:ad761.block≠gb760:=Nat.ne_of_lt (Nat.lt_of_lt_of_le (by have:=World.block_lt_of_cell? _ _ hx761_0;first|rwa [add_block] at this|exact this) GW760.out);have hn761_2:ad761.block≠gb760:=Nat.ne_of_lt (Nat.lt_of_lt_of_le (by have:=World.block_lt_of_cell? _ _ hx761_0;first|rwa [add_block] at this|exact this) GW760.out);have hn761_3:ad761.block≠gb760:=Nat.ne_of_lt (Nat.lt_of_lt_of_le (by have:=World.block_lt_of_cell? _ _ hx761_0;first|rwa [add_block] at this|exact this) GW760.out);replace hx761_0:=(HB.out.cell (World.block_lt_of_cell? w _ hx761_0)).trans hx761_0;replace hx761_0:=(cell_far (p:=⟨gb760,0,none⟩) (by first|(rw[add_block];exact hn761_0)|(show (Addr.add _ _).block≠_;rw[add_block];exact hn761_0)|exact hn761_0) (.int .i64 ((rd_T74 l0_2 x13_1).f0))).trans hx761_0;replace hx761_0:=(cell_far (p:=⟨gb760,1,none⟩) (by first|(rw[add_block];exact hn761_1)|(show (Addr.add _ _).block≠_;rw[add_block];exact hn761_1)|exact hn761_1) (.int .i64 ((rd_T74 l0_2 x13_1).f1))).trans hx761_0;replace hx761_0:=(cell_far (p:=⟨gb760,2,none⟩) (by first|(rw[add_block];exact hn761_2)|(show (Addr.add _ _).block≠_;rw[add_block];exact hn761_2)|exact hn761_2) (.int .i64 ((rd_T74 l0_2 x13_1).f2))).trans hx761_0;replace hx761_0:=(cell_far (p:=⟨gb760,3,none⟩) (by first|(rw[add_block];exact hn761_3)|(show (Addr.add _ _).block≠_;rw[add_block];exact hn761_3)|exact hn761_3) (.int .i64 ((rd_T74 l0_2 x13_1).f3))).trans hx761_0;clear hn761_0;clear hn761_1;clear hn761_2;clear hn761_3;replace p761:=eq_true p761;replace q761:=eq_true q761;have p762:0≤(x13_1:Int):=of_decide_eq_true (by first|(with_reducible assumption)|assumption);have q762:x13_1<(l2.length:Int):=of_decide_eq_true (by first|(with_reducible assumption)|assumption);obtain⟨ad762,e762,hx762_0⟩:=Kd.at_int HR2.out x13_1 p762 q762;obtain rfl:ad761=ad762:=(by injection e762);have hn762_0:ad761.block≠gb760:=Nat.ne_of_lt (Nat.lt_of_lt_of_le (by have:=World.block_lt_of_cell? _ _ hx762_0;first|rwa [add_block] at this|exact this) GW760.out);have hn762_1:ad761.block≠gb760:=Nat.ne_of_lt (Nat.lt_of_lt_of_le (by have:=World.block_lt_of_cell? _ _ hx762_0;first|rwa [add_block] at this|exact this) GW760.out);have hn762_2:ad761.block≠gb760:=Nat.ne_of_lt (Nat.lt_of_lt_of_le (by have:=World.block_lt_of_cell? _ _ hx762_0;first|rwa [add_block] at this|exact this) GW760.out);have hn762_3:ad761.block≠gb760:=Nat.ne_of_lt (Nat.lt_of_lt_of_le (by have:=World.block_lt_of_cell? _ _ hx762_0;first|rwa [add_block] at this|exact this) GW760.out);replace hx762_0:=(HB.out.cell (World.block_lt_of_cell? w _ hx762_0)).trans hx762_0;replace hx762_0:=(cell_far (p:=⟨gb760,0,none⟩) (by first|(rw[add_block];exact hn762_0)|(show (Addr.add _ _).block≠_;rw[add_block];exact hn762_0)|exact hn762_0) (.int .i64 ((rd_T74 l0_2 x13_1).f0))).trans hx762_0;replace hx762_0:=(cell_far (p:=⟨gb760,1,none⟩) (by first|(rw[add_block];exact hn762_1)|(show (Addr.add _ _).block≠_;rw[add_block];exact hn762_1)|exact hn762_1) (.int .i64 ((rd_T74 l0_2 x13_1).f1))).trans hx762_0;replace hx762_0:=(cell_far (p:=⟨gb760,2,none⟩) (by first|(rw[add_block];exact hn762_2)|(show (Addr.add _ _).block≠_;rw[add_block];exact hn762_2)|exact hn762_2) (.int .i64 ((rd_T74 l0_2 x13_1).f2))).trans hx762_0;replace hx762_0:=(cell_far (p:=⟨gb760,3,none⟩) (by first|(rw[add_block];exact hn762_3)|(show (Addr.add _ _).block≠_;rw[add_block];exact hn762_3)|exact hn762_3) (.int .i64 ((rd_T74 l0_2 x13_1).f3))).trans hx762_0;clear hn762_0;clear hn762_1;clear hn762_2;clear hn762_3;replace p762:=eq_true p762;replace q762:=eq_true q762))
   go_roundg k1
   case measure=>have:=HK1.out;omega
   case rel=>exact⟨(wrap64 ((wrap64 (x7_1+(rd l2 x13_1))) - (rd l2 x13_1))),(wrap64 (x13_1+1)),(by first|rfl|(simp;done)|(simp[*];done)),(by first|rfl|(simp;done)|(simp[*];done)),H',⟨by have:=HK1.out;omega⟩,⟨by(with_reducible repeat(first|refine blk_drewN ?_ _|refine blk_drew ?_|refine blk_alloc ?_ _));refine blk_far ?_ NB758_760.out _;(with_reducible repeat(first|refine blk_drewN ?_ _|refine blk_drew ?_|refine blk_alloc ?_ _));refine blk_far ?_ NB758_760.out _;(with_reducible repeat(first|refine blk_drewN ?_ _|refine blk_drew ?_|refine blk_alloc ?_ _));refine blk_far ?_ NB758_760.out _;(with_reducible repeat(first|refine blk_drewN ?_ _|refine blk_drew ?_|refine blk_alloc ?_ _));refine blk_far ?_ NB758_760.out _;(with_reducible repeat(first|refine blk_drewN ?_ _|refine blk_drew ?_|refine blk_alloc ?_ _));exact BK758.out⟩,⟨by repeat(first|(with_reducible first|exact HB.out|apply below_alloc|apply pw_below_drewN|apply below_drew1|refine below_set ?_ GE758.out|refine below_set ?_ GE760.out)|exact HB.out)⟩⟩
end Go.Proofs.Ytkcpanpdipmmmaa.P
namespace Go.Proofs.Ytkcpanpdipmmmaa.P
open Go.RowKit Go.Proofs.YtkcpanpdipmmmaaW.PrintWords Go.Proofs.YtkcpanpdipmmmaaW.PrintLast Go.Proofs.YtkcpanpdipmmmaaW.PrintMore
attribute [local go_sem] max2_int min2_int max_two min_two max_three min_three max_four min_four
def span_Best.f (k:Nat) (a0_0:Int) (a0_1:Bool) (l0_2:List (S74)) (a1:Int) (a2:Int) (a3:Int):Option (List Int × Int × Int):=(span_Asked.f k a0_0 a0_1 l0_2 a1 a2 a3).bind fun t765=>(if t765=0 then((span_Fill.f a0_0 a0_1 l0_2 a1 a2 a3).bind fun bt766=>((maxflow_Value.f k a0_0 a0_1 l0_2 a1 bt766.1).bind fun t778=>((span_paid.f k a0_0 a0_1 l0_2 bt766.1).bind fun t779=>(some (bt766.1,wrap64 ((wrap64 ((wrap64 (a3+1)) * t778)) - t779),0))))) else(some (([]:List Int),0,t765)))
def span_Best.T5:Bool × List (List Nat × List Nat):=(true,[([],[]),([],[]),([1],[1]),([],[]),([],[]),([],[]),([3,4,5],[3,4,5]),([2,6],[2,6]),([],[]),([],[]),([8,9,6],[8,9]),([7,10],[7,10]),([0,10,0,5,9],[0,5,9]),([11,12,0,1,2,3,4,5,6,7,8,9,10,11,12],[11]),([13,0,1,2,3,4,5,6,7,8,9,10,11,12,13],[])])
def span_Best.B5:List Nat:=[0,0,2,0,0,0,56,126,0,0,888,2046,1913,8191,16383]
theorem span_Best.tab5:rtab .any (opsOf Try.f69 5)=span_Best.T5:=by kernel_rfl
theorem span_Best.bits5:waitsOk span_Best.T5.2 span_Best.B5=true:=by kernel_rfl
set_option maxHeartbeats 8000000 in
set_option maxRecDepth 100000 in
theorem span_Best.calls (k:Nat) (a0_0:Int) (a0_1:Bool) (A0_2:Option Addr) (c0_2:Nat) (l0_2:List (S74)) (a1:Int) (a2:Int) (a3:Int) (r1:List Int) (r2:Int) (r3:Int) (w:World) (hr0_2:Kd.C k74 w A0_2 l0_2.length l0_2) (hc0_2:l0_2.length≤c0_2) (h:span_Best.f k a0_0 a0_1 l0_2 a1 a2 a3=some (r1,r2,r3)):
  Calls Try.prog 69 #[.agg #[.int .i64 a0_0, .bool a0_1, .slice A0_2 l0_2.length c0_2], .int .i64 a1, .int .i64 a2, .int .i64 a3] w fun e w'=> ∃ v0_:Value,e= .returned (.tuple #[v0_, .int .i64 r2, .int .i64 r3])∧Kd.R (Kd.int .i64) 3 w' w.heap.size (fun _=>True) v0_ r1∧Below w.heap.size w w':=by
 have hu24:=Try.underlying24
 have HR0_2:=Aside0.mk hr0_2
 have HC0_2:=Aside0.mk hc0_2
 clear hr0_2 hc0_2
 have HB:=Aside0.mk (Below.refl w.heap.size w)
 have H:((span_Asked.f k a0_0 a0_1 l0_2 a1 a2 a3).bind fun t765=>(if t765=0 then((span_Fill.f a0_0 a0_1 l0_2 a1 a2 a3).bind fun bt766=>((maxflow_Value.f k a0_0 a0_1 l0_2 a1 bt766.1).bind fun t778=>((span_paid.f k a0_0 a0_1 l0_2 bt766.1).bind fun t779=>(some (bt766.1,wrap64 ((wrap64 ((wrap64 (a3+1)) * t778)) - t779),0))))) else(some (([]:List Int),0,t765))))=some (r1,r2,r3):=h
 clear h
 replace H:=Option.bind_eq_some_iff.mp H
 obtain⟨t765,A50,H⟩:=H
 replace H:(if t765=0 then((span_Fill.f a0_0 a0_1 l0_2 a1 a2 a3).bind fun bt766=>((maxflow_Value.f k a0_0 a0_1 l0_2 a1 bt766.1).bind fun t778=>((span_paid.f k a0_0 a0_1 l0_2 bt766.1).bind fun t779=>(some (bt766.1,wrap64 ((wrap64 ((wrap64 (a3+1)) * t778)) - t779),0))))) else(some (([]:List Int),0,t765)))=some (r1,r2,r3):=H
 have A5:=Aside0.mk A50
 clear A50
 by_cases c6:t765=0
 rotate_left
 ·rw[if_neg c6] at H
  have c6b0:(t765 == 0)=false:=beq_eq_false_iff_ne.mpr c6
  have c6b1:(t765 != 0)=true:=bne_iff_ne.mpr c6
  simp only[Option.some.injEq,Prod.mk.injEq] at H
  obtain⟨rfl,rfl,rfl⟩:=H
  go_enter Try.func69,Try.ntmps69
  go_wp2_with (first|((with_reducible refine gate_dst (N:=4) rfl ?_);refine box_event ?hg (N:=4) ?hd (cs:= #[.int .i64 a0_0, .bool a0_1, .slice A0_2 l0_2.length c0_2]) (t:=24) ?hr ?_;(case hd=>rfl);(case hg=>rfl);(case hr=>first|(go_simp;done)|(go_simp;rfl));intro gb764 hg w19 hbox hb;have n0_:=Aside0.mk (below_step (by repeat(first|(with_reducible first|exact HB.out|apply below_alloc|apply pw_below_drewN|apply below_drew1)|exact HB.out)) hb);have n1_:=Aside0.mk (hbox);have n2_:=Aside0.mk ((by rw[hg];exact(below_size (by repeat(first|(with_reducible first|exact HB.out|apply below_alloc|apply pw_below_drewN|apply below_drew1)|exact HB.out))):w.heap.size≤gb764));have n3_:=Aside0.mk ((by rw[hg];exact(below_size (by repeat(first|(with_reducible first|exact HB.out|apply below_alloc|apply pw_below_drewN|apply below_drew1)|exact HB.out))):w.heap.size≤gb764));clear HB;have HB:=n0_;have BK764:=n1_;have GW764:=n2_;have GE764:=n3_;clear n0_ n1_ n2_ n3_;clear hb hbox hg;have hcz20_0:w19.cell? ⟨gb764,0,none⟩=some (.int .i64 a0_0):=(blk_cell BK764.out 0).trans rfl;have hcz20_1:w19.cell? ⟨gb764,1,none⟩=some (.bool a0_1):=(blk_cell BK764.out 1).trans rfl;have hcz20_2:w19.cell? ⟨gb764,2,none⟩=some (.slice A0_2 l0_2.length c0_2):=(blk_cell BK764.out 2).trans rfl;have hfz20_0:=blk_frozen BK764.out 0;have hfz20_1:=blk_frozen BK764.out 1;have hfz20_2:=blk_frozen BK764.out 2)|((with_reducible refine gate_callee (f:=114) rfl ?_);refine goesL_ (some 15) rfl rfl Try.func114 (by kernel_rfl) rfl #[.agg #[.int .i64 a0_0, .bool a0_1, .slice A0_2 l0_2.length c0_2], .int .i64 a1, .int .i64 a2, .int .i64 a3] rfl (by(try simp only[List.map_toArray,List.map_cons,List.map_nil]);first|done|rfl|(simp only[List.length_drop,List.length_take];rfl)) ?_;(with_reducible refine(span_Asked.calls k a0_0 a0_1 _ _ l0_2 a1 a2 a3 t765 _ ?side1 ?side2 A5.out).mono ?_);(case side1=>repeat(first|exact(Kd.C_below HR0_2.out HB.out)|(with_reducible refine Kd.C_alloc ?_ _)|(with_reducible refine Kd.C_drewN ?_ _)|(with_reducible refine Kd.C_drew ?_)));(case side2=>exact HC0_2.out);rintro e w21 ⟨rfl,hb⟩;refine⟨_,rfl,?_⟩;have n0_:=Aside0.mk (blk_below (g:=gb764) (o:= .cells #[.int .i64 a0_0, .bool a0_1, .slice A0_2 l0_2.length c0_2] 24 (0,0)) (by(with_reducible repeat(first|refine blk_drewN ?_ _|refine blk_drew ?_|refine blk_alloc ?_ _));exact BK764.out) hb);have n1_:=Aside0.mk (below_step (by repeat(first|(with_reducible first|exact HB.out|apply below_alloc|apply pw_below_drewN|apply below_drew1|refine below_set ?_ GE764.out)|exact HB.out)) hb);clear BK764;clear HB;have BK764:=n0_;have HB:=n1_;clear n0_ n1_;(try clear hb);(try clear hb2);(try clear hk);(try clear hi)))
  go_ret3
  exact⟨_,by first|rfl|(simp[errW_none,errW_some]<;>rfl)|(simp[*,errW_none,errW_some]<;>rfl),by first|exact Kd.R_nil _ _ _ _ _|exact Kd.N_nil _ _ _ _ _|exact Kd.V_nil _ _ _ _ _|exact Kd.Q_nil _ _ _ _ _|exact Kd.S_nil _ _ _ _ _,by repeat(first|(with_reducible first|exact HB.out|apply below_alloc|apply pw_below_drewN|apply below_drew1|refine below_set ?_ GE764.out)|exact HB.out)⟩
 rw[if_pos c6] at H
 have c6b0:(t765 == 0)=true:=beq_iff_eq.mpr c6
 have c6b1:(t765 != 0)=false:=bne_eq_false_iff_eq.mpr c6
 clear c6
 replace H:=Option.bind_eq_some_iff.mp H
 obtain⟨⟨t766,t769,t772,t775⟩,A70,H⟩:=H
 replace H:((maxflow_Value.f k a0_0 a0_1 l0_2 a1 t766).bind fun t778=>((span_paid.f k a0_0 a0_1 l0_2 t766).bind fun t779=>(some (t766,wrap64 ((wrap64 ((wrap64 (a3+1)) * t778)) - t779),0))))=some (r1,r2,r3):=H
 have A7:=Aside0.mk A70
 clear A70
 replace H:=Option.bind_eq_some_iff.mp H
 obtain⟨t778,A80,H⟩:=H
 replace H:((span_paid.f k a0_0 a0_1 l0_2 t766).bind fun t779=>(some (t766,wrap64 ((wrap64 ((wrap64 (a3+1)) * t778)) - t779),0)))=some (r1,r2,r3):=H
 have A8:=Aside0.mk A80
 clear A80
 replace H:=Option.bind_eq_some_iff.mp H
 obtain⟨t779,A90,H⟩:=H
 replace H:(some (t766,wrap64 ((wrap64 ((wrap64 (a3+1)) * t778)) - t779),0))=some (r1,r2,r3):=H
 have A9:=Aside0.mk A90
 clear A90
 simp only[Option.some.injEq,Prod.mk.injEq] at H
 obtain⟨rfl,rfl,rfl⟩:=H
 go_enter Try.func69,Try.ntmps69
 try go_wp2_with (first|((with_reducible refine gate_dst (N:=4) rfl ?_);refine box_event ?hg (N:=4) ?hd (cs:= #[.int .i64 a0_0, .bool a0_1, .slice A0_2 l0_2.length c0_2]) (t:=24) ?hr ?_;(case hd=>rfl);(case hg=>rfl);(case hr=>first|(go_simp;done)|(go_simp;rfl));intro gb764 hg w10 hbox hb;have n0_:=Aside0.mk (below_step (by repeat(first|(with_reducible first|exact HB.out|apply below_alloc|apply pw_below_drewN|apply below_drew1)|exact HB.out)) hb);have n1_:=Aside0.mk (hbox);have n2_:=Aside0.mk ((by rw[hg];exact(below_size (by repeat(first|(with_reducible first|exact HB.out|apply below_alloc|apply pw_below_drewN|apply below_drew1)|exact HB.out))):w.heap.size≤gb764));have n3_:=Aside0.mk ((by rw[hg];exact(below_size (by repeat(first|(with_reducible first|exact HB.out|apply below_alloc|apply pw_below_drewN|apply below_drew1)|exact HB.out))):w.heap.size≤gb764));clear HB;have HB:=n0_;have BK764:=n1_;have GW764:=n2_;have GE764:=n3_;clear n0_ n1_ n2_ n3_;clear hb hbox hg;have hcz11_0:w10.cell? ⟨gb764,0,none⟩=some (.int .i64 a0_0):=(blk_cell BK764.out 0).trans rfl;have hcz11_1:w10.cell? ⟨gb764,1,none⟩=some (.bool a0_1):=(blk_cell BK764.out 1).trans rfl;have hcz11_2:w10.cell? ⟨gb764,2,none⟩=some (.slice A0_2 l0_2.length c0_2):=(blk_cell BK764.out 2).trans rfl;have hfz11_0:=blk_frozen BK764.out 0;have hfz11_1:=blk_frozen BK764.out 1;have hfz11_2:=blk_frozen BK764.out 2)|((with_reducible refine gate_callee (f:=114) rfl ?_);refine goesL_ (some 15) rfl rfl Try.func114 (by kernel_rfl) rfl #[.agg #[.int .i64 a0_0, .bool a0_1, .slice A0_2 l0_2.length c0_2], .int .i64 a1, .int .i64 a2, .int .i64 a3] rfl (by(try simp only[List.map_toArray,List.map_cons,List.map_nil]);first|done|rfl|(simp only[List.length_drop,List.length_take];rfl)) ?_;(with_reducible refine(span_Asked.calls k a0_0 a0_1 _ _ l0_2 a1 a2 a3 t765 _ ?side1 ?side2 A5.out).mono ?_);(case side1=>repeat(first|exact(Kd.C_below HR0_2.out HB.out)|(with_reducible refine Kd.C_alloc ?_ _)|(with_reducible refine Kd.C_drewN ?_ _)|(with_reducible refine Kd.C_drew ?_)));(case side2=>exact HC0_2.out);rintro e w12 ⟨rfl,hb⟩;refine⟨_,rfl,?_⟩;have n0_:=Aside0.mk (blk_below (g:=gb764) (o:= .cells #[.int .i64 a0_0, .bool a0_1, .slice A0_2 l0_2.length c0_2] 24 (0,0)) (by(with_reducible repeat(first|refine blk_drewN ?_ _|refine blk_drew ?_|refine blk_alloc ?_ _));exact BK764.out) hb);have n1_:=Aside0.mk (below_step (by repeat(first|(with_reducible first|exact HB.out|apply below_alloc|apply pw_below_drewN|apply below_drew1|refine below_set ?_ GE764.out)|exact HB.out)) hb);clear BK764;clear HB;have BK764:=n0_;have HB:=n1_;clear n0_ n1_;(try clear hb);(try clear hb2);(try clear hk);(try clear hi);have hcz13_0:w12.cell? ⟨gb764,0,none⟩=some (.int .i64 a0_0):=(blk_cell BK764.out 0).trans rfl;have hcz13_1:w12.cell? ⟨gb764,1,none⟩=some (.bool a0_1):=(blk_cell BK764.out 1).trans rfl;have hcz13_2:w12.cell? ⟨gb764,2,none⟩=some (.slice A0_2 l0_2.length c0_2):=(blk_cell BK764.out 2).trans rfl;have hfz13_0:=blk_frozen BK764.out 0;have hfz13_1:=blk_frozen BK764.out 1;have hfz13_2:=blk_frozen BK764.out 2)|((with_reducible refine gate_callee (f:=118) rfl ?_);refine goesL_ (some 24) rfl rfl Try.func118 (by kernel_rfl) rfl #[.agg #[.int .i64 a0_0, .bool a0_1, .slice A0_2 l0_2.length c0_2], .int .i64 a1, .int .i64 a2, .int .i64 a3] rfl (by(try simp only[List.map_toArray,List.map_cons,List.map_nil]);first|done|rfl|(simp only[List.length_drop,List.length_take];rfl)) ?_;(with_reducible refine(span_Fill.calls a0_0 a0_1 _ _ l0_2 a1 a2 a3 t766 t769 t772 t775 _ ?side1 ?side2 A7.out).mono ?_);(case side1=>repeat(first|exact(Kd.C_below HR0_2.out HB.out)|(with_reducible refine Kd.C_alloc ?_ _)|(with_reducible refine Kd.C_drewN ?_ _)|(with_reducible refine Kd.C_drew ?_)));(case side2=>exact HC0_2.out);rintro e w14 ⟨v767,v770,v773,v776,rfl,ho0,ho1,ho2,ho3,hb⟩;refine⟨_,rfl,?_⟩;have n0_:=Aside0.mk (Kd.R_lower ho0 (below_size (by repeat(first|(with_reducible first|exact HB.out|apply below_alloc|apply pw_below_drewN|apply below_drew1|refine below_set ?_ GE764.out)|exact HB.out))));have n1_:=Aside0.mk (Kd.R_lower ho1 (below_size (by repeat(first|(with_reducible first|exact HB.out|apply below_alloc|apply pw_below_drewN|apply below_drew1|refine below_set ?_ GE764.out)|exact HB.out))));have n2_:=Aside0.mk (Kd.R_lower ho2 (below_size (by repeat(first|(with_reducible first|exact HB.out|apply below_alloc|apply pw_below_drewN|apply below_drew1|refine below_set ?_ GE764.out)|exact HB.out))));have n3_:=Aside0.mk (Kd.R_lower ho3 (below_size (by repeat(first|(with_reducible first|exact HB.out|apply below_alloc|apply pw_below_drewN|apply below_drew1|refine below_set ?_ GE764.out)|exact HB.out))));have n4_:=Aside0.mk (blk_below (g:=gb764) (o:= .cells #[.int .i64 a0_0, .bool a0_1, .slice A0_2 l0_2.length c0_2] 24 (0,0)) (by(with_reducible repeat(first|refine blk_drewN ?_ _|refine blk_drew ?_|refine blk_alloc ?_ _));exact BK764.out) hb);have n5_:=Aside0.mk (below_step (by repeat(first|(with_reducible first|exact HB.out|apply below_alloc|apply pw_below_drewN|apply below_drew1|refine below_set ?_ GE764.out)|exact HB.out)) hb);clear BK764;clear HB;have HO768:=n0_;have HO771:=n1_;have HO774:=n2_;have HO777:=n3_;have BK764:=n4_;have HB:=n5_;clear n0_ n1_ n2_ n3_ n4_ n5_;(try clear hb);(try clear hb2);(try clear hk);(try clear hi);(try clear ho0);(try clear ho1);(try clear ho2);(try clear ho3)))
 have n0_:=Aside0.mk (Kd.R_drew HO768.out)
 have n1_:=Aside0.mk (Kd.R_drew HO771.out)
 have n2_:=Aside0.mk (Kd.R_drew HO774.out)
 have n3_:=Aside0.mk (Kd.R_drew HO777.out)
 have n4_:=Aside0.mk (blk_drew BK764.out)
 have n5_:=Aside0.mk (below_drew1 HB.out)
 clear HO768
 clear HO771
 clear HO774
 clear HO777
 clear BK764
 clear HB
 have HO768:=n0_
 have HO771:=n1_
 have HO774:=n2_
 have HO777:=n3_
 have BK764:=n4_
 have HB:=n5_
 clear n0_ n1_ n2_ n3_ n4_ n5_
 obtain⟨Ao16,co16,eo16⟩:=Kd.R_slice HO768.out
 (first|subst eo16|(injection eo16 with f1_ f2_ f3_;have f4_:=f1_.symm;have f5_:=f3_.symm;clear f1_ f2_ f3_;subst f4_;subst f5_))
 refine start_ (n:=15) (S:=fun w'=>w'.cell? ⟨gb764,0,none⟩=some (.int .i64 a0_0)∧w'.cell? ⟨gb764,1,none⟩=some (.bool a0_1)∧w'.cell? ⟨gb764,2,none⟩=some (.slice A0_2 l0_2.length c0_2)) (ds:=[]) #[false,false,false,false,false,false,false,false,false,false,false,false,false,false,false] (by kernel_rfl) rfl rfl ⟨(blk_cell BK764.out 0).trans rfl,(blk_cell BK764.out 1).trans rfl,(blk_cell BK764.out 2).trans rfl⟩ (fun hHeld=> ?_);refine with_tabW span_Best.tab5 span_Best.bits5 (fun HT_ HW_=> ?_)
 generalize w14.drew=w15 at HO768 HO771 HO774 HO777 BK764 HB hHeld ⊢
 refine pure_ (i:=0) (N:=some 27) (v:= ?_) (a':= ?_) #[true,false,false,false,false,false,false,false,false,false,false,false,false,false,false] rfl rfl (any_of HT_.out (by kernel_rfl)) (fun _ _ _ h=>h) (Or.inl ⟨by rfl,?_⟩) ?_ ?_
 rotate_left
 ·intro w'
  go_simp
  with_reducible rfl
 rotate_left
 ·simp only[Act.put,List.setIfInBounds_toArray,List.set_cons_zero,List.set_cons_succ,i64_w,i32_w]
  rfl
 refine pure_ (i:=1) (N:=some 28) (v:= ?_) (a':= ?_) #[true,true,false,false,false,false,false,false,false,false,false,false,false,false,false] rfl rfl (any_of HT_.out (by kernel_rfl)) (fun _ _ _ h=>h) (Or.inl ⟨by rfl,?_⟩) ?_ ?_
 rotate_left
 ·intro w'
  go_simp
  with_reducible rfl
 rotate_left
 ·simp only[Act.put,List.setIfInBounds_toArray,List.set_cons_zero,List.set_cons_succ,i64_w,i32_w]
  rfl
 refine pure_ (i:=2) (N:=some 29) (v:= ?_) (a':= ?_) #[true,true,true,false,false,false,false,false,false,false,false,false,false,false,false] rfl rfl (any_of HT_.out (by kernel_rfl)) (fun _ _ _ h=>h) (Or.inl ⟨by rfl,?_⟩) ?_ ?_
 rotate_left
 ·intro w'
  go_simp
  with_reducible rfl
 rotate_left
 ·simp only[Act.put,List.setIfInBounds_toArray,List.set_cons_zero,List.set_cons_succ,i64_w,i32_w]
  rfl
 refine pure_ (i:=4) (N:=some 31) (v:= ?_) (a':= ?_) #[true,true,true,false,true,false,false,false,false,false,false,false,false,false,false] rfl rfl (any_of HT_.out (by kernel_rfl)) (fun _ _ _ h=>h) (Or.inl ⟨by rfl,?_⟩) ?_ ?_
 rotate_left
 ·intro w'
  go_simp
  with_reducible rfl
 rotate_left
 ·simp only[Act.put,List.setIfInBounds_toArray,List.set_cons_zero,List.set_cons_succ,i64_w,i32_w]
  rfl
 refine pure_ (i:=5) (N:=some 32) (v:= ?_) (a':= ?_) #[true,true,true,false,true,true,false,false,false,false,false,false,false,false,false] rfl rfl (any_of HT_.out (by kernel_rfl)) (fun _ _ _ h=>h) (Or.inl ⟨by rfl,?_⟩) ?_ ?_
 rotate_left
 ·intro w'
  go_simp
  with_reducible rfl
 rotate_left
 ·simp only[Act.put,List.setIfInBounds_toArray,List.set_cons_zero,List.set_cons_succ,i64_w,i32_w]
  rfl
 refine pure_ (i:=9) (N:=some 36) (v:= ?_) (a':= ?_) #[true,true,true,false,true,true,false,false,false,true,false,false,false,false,false] rfl rfl (any_of HT_.out (by kernel_rfl)) (fun _ _ _ h=>h) (Or.inl ⟨by rfl,?_⟩) ?_ ?_
 rotate_left
 ·intro w'
  go_simp
  with_reducible rfl
 rotate_left
 ·simp only[Act.put,List.setIfInBounds_toArray,List.set_cons_zero,List.set_cons_succ,i64_w,i32_w]
  rfl
 refine take_ (i:=3) (N:=some 30) (v:= ?_) (a':= ?_) #[true,true,true,true,true,true,false,false,false,true,false,false,false,false,false] rfl rfl (take_ofW HT_.out HW_.out (by kernel_rfl)) (fun _ _ _ h=>h) (Or.inl ⟨by rfl,?_⟩) hHeld ?_ ?_
 rotate_left
 ·rintro w' ⟨s0,s1,s2⟩
  go_simp
  with_reducible rfl
 rotate_left
 ·simp only[Act.put,List.setIfInBounds_toArray,List.set_cons_zero,List.set_cons_succ,i64_w,i32_w]
  rfl
 refine take_ (i:=8) (N:=some 35) (v:= ?_) (a':= ?_) #[true,true,true,true,true,true,false,false,true,true,false,false,false,false,false] rfl rfl (take_ofW HT_.out HW_.out (by kernel_rfl)) (fun _ _ _ h=>h) (Or.inl ⟨by rfl,?_⟩) hHeld ?_ ?_
 rotate_left
 ·rintro w' ⟨s0,s1,s2⟩
  go_simp
  with_reducible rfl
 rotate_left
 ·simp only[Act.put,List.setIfInBounds_toArray,List.set_cons_zero,List.set_cons_succ,i64_w,i32_w]
  rfl
 refine one_ (i:=6) (N:=some 33) #[true,true,true,true,true,true,true,false,true,true,false,false,false,false,false] rfl rfl (one_of HT_.out (by kernel_rfl)) (by decide) (fun K hK=> ?_)
 refine goes_ Try.func119 (by kernel_rfl) rfl #[.agg #[.int .i64 a0_0, .bool a0_1, .slice A0_2 l0_2.length c0_2], .int .i64 a1, .slice Ao16 t766.length co16] (by rfl) rfl rfl (by(try simp only[List.map_toArray,List.map_cons,List.map_nil]);first|done|rfl|(simp only[List.length_drop,List.length_take];rfl)) ?_
 with_reducible refine(maxflow_Value.calls k a0_0 a0_1 _ _ l0_2 a1 _ _ t766 t778 _ ?side1 ?side2 ?side3 ?side4 A8.out).mono ?_
 (case side1=>repeat(first|exact(Kd.C_below HR0_2.out HB.out)|(with_reducible refine Kd.C_alloc ?_ _)|(with_reducible refine Kd.C_drewN ?_ _)|(with_reducible refine Kd.C_drew ?_)))
 (case side2=>exact HC0_2.out)
 (case side3=>repeat(first|exact(Kd.R_reads' HO768.out).2.2|(with_reducible refine Kd.C_alloc ?_ _)|(with_reducible refine Kd.C_drewN ?_ _)|(with_reducible refine Kd.C_drew ?_)))
 (case side4=>exact(Kd.R_reads' HO768.out).2.1)
 rintro e w17 ⟨rfl,hb⟩
 refine⟨_,rfl,?_⟩
 have n0_:=Aside0.mk (Kd.R_below (by(with_reducible repeat(first|apply Kd.R_alloc|apply Kd.R_drewN|apply Kd.R_drew));exact HO768.out) hb)
 have n1_:=Aside0.mk (Kd.R_below (by(with_reducible repeat(first|apply Kd.R_alloc|apply Kd.R_drewN|apply Kd.R_drew));exact HO771.out) hb)
 have n2_:=Aside0.mk (Kd.R_below (by(with_reducible repeat(first|apply Kd.R_alloc|apply Kd.R_drewN|apply Kd.R_drew));exact HO774.out) hb)
 have n3_:=Aside0.mk (Kd.R_below (by(with_reducible repeat(first|apply Kd.R_alloc|apply Kd.R_drewN|apply Kd.R_drew));exact HO777.out) hb)
 have n4_:=Aside0.mk (blk_below (g:=gb764) (o:= .cells #[.int .i64 a0_0, .bool a0_1, .slice A0_2 l0_2.length c0_2] 24 (0,0)) (by(with_reducible repeat(first|refine blk_drewN ?_ _|refine blk_drew ?_|refine blk_alloc ?_ _));exact BK764.out) hb)
 have n5_:=Aside0.mk (below_step (by repeat(first|(with_reducible first|exact HB.out|apply below_alloc|apply pw_below_drewN|apply below_drew1|refine below_set ?_ GE764.out)|exact HB.out)) hb)
 clear HO768
 clear HO771
 clear HO774
 clear HO777
 clear BK764
 clear HB
 have HO768:=n0_
 have HO771:=n1_
 have HO774:=n2_
 have HO777:=n3_
 have BK764:=n4_
 have HB:=n5_
 clear n0_ n1_ n2_ n3_ n4_ n5_
 (try clear hb)
 (try clear hb2)
 (try clear hk)
 (try clear hi)
 refine hK.out _ _ ⟨(blk_cell BK764.out 0).trans rfl,(blk_cell BK764.out 1).trans rfl,(blk_cell BK764.out 2).trans rfl⟩ (fun hHeld=> ?_)
 clear hK K
 refine norm_ (a':= ?_) ?_ ?_
 rotate_left
 ·show Act.put _ (some 33) _=_
  simp only[Act.put,List.setIfInBounds_toArray,List.set_cons_zero,List.set_cons_succ,i64_w,i32_w]
  rfl
 refine pure_ (i:=7) (N:=some 34) (v:= ?_) (a':= ?_) #[true,true,true,true,true,true,true,true,true,true,false,false,false,false,false] rfl rfl (any_of HT_.out (by kernel_rfl)) (fun _ _ _ h=>h) (Or.inl ⟨by rfl,?_⟩) ?_ ?_
 rotate_left
 ·intro w'
  go_simp
  with_reducible rfl
 rotate_left
 ·simp only[Act.put,List.setIfInBounds_toArray,List.set_cons_zero,List.set_cons_succ,i64_w,i32_w]
  rfl
 refine one_ (i:=10) (N:=some 37) #[true,true,true,true,true,true,true,true,true,true,true,false,false,false,false] rfl rfl (one_of HT_.out (by kernel_rfl)) (by decide) (fun K hK=> ?_)
 refine goes_ Try.func116 (by kernel_rfl) rfl #[.agg #[.int .i64 a0_0, .bool a0_1, .slice A0_2 l0_2.length c0_2], .slice Ao16 t766.length co16] (by rfl) rfl rfl (by(try simp only[List.map_toArray,List.map_cons,List.map_nil]);first|done|rfl|(simp only[List.length_drop,List.length_take];rfl)) ?_
 with_reducible refine(span_paid.calls k a0_0 a0_1 _ _ l0_2 _ _ t766 t779 _ ?side1 ?side2 ?side3 ?side4 A9.out).mono ?_
 (case side1=>repeat(first|exact(Kd.C_below HR0_2.out HB.out)|(with_reducible refine Kd.C_alloc ?_ _)|(with_reducible refine Kd.C_drewN ?_ _)|(with_reducible refine Kd.C_drew ?_)))
 (case side2=>exact HC0_2.out)
 (case side3=>repeat(first|exact(Kd.R_reads' HO768.out).2.2|(with_reducible refine Kd.C_alloc ?_ _)|(with_reducible refine Kd.C_drewN ?_ _)|(with_reducible refine Kd.C_drew ?_)))
 (case side4=>exact(Kd.R_reads' HO768.out).2.1)
 rintro e w18 ⟨rfl,hb⟩
 refine⟨_,rfl,?_⟩
 have n0_:=Aside0.mk (Kd.R_below (by(with_reducible repeat(first|apply Kd.R_alloc|apply Kd.R_drewN|apply Kd.R_drew));exact HO768.out) hb)
 have n1_:=Aside0.mk (Kd.R_below (by(with_reducible repeat(first|apply Kd.R_alloc|apply Kd.R_drewN|apply Kd.R_drew));exact HO771.out) hb)
 have n2_:=Aside0.mk (Kd.R_below (by(with_reducible repeat(first|apply Kd.R_alloc|apply Kd.R_drewN|apply Kd.R_drew));exact HO774.out) hb)
 have n3_:=Aside0.mk (Kd.R_below (by(with_reducible repeat(first|apply Kd.R_alloc|apply Kd.R_drewN|apply Kd.R_drew));exact HO777.out) hb)
 have n4_:=Aside0.mk (blk_below (g:=gb764) (o:= .cells #[.int .i64 a0_0, .bool a0_1, .slice A0_2 l0_2.length c0_2] 24 (0,0)) (by(with_reducible repeat(first|refine blk_drewN ?_ _|refine blk_drew ?_|refine blk_alloc ?_ _));exact BK764.out) hb)
 have n5_:=Aside0.mk (below_step (by repeat(first|(with_reducible first|exact HB.out|apply below_alloc|apply pw_below_drewN|apply below_drew1|refine below_set ?_ GE764.out)|exact HB.out)) hb)
 clear HO768
 clear HO771
 clear HO774
 clear HO777
 clear BK764
 clear HB
 have HO768:=n0_
 have HO771:=n1_
 have HO774:=n2_
 have HO777:=n3_
 have BK764:=n4_
 have HB:=n5_
 clear n0_ n1_ n2_ n3_ n4_ n5_
 (try clear hb)
 (try clear hb2)
 (try clear hk)
 (try clear hi)
 refine hK.out _ _ ⟨(blk_cell BK764.out 0).trans rfl,(blk_cell BK764.out 1).trans rfl,(blk_cell BK764.out 2).trans rfl⟩ (fun hHeld=> ?_)
 clear hK K
 refine norm_ (a':= ?_) ?_ ?_
 rotate_left
 ·show Act.put _ (some 37) _=_
  simp only[Act.put,List.setIfInBounds_toArray,List.set_cons_zero,List.set_cons_succ,i64_w,i32_w]
  rfl
 refine pure_ (i:=11) (N:=some 38) (v:= ?_) (a':= ?_) #[true,true,true,true,true,true,true,true,true,true,true,true,false,false,false] rfl rfl (any_of HT_.out (by kernel_rfl)) (fun _ _ _ h=>h) (Or.inl ⟨by rfl,?_⟩) ?_ ?_
 rotate_left
 ·intro w'
  go_simp
  with_reducible rfl
 rotate_left
 ·simp only[Act.put,List.setIfInBounds_toArray,List.set_cons_zero,List.set_cons_succ,i64_w,i32_w]
  rfl
 refine pure_ (i:=12) (N:=some 8) (v:= ?_) (a':= ?_) #[true,true,true,true,true,true,true,true,true,true,true,true,true,false,false] rfl rfl (any_of HT_.out (by kernel_rfl)) (fun _ _ _ h=>h) (Or.inl ⟨by rfl,?_⟩) ?_ ?_
 rotate_left
 ·intro w'
  go_simp
  with_reducible rfl
 rotate_left
 ·simp only[Act.put,List.setIfInBounds_toArray,List.set_cons_zero,List.set_cons_succ,i64_w,i32_w]
  rfl
 refine pure_ (i:=13) (N:=some 9) (v:= ?_) (a':= ?_) #[true,true,true,true,true,true,true,true,true,true,true,true,true,true,false] rfl rfl (any_of HT_.out (by kernel_rfl)) (fun _ _ _ h=>h) (Or.inl ⟨by rfl,?_⟩) ?_ ?_
 rotate_left
 ·intro w'
  go_simp
  with_reducible rfl
 rotate_left
 ·simp only[Act.put,List.setIfInBounds_toArray,List.set_cons_zero,List.set_cons_succ,i64_w,i32_w]
  rfl
 refine pure_ (i:=14) (N:=some 10) (v:= ?_) (a':= ?_) #[true,true,true,true,true,true,true,true,true,true,true,true,true,true,true] rfl rfl (any_of HT_.out (by kernel_rfl)) (fun _ _ _ h=>h) (Or.inl ⟨by rfl,?_⟩) ?_ ?_
 rotate_left
 ·intro w'
  go_simp
  with_reducible rfl
 rotate_left
 ·simp only[Act.put,List.setIfInBounds_toArray,List.set_cons_zero,List.set_cons_succ,i64_w,i32_w]
  rfl
 refine done_ (done_of HT_.out (by kernel_rfl)) ?_
 try go_wp2
 go_ret3
 exact⟨_,by first|rfl|(simp[errW_none,errW_some]<;>rfl)|(simp[*,errW_none,errW_some]<;>rfl),by(with_reducible repeat(first|apply Kd.R_alloc|apply Kd.R_drewN|apply Kd.R_drew));exact Kd.R_mono HO768.out (fun _ hk=>trivial),by repeat(first|(with_reducible first|exact HB.out|apply below_alloc|apply pw_below_drewN|apply below_drew1|refine below_set ?_ GE764.out)|exact HB.out)⟩
end Go.Proofs.Ytkcpanpdipmmmaa.P
namespace Go.Proofs.Ytkcpanpdipmmmaa.P
open Go.RowKit Go.Proofs.YtkcpanpdipmmmaaW.PrintWords Go.Proofs.YtkcpanpdipmmmaaW.PrintLast Go.Proofs.YtkcpanpdipmmmaaW.PrintMore
attribute [local go_sem] max2_int min2_int max_two min_two max_three min_three max_four min_four
def span_Most.f (k:Nat) (a0_0:Int) (a0_1:Bool) (l0_2:List (S74)) (a1:Int) (a2:Int) (a3:Int):Option (Int × Int):=(span_Best.f k a0_0 a0_1 l0_2 a1 a2 a3).bind fun bt781=>(some (bt781.2.1,bt781.2.2))
set_option maxHeartbeats 8000000 in
set_option maxRecDepth 100000 in
theorem span_Most.calls (k:Nat) (a0_0:Int) (a0_1:Bool) (A0_2:Option Addr) (c0_2:Nat) (l0_2:List (S74)) (a1:Int) (a2:Int) (a3:Int) (r1:Int) (r2:Int) (w:World) (hr0_2:Kd.C k74 w A0_2 l0_2.length l0_2) (hc0_2:l0_2.length≤c0_2) (h:span_Most.f k a0_0 a0_1 l0_2 a1 a2 a3=some (r1,r2)):
  Calls Try.prog 67 #[.agg #[.int .i64 a0_0, .bool a0_1, .slice A0_2 l0_2.length c0_2], .int .i64 a1, .int .i64 a2, .int .i64 a3] w fun e w'=>e= .returned (.tuple #[.int .i64 r1, .int .i64 r2])∧Below w.heap.size w w':=by
 have hu24:=Try.underlying24
 have HR0_2:=Aside0.mk hr0_2
 have HC0_2:=Aside0.mk hc0_2
 clear hr0_2 hc0_2
 have HB:=Aside0.mk (Below.refl w.heap.size w)
 have H:((span_Best.f k a0_0 a0_1 l0_2 a1 a2 a3).bind fun bt781=>(some (bt781.2.1,bt781.2.2)))=some (r1,r2):=h
 clear h
 replace H:=Option.bind_eq_some_iff.mp H
 obtain⟨⟨t781,t784,t785⟩,A50,H⟩:=H
 replace H:(some (t784,t785))=some (r1,r2):=H
 have A5:=Aside0.mk A50
 clear A50
 simp only[Option.some.injEq,Prod.mk.injEq] at H
 obtain⟨rfl,rfl⟩:=H
 go_enter Try.func67,Try.ntmps67
 go_wp2_with (first|((with_reducible refine gate_dst (N:=4) rfl ?_);refine box_event ?hg (N:=4) ?hd (cs:= #[.int .i64 a0_0, .bool a0_1, .slice A0_2 l0_2.length c0_2]) (t:=24) ?hr ?_;(case hd=>rfl);(case hg=>rfl);(case hr=>first|(go_simp;done)|(go_simp;rfl));intro gb780 hg w6 hbox hb;have n0_:=Aside0.mk (below_step (by repeat(first|(with_reducible first|exact HB.out|apply below_alloc|apply pw_below_drewN|apply below_drew1)|exact HB.out)) hb);have n1_:=Aside0.mk (hbox);have n2_:=Aside0.mk ((by rw[hg];exact(below_size (by repeat(first|(with_reducible first|exact HB.out|apply below_alloc|apply pw_below_drewN|apply below_drew1)|exact HB.out))):w.heap.size≤gb780));have n3_:=Aside0.mk ((by rw[hg];exact(below_size (by repeat(first|(with_reducible first|exact HB.out|apply below_alloc|apply pw_below_drewN|apply below_drew1)|exact HB.out))):w.heap.size≤gb780));clear HB;have HB:=n0_;have BK780:=n1_;have GW780:=n2_;have GE780:=n3_;clear n0_ n1_ n2_ n3_;clear hb hbox hg;have hcz7_0:w6.cell? ⟨gb780,0,none⟩=some (.int .i64 a0_0):=(blk_cell BK780.out 0).trans rfl;have hcz7_1:w6.cell? ⟨gb780,1,none⟩=some (.bool a0_1):=(blk_cell BK780.out 1).trans rfl;have hcz7_2:w6.cell? ⟨gb780,2,none⟩=some (.slice A0_2 l0_2.length c0_2):=(blk_cell BK780.out 2).trans rfl;have hfz7_0:=blk_frozen BK780.out 0;have hfz7_1:=blk_frozen BK780.out 1;have hfz7_2:=blk_frozen BK780.out 2)|((with_reducible refine gate_callee (f:=69) rfl ?_);refine goesL_ (some 15) rfl rfl Try.func69 (by kernel_rfl) rfl #[.agg #[.int .i64 a0_0, .bool a0_1, .slice A0_2 l0_2.length c0_2], .int .i64 a1, .int .i64 a2, .int .i64 a3] rfl (by(try simp only[List.map_toArray,List.map_cons,List.map_nil]);first|done|rfl|(simp only[List.length_drop,List.length_take];rfl)) ?_;(with_reducible refine(span_Best.calls k a0_0 a0_1 _ _ l0_2 a1 a2 a3 t781 t784 t785 _ ?side1 ?side2 A5.out).mono ?_);(case side1=>repeat(first|exact(Kd.C_below HR0_2.out HB.out)|(with_reducible refine Kd.C_alloc ?_ _)|(with_reducible refine Kd.C_drewN ?_ _)|(with_reducible refine Kd.C_drew ?_)));(case side2=>exact HC0_2.out);rintro e w8 ⟨v782,rfl,ho0,hb⟩;refine⟨_,rfl,?_⟩;have n0_:=Aside0.mk (Kd.R_lower ho0 (below_size (by repeat(first|(with_reducible first|exact HB.out|apply below_alloc|apply pw_below_drewN|apply below_drew1|refine below_set ?_ GE780.out)|exact HB.out))));have n1_:=Aside0.mk (blk_below (g:=gb780) (o:= .cells #[.int .i64 a0_0, .bool a0_1, .slice A0_2 l0_2.length c0_2] 24 (0,0)) (by(with_reducible repeat(first|refine blk_drewN ?_ _|refine blk_drew ?_|refine blk_alloc ?_ _));exact BK780.out) hb);have n2_:=Aside0.mk (below_step (by repeat(first|(with_reducible first|exact HB.out|apply below_alloc|apply pw_below_drewN|apply below_drew1|refine below_set ?_ GE780.out)|exact HB.out)) hb);clear BK780;clear HB;have HO783:=n0_;have BK780:=n1_;have HB:=n2_;clear n0_ n1_ n2_;(try clear hb);(try clear hb2);(try clear hk);(try clear hi);(try clear ho0)))
 go_ret2
 exact⟨by first|rfl|(simp[errW_none,errW_some]<;>rfl)|(simp[*,errW_none,errW_some]<;>rfl),by repeat(first|(with_reducible first|exact HB.out|apply below_alloc|apply pw_below_drewN|apply below_drew1|refine below_set ?_ GE780.out)|exact HB.out)⟩
end Go.Proofs.Ytkcpanpdipmmmaa.P
namespace Go.Proofs.Ytkcpanpdipmmmaa.P
open Go.RowKit Go.Proofs.YtkcpanpdipmmmaaW.PrintWords Go.Proofs.YtkcpanpdipmmmaaW.PrintLast Go.Proofs.YtkcpanpdipmmmaaW.PrintMore
attribute [local go_sem] max2_int min2_int max_two min_two max_three min_three max_four min_four
def ebbtidelaw12_awake.f (k:Nat)  :Option (Bool):=(some (([(⟨0,1,2,1⟩:S74),(⟨1,2,2,1⟩:S74)]:List (S74)):List (S74))).bind fun y786=>((span_Most.f k 3 false y786 0 2 1).bind fun bt790=>((span_Most.f k 3 false y786 0 2 5).bind fun bt792=>((span_Worth.f k 3 false y786 0 2 (([1,1]:List Int)) 2).bind fun bt797=>((span_Most.f k 3 false y786 0 2 (-1)).bind fun bt799=>(if bt790.2=0 then(if bt790.1=0 then(if bt792.2=0 then(if bt792.1=8 then(if bt797.2=0 then(if bt797.1=1 then(some (bt799.2 == 1)) else(some false)) else(some false)) else(some false)) else(some false)) else(some false)) else(some false))))))
set_option maxHeartbeats 8000000 in
set_option maxRecDepth 100000 in
theorem ebbtidelaw12_awake.calls (k:Nat)  (r:Bool) (w:World) (h:ebbtidelaw12_awake.f k  =some r) (hrT_:r=true:=by first|rfl|exact Aside0.out (by assumption)):
  Calls Try.prog 65 #[] w fun e w'=>e= .returned (.bool r)∧Below w.heap.size w w':=by
 have HRT:=Aside0.mk hrT_
 clear hrT_
 have hu74:=Try.underlying74
 have hu24:=Try.underlying24
 have HB:=Aside0.mk (Below.refl w.heap.size w)
 have H:((some (([(⟨0,1,2,1⟩:S74),(⟨1,2,2,1⟩:S74)]:List (S74)):List (S74))).bind fun y786=>((span_Most.f k 3 false y786 0 2 1).bind fun bt790=>((span_Most.f k 3 false y786 0 2 5).bind fun bt792=>((span_Worth.f k 3 false y786 0 2 (([1,1]:List Int)) 2).bind fun bt797=>((span_Most.f k 3 false y786 0 2 (-1)).bind fun bt799=>(if bt790.2=0 then(if bt790.1=0 then(if bt792.2=0 then(if bt792.1=8 then(if bt797.2=0 then(if bt797.1=1 then(some (bt799.2 == 1)) else(some false)) else(some false)) else(some false)) else(some false)) else(some false)) else(some false)))))))=some r:=h
 clear h
 obtain⟨y786,hy786⟩: ∃ y_:List (S74),y_=(([(⟨0,1,2,1⟩:S74),(⟨1,2,2,1⟩:S74)]:List (S74))):=⟨_,rfl⟩
 replace H:((span_Most.f k 3 false y786 0 2 1).bind fun bt790=>((span_Most.f k 3 false y786 0 2 5).bind fun bt792=>((span_Worth.f k 3 false y786 0 2 (([1,1]:List Int)) 2).bind fun bt797=>((span_Most.f k 3 false y786 0 2 (-1)).bind fun bt799=>(if bt790.2=0 then(if bt790.1=0 then(if bt792.2=0 then(if bt792.1=8 then(if bt797.2=0 then(if bt797.1=1 then(some (bt799.2 == 1)) else(some false)) else(some false)) else(some false)) else(some false)) else(some false)) else(some false))))))=some r:=by first|(rw[hy786];with_reducible exact H)|(have H2_:=(Option.bind_some _ _).symm.trans H;rw[hy786];with_reducible exact H2_)|(have H2_:=(Option.bind_some _ _).symm.trans H;with_reducible exact H2_)|with_reducible exact H|(rw[hy786];exact H)|exact H
 have Ny786:=Aside0.mk hy786
 clear hy786
 replace H:=Option.bind_eq_some_iff.mp H
 obtain⟨⟨t790,t791⟩,A10,H⟩:=H
 replace H:((span_Most.f k 3 false y786 0 2 5).bind fun bt792=>((span_Worth.f k 3 false y786 0 2 (([1,1]:List Int)) 2).bind fun bt797=>((span_Most.f k 3 false y786 0 2 (-1)).bind fun bt799=>(if t791=0 then(if t790=0 then(if bt792.2=0 then(if bt792.1=8 then(if bt797.2=0 then(if bt797.1=1 then(some (bt799.2 == 1)) else(some false)) else(some false)) else(some false)) else(some false)) else(some false)) else(some false)))))=some r:=H
 have A1:=Aside0.mk A10
 clear A10
 replace H:=Option.bind_eq_some_iff.mp H
 obtain⟨⟨t792,t793⟩,A20,H⟩:=H
 replace H:((span_Worth.f k 3 false y786 0 2 (([1,1]:List Int)) 2).bind fun bt797=>((span_Most.f k 3 false y786 0 2 (-1)).bind fun bt799=>(if t791=0 then(if t790=0 then(if t793=0 then(if t792=8 then(if bt797.2=0 then(if bt797.1=1 then(some (bt799.2 == 1)) else(some false)) else(some false)) else(some false)) else(some false)) else(some false)) else(some false))))=some r:=H
 have A2:=Aside0.mk A20
 clear A20
 obtain⟨y794,hy794⟩: ∃ y_:List Int,y_=(([1,1]:List Int)):=⟨_,rfl⟩
 replace H:((span_Worth.f k 3 false y786 0 2 y794 2).bind fun bt797=>((span_Most.f k 3 false y786 0 2 (-1)).bind fun bt799=>(if t791=0 then(if t790=0 then(if t793=0 then(if t792=8 then(if bt797.2=0 then(if bt797.1=1 then(some (bt799.2 == 1)) else(some false)) else(some false)) else(some false)) else(some false)) else(some false)) else(some false))))=some r:=by first|(rw[hy794];with_reducible exact H)|(have H2_:=(Option.bind_some _ _).symm.trans H;rw[hy794];with_reducible exact H2_)|(have H2_:=(Option.bind_some _ _).symm.trans H;with_reducible exact H2_)|with_reducible exact H|(rw[hy794];exact H)|exact H
 have Ny794:=Aside0.mk hy794
 clear hy794
 replace H:=Option.bind_eq_some_iff.mp H
 obtain⟨⟨t797,t798⟩,A30,H⟩:=H
 replace H:((span_Most.f k 3 false y786 0 2 (-1)).bind fun bt799=>(if t791=0 then(if t790=0 then(if t793=0 then(if t792=8 then(if t798=0 then(if t797=1 then(some (bt799.2 == 1)) else(some false)) else(some false)) else(some false)) else(some false)) else(some false)) else(some false)))=some r:=H
 have A3:=Aside0.mk A30
 clear A30
 replace H:=Option.bind_eq_some_iff.mp H
 obtain⟨⟨t799,t800⟩,A40,H⟩:=H
 replace H:(if t791=0 then(if t790=0 then(if t793=0 then(if t792=8 then(if t798=0 then(if t797=1 then(some (t800 == 1)) else(some false)) else(some false)) else(some false)) else(some false)) else(some false)) else(some false))=some r:=H
 have A4:=Aside0.mk A40
 clear A40
 by_cases c5:t791=0
 rotate_left
 ·rw[if_neg c5] at H
  exact absurd (Option.some.inj H) (by rw[HRT.out];decide)
 rw[if_pos c5] at H
 have c5b0:(t791 == 0)=true:=beq_iff_eq.mpr c5
 have c5b1:(t791 != 0)=false:=bne_eq_false_iff_eq.mpr c5
 clear c5
 by_cases c6:t790=0
 rotate_left
 ·rw[if_neg c6] at H
  exact absurd (Option.some.inj H) (by rw[HRT.out];decide)
 rw[if_pos c6] at H
 have c6b0:(t790 == 0)=true:=beq_iff_eq.mpr c6
 have c6b1:(t790 != 0)=false:=bne_eq_false_iff_eq.mpr c6
 clear c6
 by_cases c7:t793=0
 rotate_left
 ·rw[if_neg c7] at H
  exact absurd (Option.some.inj H) (by rw[HRT.out];decide)
 rw[if_pos c7] at H
 have c7b0:(t793 == 0)=true:=beq_iff_eq.mpr c7
 have c7b1:(t793 != 0)=false:=bne_eq_false_iff_eq.mpr c7
 clear c7
 by_cases c8:t792=8
 rotate_left
 ·rw[if_neg c8] at H
  exact absurd (Option.some.inj H) (by rw[HRT.out];decide)
 rw[if_pos c8] at H
 have c8b0:(t792 == 8)=true:=beq_iff_eq.mpr c8
 have c8b1:(t792 != 8)=false:=bne_eq_false_iff_eq.mpr c8
 clear c8
 by_cases c9:t798=0
 rotate_left
 ·rw[if_neg c9] at H
  exact absurd (Option.some.inj H) (by rw[HRT.out];decide)
 rw[if_pos c9] at H
 have c9b0:(t798 == 0)=true:=beq_iff_eq.mpr c9
 have c9b1:(t798 != 0)=false:=bne_eq_false_iff_eq.mpr c9
 clear c9
 by_cases c10:t797=1
 rotate_left
 ·rw[if_neg c10] at H
  exact absurd (Option.some.inj H) (by rw[HRT.out];decide)
 rw[if_pos c10] at H
 have c10b0:(t797 == 1)=true:=beq_iff_eq.mpr c10
 have c10b1:(t797 != 1)=false:=bne_eq_false_iff_eq.mpr c10
 clear c10
 obtain rfl:=Option.some.inj H
 go_enter Try.func65,Try.ntmps65
 go_wp2_with (first|((with_reducible refine gate_dst (N:=12) rfl ?_);refine Kd.R_lit k74 _ 74 ?hg (N:=12) ?hd (xs:=([(⟨0,1,2,1⟩:S74),(⟨1,2,2,1⟩:S74)]:List (S74))) (inner:=[.int .i64 0, .int .i64 1, .int .i64 2, .int .i64 1, .int .i64 1, .int .i64 2, .int .i64 2, .int .i64 1]) (ok:=fun _=>True) (okp:=fun _=>True) ?hr ?hp (fun _ hk=>hk) trivial (Below.refl _ _) (Nat.le_refl _) (by simp) ?_;(case hd=>rfl);(case hg=>rfl);(case hr=>first|(go_simp;done)|(go_simp;rfl));(case hp=>exact(Reps.c4 (show Kd.M k74 _ _ _ (⟨0,1,2,1⟩:S74) [.int .i64 0, .int .i64 1, .int .i64 2, .int .i64 1] from(k74_mkM _ _ _ (⟨0,1,2,1⟩:S74) )) (Reps.c4 (show Kd.M k74 _ _ _ (⟨1,2,2,1⟩:S74) [.int .i64 1, .int .i64 2, .int .i64 2, .int .i64 1] from(k74_mkM _ _ _ (⟨1,2,2,1⟩:S74) )) (Reps.none _ _))));intro v787 w11 ho12 hb hg_ hnew_;clear hg_ hnew_;(first|rw[← Ny786.out] at ho12|(simp only[Int.reduceToNat] at ho12;rw[← Ny786.out] at ho12));have n0_:=Aside0.mk (Kd.R_lower ho12 (below_size (by repeat(first|(with_reducible first|exact HB.out|apply below_alloc|apply pw_below_drewN|apply below_drew1)|exact HB.out))));have n1_:=Aside0.mk (below_step (by repeat(first|(with_reducible first|exact HB.out|apply below_alloc|apply pw_below_drewN|apply below_drew1)|exact HB.out)) hb);clear HB;have HO788:=n0_;have HB:=n1_;clear n0_ n1_;clear hb ho12;obtain⟨Ao13,co13,eo13⟩:=Kd.R_slice HO788.out;subst eo13)|((with_reducible refine gate_dst (N:=1) rfl ?_);refine box_event ?hg (N:=1) ?hd (cs:= #[.int .i64 0, .bool false, .slice none 0 0]) (t:=24) ?hr ?_;(case hd=>rfl);(case hg=>rfl);(case hr=>first|(go_simp;done)|(go_simp;rfl));intro gb789 hg w14 hbox hb;have n0_:=Aside0.mk (Kd.R_below (by(with_reducible repeat(first|apply Kd.R_alloc|apply Kd.R_drewN|apply Kd.R_drew));exact HO788.out) hb);have n1_:=Aside0.mk (below_step (by repeat(first|(with_reducible first|exact HB.out|apply below_alloc|apply pw_below_drewN|apply below_drew1)|exact HB.out)) hb);have n2_:=Aside0.mk (hbox);have n3_:=Aside0.mk ((by rw[hg];exact(below_size (by repeat(first|(with_reducible first|exact HB.out|apply below_alloc|apply pw_below_drewN|apply below_drew1)|exact HB.out))):w.heap.size≤gb789));have n4_:=Aside0.mk ((by rw[hg];exact(below_size (by repeat(first|(with_reducible first|exact HB.out|apply below_alloc|apply pw_below_drewN|apply below_drew1)|exact HB.out))):w.heap.size≤gb789));clear HO788;clear HB;have HO788:=n0_;have HB:=n1_;have BK789:=n2_;have GW789:=n3_;have GE789:=n4_;clear n0_ n1_ n2_ n3_ n4_;clear hb hbox hg;have hcz15_0:w14.cell? ⟨gb789,0,none⟩=some (.int .i64 0):=(blk_cell BK789.out 0).trans rfl;have hcz15_1:w14.cell? ⟨gb789,1,none⟩=some (.bool false):=(blk_cell BK789.out 1).trans rfl;have hcz15_2:w14.cell? ⟨gb789,2,none⟩=some (.slice none 0 0):=(blk_cell BK789.out 2).trans rfl;have hfz15_0:=blk_frozen BK789.out 0;have hfz15_1:=blk_frozen BK789.out 1;have hfz15_2:=blk_frozen BK789.out 2)|((with_reducible refine gate_callee (f:=67) rfl ?_);refine goesL_ (some 16) rfl rfl Try.func67 (by kernel_rfl) rfl #[.agg #[.int .i64 3, .bool false, .slice Ao13 y786.length co13], .int .i64 0, .int .i64 2, .int .i64 1] rfl (by(try simp only[List.map_toArray,List.map_cons,List.map_nil]);first|done|rfl|(simp only[List.length_drop,List.length_take];rfl)) ?_;(with_reducible refine(span_Most.calls k 3 false _ _ y786 0 2 1 t790 t791 _ ?side1 ?side2 A1.out).mono ?_);(case side1=>refine(Kd.R_reads' (e:=74) (base:=w.heap.size) (ok:=fun k_=>True) (n:=y786.length) (c:=co13) ?_).2.2;exact(by(with_reducible repeat(first|apply Kd.R_alloc|apply Kd.R_drewN|apply Kd.R_drew));exact(Kd.R_mono (Kd.R_far (p:=⟨gb789,2,none⟩) (Kd.R_far (p:=⟨gb789,1,none⟩) (Kd.R_far (p:=⟨gb789,0,none⟩) (Kd.R_types HO788.out BK789.out (by decide)) (fun _ hk=>hk.2) (.int .i64 3)) (fun _ hk=>hk.2) (.bool false)) (fun _ hk=>hk.2) (.slice Ao13 y786.length co13)) (fun _ h_=>h_.1))));(case side2=>exact(Kd.R_reads' HO788.out).2.1);rintro e w16 ⟨rfl,hb⟩;refine⟨_,rfl,?_⟩;have n0_:=Aside0.mk (Kd.R_below (by(with_reducible repeat(first|apply Kd.R_alloc|apply Kd.R_drewN|apply Kd.R_drew));exact(Kd.R_mono (Kd.R_far (p:=⟨gb789,2,none⟩) (Kd.R_far (p:=⟨gb789,1,none⟩) (Kd.R_far (p:=⟨gb789,0,none⟩) (Kd.R_types HO788.out BK789.out (by decide)) (fun _ hk=>hk.2) (.int .i64 3)) (fun _ hk=>hk.2) (.bool false)) (fun _ hk=>hk.2) (.slice Ao13 y786.length co13)) (fun _ h_=>h_.1))) hb);have n1_:=Aside0.mk (blk_below (g:=gb789) (o:= .cells #[.int .i64 3, .bool false, .slice Ao13 y786.length co13] 24 (0,0)) (by(with_reducible repeat(first|refine blk_drewN ?_ _|refine blk_drew ?_|refine blk_alloc ?_ _));refine blk_put (cs:= #[.int .i64 3, .bool false, .slice none 0 0]) ?_ 2 _ rfl;(with_reducible repeat(first|refine blk_drewN ?_ _|refine blk_drew ?_|refine blk_alloc ?_ _));refine blk_put (cs:= #[.int .i64 3, .bool false, .slice none 0 0]) ?_ 1 _ rfl;(with_reducible repeat(first|refine blk_drewN ?_ _|refine blk_drew ?_|refine blk_alloc ?_ _));refine blk_put (cs:= #[.int .i64 0, .bool false, .slice none 0 0]) ?_ 0 _ rfl;(with_reducible repeat(first|refine blk_drewN ?_ _|refine blk_drew ?_|refine blk_alloc ?_ _));exact BK789.out) hb);have n2_:=Aside0.mk (below_step (by repeat(first|(with_reducible first|exact HB.out|apply below_alloc|apply pw_below_drewN|apply below_drew1|refine below_set ?_ GE789.out)|exact HB.out)) hb);clear HO788;clear BK789;clear HB;have HO788:=n0_;have BK789:=n1_;have HB:=n2_;clear n0_ n1_ n2_;(try clear hb);(try clear hb2);(try clear hk);(try clear hi);have hcz17_0:w16.cell? ⟨gb789,0,none⟩=some (.int .i64 3):=(blk_cell BK789.out 0).trans rfl;have hcz17_1:w16.cell? ⟨gb789,1,none⟩=some (.bool false):=(blk_cell BK789.out 1).trans rfl;have hcz17_2:w16.cell? ⟨gb789,2,none⟩=some (.slice Ao13 y786.length co13):=(blk_cell BK789.out 2).trans rfl;have hfz17_0:=blk_frozen BK789.out 0;have hfz17_1:=blk_frozen BK789.out 1;have hfz17_2:=blk_frozen BK789.out 2)|((with_reducible refine gate_callee (f:=67) rfl ?_);refine goesL_ (some 21) rfl rfl Try.func67 (by kernel_rfl) rfl #[.agg #[.int .i64 3, .bool false, .slice Ao13 y786.length co13], .int .i64 0, .int .i64 2, .int .i64 5] rfl (by(try simp only[List.map_toArray,List.map_cons,List.map_nil]);first|done|rfl|(simp only[List.length_drop,List.length_take];rfl)) ?_;(with_reducible refine(span_Most.calls k 3 false _ _ y786 0 2 5 t792 t793 _ ?side1 ?side2 A2.out).mono ?_);(case side1=>repeat(first|exact(Kd.R_reads' HO788.out).2.2|(with_reducible refine Kd.C_alloc ?_ _)|(with_reducible refine Kd.C_drewN ?_ _)|(with_reducible refine Kd.C_drew ?_)));(case side2=>exact(Kd.R_reads' HO788.out).2.1);rintro e w18 ⟨rfl,hb⟩;refine⟨_,rfl,?_⟩;have n0_:=Aside0.mk (Kd.R_below (by(with_reducible repeat(first|apply Kd.R_alloc|apply Kd.R_drewN|apply Kd.R_drew));exact HO788.out) hb);have n1_:=Aside0.mk (blk_below (g:=gb789) (o:= .cells #[.int .i64 3, .bool false, .slice Ao13 y786.length co13] 24 (0,0)) (by(with_reducible repeat(first|refine blk_drewN ?_ _|refine blk_drew ?_|refine blk_alloc ?_ _));exact BK789.out) hb);have n2_:=Aside0.mk (below_step (by repeat(first|(with_reducible first|exact HB.out|apply below_alloc|apply pw_below_drewN|apply below_drew1|refine below_set ?_ GE789.out)|exact HB.out)) hb);clear HO788;clear BK789;clear HB;have HO788:=n0_;have BK789:=n1_;have HB:=n2_;clear n0_ n1_ n2_;(try clear hb);(try clear hb2);(try clear hk);(try clear hi);have hcz19_0:w18.cell? ⟨gb789,0,none⟩=some (.int .i64 3):=(blk_cell BK789.out 0).trans rfl;have hcz19_1:w18.cell? ⟨gb789,1,none⟩=some (.bool false):=(blk_cell BK789.out 1).trans rfl;have hcz19_2:w18.cell? ⟨gb789,2,none⟩=some (.slice Ao13 y786.length co13):=(blk_cell BK789.out 2).trans rfl;have hfz19_0:=blk_frozen BK789.out 0;have hfz19_1:=blk_frozen BK789.out 1;have hfz19_2:=blk_frozen BK789.out 2)|((with_reducible refine gate_dst (N:=26) rfl ?_);refine Kd.R_lit (Kd.int .i64) _ 3 ?hg (N:=26) ?hd (xs:=([1,1]:List Int)) (inner:=[.int .i64 1, .int .i64 1]) (ok:=fun _=>True) (okp:=fun _=>True) ?hr ?hp (fun _ hk=>hk) trivial (Below.refl _ _) (Nat.le_refl _) (by simp) ?_;(case hd=>rfl);(case hg=>rfl);(case hr=>first|(go_simp;done)|(go_simp;rfl));(case hp=>exact(Reps.one (show Kd.M (Kd.int .i64) _ _ _ 1 [.int .i64 1] from rfl) (Reps.one (show Kd.M (Kd.int .i64) _ _ _ 1 [.int .i64 1] from rfl) (Reps.none _ _))));intro v795 w20 ho21 hb hg_ hnew_;clear hg_ hnew_;(first|rw[← Ny794.out] at ho21|(simp only[Int.reduceToNat] at ho21;rw[← Ny794.out] at ho21));have n0_:=Aside0.mk (Kd.R_below (by(with_reducible repeat(first|apply Kd.R_alloc|apply Kd.R_drewN|apply Kd.R_drew));exact HO788.out) hb);have n1_:=Aside0.mk (Kd.R_lower ho21 (below_size (by repeat(first|(with_reducible first|exact HB.out|apply below_alloc|apply pw_below_drewN|apply below_drew1|refine below_set ?_ GE789.out)|exact HB.out))));have n2_:=Aside0.mk (blk_below (g:=gb789) (o:= .cells #[.int .i64 3, .bool false, .slice Ao13 y786.length co13] 24 (0,0)) (by(with_reducible repeat(first|refine blk_drewN ?_ _|refine blk_drew ?_|refine blk_alloc ?_ _));exact BK789.out) hb);have n3_:=Aside0.mk (below_step (by repeat(first|(with_reducible first|exact HB.out|apply below_alloc|apply pw_below_drewN|apply below_drew1|refine below_set ?_ GE789.out)|exact HB.out)) hb);clear HO788;clear BK789;clear HB;have HO788:=n0_;have HO796:=n1_;have BK789:=n2_;have HB:=n3_;clear n0_ n1_ n2_ n3_;clear hb ho21;obtain⟨Ao22,co22,eo22⟩:=Kd.R_slice HO796.out;subst eo22)|((with_reducible refine gate_callee (f:=63) rfl ?_);refine goesL_ (some 27) rfl rfl Try.func63 (by kernel_rfl) rfl #[.agg #[.int .i64 3, .bool false, .slice Ao13 y786.length co13], .int .i64 0, .int .i64 2, .slice Ao22 y794.length co22, .int .i64 2] rfl (by(try simp only[List.map_toArray,List.map_cons,List.map_nil]);first|done|rfl|(simp only[List.length_drop,List.length_take];rfl)) ?_;(with_reducible refine(span_Worth.calls k 3 false _ _ y786 0 2 _ _ y794 2 t797 t798 _ ?side1 ?side2 ?side3 ?side4 A3.out).mono ?_);(case side1=>repeat(first|exact(Kd.R_reads' HO788.out).2.2|(with_reducible refine Kd.C_alloc ?_ _)|(with_reducible refine Kd.C_drewN ?_ _)|(with_reducible refine Kd.C_drew ?_)));(case side2=>exact(Kd.R_reads' HO788.out).2.1);(case side3=>repeat(first|exact(Kd.R_reads' HO796.out).2.2|(with_reducible refine Kd.C_alloc ?_ _)|(with_reducible refine Kd.C_drewN ?_ _)|(with_reducible refine Kd.C_drew ?_)));(case side4=>exact(Kd.R_reads' HO796.out).2.1);rintro e w23 ⟨rfl,hb⟩;refine⟨_,rfl,?_⟩;have n0_:=Aside0.mk (Kd.R_below (by(with_reducible repeat(first|apply Kd.R_alloc|apply Kd.R_drewN|apply Kd.R_drew));exact HO788.out) hb);have n1_:=Aside0.mk (Kd.R_below (by(with_reducible repeat(first|apply Kd.R_alloc|apply Kd.R_drewN|apply Kd.R_drew));exact HO796.out) hb);have n2_:=Aside0.mk (blk_below (g:=gb789) (o:= .cells #[.int .i64 3, .bool false, .slice Ao13 y786.length co13] 24 (0,0)) (by(with_reducible repeat(first|refine blk_drewN ?_ _|refine blk_drew ?_|refine blk_alloc ?_ _));exact BK789.out) hb);have n3_:=Aside0.mk (below_step (by repeat(first|(with_reducible first|exact HB.out|apply below_alloc|apply pw_below_drewN|apply below_drew1|refine below_set ?_ GE789.out)|exact HB.out)) hb);clear HO788;clear HO796;clear BK789;clear HB;have HO788:=n0_;have HO796:=n1_;have BK789:=n2_;have HB:=n3_;clear n0_ n1_ n2_ n3_;(try clear hb);(try clear hb2);(try clear hk);(try clear hi);have hcz24_0:w23.cell? ⟨gb789,0,none⟩=some (.int .i64 3):=(blk_cell BK789.out 0).trans rfl;have hcz24_1:w23.cell? ⟨gb789,1,none⟩=some (.bool false):=(blk_cell BK789.out 1).trans rfl;have hcz24_2:w23.cell? ⟨gb789,2,none⟩=some (.slice Ao13 y786.length co13):=(blk_cell BK789.out 2).trans rfl;have hfz24_0:=blk_frozen BK789.out 0;have hfz24_1:=blk_frozen BK789.out 1;have hfz24_2:=blk_frozen BK789.out 2)|((with_reducible refine gate_callee (f:=67) rfl ?_);refine goesL_ (some 32) rfl rfl Try.func67 (by kernel_rfl) rfl #[.agg #[.int .i64 3, .bool false, .slice Ao13 y786.length co13], .int .i64 0, .int .i64 2, .int .i64 (-1)] rfl (by(try simp only[List.map_toArray,List.map_cons,List.map_nil]);first|done|rfl|(simp only[List.length_drop,List.length_take];rfl)) ?_;(with_reducible refine(span_Most.calls k 3 false _ _ y786 0 2 (-1) t799 t800 _ ?side1 ?side2 A4.out).mono ?_);(case side1=>repeat(first|exact(Kd.R_reads' HO788.out).2.2|(with_reducible refine Kd.C_alloc ?_ _)|(with_reducible refine Kd.C_drewN ?_ _)|(with_reducible refine Kd.C_drew ?_)));(case side2=>exact(Kd.R_reads' HO788.out).2.1);rintro e w25 ⟨rfl,hb⟩;refine⟨_,rfl,?_⟩;have n0_:=Aside0.mk (Kd.R_below (by(with_reducible repeat(first|apply Kd.R_alloc|apply Kd.R_drewN|apply Kd.R_drew));exact HO788.out) hb);have n1_:=Aside0.mk (Kd.R_below (by(with_reducible repeat(first|apply Kd.R_alloc|apply Kd.R_drewN|apply Kd.R_drew));exact HO796.out) hb);have n2_:=Aside0.mk (blk_below (g:=gb789) (o:= .cells #[.int .i64 3, .bool false, .slice Ao13 y786.length co13] 24 (0,0)) (by(with_reducible repeat(first|refine blk_drewN ?_ _|refine blk_drew ?_|refine blk_alloc ?_ _));exact BK789.out) hb);have n3_:=Aside0.mk (below_step (by repeat(first|(with_reducible first|exact HB.out|apply below_alloc|apply pw_below_drewN|apply below_drew1|refine below_set ?_ GE789.out)|exact HB.out)) hb);clear HO788;clear HO796;clear BK789;clear HB;have HO788:=n0_;have HO796:=n1_;have BK789:=n2_;have HB:=n3_;clear n0_ n1_ n2_ n3_;(try clear hb);(try clear hb2);(try clear hk);(try clear hi)))
 go_ret
 exact⟨by first|rfl|(simp[errW_none,errW_some]<;>rfl)|(simp[*,errW_none,errW_some]<;>rfl),by repeat(first|(with_reducible first|exact HB.out|apply below_alloc|apply pw_below_drewN|apply below_drew1|refine below_set ?_ GE789.out)|exact HB.out)⟩
end Go.Proofs.Ytkcpanpdipmmmaa.P
namespace Go.Proofs.Ytkcpanpdipmmmaa.P
open Go.RowKit Go.Proofs.YtkcpanpdipmmmaaW.PrintWords Go.Proofs.YtkcpanpdipmmmaaW.PrintLast Go.Proofs.YtkcpanpdipmmmaaW.PrintMore
attribute [local go_sem] max2_int min2_int max_two min_two max_three min_three max_four min_four
def ebbtidelaw12_SpanWorths.f (k:Nat) (a0_0:Int) (a0_1:Bool) (l0_2:List (S74)) (a1:Int) (a2:Int) (l3:List Int) (a4:Int):Option (Bool):=(span_Worth.f k a0_0 a0_1 l0_2 a1 a2 l3 a4).bind fun bt802=>((ebbtideref12_Worth.f k a0_0 a0_1 l0_2 a1 a2 l3 a4).bind fun bt804=>((ebbtidelaw12_awake.f k).bind fun t806=>(if t806=true then(if bt802.1=bt804.1 then(some (bt802.2 == bt804.2)) else(some false)) else(some false))))
set_option maxHeartbeats 8000000 in
set_option maxRecDepth 100000 in
theorem ebbtidelaw12_SpanWorths.calls (k:Nat) (a0_0:Int) (a0_1:Bool) (A0_2:Option Addr) (c0_2:Nat) (l0_2:List (S74)) (a1:Int) (a2:Int) (A3:Option Addr) (c3:Nat) (l3:List Int) (a4:Int) (r:Bool) (w:World) (hr0_2:Kd.C k74 w A0_2 l0_2.length l0_2) (hc0_2:l0_2.length≤c0_2) (hr3:Kd.C (Kd.int .i64) w A3 l3.length l3) (hc3:l3.length≤c3) (h:ebbtidelaw12_SpanWorths.f k a0_0 a0_1 l0_2 a1 a2 l3 a4=some r) (hrT_:r=true:=by first|rfl|exact Aside0.out (by assumption)):
  Calls Try.prog 14 #[.agg #[.int .i64 a0_0, .bool a0_1, .slice A0_2 l0_2.length c0_2], .int .i64 a1, .int .i64 a2, .slice A3 l3.length c3, .int .i64 a4] w fun e w'=>e= .returned (.bool r)∧Below w.heap.size w w':=by
 have HRT:=Aside0.mk hrT_
 clear hrT_
 have hu24:=Try.underlying24
 have HR0_2:=Aside0.mk hr0_2
 have HC0_2:=Aside0.mk hc0_2
 clear hr0_2 hc0_2
 have HR3:=Aside0.mk hr3
 have HC3:=Aside0.mk hc3
 clear hr3 hc3
 have HB:=Aside0.mk (Below.refl w.heap.size w)
 have H:((span_Worth.f k a0_0 a0_1 l0_2 a1 a2 l3 a4).bind fun bt802=>((ebbtideref12_Worth.f k a0_0 a0_1 l0_2 a1 a2 l3 a4).bind fun bt804=>((ebbtidelaw12_awake.f k).bind fun t806=>(if t806=true then(if bt802.1=bt804.1 then(some (bt802.2 == bt804.2)) else(some false)) else(some false)))))=some r:=h
 clear h
 replace H:=Option.bind_eq_some_iff.mp H
 obtain⟨⟨t802,t803⟩,A60,H⟩:=H
 replace H:((ebbtideref12_Worth.f k a0_0 a0_1 l0_2 a1 a2 l3 a4).bind fun bt804=>((ebbtidelaw12_awake.f k).bind fun t806=>(if t806=true then(if t802=bt804.1 then(some (t803 == bt804.2)) else(some false)) else(some false))))=some r:=H
 have A6:=Aside0.mk A60
 clear A60
 replace H:=Option.bind_eq_some_iff.mp H
 obtain⟨⟨t804,t805⟩,A70,H⟩:=H
 replace H:((ebbtidelaw12_awake.f k).bind fun t806=>(if t806=true then(if t802=t804 then(some (t803 == t805)) else(some false)) else(some false)))=some r:=H
 have A7:=Aside0.mk A70
 clear A70
 replace H:=Option.bind_eq_some_iff.mp H
 obtain⟨t806,A80,H⟩:=H
 replace H:(if t806=true then(if t802=t804 then(some (t803 == t805)) else(some false)) else(some false))=some r:=H
 have A8:=Aside0.mk A80
 clear A80
 by_cases c9:t806=true
 rotate_left
 ·replace c9:=Bool.eq_false_iff.mpr c9
  subst c9
  have H1:(some false)=some r:=by rw[if_neg (show ¬ (false=true) by decide)] at H;exact H
  exact absurd (Option.some.inj H1) (by rw[HRT.out];decide)
 subst c9
 have H1:(if t802=t804 then(some (t803 == t805)) else(some false))=some r:=by first|(rw[if_pos rfl] at H;exact H)|(rw[if_pos trivial] at H;exact H)
 clear H
 have H:=H1
 clear H1
 by_cases c10:t802=t804
 rotate_left
 ·rw[if_neg c10] at H
  exact absurd (Option.some.inj H) (by rw[HRT.out];decide)
 rw[if_pos c10] at H
 have c10b0:(t802 == t804)=true:=beq_iff_eq.mpr c10
 have c10b1:(t802 != t804)=false:=bne_eq_false_iff_eq.mpr c10
 clear c10
 obtain rfl:=Option.some.inj H
 go_enter Try.func14,Try.ntmps14
 go_wp2_with (first|((with_reducible refine gate_dst (N:=5) rfl ?_);refine box_event ?hg (N:=5) ?hd (cs:= #[.int .i64 a0_0, .bool a0_1, .slice A0_2 l0_2.length c0_2]) (t:=24) ?hr ?_;(case hd=>rfl);(case hg=>rfl);(case hr=>first|(go_simp;done)|(go_simp;rfl));intro gb801 hg w11 hbox hb;have n0_:=Aside0.mk (below_step (by repeat(first|(with_reducible first|exact HB.out|apply below_alloc|apply pw_below_drewN|apply below_drew1)|exact HB.out)) hb);have n1_:=Aside0.mk (hbox);have n2_:=Aside0.mk ((by rw[hg];exact(below_size (by repeat(first|(with_reducible first|exact HB.out|apply below_alloc|apply pw_below_drewN|apply below_drew1)|exact HB.out))):w.heap.size≤gb801));have n3_:=Aside0.mk ((by rw[hg];exact(below_size (by repeat(first|(with_reducible first|exact HB.out|apply below_alloc|apply pw_below_drewN|apply below_drew1)|exact HB.out))):w.heap.size≤gb801));clear HB;have HB:=n0_;have BK801:=n1_;have GW801:=n2_;have GE801:=n3_;clear n0_ n1_ n2_ n3_;clear hb hbox hg;have hcz12_0:w11.cell? ⟨gb801,0,none⟩=some (.int .i64 a0_0):=(blk_cell BK801.out 0).trans rfl;have hcz12_1:w11.cell? ⟨gb801,1,none⟩=some (.bool a0_1):=(blk_cell BK801.out 1).trans rfl;have hcz12_2:w11.cell? ⟨gb801,2,none⟩=some (.slice A0_2 l0_2.length c0_2):=(blk_cell BK801.out 2).trans rfl;have hfz12_0:=blk_frozen BK801.out 0;have hfz12_1:=blk_frozen BK801.out 1;have hfz12_2:=blk_frozen BK801.out 2)|((with_reducible refine gate_callee (f:=63) rfl ?_);refine goesL_ (some 21) rfl rfl Try.func63 (by kernel_rfl) rfl #[.agg #[.int .i64 a0_0, .bool a0_1, .slice A0_2 l0_2.length c0_2], .int .i64 a1, .int .i64 a2, .slice A3 l3.length c3, .int .i64 a4] rfl (by(try simp only[List.map_toArray,List.map_cons,List.map_nil]);first|done|rfl|(simp only[List.length_drop,List.length_take];rfl)) ?_;(with_reducible refine(span_Worth.calls k a0_0 a0_1 _ _ l0_2 a1 a2 _ _ l3 a4 t802 t803 _ ?side1 ?side2 ?side3 ?side4 A6.out).mono ?_);(case side1=>repeat(first|exact(Kd.C_below HR0_2.out HB.out)|(with_reducible refine Kd.C_alloc ?_ _)|(with_reducible refine Kd.C_drewN ?_ _)|(with_reducible refine Kd.C_drew ?_)));(case side2=>exact HC0_2.out);(case side3=>repeat(first|exact(Kd.C_below HR3.out HB.out)|(with_reducible refine Kd.C_alloc ?_ _)|(with_reducible refine Kd.C_drewN ?_ _)|(with_reducible refine Kd.C_drew ?_)));(case side4=>exact HC3.out);rintro e w13 ⟨rfl,hb⟩;refine⟨_,rfl,?_⟩;have n0_:=Aside0.mk (blk_below (g:=gb801) (o:= .cells #[.int .i64 a0_0, .bool a0_1, .slice A0_2 l0_2.length c0_2] 24 (0,0)) (by(with_reducible repeat(first|refine blk_drewN ?_ _|refine blk_drew ?_|refine blk_alloc ?_ _));exact BK801.out) hb);have n1_:=Aside0.mk (below_step (by repeat(first|(with_reducible first|exact HB.out|apply below_alloc|apply pw_below_drewN|apply below_drew1|refine below_set ?_ GE801.out)|exact HB.out)) hb);clear BK801;clear HB;have BK801:=n0_;have HB:=n1_;clear n0_ n1_;(try clear hb);(try clear hb2);(try clear hk);(try clear hi);have hcz14_0:w13.cell? ⟨gb801,0,none⟩=some (.int .i64 a0_0):=(blk_cell BK801.out 0).trans rfl;have hcz14_1:w13.cell? ⟨gb801,1,none⟩=some (.bool a0_1):=(blk_cell BK801.out 1).trans rfl;have hcz14_2:w13.cell? ⟨gb801,2,none⟩=some (.slice A0_2 l0_2.length c0_2):=(blk_cell BK801.out 2).trans rfl;have hfz14_0:=blk_frozen BK801.out 0;have hfz14_1:=blk_frozen BK801.out 1;have hfz14_2:=blk_frozen BK801.out 2)|((with_reducible refine gate_callee (f:=64) rfl ?_);refine goesL_ (some 30) rfl rfl Try.func64 (by kernel_rfl) rfl #[.agg #[.int .i64 a0_0, .bool a0_1, .slice A0_2 l0_2.length c0_2], .int .i64 a1, .int .i64 a2, .slice A3 l3.length c3, .int .i64 a4] rfl (by(try simp only[List.map_toArray,List.map_cons,List.map_nil]);first|done|rfl|(simp only[List.length_drop,List.length_take];rfl)) ?_;(with_reducible refine(ebbtideref12_Worth.calls k a0_0 a0_1 _ _ l0_2 a1 a2 _ _ l3 a4 t804 t805 _ ?side1 ?side2 ?side3 ?side4 A7.out).mono ?_);(case side1=>repeat(first|exact(Kd.C_below HR0_2.out HB.out)|(with_reducible refine Kd.C_alloc ?_ _)|(with_reducible refine Kd.C_drewN ?_ _)|(with_reducible refine Kd.C_drew ?_)));(case side2=>exact HC0_2.out);(case side3=>repeat(first|exact(Kd.C_below HR3.out HB.out)|(with_reducible refine Kd.C_alloc ?_ _)|(with_reducible refine Kd.C_drewN ?_ _)|(with_reducible refine Kd.C_drew ?_)));(case side4=>exact HC3.out);rintro e w15 ⟨rfl,hb⟩;refine⟨_,rfl,?_⟩;have n0_:=Aside0.mk (blk_below (g:=gb801) (o:= .cells #[.int .i64 a0_0, .bool a0_1, .slice A0_2 l0_2.length c0_2] 24 (0,0)) (by(with_reducible repeat(first|refine blk_drewN ?_ _|refine blk_drew ?_|refine blk_alloc ?_ _));exact BK801.out) hb);have n1_:=Aside0.mk (below_step (by repeat(first|(with_reducible first|exact HB.out|apply below_alloc|apply pw_below_drewN|apply below_drew1|refine below_set ?_ GE801.out)|exact HB.out)) hb);clear BK801;clear HB;have BK801:=n0_;have HB:=n1_;clear n0_ n1_;(try clear hb);(try clear hb2);(try clear hk);(try clear hi))|((with_reducible refine gate_callee (f:=65) rfl ?_);refine goesL_ (some 33) rfl rfl Try.func65 (by kernel_rfl) rfl #[] rfl (by(try simp only[List.map_toArray,List.map_cons,List.map_nil]);first|done|rfl|(simp only[List.length_drop,List.length_take];rfl)) ?_;(with_reducible refine(ebbtidelaw12_awake.calls k  true _ A8.out).mono ?_);rintro e w16 ⟨rfl,hb⟩;refine⟨_,rfl,?_⟩;have n0_:=Aside0.mk (blk_below (g:=gb801) (o:= .cells #[.int .i64 a0_0, .bool a0_1, .slice A0_2 l0_2.length c0_2] 24 (0,0)) (by(with_reducible repeat(first|refine blk_drewN ?_ _|refine blk_drew ?_|refine blk_alloc ?_ _));exact BK801.out) hb);have n1_:=Aside0.mk (below_step (by repeat(first|(with_reducible first|exact HB.out|apply below_alloc|apply pw_below_drewN|apply below_drew1|refine below_set ?_ GE801.out)|exact HB.out)) hb);clear BK801;clear HB;have BK801:=n0_;have HB:=n1_;clear n0_ n1_;(try clear hb);(try clear hb2);(try clear hk);(try clear hi)))
 go_ret
 exact⟨by first|rfl|(simp[errW_none,errW_some]<;>rfl)|(simp[*,errW_none,errW_some]<;>rfl),by repeat(first|(with_reducible first|exact HB.out|apply below_alloc|apply pw_below_drewN|apply below_drew1|refine below_set ?_ GE801.out)|exact HB.out)⟩
end Go.Proofs.Ytkcpanpdipmmmaa.P
namespace Go.Proofs.Ytkcpanpdipmmmaa.Opn
open Go.RowKit Go.ChangeShapes Go.WideShapes Go.Deep Go.Proofs.YtkcpanpdipmmmaaW.PrintWords
def Opens (P:Program) (t:TypeId) {α:Type} (d:Kd α) (ok:α→Prop):Prop:=
 ∀ (H:Type) (enc:TypeId × Value→H) (w:World) (base:Nat) (spare:Nat→Bool) (held:Bool) (fuel:Nat) (cs:List Value) (x:DataW H × List MemPlace),
  DataW.trod enc P w base spare held fuel t cs=some x→ ∃ a:α,d.K w a cs∧ok a
theorem opens_int {P:Program} {t:TypeId} {k:IntKind} (ht:P.underlying t=some (.int k)):Opens P t (Kd.int k) (fun n=>(Lit.int k n).wf=true):=by
 intro H enc w base spare held fuel cs x h
 obtain⟨n,rfl,_,hw⟩:=DataW.trod_int ht h
 exact⟨n,rfl,hw⟩
theorem opens_bool {P:Program} {t:TypeId} (ht:P.underlying t=some .bool):Opens P t Kd.bool (fun _=>True):=by
 intro H enc w base spare held fuel cs x h
 obtain⟨b,rfl,_⟩:=DataW.trod_bool ht h
 exact⟨b,rfl,trivial⟩
theorem opens_slice {P:Program} {t e:TypeId} {α:Type} {d:Kd α} {ok:α→Prop} (ht:P.underlying t=some (.slice e)) (hc:P.cellsOf e=d.sz) (h:Opens P e d ok):
  Opens P t (Kd.slice e d) (fun l=>l.length≤9223372036854775807∧ ∀ x∈l,ok x):=by
 intro H enc w base spare held fuel cs x hx
 rcases open_slice ht hx with ⟨rfl,_⟩|⟨a,len,cap,m,n,D,Pl,rfl,hb,hl,hm,hmm,_,hi⟩
 ·exact⟨[],⟨none,0,rfl,Nat.le_refl _,rfl,by simp,fun h=>absurd h (by simp)⟩,by simp,by simp⟩
 ·have hlm:len≤m:=by rw[hmm];split<;>omega
  have hel: ∀ i:Nat,i<len→ ∃ a':α,ok a'∧ ∃ c,c.length=d.sz∧d.K w a' c∧ ∀ j u,c[j]? =some u→w.cell? (a.add (i * d.sz+j))=some u:=by
   intro i hil
   obtain⟨cs',hcs,htr⟩:=hi i (by omega)
   obtain⟨a',hK,hok⟩:=h H enc w base spare held n cs' _ htr
   rw[hc] at hcs
   obtain⟨_,hcl,hat⟩:=World.cells?_some hcs
   refine⟨a',hok,cs',hcl,hK,fun j u hu=> ?_⟩
   have hj:j<d.sz:=by have:=(List.getElem?_eq_some_iff.1 hu).1;omega
   have:=hat j hj
   rw[← Go.Deep.add_add,this,hu]
  have hrow: ∀ k:Nat,k≤len→ ∃ xs:List α,xs.length=k∧(∀ x∈xs,ok x)∧ ∀ j p,xs[j]? =some p→ ∃ c,c.length=d.sz∧d.K w p c∧ ∀ i u,c[i]? =some u→w.cell? (a.add (j * d.sz+i))=some u:=by
   intro k
   induction k with
   |zero=>exact fun _=>⟨[],rfl,by simp,by simp⟩
   |succ k ih=>
    intro hk
    obtain⟨xs,h1,h2,h3⟩:=ih (by omega)
    obtain⟨a',ho,c,hcl,hK,hcell⟩:=hel k (by omega)
    refine⟨xs ++ [a'],by simp[h1],fun x hx=> ?_,fun j p hj=> ?_⟩
    ·rcases List.mem_append.1 hx with h|h
     ·exact h2 x h
     ·rw[List.mem_singleton.1 h];exact ho
    ·by_cases hjk:j<xs.length
     ·rw[List.getElem?_append_left hjk] at hj
      exact h3 j p hj
     ·have hjl:=(List.getElem?_eq_some_iff.1 hj).1
      simp at hjl
      have hje:j=k:=by omega
      subst hje
      rw[← h1,List.getElem?_concat_length] at hj
      obtain rfl:=Option.some.inj hj
      exact⟨c,hcl,hK,hcell⟩
  obtain⟨xs,h1,h2,h3⟩:=hrow len (Nat.le_refl _)
  have hmx:len≤9223372036854775807:=by unfold maxLen at hm;omega
  subst h1
  exact⟨xs,⟨some a,cap,rfl,hl,rfl,hmx,fun _=>⟨a,rfl,h3⟩⟩,hmx,h2⟩
theorem opens_iso {P:Program} {t:TypeId} {α β:Type} {d:Kd α} {ok:α→Prop} (h:Opens P t d ok) (f:β→α) (g:α→β) (hfg: ∀ x,f (g x)=x):Opens P t (Kd.iso d f) (fun y=>ok (f y)):=by
 intro H enc w base spare held fuel cs x hx
 obtain⟨a,hK,hok⟩:=h H enc w base spare held fuel cs x hx
 exact⟨g a,by show d.K w (f (g a)) cs;rw[hfg];exact hK,by show ok (f (g a));rw[hfg];exact hok⟩
def OpensFs (P:Program) (fs:List Field) (off:Nat) {α:Type} (d:Kd α) (ok:α→Prop):Prop:=
 ∀ (H:Type) (enc:TypeId × Value→H) (w:World) (base:Nat) (spare:Nat→Bool) (held:Bool) (n:Nat) (cs:List Value),cs.length=off+d.sz→
  (∀ f∈fs, ∃ y,DataW.trod enc P w base spare held n f.type ((cs.drop f.offset).take (P.cellsOf f.type))=some y)→ ∃ a:α,d.K w a (cs.drop off)∧ok a
theorem fs_one {P:Program} {f:Field} {off:Nat} {α:Type} {d:Kd α} {ok:α→Prop} (ho:f.offset=off) (hc:P.cellsOf f.type=d.sz) (h:Opens P f.type d ok):OpensFs P [f] off d ok:=by
 intro H enc w base spare held n cs hl hf
 obtain⟨y,hy⟩:=hf f (by simp)
 rw[ho,hc,List.take_of_length_le (by simp;omega)] at hy
 exact h H enc w base spare held n _ y hy
theorem fs_cons {P:Program} {f:Field} {fs:List Field} {off:Nat} {α β:Type} {d:Kd α} {d':Kd β} {ok:α→Prop} {ok':β→Prop} (ho:f.offset=off) (hc:P.cellsOf f.type=d.sz) (h:Opens P f.type d ok)
  (hr:OpensFs P fs (off+d.sz) d' ok'):OpensFs P (f::fs) off (Kd.pair d d') (fun x=>ok x.1∧ok' x.2):=by
 intro H enc w base spare held n cs hl hf
 have hsz:(Kd.pair d d').sz=d.sz+d'.sz:=rfl
 rw[hsz] at hl
 obtain⟨y,hy⟩:=hf f (by simp)
 rw[ho,hc] at hy
 obtain⟨a,hK,hok⟩:=h H enc w base spare held n _ y hy
 obtain⟨b,hKb,hokb⟩:=hr H enc w base spare held n cs (by omega) (fun f' hf'=>hf f' (List.mem_cons_of_mem _ hf'))
 refine⟨(a,b),⟨_,_,?_,hK,hKb⟩,hok,hokb⟩
 rw[← List.drop_drop]
 exact(List.take_append_drop _ _).symm
theorem opens_struct {P:Program} {t:TypeId} {fs:Array Field} {α:Type} {d:Kd α} {ok:α→Prop} (hs:P.underlying t=some (.struct fs)) (hC:P.cellsOf t=d.sz) (h:OpensFs P fs.toList 0 d ok):Opens P t d ok:=by
 intro H enc w base spare held fuel cs x hx
 obtain⟨xs,n,_,_,hl,hlen,hf⟩:=DataW.trod_struct hs hx
 obtain⟨a,hK,hok⟩:=h H enc w base spare held n cs (by rw[hl,hC,Nat.zero_add]) (fun f hfm=>by
  obtain⟨j,hj⟩:=List.getElem?_of_mem hfm
  have hj':fs[j]? =some f:=by rw[← hj];simp
  have hjl:j<xs.length:=by rw[hlen];exact(Array.getElem?_eq_some_iff.1 hj').1
  have h1:=hf j f hj'
  rw[List.getElem?_eq_getElem hjl] at h1
  exact⟨_,h1⟩)
 exact⟨a,hK,hok⟩
theorem arg_struct {H:Type} {enc:TypeId × Value→H} {P:Program} {w:World} {base b0:Nat} {spare:Nat→Bool} {held:Bool} {r:Reach} {t:TypeId} {fs:Array Field} {v:Value} {dd:DataW H} {p:List MemPlace} {α:Type} {d:Kd α} {ok:α→Prop}
  (hs:P.underlying t=some (.struct fs)) (ho:Opens P t d ok) (hv:Value.okWide P w r b0 t v) (h:DataW.Trod enc P w base spare held t v dd p): ∃ a cs,v= .agg cs∧d.K w a cs.toList∧ok a:=by
 obtain⟨cs,rfl,hsz⟩:=okWide_struct hs hv
 obtain⟨fuel,hf⟩:=h
 obtain⟨a,hK,hok⟩:=ho H enc w base spare held fuel _ _ hf
 exact⟨a,cs,rfl,by simpa [Value.cells] using hK,hok⟩
theorem arg_slice {H:Type} {enc:TypeId × Value→H} {P:Program} {w:World} {base b0:Nat} {spare:Nat→Bool} {held:Bool} {r:Reach} {t e:TypeId} {v:Value} {dd:DataW H} {p:List MemPlace} {α:Type} {d:Kd α} {ok:List α→Prop}
  (hs:P.underlying t=some (.slice e)) (ho:Opens P t (Kd.slice e d) ok) (hv:Value.okWide P w r b0 t v) (h:DataW.Trod enc P w base spare held t v dd p): ∃ A c l,v= .slice A l.length c∧l.length≤c∧d.C w A l.length l∧ok l:=by
 obtain⟨A,len,cap,rfl⟩:=okWide_slice hs hv
 obtain⟨fuel,hf⟩:=h
 obtain⟨l,⟨A',c,he,hlc,hC⟩,hok⟩:=ho H enc w base spare held fuel _ _ hf
 simp[Value.cells] at he
 obtain⟨rfl,rfl,rfl⟩:=he
 exact⟨A,cap,l,rfl,hlc,hC,hok⟩
end Go.Proofs.Ytkcpanpdipmmmaa.Opn
namespace Go.Proofs.Ytkcpanpdipmmmaa.Q
open Go.RowKit Go.Proofs.YtkcpanpdipmmmaaW.PrintWords Go.Proofs.YtkcpanpdipmmmaaW.PrintLast Go.Proofs.YtkcpanpdipmmmaaW.PrintMore Go.Proofs.Ytkcpanpdipmmmaa.P
open Go.Proofs.Ytkcpanpdipmmmaa.H (endsErr Right right_of StepOf stRoom IsFlow leastR pushW stRoom_in)
theorem endsE_ok {n:Int} {l:List S74} {s t:Int} (h:endsErr n l s t=0):NetOk n l∧0≤s∧s<n∧0≤t∧t<n∧s≠t:=by
 unfold endsErr at h
 by_cases hn:netErr n l=0
 ·rw[if_pos hn] at h
  split at h
  ·rename_i he
   exact⟨netErr_ok hn,he⟩
  ·cases h
 ·rw[if_neg hn] at h;exact absurd h hn
def evenB (s t:Int):List Int→Int→Bool
 |[],_=>true
 |x::l,i=>if i=s then evenB s t l (i+1) else if i=t then evenB s t l (i+1) else if x=0 then evenB s t l (i+1) else false
def valRes (n:Int) (l:List S74) (s t:Int) (f:List Int):Int × Int:=
 if endsErr n l s t=0 then(if askErr n l f=0 then(if evenB s t (balOf n l f) 0=true then(bal l f s,0) else(0,71)) else(0,askErr n l f)) else(0,endsErr n l s t)
theorem evenB_iff (s t:Int) (X:List Int): ∀ i:Int,evenB s t X i=true↔ ∀ j:Nat,j<X.length→i+j≠s→i+j≠t→X.getD j 0=0:=by
 induction X with
 |nil=>intro i;simp[evenB]
 |cons x X ih=>
  intro i
  have key:evenB s t X (i+1)=true↔ ∀ j:Nat,j+1<(x::X).length→i+(j+1:Nat)≠s→i+(j+1:Nat)≠t→(x::X).getD (j+1) 0=0:=by
   rw[ih (i+1)]
   constructor
   ·intro h j h1 h2 h3
    rw[List.getD_cons_succ]
    exact h j (by simpa using h1) (by omega) (by omega)
   ·intro h j h1 h2 h3
    have:=h j (by simpa using h1) (by omega) (by omega)
    rwa [List.getD_cons_succ] at this
  have all:(i≠s→i≠t→x=0)→(evenB s t X (i+1)=true↔ ∀ j:Nat,j<(x::X).length→i+j≠s→i+j≠t→(x::X).getD j 0=0):=by
   intro hx
   rw[key]
   constructor
   ·intro h j h1 h2 h3
    cases j with
    |zero=>exact hx (by simpa using h2) (by simpa using h3)
    |succ j=>exact h j h1 h2 h3
   ·intro h j h1 h2 h3
    exact h (j+1) h1 h2 h3
  unfold evenB
  by_cases h1:i=s
  ·rw[if_pos h1];exact all (fun h=>absurd h1 h)
  rw[if_neg h1]
  by_cases h2:i=t
  ·rw[if_pos h2];exact all (fun _ h=>absurd h2 h)
  rw[if_neg h2]
  by_cases h3:x=0
  ·rw[if_pos h3];exact all (fun _ _=>h3)
  ·rw[if_neg h3]
   constructor
   ·intro h;cases h
   ·intro h
    exact absurd (h 0 (by simp) (by simpa using h1) (by simpa using h2)) h3
theorem ref_check2_l0 (n:Int) (p:Bool) (l:List S74) (s t:Int) (b:List Int) (hb:b.length≤50) (hbn:n=b.length) (hs:0≤s) (hsn:s<b.length) (d:Nat): ∀ i:Nat,i+d=b.length→
  Ev (fun k=>ebbtideref07_Check.l0 k s t b (i:Int) n p l) (if evenB s t (b.drop i) i=true then(rd b s,0) else(0,71)):=by
 induction d with
 |zero=>
  intro i hi
  refine Ev.succ ?_;simp only[ebbtideref07_Check.l0]
  refine Ev.neg (by omega) ?_
  refine Ev.pos (by omega) ?_
  refine Ev.pos (by omega) ?_
  rw[List.drop_of_length_le (by omega)]
  exact Ev.now _
 |succ d ih=>
  intro i hi
  refine Ev.succ ?_;simp only[ebbtideref07_Check.l0]
  refine Ev.pos (by omega) ?_
  rw[drop_getD b i 0 (by omega),rd_nat,wrap_succ (n:=b.length) (by omega) (by omega)]
  unfold evenB
  have:=ih (i+1) (by omega)
  rw[show ((i+1:Nat):Int)=(i:Int)+1 by omega] at this ⊢
  refine Ev.ite (fun g1=> ?_) (fun g1=> ?_)
  ·rw[if_pos g1];exact this
  rw[if_neg g1]
  refine Ev.ite (fun g2=> ?_) (fun g2=> ?_)
  ·rw[if_pos g2];exact this
  rw[if_neg g2]
  refine Ev.pos (by omega) ?_
  refine Ev.pos (by omega) ?_
  refine Ev.ite (fun g=> ?_) (fun g=> ?_)
  ·rw[if_pos g];exact this
  rw[if_neg g]
  exact Ev.now _
theorem ref_value_ev (n:Int) (b:Bool) (l:List S74) (s t:Int) (f:List Int):Ev (fun k=>ebbtideref07_Check.f k n b l s t f) (valRes n l s t f):=by
 unfold ebbtideref07_Check.f valRes
 refine Ev.bind (ref_ends_ev n b l s t) ?_
 refine Ev.ite (fun h=> ?_) (fun h=> ?_)
 ·rw[if_pos h]
  obtain⟨hn,he⟩:=endsE_ok h
  have:=hn.lo;have:=hn.hi
  refine Ev.bind (ref_balance_ev n b l f) ?_
  by_cases g:askErr n l f=0
  ·rw[if_pos g,balRes_ok g]
   refine Ev.pos rfl ?_
   refine Ev.eq (ref_check2_l0 n b l s t (balOf n l f) (by rw[balOf_len];omega) (by rw[balOf_len];omega) (by omega) (by rw[balOf_len];omega) _ 0 (Nat.zero_add _)) ?_
   rw[rd_balOf (by omega) (by omega),List.drop_zero]
   rfl
  ·rw[if_neg g,balRes_no g]
   exact Ev.neg g (Ev.now _)
 ·rw[if_neg h]
  exact Ev.now _
theorem flowOk_of {l:List S74} {F:List Int} {n:Nat} (hr:Right l F n):FlowOk l F:=by
 refine⟨hr.len,fun i hi=> ?_⟩
 have:=hr.nums i (by rw[← hr.len];exact hi)
 rw[rd_nat]
 exact⟨this.2.2.1,this.2.2.2.1⟩
theorem even_flow {n:Nat} {l:List S74} {F:List Int} {s t:Int} (hr:Right l F n):evenB s t (balOf n l F) 0=true↔IsFlow l F n s t:=by
 rw[evenB_iff]
 have hlen:=balOf_len (n:Int) l F
 rw[Int.toNat_natCast] at hlen
 have hg: ∀ v:Nat,v<n→(balOf n l F).getD v 0=bal l F v:=fun v hv=>by
  have h_:=rd_balOf (n:=(n:Int)) (l:=l) (f:=F) (v:=(v:Int)) (by omega) (by omega)
  rw[rd_nat] at h_
  exact h_
 constructor
 ·intro h
  refine⟨hr,fun v h0 h1 h2 h3=> ?_⟩
  obtain⟨v,rfl⟩: ∃ v':Nat,v=v':=⟨v.toNat,by omega⟩
  rw[← hg v (by omega)]
  exact h v (by omega) (by omega) (by omega)
 ·intro h v hv h2 h3
  rw[hg v (by omega)]
  exact h.keeps v (by omega) (by omega) (by omega) (by omega)
theorem flow_val {n:Int} {l:List S74} {F:List Int} {s t:Int} (h:(valRes n l s t F).2=0):endsErr n l s t=0∧askErr n l F=0∧ ∃ n0:Nat,n=n0∧IsFlow l F n0 s t∧valRes n l s t F=(bal l F s,0):=by
 unfold valRes at h ⊢
 by_cases h1:endsErr n l s t=0
 ·rw[if_pos h1] at h ⊢
  by_cases h2:askErr n l F=0
  ·rw[if_pos h2] at h ⊢
   obtain⟨n0,rfl,hr⟩:=right_of h2
   by_cases h3:evenB s t (balOf n0 l F) 0=true
   ·rw[if_pos h3]
    exact⟨h1,h2,n0,rfl,(even_flow hr).1 h3,rfl⟩
   ·rw[if_neg h3] at h;cases h
  ·rw[if_neg h2] at h;exact absurd h h2
 ·rw[if_neg h1] at h;exact absurd h h1
end Go.Proofs.Ytkcpanpdipmmmaa.Q
namespace Go.Proofs.Ytkcpanpdipmmmaa.Q
open Go.RowKit Go.Proofs.YtkcpanpdipmmmaaW.PrintWords Go.Proofs.YtkcpanpdipmmmaaW.PrintLast Go.Proofs.YtkcpanpdipmmmaaW.PrintMore Go.Proofs.Ytkcpanpdipmmmaa.P
open Go.Proofs.Ytkcpanpdipmmmaa.H (endsErr Right right_of StepOf stRoom IsFlow leastR pushW nodes stepsR frP toP)
theorem value_l0 (m:Int) (l:List S74) (f:List Int) (hn:NetOk m l) (hf:FlowOk l f) (v:Int) (d:Nat): ∀ (i:Nat) (acc:Int),i+d=l.length→ -(i * 2097152)≤acc→acc≤i * 2097152→
  Ev (fun k=>maxflow_Value.l0 k v f acc l (l.length:Int) (i:Int)) (acc+bal (l.drop i) (f.drop i) v):=by
 have hlen:=hf.len
 have hl:=hn.len
 induction d with
 |zero=>
  intro i acc hi h0 h1
  refine Ev.succ ?_;simp only[maxflow_Value.l0]
  repeat(first|exact Ev.now _|with_reducible refine Ev.pos (by first|assumption|omega) ?_|with_reducible refine Ev.neg (by first|assumption|omega) ?_|with_reducible refine Ev.let_ ?_)
  rw[List.drop_of_length_le (by omega)]
  exact Ev.done (by simp[bal])
 |succ d ih=>
  intro i acc hi h0 h1
  have hs:=hf.small hn (i:=(i:Int)) (by omega) (by omega)
  refine Ev.succ ?_;simp only[maxflow_Value.l0]
  repeat(first|exact Ev.now _|with_reducible refine Ev.pos (by first|assumption|omega) ?_|with_reducible refine Ev.neg (by first|assumption|omega) ?_|with_reducible refine Ev.let_ ?_)
  rw[wrap_succ (n:=l.length) (by omega) (by omega),drop_getD l i z74 (by omega),drop_getD f i 0 (by omega), ← rdArc_nat, ← rd_nat,bal_cons]
  refine Ev.ite (fun g=> ?_) (fun g=> ?_)
  ·rw[if_pos g]
   refine Ev.pos (by omega) ?_
   refine Ev.ite (fun g2=> ?_) (fun g2=> ?_)
   ·rw[if_pos g2,wrap_id (x:=acc+rd f (i:Int)) (by omega) (by omega),wrap_id (by omega) (by omega)]
    exact Ev.eq (ih (i+1) _ (by omega) (by omega) (by omega)) (by omega)
   ·rw[if_neg g2,wrap_id (x:=acc+rd f (i:Int)) (by omega) (by omega)]
    exact Ev.eq (ih (i+1) _ (by omega) (by omega) (by omega)) (by omega)
  ·rw[if_neg g]
   refine Ev.ite (fun g2=> ?_) (fun g2=> ?_)
   ·refine Ev.pos (by omega) ?_
    rw[if_pos g2,wrap_id (x:=acc - rd f (i:Int)) (by omega) (by omega)]
    exact Ev.eq (ih (i+1) _ (by omega) (by omega) (by omega)) (by omega)
   ·rw[if_neg g2]
    exact Ev.eq (ih (i+1) _ (by omega) (by omega) (by omega)) (by omega)
theorem value_ev (n m:Int) (b:Bool) (l:List S74) (f:List Int) (hn:NetOk m l) (hf:FlowOk l f) (v:Int):Ev (fun k=>maxflow_Value.f k n b l v f) (bal l f v):=by
 unfold maxflow_Value.f
 exact Ev.eq (value_l0 m l f hn hf v l.length 0 0 (by omega) (by omega) (by omega)) (by rw[List.drop_zero,List.drop_zero];omega)
end Go.Proofs.Ytkcpanpdipmmmaa.Q
namespace Go.Proofs.Ytkcpanpdipmmmaa.Q
open Go.RowKit Go.Proofs.YtkcpanpdipmmmaaW.PrintWords Go.Proofs.YtkcpanpdipmmmaaW.PrintLast Go.Proofs.YtkcpanpdipmmmaaW.PrintMore Go.Proofs.Ytkcpanpdipmmmaa.P
open Go.Proofs.Ytkcpanpdipmmmaa.H (endsErr Right right_of IsFlow payS worthS)
theorem balance_l0 (n:Int) (l:List S74) (f:List Int) (hn:NetOk n l) (hf:FlowOk l f) (d:Nat): ∀ (i:Nat) (x:List Int),i+d=l.length→x.length=n.toNat→(∀ v:Nat,v<x.length→ -(i * 2097152)≤rd x v∧rd x v≤i * 2097152)→
  ∃ r,Ev (fun k=>static_Balance.l0 k f x l (l.length:Int) (i:Int)) (r,0)∧r.length=x.length∧ ∀ v:Nat,v<x.length→rd r v=rd x v+bal (l.drop i) (f.drop i) v:=by
 have hlen:=hf.len
 have hl:=hn.len
 induction d with
 |zero=>
  intro i x hi hx hb
  refine⟨x,?_,rfl,fun v hv=> ?_⟩
  ·refine Ev.succ ?_;simp only[static_Balance.l0]
   repeat(first|exact Ev.now _|with_reducible refine Ev.pos (by first|assumption|omega) ?_|with_reducible refine Ev.neg (by first|assumption|omega) ?_|with_reducible refine Ev.let_ ?_)
  ·rw[List.drop_of_length_le (by omega)]
   simp[bal]
 |succ d ih=>
  intro i x hi hx hb
  have ha:=hn.at_ (i:=(i:Int)) (by omega) (by omega)
  have hs:=hf.small hn (i:=(i:Int)) (by omega) (by omega)
  have h1:=ha.f0
  have h2:=ha.f1
  have h3:=ha.h0
  have h4:=ha.h1
  have hb1:=hb (rd_T74 l (i:Int)).f0.toNat (by omega)
  have e1:(((rd_T74 l (i:Int)).f0.toNat:Nat):Int)=(rd_T74 l (i:Int)).f0:=by omega
  have e2:(((rd_T74 l (i:Int)).f1.toNat:Nat):Int)=(rd_T74 l (i:Int)).f1:=by omega
  rw[e1] at hb1
  have hb2:=hb (rd_T74 l (i:Int)).f1.toNat (by omega)
  rw[e2] at hb2
  obtain⟨r,hr,hrl,hrv⟩:=ih (i+1) ((x.set (rd_T74 l (i:Int)).f0.toNat (wrap64 (rd x (rd_T74 l (i:Int)).f0+rd f (i:Int)))).set (rd_T74 l (i:Int)).f1.toNat
    (wrap64 (rd (x.set (rd_T74 l (i:Int)).f0.toNat (wrap64 (rd x (rd_T74 l (i:Int)).f0+rd f (i:Int)))) (rd_T74 l (i:Int)).f1 - rd f (i:Int)))) (by omega) (by simpa using hx) (by
   intro v hv
   have hv':v<x.length:=by simpa using hv
   have hbv:=hb v hv'
   rw[rd_set _ _ _ _ h2 (by simp;omega) (by omega),rd_set _ _ _ _ h1 (by omega) h2,rd_set _ _ _ _ h1 (by omega) (by omega)]
   have w1:wrap64 (rd x (rd_T74 l (i:Int)).f0+rd f (i:Int))=rd x (rd_T74 l (i:Int)).f0+rd f (i:Int):=wrap_id (by omega) (by omega)
   rw[w1]
   split
   ·split
    ·rename_i h5 h6
     rw[wrap_id (by omega) (by omega)]
     omega
    ·rename_i h5 h6
     rw[wrap_id (by omega) (by omega)]
     omega
   ·split
    ·omega
    ·omega)
  refine⟨r,?_,by simpa using hrl,fun v hv=> ?_⟩
  ·refine Ev.succ ?_;simp only[static_Balance.l0]
   repeat(first|exact Ev.now _|with_reducible refine Ev.pos (by first|assumption|omega) ?_|with_reducible refine Ev.neg (by first|assumption|omega) ?_|with_reducible refine Ev.let_ ?_)
   rw[wrap_succ (n:=l.length) (by omega) (by omega)]
   exact hr
  ·rw[hrv v (by simpa using hv),rd_set _ _ _ _ h2 (by simp;omega) (by omega),rd_set _ _ _ _ h1 (by omega) h2,rd_set _ _ _ _ h1 (by omega) (by omega)]
   have w1:wrap64 (rd x (rd_T74 l (i:Int)).f0+rd f (i:Int))=rd x (rd_T74 l (i:Int)).f0+rd f (i:Int):=wrap_id (by omega) (by omega)
   rw[w1,drop_getD l i z74 (by omega),drop_getD f i 0 (by omega), ← rdArc_nat, ← rd_nat,bal_cons]
   by_cases h5:(rd_T74 l (i:Int)).f1=(v:Int)
   ·rw[if_pos h5,if_pos h5]
    by_cases h6:(rd_T74 l (i:Int)).f0=(v:Int)
    ·rw[if_pos (by omega),if_pos h6,wrap_id (by omega) (by omega),h6]
     omega
    ·rw[if_neg (by omega),if_neg h6,wrap_id (by omega) (by omega),h5]
     omega
   ·rw[if_neg h5,if_neg h5]
    by_cases h6:(rd_T74 l (i:Int)).f0=(v:Int)
    ·rw[if_pos h6,if_pos h6,h6]
     omega
    ·rw[if_neg h6,if_neg h6]
     omega
theorem rd_zeros (m:Nat) (v:Int):rd (List.replicate m 0) v=0:=by
 unfold rd
 rw[List.getD_eq_getElem?_getD,List.getElem?_replicate]
 split<;>rfl
theorem balance_ev (n:Int) (b:Bool) (l:List S74) (f:List Int):Ev (fun k=>static_Balance.f k n b l f) (balRes n l f):=by
 unfold static_Balance.f balRes
 refine Ev.bind (asked_ev n b l f) ?_
 refine Ev.ite (fun h=> ?_) (fun h=> ?_)
 ·rw[if_pos h]
  obtain⟨hn,hf⟩:=askErr_ok h
  have:=hn.lo
  have:=hn.hi
  repeat(first|exact Ev.now _|with_reducible refine Ev.pos (by first|assumption|omega) ?_|with_reducible refine Ev.neg (by first|assumption|omega) ?_|with_reducible refine Ev.let_ ?_)
  obtain⟨r,hr,hrl,hrv⟩:=balance_l0 n l f hn hf l.length 0 (List.replicate n.toNat 0) (by omega) (by simp) (fun v hv=>by rw[rd_zeros];omega)
  refine Ev.eq hr ?_
  rw[List.length_replicate] at hrl hrv
  congr 1
  refine ext_rd (by rw[hrl,balOf_len]) fun v hv=> ?_
  rw[hrv v (by omega),rd_zeros,rd_balOf (by omega) (by omega),List.drop_zero,List.drop_zero]
  omega
 ·rw[if_neg h]
  exact Ev.now _
theorem check2_l0 (s t:Int) (b:List Int) (hb:b.length≤50) (hs:0≤s) (hsn:s<b.length) (d:Nat): ∀ i:Nat,i+d=b.length→
  Ev (fun k=>static_Check.l0 k s t b b (b.length:Int) (i:Int)) (if evenB s t (b.drop i) i=true then(rd b s,0) else(0,71)):=by
 induction d with
 |zero=>
  intro i hi
  refine Ev.succ ?_;simp only[static_Check.l0]
  repeat(first|exact Ev.now _|with_reducible refine Ev.pos (by first|assumption|omega) ?_|with_reducible refine Ev.neg (by first|assumption|omega) ?_|with_reducible refine Ev.let_ ?_)
  rw[List.drop_of_length_le (by omega)]
  exact Ev.now _
 |succ d ih=>
  intro i hi
  refine Ev.succ ?_;simp only[static_Check.l0]
  repeat(first|exact Ev.now _|with_reducible refine Ev.pos (by first|assumption|omega) ?_|with_reducible refine Ev.neg (by first|assumption|omega) ?_|with_reducible refine Ev.let_ ?_)
  rw[drop_getD b i 0 (by omega),rd_nat,wrap_succ (n:=b.length) (by omega) (by omega)]
  unfold evenB
  have:=ih (i+1) (by omega)
  rw[show ((i+1:Nat):Int)=(i:Int)+1 by omega] at this ⊢
  refine Ev.ite (fun g=> ?_) (fun g=> ?_)
  ·rw[if_pos g,ite_self,ite_self];exact this
  refine Ev.ite (fun g2=> ?_) (fun g2=> ?_)
  ·rw[if_pos g2];exact this
  rw[if_neg g2]
  refine Ev.ite (fun g3=> ?_) (fun g3=> ?_)
  ·rw[if_pos g3];exact this
  rw[if_neg g3,if_neg g]
  exact Ev.now _
theorem stat_value_ev (n:Int) (b:Bool) (l:List S74) (s t:Int) (f:List Int):Ev (fun k=>static_Check.f k n b l s t f) (valRes n l s t f):=by
 unfold static_Check.f valRes
 refine Ev.bind (ends_ev n b l s t) ?_
 refine Ev.ite (fun h=> ?_) (fun h=> ?_)
 ·rw[if_pos h]
  obtain⟨hn,he1,he2,he3,he4,he5⟩:=endsE_ok h
  have:=hn.lo;have:=hn.hi
  refine Ev.bind (balance_ev n b l f) ?_
  by_cases g:askErr n l f=0
  ·rw[if_pos g,balRes_ok g]
   refine Ev.pos rfl ?_
   refine Ev.eq (check2_l0 s t (balOf n l f) (by rw[balOf_len];omega) (by omega) (by rw[balOf_len];omega) _ 0 (Nat.zero_add _)) ?_
   rw[rd_balOf (by omega) (by omega),List.drop_zero]
   rfl
  ·rw[if_neg g,balRes_no g]
   exact Ev.neg g (Ev.now _)
 ·rw[if_neg h]
  exact Ev.now _
theorem pay_mul {x t:Int} (h0:0≤x) (h1:x≤1048576) (h2:0≤t) (h3:t≤1048576):0≤x * t∧x * t≤1099511627776:=by
 refine⟨Int.mul_nonneg h0 h2,?_⟩
 have:=Int.mul_le_mul h1 h3 h2 (show (0:Int)≤1048576 by decide)
 omega
theorem pay_bd {l:List S74} {F:List Int} {n:Nat} (hr:Right l F n) (d:Nat): ∀ (i:Nat),i+d=l.length→0≤payS (l.drop i) (F.drop i)∧payS (l.drop i) (F.drop i)≤1099511627776 * (d:Int):=by
 have hl:=hr.len
 induction d with
 |zero=>
  intro i hi
  rw[List.drop_of_length_le (show l.length≤i by omega),List.drop_of_length_le (show F.length≤i by omega)]
  simp[payS]
 |succ d ih=>
  intro i hi
  have hn:=hr.nums i (by omega)
  have hb:=pay_mul hn.2.2.1 (by omega) hn.1 hn.2.1
  have:=ih (i+1) (by omega)
  rw[drop_getD l i z74 (by omega),drop_getD F i 0 (by omega),H.payS_cons, ← rdArc_nat]
  omega
theorem ref_pay_l0 {l:List S74} {F:List Int} {n:Nat} (hr:Right l F n) (b:Bool) (d:Nat): ∀ (i:Nat) (k:Int),i+d=l.length→0≤k→k≤1099511627776 * (i:Int)→
  Ev (fun m=>ebbtideref07_Cost.l0 m F k (i:Int) n b l) (k+payS (l.drop i) (F.drop i),0):=by
 have hl:=hr.len
 have hl2:=hr.arcs
 induction d with
 |zero=>
  intro i k hi h0 h1
  refine Ev.succ ?_;simp only[ebbtideref07_Cost.l0]
  refine Ev.neg (by omega) ?_
  rw[List.drop_of_length_le (show l.length≤i by omega),List.drop_of_length_le (show F.length≤i by omega)]
  exact Ev.done (by simp[payS])
 |succ d ih=>
  intro i k hi h0 h1
  have hn:=hr.nums i (by omega)
  have hb:=pay_mul hn.2.2.1 (by omega) hn.1 hn.2.1
  have e1:rd F (i:Int)=F.getD i 0:=rd_nat F i
  refine Ev.succ ?_;simp only[ebbtideref07_Cost.l0]
  refine Ev.pos (by omega) ?_
  refine Ev.pos (by omega) ?_
  refine Ev.pos (by omega) ?_
  rw[e1,wrap_succ (n:=200) (by omega) (by omega),wrap_id (x:=F.getD i 0 * (rd_T74 l i).f3) (by omega) (by omega),wrap_id (x:=k+F.getD i 0 * (rd_T74 l i).f3) (by omega) (by omega)]
  refine Ev.eq (ih (i+1) _ (by omega) (by omega) (by omega)) ?_
  rw[drop_getD l i z74 (by omega),drop_getD F i 0 (by omega),H.payS_cons, ← rdArc_nat]
  congr 1
  omega
theorem ref_pay_ev (n:Int) (b:Bool) (l:List S74) (F:List Int) (h:askErr n l F=0):Ev (fun m=>ebbtideref07_Cost.f m n b l F) (payS l F,0):=by
 unfold ebbtideref07_Cost.f
 refine Ev.bind (ref_asked_ev n b l F) ?_
 refine Ev.pos h ?_
 obtain⟨n0,rfl,hr⟩:=right_of h
 have:=ref_pay_l0 hr b l.length 0 0 (by omega) (by omega) (by omega)
 exact Ev.eq this (by rw[List.drop_zero,List.drop_zero,Int.zero_add])
theorem pay_l0 {l:List S74} {F:List Int} {n:Nat} (hr:Right l F n) (d:Nat): ∀ (i:Nat) (k:Int),i+d=l.length→0≤k→k≤1099511627776 * (i:Int)→
  Ev (fun m=>span_paid.l0 m F k l (l.length:Int) (i:Int)) (k+payS (l.drop i) (F.drop i)):=by
 have hl:=hr.len
 have hl2:=hr.arcs
 induction d with
 |zero=>
  intro i k hi h0 h1
  refine Ev.succ ?_;simp only[span_paid.l0]
  refine Ev.neg (by omega) ?_
  rw[List.drop_of_length_le (show l.length≤i by omega),List.drop_of_length_le (show F.length≤i by omega)]
  exact Ev.done (by simp[payS])
 |succ d ih=>
  intro i k hi h0 h1
  have hn:=hr.nums i (by omega)
  have hb:=pay_mul hn.2.2.1 (by omega) hn.1 hn.2.1
  have e1:rd F (i:Int)=F.getD i 0:=rd_nat F i
  refine Ev.succ ?_;simp only[span_paid.l0]
  refine Ev.pos (by omega) ?_
  refine Ev.pos (by omega) ?_
  refine Ev.pos (by omega) ?_
  refine Ev.pos (by omega) ?_
  rw[e1,wrap_succ (n:=200) (by omega) (by omega),wrap_id (x:=F.getD i 0 * (rd_T74 l i).f3) (by omega) (by omega),wrap_id (x:=k+F.getD i 0 * (rd_T74 l i).f3) (by omega) (by omega)]
  refine Ev.eq (ih (i+1) _ (by omega) (by omega) (by omega)) ?_
  rw[drop_getD l i z74 (by omega),drop_getD F i 0 (by omega),H.payS_cons, ← rdArc_nat]
  omega
theorem pay_ev (n m:Int) (n0:Nat) (b:Bool) (l:List S74) (F:List Int) (hr:Right l F n0):Ev (fun m=>span_paid.f m n b l F) (payS l F):=by
 unfold span_paid.f
 have:=pay_l0 hr l.length 0 0 (by omega) (by omega) (by omega)
 exact Ev.eq this (by rw[List.drop_zero,List.drop_zero,Int.zero_add])
def horErr (h:Int):Int:=if h<0 then 1 else if h>1024 then 2 else 0
def spanErr (n:Int) (l:List S74) (s t h:Int):Int:=if endsErr n l s t=0 then horErr h else endsErr n l s t
theorem hor_ok {h:Int} (e:horErr h=0):0≤h∧h≤1024:=by
 unfold horErr at e
 split at e
 ·cases e
 ·split at e
  ·cases e
  ·omega
theorem spanErr_ok {n:Int} {l:List S74} {s t h:Int} (e:spanErr n l s t h=0):endsErr n l s t=0∧0≤h∧h≤1024:=by
 unfold spanErr at e
 by_cases g:endsErr n l s t=0
 ·rw[if_pos g] at e;exact⟨g,hor_ok e⟩
 ·rw[if_neg g] at e;exact absurd e g
theorem span_asked_ev (n:Int) (b:Bool) (l:List S74) (s t h:Int):Ev (fun k=>span_Asked.f k n b l s t h) (spanErr n l s t h):=by
 unfold span_Asked.f spanErr
 refine Ev.bind (ends_ev n b l s t) ?_
 refine Ev.ite (fun g=> ?_) (fun g=> ?_)
 ·rw[if_pos g]
  have e:span_Horizon.f h=some (horErr h):=by
   unfold span_Horizon.f horErr
   split
   ·rfl
   ·split<;>rfl
  rw[e]
  exact Ev.now _
 ·rw[if_neg g];exact Ev.now _
theorem ref_span_asked_ev (n:Int) (b:Bool) (l:List S74) (s t h:Int):Ev (fun k=>ebbtideref12_Asked.f k n b l s t h) (spanErr n l s t h):=by
 unfold ebbtideref12_Asked.f spanErr
 refine Ev.bind (ref_ends_ev n b l s t) ?_
 refine Ev.ite (fun g=> ?_) (fun g=> ?_)
 ·rw[if_pos g]
  have e:ebbtideref12_Span.f h=some (horErr h):=by
   unfold ebbtideref12_Span.f horErr
   repeat' (first|rfl|split)
   all_goals (first|rfl|omega)
  rw[e]
  exact Ev.now _
 ·rw[if_neg g];exact Ev.now _
def worthR (n:Int) (l:List S74) (s t:Int) (F:List Int) (h:Int):Int × Int:=
 if spanErr n l s t h=0 then(if (valRes n l s t F).2=0 then(wrap64 (wrap64 (wrap64 (h+1) * (valRes n l s t F).1) - payS l F),0) else(0,(valRes n l s t F).2)) else(0,spanErr n l s t h)
theorem worth_ev (n:Int) (b:Bool) (l:List S74) (s t:Int) (F:List Int) (h:Int):Ev (fun k=>span_Worth.f k n b l s t F h) (worthR n l s t F h):=by
 unfold span_Worth.f worthR
 refine Ev.bind (span_asked_ev n b l s t h) ?_
 refine Ev.ite (fun g=> ?_) (fun g=> ?_)
 ·rw[if_pos g]
  refine Ev.bind (stat_value_ev n b l s t F) ?_
  refine Ev.ite (fun g2=> ?_) (fun g2=> ?_)
  ·rw[if_pos g2]
   obtain⟨h1,h2,_⟩:=flow_val g2
   obtain⟨n0,rfl,hr⟩:=right_of h2
   refine Ev.bind (pay_ev n0 n0 n0 b l F hr) ?_
   exact Ev.now _
  ·rw[if_neg g2];exact Ev.now _
 ·rw[if_neg g];exact Ev.now _
theorem ref_worth_ev (n:Int) (b:Bool) (l:List S74) (s t:Int) (F:List Int) (h:Int):Ev (fun k=>ebbtideref12_Worth.f k n b l s t F h) (worthR n l s t F h):=by
 unfold ebbtideref12_Worth.f worthR
 refine Ev.bind (ref_span_asked_ev n b l s t h) ?_
 refine Ev.ite (fun g=> ?_) (fun g=> ?_)
 ·rw[if_pos g]
  refine Ev.bind (ref_value_ev n b l s t F) ?_
  refine Ev.ite (fun g2=> ?_) (fun g2=> ?_)
  ·rw[if_pos g2]
   obtain⟨h1,h2,_⟩:=flow_val g2
   refine Ev.bind (ref_pay_ev n b l F h2) ?_
   exact Ev.now _
  ·rw[if_neg g2];exact Ev.now _
 ·rw[if_neg g];exact Ev.now _
end Go.Proofs.Ytkcpanpdipmmmaa.Q
namespace Go.Proofs.Ytkcpanpdipmmmaa.Q
open Go.RowKit Go.Proofs.YtkcpanpdipmmmaaW.PrintWords Go.Proofs.YtkcpanpdipmmmaaW.PrintLast Go.Proofs.YtkcpanpdipmmmaaW.PrintMore Go.Proofs.Ytkcpanpdipmmmaa.P
open Go.Proofs.Ytkcpanpdipmmmaa.H (endsErr Right right_of IsFlow payS worthS SpanTop fillS fillRes fillS_top)
theorem span_top {l:List S74} {n s t:Nat} {h:Int} (hr:Right l (List.replicate l.length 0) n) (hs:s<n) (ht:t<n) (hst:s≠t) (hH:0≤h):SpanTop l (fillS l n s t h) n s t h:=(fillS_top hr hs ht hst hH).1
theorem bal_bd {l:List S74} {F:List Int} {n s t:Nat} (hf:IsFlow l F n s t) (hs:s<n) (ht:t<n) (hst:s≠t): -209715200≤bal l F s∧bal l F s≤209715200:=by
 have h1:=H.flow_top hf hs hst
 have h2:=H.flow_ends hf hs ht hst
 have h3:=H.flow_top (s:=t) (t:=s) ⟨hf.right,fun v a b c d=>hf.keeps v a b d c⟩ ht (fun e=>hst e.symm)
 omega
theorem times_bd {h v:Int} (h0:0≤h) (h1:h≤1026) (a: -209715200≤v) (b:v≤209715200): -216006656000≤(h+1) * v∧(h+1) * v≤216006656000:=by
 have e1:=Int.mul_le_mul_of_nonneg_left b (show 0≤h+1 by omega)
 have e2:=Int.mul_le_mul_of_nonneg_left a (show 0≤h+1 by omega)
 omega
theorem worth_wrap {l:List S74} {F:List Int} {n s t:Nat} {h:Int} (hf:IsFlow l F n s t) (hs:s<n) (ht:t<n) (hst:s≠t) (h0:0≤h) (h1:h≤1024):wrap64 (wrap64 (wrap64 (h+1) * bal l F s) - payS l F)=worthS l F s (h+1):=by
 obtain⟨b1,b2⟩:=bal_bd hf hs ht hst
 obtain⟨c1,c2⟩:=times_bd h0 (by omega) b1 b2
 have har:=hf.right.arcs
 obtain⟨p1,p2⟩:=pay_bd hf.right l.length 0 (by omega)
 rw[List.drop_zero,List.drop_zero] at p1 p2
 unfold worthS
 rw[wrap_id (x:=h+1) (by omega) (by omega),wrap_id (x:=(h+1) * bal l F s) (by omega) (by omega),wrap_id (by omega) (by omega)]
def sbestR (n:Int) (l:List S74) (s t h:Int):List Int × Int × Int:=
 if spanErr n l s t h=0 then(fillS l n.toNat s.toNat t.toNat h,worthS l (fillS l n.toNat s.toNat t.toNat h) s.toNat (h+1),0) else([],0,spanErr n l s t h)
def smostR (n:Int) (l:List S74) (s t h:Int):Int × Int:=
 if spanErr n l s t h=0 then(worthS l (fillS l n.toNat s.toNat t.toNat h) s.toNat (h+1),0) else(0,spanErr n l s t h)
theorem sbest_ev (n:Int) (b:Bool) (l:List S74) (s t h:Int):Ev (fun k=>span_Best.f k n b l s t h) (sbestR n l s t h):=by
 unfold span_Best.f sbestR
 refine Ev.bind (span_asked_ev n b l s t h) ?_
 by_cases g:spanErr n l s t h=0
 ·rw[if_pos g]
  refine Ev.pos g ?_
  obtain⟨g1,g2,g3⟩:=spanErr_ok g
  refine Ev.call (show span_Fill.f n b l s t h=some (fillRes l n.toNat s.toNat t.toNat h) by unfold span_Fill.f;rw[if_pos ⟨g1,g2⟩]) ?_
  obtain⟨n0,s0,t0,rfl,rfl,rfl,hs,ht,hst,hn,hr⟩:=ends_zero g1
  simp only[Int.toNat_natCast]
  have hf:=(span_top hr hs ht hst g2).ok.flow
  refine Ev.bind (value_ev n0 n0 b l _ hn (flowOk_of hf.right) s0) ?_
  refine Ev.bind (pay_ev n0 n0 n0 b l _ hf.right) ?_
  refine Ev.done ?_
  show (fillS l n0 s0 t0 h,wrap64 (wrap64 (wrap64 (h+1) * bal l (fillS l n0 s0 t0 h) s0) - payS l (fillS l n0 s0 t0 h)),(0:Int))=_
  rw[worth_wrap hf hs ht hst g2 g3]
 ·rw[if_neg g]
  refine Ev.neg g ?_
  exact Ev.now _
theorem smost_ev (n:Int) (b:Bool) (l:List S74) (s t h:Int):Ev (fun k=>span_Most.f k n b l s t h) (smostR n l s t h):=by
 unfold span_Most.f
 refine Ev.bind (sbest_ev n b l s t h) ?_
 refine Ev.done ?_
 unfold sbestR smostR
 split<;>rfl
theorem smostR_nat {l:List S74} {n s t:Nat} {h:Int} (g:spanErr (n:Int) l (s:Int) (t:Int) h=0):smostR n l s t h=(worthS l (fillS l n s t h) s (h+1),0):=by
 unfold smostR;rw[if_pos g];simp only[Int.toNat_natCast]
def line:List S74:=[(⟨0,1,2,1⟩:S74),(⟨1,2,2,1⟩:S74)]
theorem line_right:Right line (List.replicate line.length 0) 3:=by
 obtain⟨n0,h1,h2⟩:=right_of (n:=3) (l:=line) (F:=List.replicate line.length 0) (by decide +kernel)
 obtain rfl:n0=3:=by omega
 exact h2
theorem line_top (h:Int) (h0:0≤h):SpanTop line (fillS line 3 0 2 h) 3 0 2 h:=span_top line_right (by decide) (by decide) (by decide) h0
theorem line_flow:IsFlow line [2,2] 3 0 2:=by
 obtain⟨n0,h1,h2⟩:=right_of (n:=3) (l:=line) (F:=[2,2]) (by decide +kernel)
 obtain rfl:n0=3:=by omega
 refine⟨h2,fun v a b c d=> ?_⟩
 obtain rfl:v=1:=by omega
 decide +kernel
theorem line_worth {F:List Int} (hf:IsFlow line F 3 0 2) (c:Int): ∃ x:Int,0≤x∧x≤2∧worthS line F 0 c=c * x - 2 * x:=by
 have hl:F.length=2:=hf.right.len
 match F,hl with
 |[x,y],_=>
  have n0:=hf.right.nums 0 (by decide)
  have hk:=hf.keeps 1 (by decide) (by decide) (by decide) (by decide)
  have e1:bal line [x,y] 1=(0 - x)+((y - 0)+0):=rfl
  have e0:bal line [x,y] ((0:Nat):Int)=(x - 0)+((0 - 0)+0):=rfl
  have ep:payS line [x,y]=x * 1+(y * 1+0):=rfl
  have q:(0:Int)≤x∧x≤2:=by
   have e2:(rd_T74 line ((0:Nat):Int)).f2=2:=rfl
   have e3:[x,y].getD 0 0=x:=rfl
   rw[e2,e3] at n0
   omega
  refine⟨x,q.1,q.2,?_⟩
  unfold worthS
  rw[e0,ep]
  rw[e1] at hk
  have:x - 0+(0 - 0+0)=x:=by omega
  rw[this]
  omega
theorem awake12_ev:Ev (fun k=>ebbtidelaw12_awake.f k) true:=by
 have e1:spanErr 3 line 0 2 1=0:=by decide +kernel
 have e2:spanErr 3 line 0 2 5=0:=by decide +kernel
 have m1:smostR 3 line 0 2 1=(0,0):=by
  have h_:smostR 3 line 0 2 1=(worthS line (fillS line 3 0 2 1) 0 (1+1),0):=smostR_nat (n:=3) (l:=line) (s:=0) (t:=2) e1
  obtain⟨x,x0,x1,hx⟩:=line_worth (line_top 1 (by decide)).ok.flow (1+1)
  rw[h_,hx]
  have:(1+1) * x - 2 * x=0:=by omega
  rw[this]
 have m2:smostR 3 line 0 2 5=(8,0):=by
  have h_:smostR 3 line 0 2 5=(worthS line (fillS line 3 0 2 5) 0 (5+1),0):=smostR_nat (n:=3) (l:=line) (s:=0) (t:=2) e2
  obtain⟨x,x0,x1,hx⟩:=line_worth (line_top 5 (by decide)).ok.flow (5+1)
  have hle:=(line_top 5 (by decide)).le line_flow (by decide) (by decide) (by decide)
  have e8:worthS line [2,2] 0 (5+1)=8:=by decide +kernel
  rw[e8,hx] at hle
  rw[h_,hx]
  have:(5+1) * x - 2 * x=8:=by omega
  rw[this]
 have m3:worthR 3 line 0 2 [1,1] 2=(1,0):=by decide +kernel
 have m4:smostR 3 line 0 2 (-1)=(0,1):=by
  have e4:spanErr 3 line 0 2 (-1)=1:=by decide +kernel
  unfold smostR
  rw[e4]
  rfl
 unfold ebbtidelaw12_awake.f
 refine Ev.let_ ?_
 refine Ev.bind (smost_ev 3 false line 0 2 1) ?_
 refine Ev.bind (smost_ev 3 false line 0 2 5) ?_
 refine Ev.bind (worth_ev 3 false line 0 2 [1,1] 2) ?_
 refine Ev.bind (smost_ev 3 false line 0 2 (-1)) ?_
 rw[m1,m2,m3,m4]
 refine Ev.pos rfl ?_
 refine Ev.pos rfl ?_
 refine Ev.pos rfl ?_
 refine Ev.pos rfl ?_
 refine Ev.pos rfl ?_
 refine Ev.pos rfl ?_
 exact Ev.now _
end Go.Proofs.Ytkcpanpdipmmmaa.Q
namespace Go.Proofs.Ytkcpanpdipmmmaa.Q
open Go.RowKit Go.Proofs.YtkcpanpdipmmmaaW.PrintWords Go.Proofs.YtkcpanpdipmmmaaW.PrintLast Go.Proofs.YtkcpanpdipmmmaaW.PrintMore Go.Proofs.Ytkcpanpdipmmmaa.P
theorem spanWorths_ev (n:Int) (b:Bool) (l:List S74) (s t:Int) (F:List Int) (h:Int):Ev (fun k=>ebbtidelaw12_SpanWorths.f k n b l s t F h) true:=by
 unfold ebbtidelaw12_SpanWorths.f
 refine Ev.bind (worth_ev n b l s t F h) ?_
 refine Ev.bind (ref_worth_ev n b l s t F h) ?_
 refine Ev.bind awake12_ev ?_
 refine Ev.pos rfl ?_
 refine Ev.pos rfl ?_
 exact Ev.done (by simp)
end Go.Proofs.Ytkcpanpdipmmmaa.Q
