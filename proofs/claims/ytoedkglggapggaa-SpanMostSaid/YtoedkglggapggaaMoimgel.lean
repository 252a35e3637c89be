/- What the law's row needs of these texts, taken out of them by wip/tool/mini.py: QFromWalk QCostLaw QByLaw QSpanStep QSpanRun QQueLaw QRawMem QQueGrow QLeast QReverseWalk QLevelDef QFarsWalk QFastWalk QFlowWalk P34 QEndsLaw QRightOf QEndsRight QFillMem QPhaseWalk QFillWalk QSpanFill P25 P26 P27 P28 P29 P35 P36 P40 P42. -/
import Derived.Test.YtoedkglggapggaaMlghifl
import Derived.Test.YtoedkglggapggaaMnlbhhf
import Derived.Test.YtoedkglggapggaaMhjfkpj
import Derived.RegionTactic
import Derived.ChangeAlike
import Derived.BigRegion
import Derived.LoopTactic
import Derived.WalkKit
import Derived.WalkMore
import Derived.Deep.RegionHeld3
import Derived.Deep.RegionLaw
import Derived.Deep.AppendLies
import Derived.IntWalk
import Derived.Laws.IdiomCopy
import Derived.Test.YtoedkglggapggaaProg
import Derived.Laws.CopyOwn
import Derived.Deep.DeepCutAuto
import Derived.Lib.SliceRun
set_option linter.unusedVariables false
set_option linter.unusedSimpArgs false
open Go.RowKit Go.Proofs.YtoedkglggapggaaW.PrintWords Go.Proofs.YtoedkglggapggaaW.PrintLast Go.Proofs.YtoedkglggapggaaW.PrintMore
namespace Go.Proofs.Ytoedkglggapggaa
namespace H
open Go.RowKit Go.Proofs.YtoedkglggapggaaW.PrintWords Go.Proofs.YtoedkglggapggaaW.PrintLast Go.Proofs.YtoedkglggapggaaW.PrintMore P
theorem heap74:Kd.Heap k50:=Kd.heap_iso _ (Kd.heap_pair (Kd.heap_int _) (Kd.heap_pair (Kd.heap_int _) (Kd.heap_pair (Kd.heap_int _) (Kd.heap_int _))))
def startR (n s:Nat):Rch:=⟨List.replicate n 0,(List.replicate n false).set s true,List.replicate n z79,false⟩
theorem startR_ok (n s:Nat):(startR n s).Ok n:=⟨by simp[startR],by simp[startR],by simp[startR]⟩
theorem bd_zero (n:Nat):Bd (List.replicate n 0) 0:=by
 intro v;have:(List.replicate n (0:Int)).getD v 0=0:=by
  rw[List.getD_eq_getElem?_getD,List.getElem?_replicate];split<;>rfl
 rw[this];omega
set_option maxHeartbeats 2000000 in
set_option maxRecDepth 100000 in
theorem from_calls (n0:Nat) (Zc:Bool) (A2:Option Addr) (c2:Nat) (l:List S50) (A1:Option Addr) (c1:Nat) (F:List Int) (s:Nat) (w:World) (hR:Right l F n0) (hs:s<n0) (h2:Kd.C k50 w A2 l.length l) (hc2:l.length≤c2) (h3:Kd.C (Kd.int .i64) w A1 F.length F) (hc1:F.length≤c1):
  Calls Try.prog 67 #[.agg #[.int .i64 n0, .bool Zc, .slice A2 l.length c2], .slice A1 F.length c1, .int .i64 s] w fun e w'=> ∃ v0 v1 v2:Value,e= .returned (.tuple #[.agg #[v0,v1,v2], .bool (goesR l F n0 (n0+1) (startR n0 s)).2])∧
   Kd.R (Kd.int .i64) 3 w' w.heap.size (fun _=>True) v0 (goesR l F n0 (n0+1) (startR n0 s)).1.D∧Kd.R Kd.bool 4 w' w.heap.size (fun _=>True) v1 (goesR l F n0 (n0+1) (startR n0 s)).1.I∧Kd.R k79 79 w' w.heap.size (fun _=>True) v2 (goesR l F n0 (n0+1) (startR n0 s)).1.B∧Below w.heap.size w w':=by
 obtain⟨XT,hXT⟩: ∃ y_,y_=goesR l F n0 (n0+1) (startR n0 s):=⟨_,rfl⟩;rw[← hXT];have HXT:=Aside0.mk hXT;clear hXT;have hu24:=Try.underlying24;have hu109:=Try.underlying69;have hu118:=Try.underlying107;have hn0:0<n0:=hR.pos;have hn50:n0≤50:=hR.fifty;have HR:=Aside0.mk hR;have H2:=Aside0.mk h2;have H3:=Aside0.mk h3;have HC2:=Aside0.mk hc2;have HC1:=Aside0.mk hc1;clear hR h2 h3 hc2 hc1;have HB:=Aside0.mk (Below.refl w.heap.size w);go_enter Try.func67,Try.ntmps67;go_wp2_with (first|((with_reducible refine gate_dst (N:=3) rfl ?_);refine box_event ?hg (N:=3) ?hd (cs:= #[.int .i64 n0, .bool Zc, .slice A2 l.length c2]) (t:=24) ?hr ?_;(case hd=>rfl);(case hg=>rfl);(case hr=>first|(go_simp;done)|(go_simp;rfl));intro g3 hg w4 Zf hb;have n0_:=Aside0.mk (below_step HB.out hb);have B3:=Aside0.mk Zf;clear HB;have HB:=n0_;clear n0_ hb Zf hg;have hb0:w4.cell? ⟨g3,0,none⟩=some (.int .i64 n0):=(blk_cell B3.out 0).trans rfl;have hb1:w4.cell? ⟨g3,1,none⟩=some (.bool Zc):=(blk_cell B3.out 1).trans rfl;have hb2:w4.cell? ⟨g3,2,none⟩=some (.slice A2 l.length c2):=(blk_cell B3.out 2).trans rfl)|((with_reducible refine gate_dst (N:=6) rfl ?_);refine box_event ?hg (N:=6) ?hd (cs:= #[.slice none 0 0, .slice none 0 0, .slice none 0 0]) (t:=69) ?hr ?_;(case hd=>rfl);(case hg=>rfl);(case hr=>first|(go_simp;done)|(go_simp;rfl));intro g6 hg w5 Zf hb;have GE6:Aside0 (w.heap.size≤g6):=⟨by rw[hg];exact HB.out.size⟩;have n0_:=Aside0.mk (below_step HB.out hb);have n1_:=Aside0.mk (blk_below B3.out hb);have B6:=Aside0.mk Zf;clear HB B3 hb0 hb1 hb2;have HB:=n0_;have B3:=n1_;clear n0_ n1_ hb Zf hg;have hb0:w5.cell? ⟨g3,0,none⟩=some (.int .i64 n0):=(blk_cell B3.out 0).trans rfl;have hb1:w5.cell? ⟨g3,1,none⟩=some (.bool Zc):=(blk_cell B3.out 1).trans rfl;have hb2:w5.cell? ⟨g3,2,none⟩=some (.slice A2 l.length c2):=(blk_cell B3.out 2).trans rfl)|(go_at_call 68;refine(at_calls n0 Zc A2 c2 l A1 c1 F.length _ (Kd.C_below H2.out HB.out) HC2.out (by omega) (by omega) (by have:=HR.out.arcs;omega) (fun k hk=>(HR.out.ends k hk).1) (fun k hk=>(HR.out.ends k hk).2)).mono ?_;rintro e_ w6 ⟨vr,rfl,hS,hb⟩;obtain⟨A4,c4,e4⟩:=Kd.S_slice hS;subst e4;rw[rowsAt_len];have n0_:=Aside0.mk (below_step HB.out hb);have n1_:=Aside0.mk (blk_below B3.out hb);have n2_:=Aside0.mk (blk_below B6.out hb);have HS:=Aside0.mk hS;have HSZ:Aside0 (w.heap.size≤w5.heap.size):=⟨HB.out.size⟩;clear HB B3 B6 hb0 hb1 hb2;have HB:=n0_;have B3:=n1_;have B6:=n2_;clear n0_ n1_ n2_ hb hS)|((with_reducible refine gate_dst (N:=8) rfl ?_);refine box_event ?hg (N:=8) ?hd (cs:= #[.int .i64 0, .bool false, .slice none 0 0, .slice none 0 0, .slice none 0 0]) (t:=107) ?hr ?_;(case hd=>rfl);(case hg=>rfl);(case hr=>first|(go_simp;done)|(go_simp;rfl));intro g8 hg w7 Zf hb;have GE8:Aside0 (w.heap.size≤g8):=⟨by rw[hg];exact HB.out.size⟩;have n0_:=Aside0.mk (below_step HB.out hb);have n1_:=Aside0.mk (blk_below B3.out hb);have n2_:=Aside0.mk (blk_below B6.out hb);have n3_:=Aside0.mk (Kd.S_below HS.out hb);have B8:=Aside0.mk Zf;have HNE:Aside0 (g3≠g8∧g6≠g8):=⟨by rw[hg];exact⟨Nat.ne_of_lt (blk_lt B3.out),Nat.ne_of_lt (blk_lt B6.out)⟩⟩;clear HB B3 B6 HS;have HB:=n0_;have B3:=n1_;have B6:=n2_;have HS:=n3_;clear n0_ n1_ n2_ n3_ hb Zf hg;have hz0:w7.cell? ⟨g8,0,none⟩=some (.int .i64 0):=(blk_cell B8.out 0).trans rfl;have hz1:w7.cell? ⟨g8,1,none⟩=some (.bool false):=(blk_cell B8.out 1).trans rfl;have hz2:w7.cell? ⟨g8,2,none⟩=some (.slice none 0 0):=(blk_cell B8.out 2).trans rfl;have hz3:w7.cell? ⟨g8,3,none⟩=some (.slice none 0 0):=(blk_cell B8.out 3).trans rfl;have hz4:w7.cell? ⟨g8,4,none⟩=some (.slice none 0 0):=(blk_cell B8.out 4).trans rfl;have hf0:=blk_frozen B8.out 0;have hf1:=blk_frozen B8.out 1;have hf2:=blk_frozen B8.out 2;have hf3:=blk_frozen B8.out 3;have hf4:=blk_frozen B8.out 4)|((with_reducible refine gate_store (t:=107) (p:=8) rfl ?_);refine store_event (t:=107) (p:=8) (v:= ?vo) (w1:=(((((w7.setCell ⟨g8,0,none⟩ (.int .i64 n0)).setCell ⟨g8,1,none⟩ (.bool Zc)).setCell ⟨g8,2,none⟩ (.slice A2 l.length c2)).setCell ⟨g8,3,none⟩ (.slice A1 F.length c1)).setCell ⟨g8,4,none⟩ (.slice A4 n0 c4))) ?hg ?ho ?hn ?hr ?_;(case ho=>rfl);(case hg=>rfl);(case hn=>rfl);(case hr=>first|(go_simp;done)|(go_simp;rfl));intro w9 hw;have m0_:Aside0 (w9.heap[g8]? =some (.cells #[.int .i64 n0, .bool Zc, .slice A2 l.length c2, .slice A1 F.length c1, .slice A4 n0 c4] 107 (0,0))):=⟨by rw[hw];exact blk_put (blk_put (blk_put (blk_put (blk_put (B8.out) 0 _ rfl) 1 _ rfl) 2 _ rfl) 3 _ rfl) 4 _ rfl⟩;have m1_:Aside0 (w9.heap[g3]? =some (.cells #[.int .i64 n0, .bool Zc, .slice A2 l.length c2] 24 (0,0))):=⟨by rw[hw];exact blk_far (blk_far (blk_far (blk_far (blk_far (B3.out) HNE.out.1 _) HNE.out.1 _) HNE.out.1 _) HNE.out.1 _) HNE.out.1 _⟩;have m2_:Aside0 (w9.heap[g6]? =some (.cells #[.slice none 0 0, .slice none 0 0, .slice none 0 0] 69 (0,0))):=⟨by rw[hw];exact blk_far (blk_far (blk_far (blk_far (blk_far (B6.out) HNE.out.2 _) HNE.out.2 _) HNE.out.2 _) HNE.out.2 _) HNE.out.2 _⟩;have m3_:Aside0 (Below w.heap.size w w9):=⟨by rw[hw];exact below_set (below_set (below_set (below_set (below_set (HB.out) GE8.out) GE8.out) GE8.out) GE8.out) GE8.out⟩;have m4_:Aside0 (Kd.S (Kd.slice 79 k79) 67 w9 w5.heap.size (fun _=>True) (.slice A4 n0 c4) (rowsAt l n0 n0)):=⟨by rw[hw];rw[rowsAt_len] at HS;exact Kd.S_set (Kd.S_set (Kd.S_set (Kd.S_set (Kd.S_set (HS.out) (B8.out) (by decide) 0 (.int .i64 n0)) (blk_put (B8.out) 0 (.int .i64 n0) rfl) (by decide) 1 (.bool Zc)) (blk_put (blk_put (B8.out) 0 (.int .i64 n0) rfl) 1 (.bool Zc) rfl) (by decide) 2 (.slice A2 l.length c2)) (blk_put (blk_put (blk_put (B8.out) 0 (.int .i64 n0) rfl) 1 (.bool Zc) rfl) 2 (.slice A2 l.length c2) rfl) (by decide) 3 (.slice A1 F.length c1)) (blk_put (blk_put (blk_put (blk_put (B8.out) 0 (.int .i64 n0) rfl) 1 (.bool Zc) rfl) 2 (.slice A2 l.length c2) rfl) 3 (.slice A1 F.length c1) rfl) (by decide) 4 (.slice A4 n0 c4)⟩;clear hw B8 B3 B6 HB HS HNE hz0 hz1 hz2 hz3 hz4 hf0 hf1 hf2 hf3 hf4;have B8:=m0_;have B3:=m1_;have B6:=m2_;have HB:=m3_;have HS:=m4_;clear m0_ m1_ m2_ m3_ m4_;have hb0:w9.cell? ⟨g3,0,none⟩=some (.int .i64 n0):=(blk_cell B3.out 0).trans rfl)|fail);refine start_ (n:=12) (S:=fun w'=>w'.cell? ⟨g3,0,none⟩=some (.int .i64 n0)) (ds:=[11]) #[false,false,false,false,false,false,false,false,false,false,false,false] (by kernel_rfl) rfl rfl hb0 (fun hHeld=> ?_);have m_HB:=Aside0.mk (below_step HB.out (below_drew (Below.refl _ _)));have m_B3:=Aside0.mk (blk_below B3.out (below_drew (Below.refl _ _)));have m_B6:=Aside0.mk (blk_below B6.out (below_drew (Below.refl _ _)));have m_B8:=Aside0.mk (blk_below B8.out (below_drew (Below.refl _ _)));have m_HS:=Aside0.mk (Kd.S_below HS.out (below_drew (Below.refl _ _)));clear hb0 HB B3 B6 B8 HS;have HB:=m_HB;clear m_HB;have B3:=m_B3;clear m_B3;have B6:=m_B6;clear m_B6;have B8:=m_B8;clear m_B8;have HS:=m_HS;clear m_HS;generalize w9.drew=w14 at hHeld HB B3 B6 B8 HS ⊢;have HV:=Aside0.mk (Kd.V_mono (Kd.V_bound (Kd.S_V (base':=0) HS.out)) (fun k hk=>hk.2) (ok':=fun k=>k<w14.heap.size));clear HS;have S14:Aside0 (w.heap.size≤w14.heap.size):=⟨HB.out.size⟩;have L3:Aside0 (g3<w14.heap.size):=⟨blk_lt B3.out⟩;have L6:Aside0 (g6<w14.heap.size):=⟨blk_lt B6.out⟩;have L8:Aside0 (g8<w14.heap.size):=⟨blk_lt B8.out⟩;refine pure_ (i:=0) (N:=some 13) (v:= ?_) (a':= ?_) #[true,false,false,false,false,false,false,false,false,false,false,false] rfl rfl (by kernel_rfl) (fun _ _ _ h=>h) (Or.inl ⟨by rfl,?_⟩) ?_ ?_
 rotate_left
 ·intro w'
  go_simp
  with_reducible rfl
 rotate_left
 ·simp only[Act.put,List.setIfInBounds_toArray,List.set_cons_zero,List.set_cons_succ,i64_w,i32_w]
  rfl
 refine pure_ (i:=3) (N:=some 16) (v:= ?_) (a':= ?_) #[true,false,false,true,false,false,false,false,false,false,false,false] rfl rfl (by kernel_rfl) (fun _ _ _ h=>h) (Or.inl ⟨by rfl,?_⟩) ?_ ?_
 rotate_left
 ·intro w'
  go_simp
  with_reducible rfl
 rotate_left
 ·simp only[Act.put,List.setIfInBounds_toArray,List.set_cons_zero,List.set_cons_succ,i64_w,i32_w]
  rfl
 refine pure_ (i:=6) (N:=some 19) (v:= ?_) (a':= ?_) #[true,false,false,true,false,false,true,false,false,false,false,false] rfl rfl (by kernel_rfl) (fun _ _ _ h=>h) (Or.inl ⟨by rfl,?_⟩) ?_ ?_
 rotate_left
 ·intro w'
  go_simp
  with_reducible rfl
 rotate_left
 ·simp only[Act.put,List.setIfInBounds_toArray,List.set_cons_zero,List.set_cons_succ,i64_w,i32_w]
  rfl
 refine take_ (i:=1) (N:=some 14) (v:= ?_) (a':= ?_) #[true,true,false,true,false,false,true,false,false,false,false,false] rfl rfl (by kernel_rfl) (fun _ _ _ h=>h) (Or.inl ⟨by rfl,?_⟩) hHeld ?_ ?_
 rotate_left
 ·rintro w' s0
  go_simp
  with_reducible rfl
 rotate_left
 ·simp only[Act.put,List.setIfInBounds_toArray,List.set_cons_zero,List.set_cons_succ,i64_w,i32_w]
  rfl
 refine take_ (i:=4) (N:=some 17) (v:= ?_) (a':= ?_) #[true,true,false,true,true,false,true,false,false,false,false,false] rfl rfl (by kernel_rfl) (fun _ _ _ h=>h) (Or.inl ⟨by rfl,?_⟩) hHeld ?_ ?_
 rotate_left
 ·rintro w' s0
  go_simp
  with_reducible rfl
 rotate_left
 ·simp only[Act.put,List.setIfInBounds_toArray,List.set_cons_zero,List.set_cons_succ,i64_w,i32_w]
  rfl
 refine take_ (i:=7) (N:=some 20) (v:= ?_) (a':= ?_) #[true,true,false,true,true,false,true,true,false,false,false,false] rfl rfl (by kernel_rfl) (fun _ _ _ h=>h) (Or.inl ⟨by rfl,?_⟩) hHeld ?_ ?_
 rotate_left
 ·rintro w' s0
  go_simp
  with_reducible rfl
 rotate_left
 ·simp only[Act.put,List.setIfInBounds_toArray,List.set_cons_zero,List.set_cons_succ,i64_w,i32_w]
  rfl
 refine join_ (σ:=Value × Value × Value × Nat) 1 #[true,true,true,true,true,true,true,true,true,true,true,false] (fun s_=>[(15,s_.1),(18,s_.2.1),(21,s_.2.2.1),(22, .agg #[s_.1,s_.2.1,s_.2.2.1]),(9, .pointer (some ⟨s_.2.2.2,0,none⟩))]) (fun s_ w'=>w'.cell? ⟨g3,0,none⟩=some (.int .i64 n0)∧Below w14.heap.size w14 w'∧Kd.R (Kd.int .i64) 3 w' w14.heap.size (fun _=>True) s_.1 (List.replicate n0 0)∧Kd.R Kd.bool 4 w' w14.heap.size (fun _=>True) s_.2.1 (List.replicate n0 false)∧Kd.R k79 79 w' w14.heap.size (fun _=>True) s_.2.2.1 (List.replicate n0 z79)∧w14.heap.size≤s_.2.2.2∧w'.heap[s_.2.2.2]? =some (.cells #[.slice none 0 0, .slice none 0 0, .slice none 0 0] 69 (0,0))) ?_ ?_
 rotate_left
 ·intro hCont
  refine makers_ (fuel:=2) 4 #[true,true,true,true,true,true,true,true,true,false,true,false] [10] #[true,true,true,true,true,true,true,true,true,false,false,false] [⟨2,15,(fun v w'=>Kd.R (Kd.int .i64) 3 w' w14.heap.size (fun _=>True) v (List.replicate n0 0))⟩,⟨5,18,(fun v w'=>Kd.R Kd.bool 4 w' w14.heap.size (fun _=>True) v (List.replicate n0 false))⟩,⟨8,21,(fun v w'=>Kd.R k79 79 w' w14.heap.size (fun _=>True) v (List.replicate n0 z79))⟩,⟨10,9,(fun v w'=> ∃ g,v= .pointer (some ⟨g,0,none⟩)∧w14.heap.size≤g∧w'.heap[g]? =some (.cells #[.slice none 0 0, .slice none 0 0, .slice none 0 0] 69 (0,0)))⟩] rfl (by simp) (by simp) ?_ ?_ (by kernel_rfl) hHeld ?_ ?_
  ·intro m hm
   simp only[List.mem_cons,List.not_mem_nil,or_false] at hm;rcases hm with rfl|rfl|rfl|rfl
   ·refine⟨_,rfl,rfl,by simp,fun a' w' K he hS hb hK=> ?_⟩
    refine Kd.R_make_step (Kd.int .i64) (w0:=w') w14.heap.size 3 (by rfl) (N:=15) rfl 31 (.tmp 14) (.tmp 14) rfl (n0:Int) ((he 14 (by simp)).trans rfl) ((he 14 (by simp)).trans rfl) Try.underlying31 (.int .i64 0) 8 info3 rfl (by decide) (by omega) 0 (ok:=fun _=>True) (okp:=fun _=>False) ?hz (fun _ hk=>hk.elim) trivial (by omega) (by rw[Int.toNat_natCast];omega) (Below.refl _ _) hb.size (fun v1 w1 hr hb1 hg hat=> ?_)
    case hz=>rfl
    rw[Int.toNat_natCast] at hr;have hbb:Below w'.heap.size w' w1:=⟨hg.os,hg.tape,hg.output,hg.size,fun k hk=>hg.block k hk (by simp)⟩;exact hK v1 w1 (pw_cell_below hbb hS) hbb hr
   ·refine⟨_,rfl,rfl,by simp,fun a' w' K he hS hb hK=> ?_⟩
    refine Kd.R_make_step Kd.bool (w0:=w') w14.heap.size 4 (by rfl) (N:=18) rfl 38 (.tmp 17) (.tmp 17) rfl (n0:Int) ((he 17 (by simp)).trans rfl) ((he 17 (by simp)).trans rfl) Try.underlying38 (.bool false) 1 info4 rfl (by decide) (by omega) false (ok:=fun _=>True) (okp:=fun _=>False) ?hz (fun _ hk=>hk.elim) trivial (by omega) (by rw[Int.toNat_natCast];omega) (Below.refl _ _) hb.size (fun v1 w1 hr hb1 hg hat=> ?_)
    case hz=>rfl
    rw[Int.toNat_natCast] at hr;have hbb:Below w'.heap.size w' w1:=⟨hg.os,hg.tape,hg.output,hg.size,fun k hk=>hg.block k hk (by simp)⟩;exact hK v1 w1 (pw_cell_below hbb hS) hbb hr
   ·refine⟨_,rfl,rfl,by simp,fun a' w' K he hS hb hK=> ?_⟩
    refine Kd.R_make_step k79 (w0:=w') w14.heap.size 79 (by rfl) (N:=21) rfl 67 (.tmp 20) (.tmp 20) rfl (n0:Int) ((he 20 (by simp)).trans rfl) ((he 20 (by simp)).trans rfl) Try.underlying67 (.agg #[(.int .i64 0),(.bool false)]) 16 info79 rfl (by decide) (by omega) z79 (ok:=fun _=>True) (okp:=fun _=>False) ?hz (fun _ hk=>hk.elim) trivial (by omega) (by rw[Int.toNat_natCast];omega) (Below.refl _ _) hb.size (fun v1 w1 hr hb1 hg hat=> ?_)
    case hz=>exact k79_mkM _ _ _ z79
    rw[Int.toNat_natCast] at hr;have hbb:Below w'.heap.size w' w1:=⟨hg.os,hg.tape,hg.output,hg.size,fun k hk=>hg.block k hk (by simp)⟩;exact hK v1 w1 (pw_cell_below hbb hS) hbb hr
   ·refine⟨_,rfl,rfl,by simp,fun a' w' K he hS hb hK=> ?_⟩
    refine box_step ?hg (N:=9) ?hd (cs:= #[.slice none 0 0, .slice none 0 0, .slice none 0 0]) (t:=69) ?hr ?_;(case hd=>rfl);(case hg=>rfl);(case hr=>first|(go_simp;done)|(go_simp;rfl));intro g hg w1 Zf hbb;exact hK _ w1 (pw_cell_below hbb hS) hbb ⟨g,rfl,by rw[hg];exact hb.size,Zf⟩
  ·intro m hm
   simp only[List.mem_cons,List.not_mem_nil,or_false] at hm;rcases hm with rfl|rfl|rfl|rfl
   ·exact fun v w1 w2 hb hg=>Kd.R_below hg hb
   ·exact fun v w1 w2 hb hg=>Kd.R_below hg hb
   ·exact fun v w1 w2 hb hg=>Kd.R_below hg hb
   ·rintro v w1 w2 hb ⟨g,e,h1,h2⟩
    exact⟨g,e,h1,blk_below h2 hb⟩
  ·skip
   intro vs w15 hb15 hHeld hG;have p0:=hG _ (List.mem_cons_self ..);have p1:=hG _ (List.mem_cons_of_mem _ (List.mem_cons_self ..));have p2:=hG _ (List.mem_cons_of_mem _ (List.mem_cons_of_mem _ (List.mem_cons_self ..)));have p3:=hG _ (List.mem_cons_of_mem _ (List.mem_cons_of_mem _ (List.mem_cons_of_mem _ (List.mem_cons_self ..))));clear hG;dsimp only at p0 p1 p2;obtain⟨A0,k0,e0⟩:=Kd.R_slice p0;obtain⟨A1_,k1,e1⟩:=Kd.R_slice p1;obtain⟨A2_,k2,e2⟩:=Kd.R_slice p2;rw[List.length_replicate] at e0 e1 e2;obtain⟨g_,e3,p3a,p3b⟩:=p3;dsimp only at e3;refine norm_ (a':= ?_) ?_ ?_
   rotate_left
   ·simp only[List.map_cons,List.map_nil,List.filter_cons,List.filter_nil,putAll,Act.put,List.setIfInBounds_toArray,List.set_cons_zero,List.set_cons_succ,e0,e1,e2,e3]
    rfl
   rw[e0] at p0;rw[e1] at p1;rw[e2] at p2;refine pure_ (i:=9) (N:=some 22) (v:= ?_) (a':= ?_) #[true,true,true,true,true,true,true,true,true,true,true,false] rfl rfl (by kernel_rfl) (fun _ _ _ h=>h) (Or.inl ⟨by rfl,?_⟩) ?_ ?_
   rotate_left
   ·intro w'
    go_simp
    with_reducible rfl
   rotate_left
   ·simp only[Act.put,List.setIfInBounds_toArray,List.set_cons_zero,List.set_cons_succ,i64_w,i32_w]
    rfl
   exact norm_ (by(simp only[putAll,Act.put,List.setIfInBounds_toArray,List.set_cons_zero,List.set_cons_succ])<;>rfl) (hCont (.slice A0 n0 k0, .slice A1_ n0 k1, .slice A2_ n0 k2,g_) _ ⟨hHeld,hb15,p0,p1,p2,p3a,p3b⟩)
  ·skip
   intro vs w15 hb15 hHeld hG;have p0:=hG _ (List.mem_cons_self ..) (by simp);have p1:=hG _ (List.mem_cons_of_mem _ (List.mem_cons_self ..)) (by simp);have p2:=hG _ (List.mem_cons_of_mem _ (List.mem_cons_of_mem _ (List.mem_cons_self ..))) (by simp);clear hG;dsimp only at p0 p1 p2;obtain⟨A0,k0,e0⟩:=Kd.R_slice p0;obtain⟨A1_,k1,e1⟩:=Kd.R_slice p1;obtain⟨A2_,k2,e2⟩:=Kd.R_slice p2;rw[List.length_replicate] at e0 e1 e2;show wpAnyLast _ _ _ _ _ _ 3 _ _ _;refine norm_ (a':= ?_) ?_ ?_
   rotate_left
   ·show putAll _ [(15,vs 15),(18,vs 18),(21,vs 21)]=_
    simp only[e0,e1,e2,putAll,Act.put,List.setIfInBounds_toArray,List.set_cons_zero,List.set_cons_succ];rfl
   rw[e0] at p0;rw[e1] at p1;rw[e2] at p2;refine pure_ (i:=9) (N:=some 22) (v:= ?_) (a':= ?_) #[true,true,true,true,true,true,true,true,true,true,false,false] rfl rfl (by kernel_rfl) (fun _ _ _ h=>h) (Or.inl ⟨by rfl,?_⟩) ?_ ?_
   rotate_left
   ·intro w'
    go_simp
    with_reducible rfl
   rotate_left
   ·simp only[Act.put,List.setIfInBounds_toArray,List.set_cons_zero,List.set_cons_succ,i64_w,i32_w]
    rfl
   refine one_ (i:=10) (N:=some 9) #[true,true,true,true,true,true,true,true,true,true,true,false] rfl rfl (by kernel_rfl) (by decide) (fun K hK=> ?_);refine box_step ?hg (N:=9) ?hd (cs:= #[.slice none 0 0, .slice none 0 0, .slice none 0 0]) (t:=69) ?hr ?_;(case hd=>rfl);(case hg=>rfl);(case hr=>first|(go_simp;done)|(go_simp;rfl));intro g_ hg w16 Zf hbb;refine hK.out _ _ (pw_cell_below hbb hHeld) (fun hHeld=> ?_);exact norm_ (by(simp only[putAll,Act.put,List.setIfInBounds_toArray,List.set_cons_zero,List.set_cons_succ])<;>rfl) (hCont (.slice A0 n0 k0, .slice A1_ n0 k1, .slice A2_ n0 k2,g_) _ ⟨hHeld,below_then hb15 hb15.size hbb,Kd.R_below p0 hbb,Kd.R_below p1 hbb,Kd.R_below p2 hbb,by rw[hg];exact hb15.size,Zf⟩)
 rintro⟨v0,v1,v2,g9⟩ w15 ⟨hHeld,hb15,p0,p1,p2,p3a,p3b⟩;dsimp only at p0 p1 p2 p3a p3b;refine norm_ (a':= ?_) ?_ ?_
 rotate_left
 ·simp only[putAll,Act.put,List.setIfInBounds_toArray,List.set_cons_zero,List.set_cons_succ]
  rfl
 have m_HB:=Aside0.mk (below_step HB.out hb15);have m_B3:=Aside0.mk (blk_below B3.out hb15);have m_B6:=Aside0.mk (blk_below B6.out hb15);have m_B8:=Aside0.mk (blk_below B8.out hb15);have m_HV:=Aside0.mk (Kd.V_below HV.out hb15);clear hb15 HB B3 B6 B8 HV;have HB:=m_HB;clear m_HB;have B3:=m_B3;clear m_B3;have B6:=m_B6;clear m_B6;have B8:=m_B8;clear m_B8;have HV:=m_HV;clear m_HV;obtain⟨gd,cd,e0,q0,q0b,_,_⟩:=Kd.R_form p0 (by rw[List.length_replicate];exact hn0);obtain⟨gi,ci,e1,q1,q1b,_,_⟩:=Kd.R_form p1 (by rw[List.length_replicate];exact hn0);obtain⟨gb,cb,e2,q2,q2b,_,_⟩:=Kd.R_form p2 (by rw[List.length_replicate];exact hn0);rw[List.length_replicate] at e0 e1 e2;subst e0;subst e1;subst e2;have HP0:=Aside0.mk p0;have HP1:=Aside0.mk p1;have HP2:=Aside0.mk p2;have HP3:=Aside0.mk p3b;have GP3:=Aside0.mk p3a;have GP0:=Aside0.mk q0;have GP1:=Aside0.mk q1;have GP2:=Aside0.mk q2;clear p0 p1 p2 p3a p3b q0 q1 q2 q0b q1b q2b;refine last_ (i:=11) (N:=none) #[true,true,true,true,true,true,true,true,true,true,true,true] rfl rfl (by kernel_rfl) (by decide) (fun K hK=> ?_);have hs0:w15.cell? ⟨g9,0,none⟩=some (.slice none 0 0):=(blk_cell HP3.out 0).trans rfl;have hfs0:=blk_frozen HP3.out 0;have hs1:w15.cell? ⟨g9,1,none⟩=some (.slice none 0 0):=(blk_cell HP3.out 1).trans rfl;have hfs1:=blk_frozen HP3.out 1;have hs2:w15.cell? ⟨g9,2,none⟩=some (.slice none 0 0):=(blk_cell HP3.out 2).trans rfl;have hfs2:=blk_frozen HP3.out 2;refine skip_ (w1:=(((w15.setCell ⟨g9,0,none⟩ (.slice (some ⟨gd,0,none⟩) n0 cd)).setCell ⟨g9,1,none⟩ (.slice (some ⟨gi,0,none⟩) n0 ci)).setCell ⟨g9,2,none⟩ (.slice (some ⟨gb,0,none⟩) n0 cb))) (by rfl) rfl ?_ ?_
 ·go_simp
 refine hK.out _ _ ?_;clear hK K hs0 hs1 hs2 hfs0 hfs1 hfs2 hHeld;have m0_:=Aside0.mk (Kd.R_set (Kd.R_set (Kd.R_set HP0.out HP3.out (by decide) 0 (.slice (some ⟨gd,0,none⟩) n0 cd)) (blk_put HP3.out 0 (.slice (some ⟨gd,0,none⟩) n0 cd) rfl) (by decide) 1 (.slice (some ⟨gi,0,none⟩) n0 ci)) (blk_put (blk_put HP3.out 0 (.slice (some ⟨gd,0,none⟩) n0 cd) rfl) 1 (.slice (some ⟨gi,0,none⟩) n0 ci) rfl) (by decide) 2 (.slice (some ⟨gb,0,none⟩) n0 cb));have m1_:=Aside0.mk (Kd.R_set (Kd.R_set (Kd.R_set HP1.out HP3.out (by decide) 0 (.slice (some ⟨gd,0,none⟩) n0 cd)) (blk_put HP3.out 0 (.slice (some ⟨gd,0,none⟩) n0 cd) rfl) (by decide) 1 (.slice (some ⟨gi,0,none⟩) n0 ci)) (blk_put (blk_put HP3.out 0 (.slice (some ⟨gd,0,none⟩) n0 cd) rfl) 1 (.slice (some ⟨gi,0,none⟩) n0 ci) rfl) (by decide) 2 (.slice (some ⟨gb,0,none⟩) n0 cb));have m2_:=Aside0.mk (Kd.R_set (Kd.R_set (Kd.R_set HP2.out HP3.out (by decide) 0 (.slice (some ⟨gd,0,none⟩) n0 cd)) (blk_put HP3.out 0 (.slice (some ⟨gd,0,none⟩) n0 cd) rfl) (by decide) 1 (.slice (some ⟨gi,0,none⟩) n0 ci)) (blk_put (blk_put HP3.out 0 (.slice (some ⟨gd,0,none⟩) n0 cd) rfl) 1 (.slice (some ⟨gi,0,none⟩) n0 ci) rfl) (by decide) 2 (.slice (some ⟨gb,0,none⟩) n0 cb));have m3_:=Aside0.mk (blk_put (blk_put (blk_put HP3.out 0 (.slice (some ⟨gd,0,none⟩) n0 cd) rfl) 1 (.slice (some ⟨gi,0,none⟩) n0 ci) rfl) 2 (.slice (some ⟨gb,0,none⟩) n0 cb) rfl);clear m0_ m1_ m2_ m3_;obtain⟨w16,hw16⟩: ∃ x_,x_=(((w15.setCell ⟨g9,0,none⟩ (.slice (some ⟨gd,0,none⟩) n0 cd)).setCell ⟨g9,1,none⟩ (.slice (some ⟨gi,0,none⟩) n0 ci)).setCell ⟨g9,2,none⟩ (.slice (some ⟨gb,0,none⟩) n0 cb)):=⟨_,rfl⟩;have m0_:Aside0 (Kd.R (Kd.int .i64) 3 w16 w14.heap.size (fun _=>True) (.slice (some ⟨gd,0,none⟩) n0 cd) (List.replicate n0 0)):=⟨by rw[hw16];exact Kd.R_set (Kd.R_set (Kd.R_set (HP0.out) (HP3.out) (by decide) 0 (.slice (some ⟨gd,0,none⟩) n0 cd)) (blk_put (HP3.out) 0 (.slice (some ⟨gd,0,none⟩) n0 cd) rfl) (by decide) 1 (.slice (some ⟨gi,0,none⟩) n0 ci)) (blk_put (blk_put (HP3.out) 0 (.slice (some ⟨gd,0,none⟩) n0 cd) rfl) 1 (.slice (some ⟨gi,0,none⟩) n0 ci) rfl) (by decide) 2 (.slice (some ⟨gb,0,none⟩) n0 cb)⟩;have m1_:Aside0 (Kd.R Kd.bool 4 w16 w14.heap.size (fun _=>True) (.slice (some ⟨gi,0,none⟩) n0 ci) (List.replicate n0 false)):=⟨by rw[hw16];exact Kd.R_set (Kd.R_set (Kd.R_set (HP1.out) (HP3.out) (by decide) 0 (.slice (some ⟨gd,0,none⟩) n0 cd)) (blk_put (HP3.out) 0 (.slice (some ⟨gd,0,none⟩) n0 cd) rfl) (by decide) 1 (.slice (some ⟨gi,0,none⟩) n0 ci)) (blk_put (blk_put (HP3.out) 0 (.slice (some ⟨gd,0,none⟩) n0 cd) rfl) 1 (.slice (some ⟨gi,0,none⟩) n0 ci) rfl) (by decide) 2 (.slice (some ⟨gb,0,none⟩) n0 cb)⟩;have m2_:Aside0 (Kd.R k79 79 w16 w14.heap.size (fun _=>True) (.slice (some ⟨gb,0,none⟩) n0 cb) (List.replicate n0 z79)):=⟨by rw[hw16];exact Kd.R_set (Kd.R_set (Kd.R_set (HP2.out) (HP3.out) (by decide) 0 (.slice (some ⟨gd,0,none⟩) n0 cd)) (blk_put (HP3.out) 0 (.slice (some ⟨gd,0,none⟩) n0 cd) rfl) (by decide) 1 (.slice (some ⟨gi,0,none⟩) n0 ci)) (blk_put (blk_put (HP3.out) 0 (.slice (some ⟨gd,0,none⟩) n0 cd) rfl) 1 (.slice (some ⟨gi,0,none⟩) n0 ci) rfl) (by decide) 2 (.slice (some ⟨gb,0,none⟩) n0 cb)⟩;have m3_:Aside0 (w16.heap[g9]? =some (.cells #[.slice (some ⟨gd,0,none⟩) n0 cd, .slice (some ⟨gi,0,none⟩) n0 ci, .slice (some ⟨gb,0,none⟩) n0 cb] 69 (0,0))):=⟨by rw[hw16];exact blk_put (blk_put (blk_put (HP3.out) 0 (.slice (some ⟨gd,0,none⟩) n0 cd) rfl) 1 (.slice (some ⟨gi,0,none⟩) n0 ci) rfl) 2 (.slice (some ⟨gb,0,none⟩) n0 cb) rfl⟩;have m4_:Aside0 (w16.heap[g3]? =some (.cells #[.int .i64 n0, .bool Zc, .slice A2 l.length c2] 24 (0,0))):=⟨by rw[hw16];exact blk_far (blk_far (blk_far B3.out (by show _≠g9;have:=L3.out;have:=GP3.out;omega) _) (by show _≠g9;have:=L3.out;have:=GP3.out;omega) _) (by show _≠g9;have:=L3.out;have:=GP3.out;omega) _⟩;have m5_:Aside0 (w16.heap[g6]? =some (.cells #[.slice none 0 0, .slice none 0 0, .slice none 0 0] 69 (0,0))):=⟨by rw[hw16];exact blk_far (blk_far (blk_far B6.out (by show _≠g9;have:=L6.out;have:=GP3.out;omega) _) (by show _≠g9;have:=L6.out;have:=GP3.out;omega) _) (by show _≠g9;have:=L6.out;have:=GP3.out;omega) _⟩;have m6_:Aside0 (w16.heap[g8]? =some (.cells #[.int .i64 n0, .bool Zc, .slice A2 l.length c2, .slice A1 F.length c1, .slice A4 n0 c4] 107 (0,0))):=⟨by rw[hw16];exact blk_far (blk_far (blk_far B8.out (by show _≠g9;have:=L8.out;have:=GP3.out;omega) _) (by show _≠g9;have:=L8.out;have:=GP3.out;omega) _) (by show _≠g9;have:=L8.out;have:=GP3.out;omega) _⟩;have m7_:Aside0 (Kd.V (Kd.slice 79 k79) 67 w16 0 (fun k=>k<w14.heap.size) (.slice A4 n0 c4) (rowsAt l n0 n0)):=⟨by rw[hw16];exact Kd.V_far (p:=⟨g9,2,none⟩) (Kd.V_far (p:=⟨g9,1,none⟩) (Kd.V_far (p:=⟨g9,0,none⟩) (HV.out) (fun k hk=>by show k≠g9;have:=GP3.out;omega) (.slice (some ⟨gd,0,none⟩) n0 cd)) (fun k hk=>by show k≠g9;have:=GP3.out;omega) (.slice (some ⟨gi,0,none⟩) n0 ci)) (fun k hk=>by show k≠g9;have:=GP3.out;omega) (.slice (some ⟨gb,0,none⟩) n0 cb)⟩;have m8_:Aside0 (Below w.heap.size w w16):=⟨by rw[hw16];exact below_set (below_set (below_set HB.out (Nat.le_trans S14.out GP3.out)) (Nat.le_trans S14.out GP3.out)) (Nat.le_trans S14.out GP3.out)⟩;have G69:Aside0 (g6≠g9∧g8≠g9∧g3≠g9):=⟨by have:=L6.out;have:=L8.out;have:=L3.out;have:=GP3.out;exact⟨by omega,by omega,by omega⟩⟩;rw[← hw16];clear hw16 HP0 HP1 HP2 HP3 B3 B6 B8 HV HB;have HD:=m0_;clear m0_;have HI:=m1_;clear m1_;have HQ:=m2_;clear m2_;have B9:=m3_;clear m3_;have B3:=m4_;clear m4_;have B6:=m5_;clear m5_;have B8:=m6_;clear m6_;have HV:=m7_;clear m7_;have HB:=m8_;clear m8_;refine done_ (by kernel_rfl) ?_;have hq1:w16.cell? ⟨g9,1,none⟩=some (.slice (some ⟨gi,0,none⟩) n0 ci):=(blk_cell B9.out 1).trans rfl;have hps:0≤(s:Int):=by omega
 have hqs:(s:Int)<(n0:Int):=by omega
 obtain⟨ads,eas,hcs⟩:=Kd.at_bool (Kd.R_reads' HI.out).2.2 (s:Int) hps (by rw[List.length_replicate];exact hqs);cases eas;simp only[Int.toNat_natCast,add_plain] at hcs;obtain⟨_,_,_,_,hfs_⟩:=Kd.R_elem HI.out false (s:Int) hps hqs;have hfs:=hfs_ 0;simp only[Int.toNat_natCast,Nat.add_zero] at hfs
 (try rw[show Kd.bool.sz=1 from rfl,Nat.mul_one] at hfs)
 clear hfs_;go_wp2_with fail;obtain⟨w17,hw⟩: ∃ x_,x_=(w16.setCell ⟨gi,s,none⟩ (.bool true)):=⟨_,rfl⟩;rw[← hw];have P_:=Kd.R_putg HI.out (s:Int) true;simp only[Int.toNat_natCast] at P_;have hg:w16.grownBy w17 (some gi):=(by rw[hw];exact P_.2);have m1_:Aside0 (Kd.R Kd.bool 4 w17 w14.heap.size (fun _=>True) (.slice (some ⟨gi,0,none⟩) n0 ci) ((List.replicate n0 false).set s true)):=⟨by rw[hw];exact P_.1⟩;have m0_:=Aside0.mk (Kd.R_over' HD.out (Kd.R_typed HI.out) (by decide) hg);have m2_:=Aside0.mk (Kd.R_over' HQ.out (Kd.R_typed HI.out) (by decide) hg);have m3_:=Aside0.mk (blk_grown B9.out hg (Kd.R_ne HI.out B9.out (by decide)));have m4_:=Aside0.mk (blk_grown B3.out hg (Kd.R_ne HI.out B3.out (by decide)));have m5_:=Aside0.mk (blk_grown B6.out hg (Kd.R_ne HI.out B6.out (by decide)));have m6_:=Aside0.mk (blk_grown B8.out hg (Kd.R_ne HI.out B8.out (by decide)));have m7_:=Aside0.mk (Kd.V_grown HV.out hg (fun k hk he=>by injection he with he;have:=GP1.out;omega));have m8_:=Aside0.mk (HB.out.grown hg HB.out.size (fun k hk=>by injection hk with hk;subst hk;exact Nat.le_trans S14.out GP1.out));clear hw hg P_ HD HI HQ B9 B3 B6 B8 HV HB hq1 hcs hfs;have HD:=m0_;clear m0_;have HI:=m1_;clear m1_;have HQ:=m2_;clear m2_;have B9:=m3_;clear m3_;have B3:=m4_;clear m4_;have B6:=m5_;clear m5_;have B8:=m6_;clear m6_;have HV:=m7_;clear m7_;have HB:=m8_;clear m8_;refine start_ (n:=6) (S:=fun w'=>w'.cell? ⟨g9,0,none⟩=some (.slice (some ⟨gd,0,none⟩) n0 cd)∧w'.cell? ⟨g9,1,none⟩=some (.slice (some ⟨gi,0,none⟩) n0 ci)∧w'.cell? ⟨g9,2,none⟩=some (.slice (some ⟨gb,0,none⟩) n0 cb)∧w'.cell? ⟨g8,0,none⟩=some (.int .i64 n0)∧w'.cell? ⟨g8,1,none⟩=some (.bool Zc)∧w'.cell? ⟨g8,2,none⟩=some (.slice A2 l.length c2)∧w'.cell? ⟨g8,3,none⟩=some (.slice A1 F.length c1)∧w'.cell? ⟨g8,4,none⟩=some (.slice A4 n0 c4)) (ds:=[4]) #[false,false,false,false,false,false] (by kernel_rfl) rfl rfl ⟨(blk_cell B9.out 0).trans rfl,(blk_cell B9.out 1).trans rfl,(blk_cell B9.out 2).trans rfl,(blk_cell B8.out 0).trans rfl,(blk_cell B8.out 1).trans rfl,(blk_cell B8.out 2).trans rfl,(blk_cell B8.out 3).trans rfl,(blk_cell B8.out 4).trans rfl⟩ (fun hHeld=> ?_);have m0_:=Aside0.mk (Kd.R_drew HD.out);have m1_:=Aside0.mk (Kd.R_drew HI.out);have m2_:=Aside0.mk (Kd.R_drew HQ.out);have m3_:=Aside0.mk (blk_below B9.out (below_drew (Below.refl _ _)));have m4_:=Aside0.mk (blk_below B6.out (below_drew (Below.refl _ _)));have m5_:=Aside0.mk (blk_below B8.out (below_drew (Below.refl _ _)));have m6_:=Aside0.mk (Kd.V_drew HV.out);have m7_:=Aside0.mk (below_drew HB.out);clear HD HI HQ B9 B6 B8 HV HB;have HD:=m0_;clear m0_;have HI:=m1_;clear m1_;have HQ:=m2_;clear m2_;have B9:=m3_;clear m3_;have B6:=m4_;clear m4_;have B8:=m5_;clear m5_;have HV:=m6_;clear m6_;have HB:=m7_;clear m7_;clear B3;generalize w17.drew=w18 at hHeld HD HI HQ B9 B6 B8 HV HB ⊢;refine take_ (i:=0) (N:=some 27) (v:= ?_) (a':= ?_) #[true,false,false,false,false,false] rfl rfl (by kernel_rfl) (fun _ _ _ h=>h) (Or.inl ⟨by rfl,?_⟩) hHeld ?_ ?_
 rotate_left
 ·rintro w' ⟨s0,s1,s2,s3,s4,s5,s6,s7⟩
  go_simp
  with_reducible rfl
 rotate_left
 ·simp only[Act.put,List.setIfInBounds_toArray,List.set_cons_zero,List.set_cons_succ,i64_w,i32_w]
  rfl
 refine take_ (i:=1) (N:=some 28) (v:= ?_) (a':= ?_) #[true,true,false,false,false,false] rfl rfl (by kernel_rfl) (fun _ _ _ h=>h) (Or.inl ⟨by rfl,?_⟩) hHeld ?_ ?_
 rotate_left
 ·rintro w' ⟨s0,s1,s2,s3,s4,s5,s6,s7⟩
  go_simp
  with_reducible rfl
 rotate_left
 ·simp only[Act.put,List.setIfInBounds_toArray,List.set_cons_zero,List.set_cons_succ,i64_w,i32_w]
  rfl
 refine take_ (i:=2) (N:=some 29) (v:= ?_) (a':= ?_) #[true,true,true,false,false,false] rfl rfl (by kernel_rfl) (fun _ _ _ h=>h) (Or.inl ⟨by rfl,?_⟩) hHeld ?_ ?_
 rotate_left
 ·rintro w' ⟨s0,s1,s2,s3,s4,s5,s6,s7⟩
  go_simp
  with_reducible rfl
 rotate_left
 ·simp only[Act.put,List.setIfInBounds_toArray,List.set_cons_zero,List.set_cons_succ,i64_w,i32_w]
  rfl
 refine one_ (i:=3) (N:=some 30) #[true,true,true,true,false,false] rfl rfl (by kernel_rfl) (by decide) (fun K hK=> ?_);refine goes_ Try.func82 (by kernel_rfl) rfl #[.agg #[.int .i64 n0, .bool Zc, .slice A2 l.length c2, .slice A1 F.length c1, .slice A4 n0 c4], .agg #[.slice (some ⟨gd,0,none⟩) n0 cd, .slice (some ⟨gi,0,none⟩) n0 ci, .slice (some ⟨gb,0,none⟩) n0 cb]] (by rfl) rfl rfl (by(try simp only[List.map_toArray,List.map_cons,List.map_nil]);first|done|rfl) ?_
 refine(settled_calls n0 Zc A2 c2 l A1 c1 F A4 c4 gd gi gb cd ci cb w14.heap.size (startR n0 s) w18 HR.out (startR_ok n0 s) (bd_zero n0) HC2.out HC1.out (Kd.F_mono (Kd.F_below (Kd.C_F heap74 H2.out) HB.out) (fun k hk=>⟨by have:=S14.out;have:=GP0.out;omega,by have:=S14.out;have:=GP1.out;omega,by have:=S14.out;have:=GP2.out;omega⟩)) (Kd.F_mono (Kd.F_below (Kd.C_F (Kd.heap_int _) H3.out) HB.out) (fun k hk=>⟨by have:=S14.out;have:=GP0.out;omega,by have:=S14.out;have:=GP1.out;omega,by have:=S14.out;have:=GP2.out;omega⟩)) (Kd.V_mono HV.out (fun k hk=>⟨by have:=GP0.out;omega,by have:=GP1.out;omega,by have:=GP2.out;omega⟩)) HD.out HI.out HQ.out).mono ?_;rw[← HXT.out];rintro e w19 ⟨rfl,hkp,hd,hi,hq⟩;refine⟨_,rfl,?_⟩;have m_:=Aside0.mk ((hkp.block _ (blk_lt B9.out) (fun e=>Kd.R_ne HD.out B9.out (by decide) (congrArg some e)) (fun e=>Kd.R_ne HI.out B9.out (by decide) (congrArg some e)) (fun e=>Kd.R_ne HQ.out B9.out (by decide) (congrArg some e))).trans B9.out);clear B9;have B9:=m_;clear m_;have m_:=Aside0.mk ((hkp.block _ (blk_lt B6.out) (fun e=>Kd.R_ne HD.out B6.out (by decide) (congrArg some e)) (fun e=>Kd.R_ne HI.out B6.out (by decide) (congrArg some e)) (fun e=>Kd.R_ne HQ.out B6.out (by decide) (congrArg some e))).trans B6.out);clear B6;have B6:=m_;clear m_;have m_:=Aside0.mk ((hkp.block _ (blk_lt B8.out) (fun e=>Kd.R_ne HD.out B8.out (by decide) (congrArg some e)) (fun e=>Kd.R_ne HI.out B8.out (by decide) (congrArg some e)) (fun e=>Kd.R_ne HQ.out B8.out (by decide) (congrArg some e))).trans B8.out);clear B8;have B8:=m_;clear m_;have m_:=Aside0.mk (hkp.toBelow HB.out HB.out.size (Nat.le_trans S14.out GP0.out) (Nat.le_trans S14.out GP1.out) (Nat.le_trans S14.out GP2.out));clear HB HD HI HQ HV hkp;have HB:=m_;clear m_;have HD:=Aside0.mk hd;have HI:=Aside0.mk hi;have HQ:=Aside0.mk hq;clear hd hi hq;refine hK.out _ _ ⟨(blk_cell B9.out 0).trans rfl,(blk_cell B9.out 1).trans rfl,(blk_cell B9.out 2).trans rfl,(blk_cell B8.out 0).trans rfl,(blk_cell B8.out 1).trans rfl,(blk_cell B8.out 2).trans rfl,(blk_cell B8.out 3).trans rfl,(blk_cell B8.out 4).trans rfl⟩ (fun hHeld=> ?_);clear hK K;refine norm_ (a':= ?_) ?_ ?_
 rotate_left
 ·show Act.put _ (some 30) _=_
  simp only[Act.put,List.setIfInBounds_toArray,List.set_cons_zero,List.set_cons_succ,i64_w,i32_w];rfl
 refine last_ (i:=4) (N:=none) #[true,true,true,true,true,false] rfl rfl (by kernel_rfl) (by decide) (fun K hK=> ?_);have hs0:w19.cell? ⟨g6,0,none⟩=some (.slice none 0 0):=(blk_cell B6.out 0).trans rfl;have hfs0:=blk_frozen B6.out 0;have hs1:w19.cell? ⟨g6,1,none⟩=some (.slice none 0 0):=(blk_cell B6.out 1).trans rfl;have hfs1:=blk_frozen B6.out 1;have hs2:w19.cell? ⟨g6,2,none⟩=some (.slice none 0 0):=(blk_cell B6.out 2).trans rfl;have hfs2:=blk_frozen B6.out 2;refine skip_ (w1:=(((w19.setCell ⟨g6,0,none⟩ (.slice (some ⟨gd,0,none⟩) n0 cd)).setCell ⟨g6,1,none⟩ (.slice (some ⟨gi,0,none⟩) n0 ci)).setCell ⟨g6,2,none⟩ (.slice (some ⟨gb,0,none⟩) n0 cb))) (by rfl) rfl ?_ ?_
 ·go_simp
 refine hK.out _ _ ?_;clear hK K hs0 hs1 hs2 hfs0 hfs1 hfs2 hHeld;refine pure_ (i:=5) (N:=some 7) (v:= ?_) (a':= ?_) #[true,true,true,true,true,true] rfl rfl (by kernel_rfl) (fun _ _ _ h=>h) (Or.inl ⟨by rfl,?_⟩) ?_ ?_
 rotate_left
 ·intro w'
  go_simp
  with_reducible rfl
 rotate_left
 ·simp only[Act.put,List.setIfInBounds_toArray,List.set_cons_zero,List.set_cons_succ,i64_w,i32_w]
  rfl
 refine done_ (by kernel_rfl) ?_;go_wp2_with fail;refine bodyPost_ret (results_ct rfl _ _ g6 69 #[.slice (some ⟨gd,0,none⟩) n0 cd, .slice (some ⟨gi,0,none⟩) n0 ci, .slice (some ⟨gb,0,none⟩) n0 cb] (0,0) _ rfl (blk_put (blk_put (blk_put (B6.out) 0 (.slice (some ⟨gd,0,none⟩) n0 cd) rfl) 1 (.slice (some ⟨gi,0,none⟩) n0 ci) rfl) 2 (.slice (some ⟨gb,0,none⟩) n0 cb) rfl) Try.underlying69 rfl (by kernel_rfl)) rfl ?_;exact⟨_,_,_,rfl,Kd.R_lower (Kd.R_set (Kd.R_set (Kd.R_set (HD.out) (B6.out) (by decide) 0 (.slice (some ⟨gd,0,none⟩) n0 cd)) (blk_put (B6.out) 0 (.slice (some ⟨gd,0,none⟩) n0 cd) rfl) (by decide) 1 (.slice (some ⟨gi,0,none⟩) n0 ci)) (blk_put (blk_put (B6.out) 0 (.slice (some ⟨gd,0,none⟩) n0 cd) rfl) 1 (.slice (some ⟨gi,0,none⟩) n0 ci) rfl) (by decide) 2 (.slice (some ⟨gb,0,none⟩) n0 cb)) S14.out,Kd.R_lower (Kd.R_set (Kd.R_set (Kd.R_set (HI.out) (B6.out) (by decide) 0 (.slice (some ⟨gd,0,none⟩) n0 cd)) (blk_put (B6.out) 0 (.slice (some ⟨gd,0,none⟩) n0 cd) rfl) (by decide) 1 (.slice (some ⟨gi,0,none⟩) n0 ci)) (blk_put (blk_put (B6.out) 0 (.slice (some ⟨gd,0,none⟩) n0 cd) rfl) 1 (.slice (some ⟨gi,0,none⟩) n0 ci) rfl) (by decide) 2 (.slice (some ⟨gb,0,none⟩) n0 cb)) S14.out,Kd.R_lower (Kd.R_set (Kd.R_set (Kd.R_set (HQ.out) (B6.out) (by decide) 0 (.slice (some ⟨gd,0,none⟩) n0 cd)) (blk_put (B6.out) 0 (.slice (some ⟨gd,0,none⟩) n0 cd) rfl) (by decide) 1 (.slice (some ⟨gi,0,none⟩) n0 ci)) (blk_put (blk_put (B6.out) 0 (.slice (some ⟨gd,0,none⟩) n0 cd) rfl) 1 (.slice (some ⟨gi,0,none⟩) n0 ci) rfl) (by decide) 2 (.slice (some ⟨gb,0,none⟩) n0 cb)) S14.out,below_set (below_set (below_set HB.out GE6.out) GE6.out) GE6.out⟩
end H
namespace H
open P Q
def absF (x:Rf):Tm:=fun v=>if x.I.getD v false then some (x.D.getD v 0) else none
def edgeF (l:List S50) (s:S79):Ed:=((stFrom l s).toNat,(stTo l s).toNat,stTime l s)
theorem visF_abs {l:List S50} {n:Nat} {x:Rf} (h:x.Ok n) (s:S79) (hw:(stTo l s).toNat<n):
  absF (visF l x s)=relax (absF x) (edgeF l s)∧(visF l x s).OK=(x.OK && !trig (absF x) (edgeF l s)):=by
 have htr:trig (absF x) (edgeF l s)=(x.I.getD (stFrom l s).toNat false && (!x.I.getD (stTo l s).toNat false || decide (x.D.getD (stFrom l s).toNat 0+stTime l s<x.D.getD (stTo l s).toNat 0))):=by
  unfold trig edgeF;cases hv:x.I.getD (stFrom l s).toNat false with
  |false=>
   have h1:absF x (stFrom l s).toNat=none:=by unfold absF;rw[hv];rfl
   simp only[h1];rfl
  |true=>
   have h1:absF x (stFrom l s).toNat=some (x.D.getD (stFrom l s).toNat 0):=by unfold absF;rw[hv];rfl
   simp only[h1];cases hi:x.I.getD (stTo l s).toNat false with
   |false=>
    have h2:absF x (stTo l s).toNat=none:=by unfold absF;rw[hi];rfl
    rw[h2];rfl
   |true=>
    have h2:absF x (stTo l s).toNat=some (x.D.getD (stTo l s).toNat 0):=by unfold absF;rw[hi];rfl
    rw[h2];rfl
 cases ht:trig (absF x) (edgeF l s) with
 |false=>
  have e:visF l x s=x:=by unfold visF;rw[← htr,ht];rfl
  rw[e,relax_off ht];exact⟨rfl,by simp⟩
 |true=>
  have e:visF l x s=⟨x.D.set (stTo l s).toNat (x.D.getD (stFrom l s).toNat 0+stTime l s),x.I.set (stTo l s).toNat true,false⟩:=by unfold visF;rw[← htr,ht];rfl
  obtain⟨y,hy,_⟩:=trig_some ht;have hy2:y=x.D.getD (stFrom l s).toNat 0:=by
   unfold absF edgeF at hy;simp only at hy;split at hy
   ·injection hy with hy;exact hy.symm
   ·cases hy
  rw[e];refine⟨?_,by simp⟩;funext u;rw[relax_on ht hy];show (if (x.I.set (stTo l s).toNat true).getD u false=true then some ((x.D.set (stTo l s).toNat (x.D.getD (stFrom l s).toNat 0+stTime l s)).getD u 0) else none)=if u=(stTo l s).toNat then _ else absF x u
  by_cases hu:u=(stTo l s).toNat
  ·subst hu
   rw[Yx rfl,getD_set_eq _ _ _ _ (by rw[h.hI];exact hw),getD_set_eq _ _ _ _ (by rw[h.hD];exact hw),Yx rfl,hy2];rfl
  ·rw[Yy hu,getD_set_ne _ _ _ _ _ (Ne.symm hu),getD_set_ne _ _ _ _ _ (Ne.symm hu)]
   rfl
theorem foldF_abs {l:List S50} {n:Nat} (S:List S79) (hw: ∀ s,s∈S→(stTo l s).toNat<n): ∀ {x:Rf} (h:x.Ok n),
  (S.foldl (visF l) x).Ok n∧absF (S.foldl (visF l) x)=pass (S.map (edgeF l)) (absF x)∧(S.foldl (visF l) x).OK=(x.OK && !(passT (S.map (edgeF l)) (absF x) false).2):=by
 induction S with
 |nil=>intro x h;exact⟨h,rfl,by simp[passT]⟩
 |cons s S ih=>
  intro x h;obtain⟨h1,h2⟩:=visF_abs h s (hw s List.mem_cons_self);obtain⟨h3,h4,h5⟩:=ih (fun s hs=>hw s (List.mem_cons_of_mem _ hs)) (visF_ok (l:=l) h s);rw[List.foldl_cons,List.map_cons];refine⟨h3,?_,?_⟩
  ·rw[h4,h1];rfl
  ·rw[h5,h2,h1]
   show _=(x.OK && !(passT _ (relax (absF x) (edgeF l s)) (false || trig (absF x) (edgeF l s))).2);rw[passT_or _ _ (false || _),Bool.false_or];cases x.OK<;>cases trig (absF x) (edgeF l s)<;>simp
theorem roundF_abs {l:List S50} {n:Nat} (S:List S79) (hw: ∀ s,s∈S→(stTo l s).toNat<n) {x:Rf} (h:x.Ok n):
  (roundF l S x).Ok n∧absF (roundF l S x)=pass (S.map (edgeF l)) (absF x)∧(roundF l S x).OK= !(passT (S.map (edgeF l)) (absF x) false).2:=by
 obtain⟨h1,h2,h3⟩:=foldF_abs S hw (x:= { x with OK:=true }) ⟨h.hD,h.hI⟩;exact⟨h1,h2,by unfold roundF;rw[h3,Bool.true_and];rfl⟩
theorem itF_abs {l:List S50} {n:Nat} (S:List S79) (hw: ∀ s,s∈S→(stTo l s).toNat<n) (k:Nat): ∀ {x:Rf} (h:x.Ok n),
  (itF l S k x).Ok n∧absF (itF l S k x)=its (S.map (edgeF l)) k (absF x)∧(itF l S (k+1) x).OK= !(passT (S.map (edgeF l)) (its (S.map (edgeF l)) k (absF x)) false).2:=by
 induction k with
 |zero=>
  intro x h;exact⟨h,rfl,(roundF_abs S hw h).2.2⟩
 |succ k ih=>
  intro x h;obtain⟨h1,h2,_⟩:=roundF_abs S hw h;obtain⟨h4,h5,h6⟩:=ih h1;refine⟨h4,?_,?_⟩
  ·show absF (itF l S k (roundF l S x))=_
   rw[h5,h2];rfl
  ·show (itF l S (k+1) (roundF l S x)).OK=_
   rw[h6,h2];rfl
def refE (l:List S50) (F:List Int):List Ed:=(stepsR l F F.length).map (edgeF l)
theorem refE_in {l:List S50} {F:List Int} {n:Nat} (hr:Right l F n): ∀ e,e∈refE l F→e.1<n∧e.2.1<n:=by
 intro e he;obtain⟨s,hs,rfl⟩:=List.mem_map.1 he;have h1:=stFrom_in hr (stepsR_of hr s hs);have h2:=stTo_in hr (stepsR_of hr s hs);exact⟨by show (stFrom l s).toNat<n;omega,by show (stTo l s).toNat<n;omega⟩
theorem liveE_mem {l:List S50} {F:List Int} {n:Nat} (hr:Right l F n) (e:Ed):e∈liveE l F n↔e∈refE l F:=by
 unfold liveE refE;rw[List.mem_flatMap,List.mem_map];constructor
 ·rintro⟨v,hv,he⟩
  obtain⟨s,hs,rfl⟩:=List.mem_map.1 he;obtain⟨hs1,hs2⟩:=List.mem_filter.1 hs;have hso:=stL_of hs1;refine⟨s,(mem_stepsR l F F.length s).2 ⟨by rw[hr.len];exact hso,Yu hs2⟩,?_⟩;unfold edgeF edgeS;rw[stL_from hs1,Int.toNat_natCast]
 ·rintro⟨s,hs,rfl⟩
  have hso:=stepsR_of hr s hs;have hf:=stFrom_in hr hso;refine⟨(stFrom l s).toNat,List.mem_range.2 (by omega),List.mem_map.2 ⟨s,List.mem_filter.2 ⟨?_,Yv ((mem_stepsR l F F.length s).1 hs).2⟩,rfl⟩⟩;rw[mem_stL,Int.toNat_of_nonneg hf.1];obtain⟨i,h1,h2⟩:=hso;refine⟨i,h1,h2,?_⟩;unfold stFrom;rw[h2];cases s.f1
  ·exact Or.inl ⟨rfl,rfl⟩
  ·exact Or.inr ⟨rfl,rfl⟩
theorem stTo_lt {l:List S50} {F:List Int} {n:Nat} (hr:Right l F n): ∀ (v:Nat) (s:S79),s∈stL l v l.length→(stTo l s).toNat<n:=by
 intro v s hs;have:=stTo_in hr (stL_of hs);omega
def ZR (D:List Int) (I:List Bool):Prop:= ∀ v:Nat,I.getD v false=false→D.getD v 0=0
theorem ZR.set {D:List Int} {I:List Bool} (h:ZR D I) (hl:D.length=I.length) (u:Nat) (d:Int):ZR (D.set u d) (I.set u true):=by
 intro v hv;by_cases e:u=v
 ·subst e
  by_cases hu:u<I.length
  ·rw[getD_set_eq _ _ _ _ hu] at hv;cases hv
  ·rw[List.getD_eq_getElem?_getD,List.getElem?_eq_none (by rw[List.length_set];omega)];rfl
 ·rw[getD_set_ne _ _ _ _ _ e] at hv ⊢
  exact h v hv
theorem zr_visR {l:List S50} {F:List Int} {n v:Nat} {x:Rch} (h:x.Ok n) (hz:ZR x.D x.I) (s:S79):ZR (visR l F v x s).D (visR l F v x s).I:=by
 unfold visR;split
 ·exact hz.set (by rw[h.hD,h.hI]) _ _
 ·exact hz
theorem zr_rowR {l:List S50} {F:List Int} {n v:Nat} {x:Rch} (h:x.Ok n) (hz:ZR x.D x.I):ZR (rowR l F x v).D (rowR l F x v).I:=by
 unfold rowR;split
 ·have: ∀ (r:List S79) (y:Rch),y.Ok n→ZR y.D y.I→ZR (r.foldl (visR l F v) y).D (r.foldl (visR l F v) y).I:=by
   intro r
   induction r with
   |nil=>intro y _ hy;exact hy
   |cons s r ih=>intro y hy1 hy2;exact ih _ (visR_ok hy1 s) (zr_visR hy1 hy2 s)
  exact this _ x h hz
 ·exact hz
theorem zr_goesR {l:List S50} {F:List Int} {n:Nat} (k:Nat): ∀ {x:Rch} (h:x.Ok n) (hz:ZR x.D x.I),ZR (goesR l F n k x).1.D (goesR l F n k x).1.I:=by
 have hround: ∀ {x:Rch},x.Ok n→ZR x.D x.I→(roundR l F n x).Ok n∧ZR (roundR l F n x).D (roundR l F n x).I:=by
  intro x h hz;have: ∀ (vs:List Nat) (y:Rch),y.Ok n→ZR y.D y.I→(vs.foldl (rowR l F) y).Ok n∧ZR (vs.foldl (rowR l F) y).D (vs.foldl (rowR l F) y).I:=by
   intro vs
   induction vs with
   |nil=>intro y h1 h2;exact⟨h1,h2⟩
   |cons v vs ih=>intro y h1 h2;exact ih _ (rowR_ok h1) (zr_rowR h1 h2)
  exact this _ { x with still:=true } ⟨h.hD,h.hI,h.hB⟩ hz
 induction k with
 |zero=>intro x h hz;exact hz
 |succ k ih=>
  intro x h hz;obtain⟨h1,h2⟩:=hround h hz;unfold goesR;split
  ·exact h2
  ·exact ih h1 h2
theorem zr_itF {l:List S50} {n:Nat} (S:List S79) (k:Nat): ∀ {x:Rf} (h:x.Ok n) (hz:ZR x.D x.I),ZR (itF l S k x).D (itF l S k x).I:=by
 have hv: ∀ {x:Rf} (s:S79),x.Ok n→ZR x.D x.I→ZR (visF l x s).D (visF l x s).I:=by
  intro x s h hz;unfold visF;split
  ·exact hz.set (by rw[h.hD,h.hI]) _ _
  ·exact hz
 have hround: ∀ (T:List S79) {x:Rf},x.Ok n→ZR x.D x.I→(T.foldl (visF l) x).Ok n∧ZR (T.foldl (visF l) x).D (T.foldl (visF l) x).I:=by
  intro T
  induction T with
  |nil=>intro x h1 h2;exact⟨h1,h2⟩
  |cons s T ih=>intro x h1 h2;exact ih (visF_ok h1 s) (hv s h1 h2)
 induction k with
 |zero=>intro x h hz;exact hz
 |succ k ih=>
  intro x h hz;obtain⟨h1,h2⟩:=hround S (x:= { x with OK:=true }) ⟨h.hD,h.hI⟩ hz;exact ih h1 h2
theorem lists_eq {n:Nat} {D D':List Int} {I I':List Bool} (h1:D.length=n) (h2:D'.length=n) (h3:I.length=n) (h4:I'.length=n) (z:ZR D I) (z':ZR D' I')
  (h: ∀ v,(if I.getD v false then some (D.getD v 0) else none)=(if I'.getD v false then some (D'.getD v 0) else(none:Option Int))):D=D'∧I=I':=by
 have hI: ∀ v,I.getD v false=I'.getD v false:=by
  intro v;have hv:=h v;cases a:I.getD v false<;>cases b:I'.getD v false
  ·rfl
  ·rw[a,b] at hv;simp at hv
  ·rw[a,b] at hv;simp at hv
  ·rfl
 have hD: ∀ v,D.getD v 0=D'.getD v 0:=by
  intro v;have:=h v;cases a:I.getD v false with
  |false=>rw[z v a,z' v (by rw[← hI v];exact a)]
  |true=>rw[a, ← hI v,a] at this;simpa using this
 constructor
 ·apply List.ext_getElem (by omega)
  intro i p q;have:=hD i
  rwa [List.getD_eq_getElem?_getD,List.getD_eq_getElem?_getD,List.getElem?_eq_getElem p,List.getElem?_eq_getElem q] at this
 ·apply List.ext_getElem (by omega)
  intro i p q;have:=hI i
  rwa [List.getD_eq_getElem?_getD,List.getD_eq_getElem?_getD,List.getElem?_eq_getElem p,List.getElem?_eq_getElem q] at this
structure Told (l:List S50) (F:List Int) (n:Nat) (σ0 σ:Tm):Prop where
 still: ∀ e,e∈refE l F→trig σ e=false
 real: ∀ v x,σ v=some x→Real (refE l F) σ0 v x
 bet:Bet σ σ0
theorem ref_told {l:List S50} {F:List Int} {n:Nat} (hr:Right l F n) {x:Rf} (hx:x.Ok n) (k:Nat) (h:(itF l (stepsR l F F.length) (k+1) x).OK=true):Told l F n (absF x) (absF (itF l (stepsR l F F.length) (k+1) x)):=by
 have hw: ∀ s,s∈stepsR l F F.length→(stTo l s).toNat<n:=fun s hs=>by have:=stTo_in hr (stepsR_of hr s hs);omega
 obtain⟨_,_,h3⟩:=itF_abs _ hw k hx;obtain⟨_,h2,_⟩:=itF_abs _ hw (k+1) hx;have hq:(passT (refE l F) (its (refE l F) k (absF x)) false).2=false:=by
  rw[h3] at h
  simpa [refE] using h
 have ht:=passT_false hq;have hp:pass (refE l F) (its (refE l F) k (absF x))=its (refE l F) k (absF x):=by rw[← passT_fst _ _ false,passT_still ht]
 have e:absF (itF l (stepsR l F F.length) (k+1) x)=its (refE l F) k (absF x):=by
  rw[h2];show its (refE l F) (k+1) (absF x)=_;rw[its_succ,hp]
 rw[e];refine⟨ht,its_real _ k _,?_⟩;have:=its_bet (refE l F) 0 k (absF x);rw[Nat.zero_add] at this;exact this
theorem ref_ok {l:List S50} {F:List Int} {n:Nat} (hr:Right l F n) {x:Rf} (hx:x.Ok n) {r:Nat→Prop} (hg:NoGain (refE l F) r) (h0: ∀ v c,absF x v=some c→v<n∧r v):(itF l (stepsR l F F.length) (n+1) x).OK=true:=by
 have hw: ∀ s,s∈stepsR l F F.length→(stTo l s).toNat<n:=fun s hs=>by have:=stTo_in hr (stepsR_of hr s hs);omega
 obtain⟨_,_,h3⟩:=itF_abs _ hw n hx;rw[h3];have hp:=settles (refE_in hr) hg h0 n (by omega);have:=passT_still (pass_fix hp);show (!(passT (refE l F) (its (refE l F) n (absF x)) false).2)=true;rw[this];rfl
theorem goes_told {l:List S50} {F:List Int} {n:Nat} (hr:Right l F n) {x:Rch} (hx:x.Ok n) (k:Nat) (h:(goesR l F n k x).2=true):Told l F n (absR x) (absR (goesR l F n k x).1):=by
 obtain⟨_,⟨m,_,h2⟩,h3,_⟩:=goesR_spec (F:=F) (stTo_lt hr) k hx;refine⟨fun e he=>h3 h e ((liveE_mem hr e).2 he),?_,?_⟩
 ·intro v c hc
  rw[h2] at hc;obtain⟨u,c0,p,h4,h5,h6⟩:=its_real _ m _ v c hc;exact⟨u,c0,p,h4,h5.mono (fun e he=>(liveE_mem hr e).1 he),h6⟩
 ·rw[h2]
  have:=its_bet (liveE l F n) 0 m (absR x);rw[Nat.zero_add] at this;exact this
theorem goes_ok {l:List S50} {F:List Int} {n:Nat} (hr:Right l F n) {x:Rch} (hx:x.Ok n) {r:Nat→Prop} (hg:NoGain (refE l F) r) (h0: ∀ v c,absR x v=some c→v<n∧r v):(goesR l F n (n+1) x).2=true:=by
 cases h:(goesR l F n (n+1) x).2 with
 |true=>rfl
 |false=>
  obtain⟨_,_,_,h4⟩:=goesR_spec (F:=F) (stTo_lt hr) (n+1) hx;have hg2:NoGain (liveE l F n) r:=hg.mono (fun e he=>(liveE_mem hr e).1 he);exact absurd (settles (fun e he=>refE_in hr e ((liveE_mem hr e).1 he)) hg2 h0 n (by omega)) (h4 h n (by omega))
theorem Told.tight {l:List S50} {F:List Int} {n:Nat} {σ0 σ:Tm} (h:Told l F n σ0 σ):Tight (refE l F) (fun v=> ∃ x,σ v=some x) (fun v=>(σ v).getD 0):=still_tight h.still
theorem start_abs (n s:Nat) (hs:s<n) (v:Nat):absR (startR n s) v=if v=s then some 0 else none:=by
 unfold absR startR;simp only;by_cases e:v=s
 ·subst e
  rw[getD_set_eq _ _ _ _ (by rw[List.length_replicate];exact hs),Yx rfl,Yx rfl,List.getD_eq_getElem?_getD,List.getElem?_replicate,Yx hs];rfl
 ·rw[getD_set_ne _ _ _ _ _ (Ne.symm e),Yy e,List.getD_eq_getElem?_getD,List.getElem?_replicate]
  split<;>simp
theorem startF_abs (n s:Nat):absF (startF n s)=absR (startR n s):=rfl
theorem startF_ok (n s:Nat):(startF n s).Ok n:=⟨by simp[startF],by simp[startF]⟩
theorem zr_start (n s:Nat):ZR (startR n s).D (startR n s).I:=by
 intro v _;show (List.replicate n (0:Int)).getD v 0=0;rw[List.getD_eq_getElem?_getD,List.getElem?_replicate];split<;>rfl
theorem far_same {l:List S50} {F:List Int} {n s:Nat} (hr:Right l F n) (hs:s<n):
  (goesR l F n (n+1) (startR n s)).2=(refF l F n s).OK∧((refF l F n s).OK=true→(goesR l F n (n+1) (startR n s)).1.D=(refF l F n s).D∧(goesR l F n (n+1) (startR n s)).1.I=(refF l F n s).I):=by
 have h0: ∀ v c,absR (startR n s) v=some c→v<n:=by
  intro v c h;rw[start_abs n s hs] at h;split at h
  ·rename_i e;omega
  ·cases h
 have hX:(goesR l F n (n+1) (startR n s)).2=true→(refF l F n s).OK=true:=by
  intro h;have ht:=goes_told hr (startR_ok n s) (n+1) h;refine ref_ok hr (startF_ok n s) ht.tight.noGain ?_;intro v c hc;rw[startF_abs] at hc;obtain⟨y,hy,_⟩:=ht.bet v c hc;exact⟨h0 v c hc,y,hy⟩
 have hY:(refF l F n s).OK=true→(goesR l F n (n+1) (startR n s)).2=true:=by
  intro h;have ht:=ref_told hr (startF_ok n s) n h;refine goes_ok hr (startR_ok n s) ht.tight.noGain ?_;intro v c hc;obtain⟨y,hy,_⟩:=ht.bet v c hc;exact⟨h0 v c hc,y,hy⟩
 refine⟨?_,fun h=> ?_⟩
 ·cases a:(goesR l F n (n+1) (startR n s)).2 with
  |true=>exact(hX a).symm
  |false=>
   cases b:(refF l F n s).OK with
   |false=>rfl
   |true=>rw[hY b] at a;cases a
 ·have t1:=goes_told hr (startR_ok n s) (n+1) (hY h)
  have t2:=ref_told hr (startF_ok n s) n h;have e:=still_uniq (E:=refE l F) (F:=refE l F) (fun _=>Iff.rfl) t1.still t2.still t1.real t2.real t1.bet t2.bet;have hw: ∀ s,s∈stepsR l F F.length→(stTo l s).toNat<n:=fun s hs=>by have:=stTo_in hr (stepsR_of hr s hs);omega
  obtain⟨o1,_⟩:=goesR_spec (F:=F) (stTo_lt hr) (n+1) (startR_ok n s);obtain⟨o2,_⟩:=itF_abs _ hw (n+1) (startF_ok n s);exact lists_eq o1.hD o2.hD o1.hI o2.hI (zr_goesR (n+1) (startR_ok n s) (zr_start n s)) (zr_itF _ (n+1) (startF_ok n s) (zr_start n s)) (fun v=>congrFun e v)
theorem noGain_refs {l:List S50} {F:List Int} {n:Nat} (hr:Right l F n) (h:NoGain (refE l F) (fun v=>v<n)): ∀ v,v<n→(refF l F n v).OK=true:=by
 intro v hv;refine ref_ok hr (startF_ok n v) h ?_;intro u c hc;rw[startF_abs,start_abs n v hv] at hc;split at hc
 ·rename_i e;exact⟨by omega,by show u<n;omega⟩
 ·cases hc
end H
namespace H
open P Q
structure Par (l:List S50) (F:List Int) (n s:Nat) (x:Rch) (rk:Nat→Nat) (T:Nat):Prop where
 lt: ∀ v,rk v<T
 is_: ∀ v,v<n→x.I.getD v false=true→v≠s→StepOf l (x.B.getD v z79)∧0<stRoom l F (x.B.getD v z79)∧toP l (x.B.getD v z79)=v∧x.I.getD (frP l (x.B.getD v z79)) false=true∧
  (x.D.getD (frP l (x.B.getD v z79)) 0+stTime l (x.B.getD v z79)<x.D.getD v 0∨(x.D.getD v 0=x.D.getD (frP l (x.B.getD v z79)) 0+stTime l (x.B.getD v z79)∧rk (frP l (x.B.getD v z79))<rk v))
theorem getD_set_if {β:Type} (L:List β) (i j:Nat) (x d:β) (h:i<L.length):(L.set i x).getD j d=if j=i then x else L.getD j d:=by
 by_cases e:j=i
 ·subst e;rw[Yx rfl,getD_set_eq _ _ _ _ h]
 ·rw[Yy e,getD_set_ne _ _ _ _ _ (Ne.symm e)]
theorem par_vis {l:List S50} {F:List Int} {n s v:Nat} {x:Rch} {rk:Nat→Nat} {T:Nat} (h:Par l F n s x rk T) (hk:x.Ok n) (hI:x.I.getD v false=true) {e:S79} (he:e∈stL l v l.length) (hw:toP l e<n):
  ∃ rk' T',Par l F n s (visR l F v x e) rk' T':=by
 unfold visR;by_cases hc:visC l F v x e=true
 ·rw[Yx hc]
  unfold visC at hc;rw[Bool.and_eq_true,decide_eq_true_eq] at hc;obtain⟨hroom,hcond⟩:=hc;have hfr:frP l e=v:=frP_of he;obtain⟨w,hwd⟩: ∃ w,w=toP l e:=⟨_,rfl⟩;have hwt:(stTo l e).toNat=w:=by rw[hwd];rfl
  rw[hwt] at hcond ⊢;rw[← hwd] at hw;have hwD:w<x.D.length:=by rw[hk.hD];exact hw
  have hwI:w<x.I.length:=by rw[hk.hI];exact hw
  have hwB:w<x.B.length:=by rw[hk.hB];exact hw
  have hless:x.I.getD w false=true→x.D.getD v 0+stTime l e<x.D.getD w 0:=by
   intro hi;rw[hi] at hcond
   simpa using hcond
  refine⟨fun u=>if u=w then T else rk u,T+1,⟨fun u=> ?_,fun u hu hIu hne=> ?_⟩⟩
  ·show (if u=w then T else rk u)<T+1
   split
   ·omega
   ·have:=h.lt u;omega
  ·simp only[getD_set_if _ _ _ _ _ hwB,getD_set_if _ _ _ _ _ hwD,getD_set_if _ _ _ _ _ hwI] at hIu ⊢
   by_cases huw:u=w
   ·subst huw
    simp only[if_true];rw[hfr];refine⟨stL_of he,hroom,hwd.symm,?_,?_⟩
    ·by_cases hvw:v=u
     ·rw[Yx hvw]
     ·rw[Yy hvw];exact hI
    ·by_cases hvw:v=u
     ·subst hvw
      left;simp only[if_true];have:=hless hI;omega
     ·right
      simp only[Yy hvw];exact⟨trivial,h.lt v⟩
   ·simp only[Yy huw] at hIu ⊢
    obtain⟨g1,g2,g3,g4,g5⟩:=h.is_ u hu hIu hne;refine⟨g1,g2,g3,?_,?_⟩
    ·split
     ·rfl
     ·exact g4
    ·by_cases hfw:frP l (x.B.getD u z79)=w
     ·left
      rw[Yx hfw];rw[hfw] at g4 g5;have:=hless g4;rcases g5 with g5|⟨g5,_⟩<;>omega
     ·rw[Yy hfw]
      rcases g5 with g5|⟨g5,g6⟩
      ·exact .inl g5
      ·exact .inr ⟨g5,by rw[Yy hfw];exact g6⟩
 ·rw[Yy hc];exact⟨rk,T,h⟩
theorem visR_keeps {l:List S50} {F:List Int} {n v:Nat} {x:Rch} (hk:x.Ok n) (e:S79) (hw:toP l e<n) {u:Nat} (hI:x.I.getD u false=true):(visR l F v x e).I.getD u false=true:=by
 unfold visR;split
 ·show (x.I.set (toP l e) true).getD u false=true
  rw[getD_set_if _ _ _ _ _ (by rw[hk.hI];exact hw)];split
  ·rfl
  ·exact hI
 ·exact hI
theorem par_fold {l:List S50} {F:List Int} {n s v:Nat} (r:List S79): ∀ {x:Rch} {rk:Nat→Nat} {T:Nat},(∀ e,e∈r→e∈stL l v l.length∧toP l e<n)→Par l F n s x rk T→x.Ok n→x.I.getD v false=true→
  ∃ rk' T',Par l F n s (r.foldl (visR l F v) x) rk' T':=by
 induction r with
 |nil=>intro x rk T _ h _ _;exact⟨rk,T,h⟩
 |cons e r ih=>
  intro x rk T hr h hk hI;obtain⟨h1,h2⟩:=hr e List.mem_cons_self;obtain⟨rk',T',h3⟩:=par_vis h hk hI h1 h2;exact ih (fun e he=>hr e (List.mem_cons_of_mem _ he)) h3 (visR_ok hk e) (visR_keeps hk e h2 hI)
theorem par_row {l:List S50} {F:List Int} {n s v:Nat} {x:Rch} {rk:Nat→Nat} {T:Nat} (hw: ∀ e,e∈stL l v l.length→toP l e<n) (h:Par l F n s x rk T) (hk:x.Ok n): ∃ rk' T',Par l F n s (rowR l F x v) rk' T':=by
 unfold rowR;by_cases hI:x.I.getD v false=true
 ·rw[Yx hI];exact par_fold _ (fun e he=>⟨he,hw e he⟩) h hk hI
 ·rw[Yy hI];exact⟨rk,T,h⟩
theorem par_rows {l:List S50} {F:List Int} {n s:Nat} (hw: ∀ (v:Nat) (e:S79),e∈stL l v l.length→toP l e<n) (vs:List Nat): ∀ {x:Rch} {rk:Nat→Nat} {T:Nat},Par l F n s x rk T→x.Ok n→ ∃ rk' T',Par l F n s (vs.foldl (rowR l F) x) rk' T':=by
 induction vs with
 |nil=>intro x rk T h _;exact⟨rk,T,h⟩
 |cons v vs ih=>
  intro x rk T h hk;obtain⟨rk',T',h1⟩:=par_row (hw v) h hk;exact ih h1 (rowR_ok hk)
theorem par_round {l:List S50} {F:List Int} {n s:Nat} (hw: ∀ (v:Nat) (e:S79),e∈stL l v l.length→toP l e<n) {x:Rch} {rk:Nat→Nat} {T:Nat} (h:Par l F n s x rk T) (hk:x.Ok n): ∃ rk' T',Par l F n s (roundR l F n x) rk' T':=
 par_rows hw _ (x:= { x with still:=true }) ⟨h.lt,h.is_⟩ ⟨hk.hD,hk.hI,hk.hB⟩
theorem par_goes {l:List S50} {F:List Int} {n s:Nat} (hr:Right l F n) (k:Nat): ∀ {x:Rch} {rk:Nat→Nat} {T:Nat},Par l F n s x rk T→x.Ok n→ ∃ rk' T',Par l F n s (goesR l F n k x).1 rk' T':=by
 have hw: ∀ v e,e∈stL l (v:Nat) l.length→toP l e<n:=fun v e he=>toP_lt hr (stL_of he)
 induction k with
 |zero=>intro x rk T h _;exact⟨rk,T,h⟩
 |succ k ih=>
  intro x rk T h hk;obtain⟨rk',T',h1⟩:=par_round hw h hk;have hk1:=(roundR_abs (F:=F) (stTo_lt hr) hk).1;unfold goesR;split
  ·exact⟨rk',T',h1⟩
  ·exact ih h1 hk1
theorem startR_I {n s v:Nat} (hs:s<n):(startR n s).I.getD v false=decide (v=s):=by
 have h:=start_abs n s hs v;unfold absR at h;by_cases e:v=s
 ·rw[Yx e] at h
  rw[Yv e];cases hI:(startR n s).I.getD v false with
  |true=>rfl
  |false=>rw[hI] at h;cases h
 ·rw[Yy e] at h
  rw[Yw e];cases hI:(startR n s).I.getD v false with
  |false=>rfl
  |true=>rw[hI,Yx rfl] at h;cases h
theorem par_start (l:List S50) (F:List Int) {n s:Nat} (hs:s<n):Par l F n s (startR n s) (fun _=>0) 1:=
 ⟨fun _=>Nat.lt_succ_self _,fun v hv hI hne=>by rw[startR_I hs,decide_eq_true_eq] at hI;exact absurd hI hne⟩
def reachS (l:List S50) (F:List Int) (n s:Nat):Rch:=(goesR l F n (n+1) (startR n s)).1
structure ByOk (l:List S50) (F:List Int) (n s:Nat) (x:Rch) (rk:Nat→Nat):Prop where
 is_: ∀ v,v<n→x.I.getD v false=true→v≠s→StepOf l (x.B.getD v z79)∧0<stRoom l F (x.B.getD v z79)∧toP l (x.B.getD v z79)=v∧x.I.getD (frP l (x.B.getD v z79)) false=true∧x.D.getD v 0=x.D.getD (frP l (x.B.getD v z79)) 0+stTime l (x.B.getD v z79)∧rk (frP l (x.B.getD v z79))<rk v
theorem by_ok {l:List S50} {F:List Int} {n s:Nat} (hr:Right l F n) (hs:s<n) (h2:(goesR l F n (n+1) (startR n s)).2=true): ∃ rk,ByOk l F n s (reachS l F n s) rk:=by
 obtain⟨rk,T,h⟩:=par_goes hr (n+1) (par_start l F hs) (startR_ok n s);obtain⟨_,_,g3,_⟩:=goesR_spec (F:=F) (stTo_lt hr) (n+1) (startR_ok n s);have hq:=g3 h2;refine⟨rk,⟨fun v hv hI hne=> ?_⟩⟩;have h:Par l F n s (reachS l F n s) rk T:=h;obtain⟨a1,a2,a3,a4,a5⟩:=h.is_ v hv hI hne;have hfl:=frP_lt hr a1;have hmem:=(mem_esP.1 (esP_of hr a1 a2)).1;have he:edgeS l (frP l ((reachS l F n s).B.getD v z79)) ((reachS l F n s).B.getD v z79)∈liveE l F n:=by
  unfold liveE;refine List.mem_flatMap.2 ⟨_,List.mem_range.2 hfl,?_⟩;unfold liveS;exact List.mem_map.2 ⟨_,List.mem_filter.2 ⟨hmem,Yv a2⟩,rfl⟩
 have ht:=hq _ he;have hx:absR (reachS l F n s) (frP l ((reachS l F n s).B.getD v z79))=some ((reachS l F n s).D.getD (frP l ((reachS l F n s).B.getD v z79)) 0):=by unfold absR;rw[Yx a4]
 obtain⟨y,hy,hle⟩:=trig_off ht hx;have hv2:absR (reachS l F n s) v=some ((reachS l F n s).D.getD v 0):=by unfold absR;rw[Yx hI]
 have hy2:absR (reachS l F n s) (toP l ((reachS l F n s).B.getD v z79))=some y:=hy;rw[show toP l ((reachS l F n s).B.getD v z79)=v from a3,hv2] at hy2;injection hy2 with hy2
 have hle:y≤(reachS l F n s).D.getD (frP l ((reachS l F n s).B.getD v z79)) 0+stTime l ((reachS l F n s).B.getD v z79):=hle;refine⟨a1,a2,a3,a4,?_,?_⟩
 ·rcases a5 with a5|⟨a5,_⟩
  ·have a5:(reachS l F n s).D.getD (frP l ((reachS l F n s).B.getD v z79)) 0+stTime l ((reachS l F n s).B.getD v z79)<(reachS l F n s).D.getD v 0:=a5
   omega
  ·exact a5
 ·rcases a5 with a5|⟨_,a6⟩
  ·have a5:(reachS l F n s).D.getD (frP l ((reachS l F n s).B.getD v z79)) 0+stTime l ((reachS l F n s).B.getD v z79)<(reachS l F n s).D.getD v 0:=a5
   omega
  ·exact a6
def backB (l:List S50) (x:Rch) (s:Nat):Nat→Nat→List S79
 |0,_=>[]
 |k+1,v=>if v=s then [] else(x.B.getD v z79)::backB l x s k (frP l (x.B.getD v z79))
def cntB (rk:Nat→Nat) (n v:Nat):Nat:=(List.range n).countP fun u=>decide (rk u<rk v)
theorem countP_lt {p q:Nat→Bool} : ∀ {L:List Nat} {a:Nat},(∀ u,p u=true→q u=true)→a∈L→q a=true→p a=false→L.countP p<L.countP q
 |[],_,_,h,_,_=>by cases h
 |b::L,a,h,ha,h1,h2=>by
  have hle:L.countP p≤L.countP q:=by
   clear ha
   induction L with
   |nil=>exact Nat.le_refl _
   |cons c L ih=>
    rw[List.countP_cons,List.countP_cons];by_cases hc:p c=true
    ·rw[Yx hc,Yx (h c hc)];omega
    ·rw[Yy hc];split<;>omega
  rw[List.countP_cons,List.countP_cons];rcases List.mem_cons.1 ha with rfl|ha
  ·rw[h1,h2];simp;omega
  ·have:=countP_lt h ha h1 h2
   by_cases hc:p b=true
   ·rw[Yx hc,Yx (h b hc)];omega
   ·rw[Yy hc];split<;>omega
theorem cntB_lt {rk:Nat→Nat} {n u v:Nat} (hu:u<n) (h:rk u<rk v):cntB rk n u<cntB rk n v:=by
 unfold cntB;refine countP_lt (a:=u) (fun w hw=> ?_) (List.mem_range.2 hu) (Yv h) (Yw (Nat.lt_irrefl _));have:=Yu hw;exact Yv (by omega)
theorem cntB_le (rk:Nat→Nat) (n v:Nat):cntB rk n v≤n:=by
 unfold cntB;exact Nat.le_trans List.countP_le_length (by rw[List.length_range];exact Nat.le_refl _)
structure BackOk (l:List S50) (F:List Int) (n s:Nat) (x:Rch) (rk:Nat→Nat) (v:Nat) (C:List S79):Prop where
 leads:Leads (toP l) (esP l F) s C.reverse v
 tight: ∀ e,e∈C→x.I.getD (frP l e) false=true∧x.I.getD (toP l e) false=true∧x.D.getD (toP l e) 0=x.D.getD (frP l e) 0+stTime l e∧rk (frP l e)<rk (toP l e)
 short:C.length≤cntB rk n v
theorem back_ok {l:List S50} {F:List Int} {n s:Nat} {x:Rch} {rk:Nat→Nat} (hr:Right l F n) (h:ByOk l F n s x rk) (k:Nat): ∀ v,v<n→x.I.getD v false=true→cntB rk n v<k→BackOk l F n s x rk v (backB l x s k v):=by
 induction k with
 |zero=>intro v _ _ hk;omega
 |succ k ih=>
  intro v hv hI hk;unfold backB;by_cases hvs:v=s
  ·rw[Yx hvs]
   exact⟨hvs.symm,fun e he=>(by cases he),Nat.zero_le _⟩
  ·rw[Yy hvs]
   obtain⟨a1,a2,a3,a4,a5,a6⟩:=h.is_ v hv hI hvs;have hfl:=frP_lt hr a1;have hlt:=cntB_lt (n:=n) hfl a6;obtain⟨b1,b2,b3⟩:=ih _ hfl a4 (by omega);refine⟨?_,fun e he=> ?_,?_⟩
   ·rw[List.reverse_cons]
    have h_:=Leads.snoc b1 (esP_of hr a1 a2);rw[a3] at h_;exact h_
   ·rcases List.mem_cons.1 he with rfl|he
    ·rw[a3];exact⟨a4,hI,a5,a6⟩
    ·exact b2 e he
   ·rw[List.length_cons];omega
end H
namespace H
open P Q
theorem rise_apart {l:List S50} (lv:Nat→Nat): ∀ {L:List S79} {a b:Int},Trail l a L b→(∀ s,s∈L→lv (frP l s)<lv (toP l s))→
  L.Pairwise (fun x y=>x.f0≠y.f0)∧ ∀ s,s∈L→lv a.toNat≤lv (frP l s)
 |[],_,_,_,_=>⟨List.Pairwise.nil,fun s hs=>by cases hs⟩
 |x::L,a,b,h,hv=>by
  obtain⟨hs,ha,ht⟩:=h;have hx:=hv x List.mem_cons_self;obtain⟨h1,h2⟩:=rise_apart lv ht (fun s hs=>hv s (List.mem_cons_of_mem _ hs));refine⟨List.pairwise_cons.2 ⟨fun y hy e=> ?_,h1⟩,fun s hs=> ?_⟩
  ·have h3:=h2 y hy
   have h4:=hv y (List.mem_cons_of_mem _ hy);have h5:(frP l y=frP l x∧toP l y=toP l x)∨(frP l y=toP l x∧toP l y=frP l x):=by
    unfold frP toP stFrom stTo;rw[e];cases x.f1<;>cases y.f1<;>simp
   have h6:lv (stTo l x).toNat=lv (toP l x):=rfl;rcases h5 with ⟨e1,e2⟩|⟨e1,e2⟩
   ·rw[e1] at h3;omega
   ·rw[e1,e2] at h4;omega
  ·rcases List.mem_cons.1 hs with rfl|hs
   ·have:lv (stFrom l s).toNat=lv (frP l s):=rfl
    rw[ha] at this;omega
   ·have:=h2 s hs
    have h6:lv (stTo l x).toNat=lv (toP l x):=rfl;have h7:lv (stFrom l x).toNat=lv (frP l x):=rfl;rw[ha] at h7;omega
theorem push_way {l:List S50} {F:List Int} {n s t:Nat} (hf:IsFlow l F n s t) (hst:s≠t) {L:List S79} (hL:Leads (toP l) (esP l F) s L t) (hap:L.Pairwise (fun a b=>a.f0≠b.f0)):
  IsFlow l (pushW F (leastR l F L) L) n s t∧1≤leastR l F L∧L≠[]∧bal l (pushW F (leastR l F L) L) s=bal l F s+leastR l F L∧(∀ s,s∈L→StepOf l s)∧leastR l F L≤1048576∧(∀ e,e∈L→0<stRoom l F e):=by
 have hne:L≠[]:=by rintro rfl;exact hst hL
 have htr:=leads_trail hf.right (rows:=esP l F) (fun u e h=>(mem_esP.1 h).1) hL;have hroom: ∀ e,e∈L→0<stRoom l F e:=by
  have key: ∀ (L:List S79) (a b:Nat),Leads (toP l) (esP l F) a L b→ ∀ e,e∈L→0<stRoom l F e:=by
   intro L
   induction L with
   |nil=>intro a b _ e he;cases he
   |cons x L ih=>
    intro a b h e he;rcases List.mem_cons.1 he with rfl|he
    ·exact(mem_esP.1 h.1).2
    ·exact ih _ _ h.2 e he
  exact key L s t hL
 obtain⟨m,hm,hle⟩:=leastR_in (l:=l) (F:=F) hne;have h1:1≤leastR l F L:=by rw[hle];exact hroom m hm
 have hr:=Right.pushW (k:=leastR l F L) (by omega) L hf.right (fun e he=>⟨htr.of e he,leastR_le he⟩) hap;have hb:=fun v=>bal_pushW (leastR l F L) v hf.right.len htr
 have hmx:=(stRoom_in hf.right (htr.of m hm)).2;refine⟨⟨hr,fun v h0 h1 h2 h3=> ?_⟩,h1,hne,?_,htr.of,by omega,hroom⟩
 ·rw[hb,Yy h2,Yy h3,hf.keeps v h0 h1 h2 h3];rfl
 ·rw[hb,Yx rfl,Yy (by omega)];omega
theorem room_push {l:List S50} {n:Nat} {k:Int} (h0:0≤k) (L:List S79): ∀ {F:List Int},F.length=l.length→(∀ s,s∈L→StepOf l s)→ ∀ e:S79,StepOf l e→0<stRoom l (pushW F k L) e→0<stRoom l F e∨ ∃ x,x∈L∧x.f0=e.f0∧x.f1= !e.f1:=by
 induction L with
 |nil=>intro F _ _ e _ h;exact .inl h
 |cons x L ih=>
  intro F hF hL e he h;have hx:=hL x List.mem_cons_self;have h1:0<stRoom l (pushW (goS F x k) k L) e:=h;rcases ih (by rw[goS_len];exact hF) (fun s hs=>hL s (List.mem_cons_of_mem _ hs)) e he h1 with h2|⟨y,hy,h3,h4⟩
  ·by_cases hne:x.f0=e.f0
   ·by_cases hb:x.f1=e.f1
    ·left
     obtain⟨i,hi,hxi⟩:=hx;have hei:e.f0=(i:Int):=by rw[← hne];exact hxi
     unfold stRoom goS at h2;unfold stRoom;rw[hxi,hei,hb] at h2;rw[hei];simp only[Int.toNat_natCast] at h2 ⊢;rw[getD_set_eq _ _ _ _ (by omega)] at h2;cases hb1:e.f1<;>rw[hb1] at h2<;>simp only[Bool.false_eq_true,if_false,if_true] at h2 ⊢ <;>omega
    ·right
     refine⟨x,List.mem_cons_self,hne,?_⟩;cases h5:x.f1<;>cases h6:e.f1<;>rw[h5,h6] at hb<;>simp at hb ⊢
   ·left
    rw[room_other hx he k hne] at h2;exact h2
  ·exact .inr ⟨y,List.mem_cons_of_mem _ hy,h3,h4⟩
structure TightWay (l:List S50) (F:List Int) (s t:Nat) (d:Nat→Option Int) (L:List S79):Prop where
 leads:Leads (toP l) (esP l F) s L t
 apart:L.Pairwise (fun a b=>a.f0≠b.f0)
 tight: ∀ e,e∈L→ ∃ x,d (frP l e)=some x∧d (toP l e)=some (x+stTime l e)
theorem span_push {l:List S50} {F:List Int} {n s t:Nat} {c:Int} (h:SpanOk l F n s t c) (hs:s<n) (hst:s≠t) {d:Nat→Option Int} (hd:TightO l F d) (h0:d s=some 0) {x:Int} (hx:d t=some x) (hxc:x<c) {L:List S79} (hL:TightWay l F s t d L):
  SpanOk l (pushW F (leastR l F L) L) n s t c∧bal l F s+1≤bal l (pushW F (leastR l F L) L) s:=by
 obtain⟨p1,p2,p3,p4,p5,p6,p7⟩:=push_way h.flow hst hL.leads hL.apart;refine⟨⟨p1,?_⟩,by omega⟩;obtain⟨q,hq,q0,q1⟩:=h.nums
 -- a number above all that is told on the way
 have hK: ∃ K:Int,0≤K∧(∀ y,d s=some y→y≤q s+K)∧(∀ y,d t=some y→y≤q t+K)∧ ∀ e,e∈L→(∀ y,d (frP l e)=some y→y≤q (frP l e)+K)∧ ∀ y,d (toP l e)=some y→y≤q (toP l e)+K:=by
  have one: ∀ v:Nat, ∃ K:Int,0≤K∧ ∀ y,d v=some y→y≤q v+K:=by
   intro v;cases hv:d v with
   |none=>exact⟨0,Int.le_refl _,fun y hy=>by cases hy⟩
   |some z=>exact⟨max 0 (z - q v),by omega,fun y hy=>by injection hy with hy;omega⟩
  have all: ∀ M:List S79, ∃ K:Int,0≤K∧ ∀ e,e∈M→(∀ y,d (frP l e)=some y→y≤q (frP l e)+K)∧ ∀ y,d (toP l e)=some y→y≤q (toP l e)+K:=by
   intro M
   induction M with
   |nil=>exact⟨0,Int.le_refl _,fun e he=>by cases he⟩
   |cons x M ih=>
    obtain⟨K1,k1,h1⟩:=ih;obtain⟨K2,k2,h2⟩:=one (frP l x);obtain⟨K3,k3,h3⟩:=one (toP l x);refine⟨K1+K2+K3,by omega,fun e he=> ?_⟩;rcases List.mem_cons.1 he with rfl|he
    ·exact⟨fun y hy=>by have:=h2 y hy;omega,fun y hy=>by have:=h3 y hy;omega⟩
    ·exact⟨fun y hy=>by have:=(h1 e he).1 y hy;omega,fun y hy=>by have:=(h1 e he).2 y hy;omega⟩
  obtain⟨K1,k1,h1⟩:=all L;obtain⟨K2,k2,h2⟩:=one s;obtain⟨K3,k3,h3⟩:=one t;refine⟨K1+K2+K3,by omega,fun y hy=>by have:=h2 y hy;omega,fun y hy=>by have:=h3 y hy;omega,fun e he=>⟨fun y hy=>by have:=(h1 e he).1 y hy;omega,fun y hy=>by have:=(h1 e he).2 y hy;omega⟩⟩
 obtain⟨K,_,ks,kt,kL⟩:=hK;have hp:=TightP.min_ hd (hq.plus K);refine⟨minO d (fun v=>q v+K),fun e he hrm=> ?_,?_,?_⟩
 ·rcases room_push (n:=n) (by omega) L h.flow.right.len p5 e he hrm with h1|⟨y,hy,h3,h4⟩
  ·exact hp e he h1
  ·obtain⟨z,z1,z2⟩:=hL.tight y hy
   have e1:toP l e=frP l y:=by unfold toP frP stTo stFrom;rw[h3,h4];cases e.f1<;>simp
   have e2:frP l e=toP l y:=by unfold toP frP stTo stFrom;rw[h3,h4];cases e.f1<;>simp
   have e3:stTime l e= - stTime l y:=by unfold stTime;rw[h3,h4];cases e.f1<;>simp
   have m1:=(kL y hy).1 z z1;have m2:=(kL y hy).2 _ z2;rw[e1,e2,e3,minO_some z1,minO_some z2];show min z (q (frP l y)+K)≤min (z+stTime l y) (q (toP l y)+K)+ -stTime l y;omega
 ·rw[minO_some h0]
  have:=ks 0 h0;show min 0 (q s+K)=0;omega
 ·rw[minO_some hx]
  have:=kt x hx;show min x (q t+K)<c;omega
theorem span_zero {l:List S50} {n s t:Nat} {c:Int} (hr:Right l (List.replicate l.length 0) n) (hc:0<c):SpanOk l (List.replicate l.length 0) n s t c:=
 ⟨(zeros_of hr).1,fun _=>0,tight_zero hr,rfl,hc⟩
end H
namespace H
open P Q
theorem refE_of {l:List S50} {F:List Int} {n:Nat} (hr:Right l F n) {e:S79} (he:StepOf l e) (hrm:0<stRoom l F e):edgeF l e∈refE l F:=by
 unfold refE;refine List.mem_map.2 ⟨e,(mem_stepsR l F F.length e).2 ⟨?_,hrm⟩,rfl⟩;obtain⟨i,h1,h2⟩:=he;exact⟨i,by rw[hr.len];exact h1,h2⟩
theorem tightP_noGain {l:List S50} {F:List Int} {n:Nat} (hr:Right l F n) {q:Nat→Int} (h:TightP l F q):NoGain (refE l F) (fun v=>v<n):=by
 refine Tight.noGain (p:=q) ?_;intro e he _;refine⟨(refE_in hr e he).2,?_⟩;obtain⟨s,hs,rfl⟩:=List.mem_map.1 he;exact h s (stepsR_of hr s hs) ((mem_stepsR l F F.length s).1 hs).2
structure ReachOk (l:List S50) (F:List Int) (n s:Nat) (x:Rch):Prop where
 ok:x.Ok n
 tight:TightO l F (absR x)
 start:absR x s=some 0
 by_: ∃ rk,ByOk l F n s x rk
theorem reach_ok {l:List S50} {F:List Int} {n s:Nat} (hr:Right l F n) (hs:s<n) (hg:NoGain (refE l F) (fun v=>v<n)):(goesR l F n (n+1) (startR n s)).2=true∧ReachOk l F n s (reachS l F n s):=by
 have h0: ∀ v c,absR (startR n s) v=some c→v<n∧v<n:=by
  intro v c hc;rw[start_abs n s hs] at hc;split at hc
  ·rename_i e;omega
  ·cases hc
 have h2:=goes_ok hr (startR_ok n s) hg h0;have ht:=goes_told hr (startR_ok n s) (n+1) h2;refine⟨h2,(goesR_spec (F:=F) (stTo_lt hr) (n+1) (startR_ok n s)).1,fun e he hrm x hx=> ?_,?_,by_ok hr hs h2⟩
 ·exact trig_off (ht.still _ (refE_of hr he hrm)) hx
 ·refine still_start ht.still ht.real ht.bet (by rw[start_abs n s hs,Yx rfl]) (fun u x hx=> ?_)
  rw[start_abs n s hs] at hx;split at hx
  ·assumption
  ·cases hx
def wayS (l:List S50) (F:List Int) (n s t:Nat):List S79:=(backB l (reachS l F n s) s (n+1) t).reverse
theorem wayS_ok {l:List S50} {F:List Int} {n s t:Nat} (hr:Right l F n) (h:ReachOk l F n s (reachS l F n s)) (ht:t<n) (hI:(reachS l F n s).I.getD t false=true):TightWay l F s t (absR (reachS l F n s)) (wayS l F n s t)∧(wayS l F n s t).length≤n:=by
 obtain⟨rk,hb⟩:=h.by_;obtain⟨b1,b2,b3⟩:=back_ok hr hb (n+1) t ht hI (by have:=cntB_le rk n t;omega);refine⟨⟨b1,?_,fun e he=> ?_⟩,by unfold wayS;rw[List.length_reverse];have:=cntB_le rk n t;omega⟩
 ·refine(rise_apart rk (leads_trail hr (rows:=esP l F) (fun u e h=>(mem_esP.1 h).1) b1) (fun e he=> ?_)).1
  exact(b2 e (List.mem_reverse.1 he)).2.2.2
 ·obtain⟨c1,c2,c3,_⟩:=b2 e (List.mem_reverse.1 he)
  refine⟨(reachS l F n s).D.getD (frP l e) 0,by unfold absR;rw[Yx c1],?_⟩;unfold absR;rw[Yx c2,c3]
def nearS (l:List S50) (F:List Int) (n s t:Nat) (H:Int):Prop:=(reachS l F n s).I.getD t false=true∧(reachS l F n s).D.getD t 0≤H
instance (l:List S50) (F:List Int) (n s t:Nat) (H:Int):Decidable (nearS l F n s t H):=by unfold nearS;exact inferInstance
def spanS (l:List S50) (n s t:Nat) (H:Int):Nat→List Int→List Int
 |0,F=>F
 |k+1,F=>if nearS l F n s t H then spanS l n s t H k (pushW F (leastR l F (wayS l F n s t)) (wayS l F n s t)) else F
theorem spanS_go {l:List S50} {n s t k:Nat} {H:Int} {F:List Int} (h:nearS l F n s t H):spanS l n s t H (k+1) F=spanS l n s t H k (pushW F (leastR l F (wayS l F n s t)) (wayS l F n s t)):=by rw[spanS,Yx h]
theorem spanS_end {l:List S50} {n s t k:Nat} {H:Int} {F:List Int} (h: ¬ nearS l F n s t H):spanS l n s t H (k+1) F=F:=by rw[spanS,Yy h]
theorem span_near {l:List S50} {F:List Int} {n s t:Nat} {H:Int} (h:SpanOk l F n s t (H+1)) (hs:s<n) (ht:t<n) (hst:s≠t) (hn:nearS l F n s t H):
  SpanOk l (pushW F (leastR l F (wayS l F n s t)) (wayS l F n s t)) n s t (H+1)∧bal l F s+1≤bal l (pushW F (leastR l F (wayS l F n s t)) (wayS l F n s t)) s:=by
 obtain⟨q,hq,_⟩:=h.nums;obtain⟨_,hR⟩:=reach_ok h.flow.right hs (tightP_noGain h.flow.right hq);refine span_push h hs hst hR.tight hR.start (x:=(reachS l F n s).D.getD t 0) (by unfold absR;rw[Yx hn.1]) (by have:=hn.2;omega) (wayS_ok h.flow.right hR ht hn.1).1
theorem spanS_ok {l:List S50} {n s t:Nat} {H:Int} (hs:s<n) (ht:t<n) (hst:s≠t) (k:Nat): ∀ {F:List Int},SpanOk l F n s t (H+1)→209715200 - bal l F s<k→SpanOk l (spanS l n s t H k F) n s t (H+1)∧ ¬ nearS l (spanS l n s t H k F) n s t H:=by
 induction k with
 |zero=>intro F h hk;have:=flow_top h.flow hs hst;omega
 |succ k ih=>
  intro F h hk;by_cases hn:nearS l F n s t H
  ·rw[spanS_go hn]
   obtain⟨h1,h2⟩:=span_near h hs ht hst hn;exact ih h1 (by omega)
  ·rw[spanS_end hn];exact⟨h,hn⟩
structure SpanTop (l:List S50) (F:List Int) (n s t:Nat) (H:Int):Prop where
 ok:SpanOk l F n s t (H+1)
 far: ∃ d:Nat→Option Int,TightO l F d∧d s=some 0∧ ∀ x,d t=some x→H+1≤x
theorem SpanTop.le {l:List S50} {F G:List Int} {n s t:Nat} {H:Int} (h:SpanTop l F n s t H) (hg:IsFlow l G n s t) (hs:s<n) (ht:t<n) (hst:s≠t):worthS l G s (H+1)≤worthS l F s (H+1):=by
 obtain⟨d,d1,d2,d3⟩:=h.far;exact h.ok.top hg hs ht hst d1 d2 d3
theorem spanS_top {l:List S50} {n s t:Nat} {H:Int} (hs:s<n) (ht:t<n) (hst:s≠t) {F:List Int} (h:SpanOk l F n s t (H+1)) (hn: ¬ nearS l F n s t H):SpanTop l F n s t H:=by
 obtain⟨q,hq,_⟩:=h.nums;obtain⟨_,hR⟩:=reach_ok h.flow.right hs (tightP_noGain h.flow.right hq);refine⟨h,absR (reachS l F n s),hR.tight,hR.start,fun x hx=> ?_⟩;unfold absR at hx;split at hx
 ·rename_i hI
  injection hx with hx
  have: ¬ (reachS l F n s).D.getD t 0≤H:=fun g=>hn ⟨hI,g⟩
  omega
 ·cases hx
def fillS (l:List S50) (n s t:Nat) (H:Int):List Int:=spanS l n s t H 300000000 (List.replicate l.length 0)
theorem fillS_top {l:List S50} {n s t:Nat} {H:Int} (hr:Right l (List.replicate l.length 0) n) (hs:s<n) (ht:t<n) (hst:s≠t) (hH:0≤H):SpanTop l (fillS l n s t H) n s t H∧ ¬ nearS l (fillS l n s t H) n s t H:=by
 have h0:=span_zero (t:=t) (s:=s) hr (c:=H+1) (by omega);have hb:=(zeros_of (s:=s) (t:=t) hr).2;obtain⟨h1,h2⟩:=spanS_ok (H:=H) hs ht hst 300000000 h0 (by omega);exact⟨spanS_top hs ht hst h1 h2,h2⟩
end H
namespace H
open P
structure Ks (S:Nat→Prop) (w w':World):Prop where
 os:w'.os=w.os
 tape:w'.tape=w.tape
 output:w'.output=w.output
 size:w.heap.size≤w'.heap.size
 block: ∀ k,k<w.heap.size→ ¬ S k→w'.heap[k]? =w.heap[k]?
section
variable {S T:Nat→Prop} {w w1 w2:World}
theorem Ks.of_below (h:Below w.heap.size w w1) (S:Nat→Prop):Ks S w w1:=⟨h.os,h.tape,h.output,h.size,fun b hb _=>h.block b hb⟩
theorem Ks.set (h:Ks S w w1) {g:Nat} (hg:g<w.heap.size→S g) (j:Nat) (u:Value):Ks S w (w1.setCell ⟨g,j,none⟩ u):=
 ⟨h.os,h.tape,h.output,by simpa [World.setCell] using h.size,fun k hk hs=>(Below.heap_setCell w1 ⟨g,j,none⟩ u k (by rintro rfl;exact hs (hg hk))).trans (h.block k hk hs)⟩
theorem Ks.toBelow {B:Nat} {w0:World} (h:Ks S w w1) (hb:Below B w0 w) (hB:B≤w.heap.size) (hS: ∀ b,S b→B≤b):Below B w0 w1:=
 hb.trans ⟨h.os,h.tape,h.output,h.size,fun k hk=>h.block k (by omega) (fun hs=>by have:=hS k hs;omega)⟩
theorem Ks.blk (h:Ks S w w1) {g:Nat} {o:Obj} (hb:w.heap[g]? =some o) (hs: ¬ S g):w1.heap[g]? =some o:=(h.block g (blk_lt hb) hs).trans hb
end
theorem nums_get (R:List Int) (j:Nat) (h:j<R.length):(nums .i64 R).toArray[j]? =some (.int .i64 (R.getD j 0)):=by
 simp[nums,List.getD_eq_getElem?_getD,List.getElem?_eq_getElem h]
attribute [local irreducible] wpQuiet
end H
namespace H
open P
def IsI (w:World) (g:Nat) (D:List Int):Prop:=w.heap[g]? =some (.cells (nums .i64 D).toArray 3 (0,0))
def stC (B:List S79):List Value:=B.flatMap fun s=>[.int .i64 s.f0, .bool s.f1]
def IsS (w:World) (g:Nat) (B:List S79):Prop:=w.heap[g]? =some (.cells (stC B).toArray 79 (0,0))
theorem stC_len (B:List S79):(stC B).length=2 * B.length:=by
 induction B with
 |nil=>rfl
 |cons s B ih=>show ([_,_] ++ stC B).length=_;rw[List.length_append,ih,List.length_cons];simp;omega
theorem stC_cons (s:S79) (B:List S79):stC (s::B)= .int .i64 s.f0:: .bool s.f1::stC B:=rfl
theorem stC_get (z:S79): ∀ (B:List S79) (u:Nat),u<B.length→(stC B)[u * 2]? =some (.int .i64 (B.getD u z).f0)∧(stC B)[u * 2+1]? =some (.bool (B.getD u z).f1)
 |[],u,h=>by simp at h
 |s::B,0,_=>⟨rfl,rfl⟩
 |s::B,u+1,h=>by
  have:=stC_get z B u (by simpa using h);rw[stC_cons,show (u+1) * 2=(u * 2+1)+1 by omega,List.getElem?_cons_succ,List.getElem?_cons_succ,List.getElem?_cons_succ,List.getElem?_cons_succ,List.getD_cons_succ];exact this
section
variable {w w1:World} {g:Nat} {D:List Int} {B:List S79}
theorem IsI.lt (h:IsI w g D):g<w.heap.size:=blk_lt h
theorem IsI.same (h:IsI w g D) (e:w1.heap[g]? =w.heap[g]?):IsI w1 g D:=e.trans h
theorem IsI.below (h:IsI w g D) (hb:Below w.heap.size w w1):IsI w1 g D:=h.same (hb.block g h.lt)
theorem IsI.cell (h:IsI w g D) {j:Nat} (hj:j<D.length):w.cell? ⟨g,j,none⟩=some (.int .i64 (D.getD j 0)):=(Yc h j).trans (nums_get D j hj)
theorem IsI.free (h:IsI w g D) (j:Nat):w.frozen? ⟨g,j,none⟩=false:=Yf h j
theorem IsI.put (h:IsI w g D) (j:Nat) (x:Int):IsI (w.setCell ⟨g,j,none⟩ (.int .i64 x)) g (D.set j x):=by
 refine(blk_set h j _).trans ?_;simp[nums,List.map_set]
theorem IsI.R (h:IsI w g D) (hl:D.length≤9223372036854775807) {base:Nat} (hb:base≤g) {ok:Nat→Prop} (hok:ok g):Kd.R (Kd.int .i64) 3 w base ok (.slice (some ⟨g,0,none⟩) D.length D.length) D:=by
 refine Kd.R_of_own (enc:=Value.int .i64) ?_ (fun k hk=> ?_)
 ·refine⟨by simp[encs], .inr ⟨g,D.length,_,rfl,hb,h,Nat.le_refl _,by simp only[maxLen];omega,by simp[nums],?_⟩⟩
  simp only[nums,encs,Nat.mul_one];exact List.take_of_length_le (by simp)
 ·have:g=k:=by simpa [Value.ownBlock] using hk
  subst this;exact hok
theorem IsS.R (h:IsS w g B) (hl:B.length≤9223372036854775807) {base:Nat} (hb:base≤g) {ok:Nat→Prop} (hok:ok g):Kd.R k79 79 w base ok (.slice (some ⟨g,0,none⟩) B.length B.length) B:=by
 refine⟨fun k hk=> ?_,stC B,⟨?_, .inr ⟨g,B.length,_,rfl,hb,h,Nat.le_refl _,by simp only[maxLen];omega,?_,?_⟩⟩,?_,fun j p hj=> ?_⟩
 ·have:g=k:=by simpa [Value.ownBlock] using hk
  subst this;exact hok
 ·rw[stC_len];show 2 * B.length=B.length * 2;omega
 ·show (stC B).toArray.size=B.length * 2
  rw[List.size_toArray,stC_len];omega
 ·show (stC B).toArray.toList.take (B.length * 2)=stC B
  rw[List.take_of_length_le (by simp[stC_len];omega)]
 ·rw[stC_len];show 2 * B.length=B.length * 2;omega
 ·obtain⟨hlt,hp⟩:=List.getElem?_eq_some_iff.1 hj
  obtain⟨h1,h2⟩:=stC_get p B j hlt;have hg:B.getD j p=p:=by rw[List.getD_eq_getElem?_getD,hj];rfl
  rw[hg] at h1 h2;have e:((stC B).drop (j * 2)).take 2=[.int .i64 p.f0, .bool p.f1]:=by
   apply List.ext_getElem?;intro m;rw[List.getElem?_take,List.getElem?_drop]
   match m with
   |0=>rw[Yx (by omega),Nat.add_zero,h1];rfl
   |1=>rw[Yx (by omega),h2];rfl
   |m+2=>rw[Yy (by omega)];rfl
  show Kd.M k79 w base _ p (((stC B).drop (j * 2)).take 2);rw[e];exact k79_mkM _ _ _ p
end
end H
namespace H
open P
attribute [local irreducible] wpQuiet
theorem info3:(Try.prog.info? 3).map (fun i=>(i.zero,i.size,i.bytes))=some (some (.int .i64 0),1,8):=by kernel_rfl
end H
namespace H
theorem exists_least {P:Nat→Prop} : ∀ m,P m→ ∃ n,P n∧ ∀ k,P k→n≤k:=by
 intro m
 induction m using Nat.strongRecOn with
 |_ m ih=>
  intro hm;by_cases h: ∃ k,k<m∧P k
  ·obtain⟨k,hk,hp⟩:=h
   exact ih k hk hp
  ·exact⟨m,hm,fun k hk=>Nat.le_of_not_lt fun hl=>h ⟨k,hl,hk⟩⟩
open Classical in
noncomputable def least (P:Nat→Prop):Nat:=if h: ∃ n,P n∧ ∀ k,P k→n≤k then Classical.choose h else 0
theorem least_both {P:Nat→Prop} (h: ∃ m,P m):P (least P)∧ ∀ k,P k→least P≤k:=by
 obtain⟨m,hm⟩:=h;unfold least;rw[dif_pos (exists_least m hm)];exact Classical.choose_spec (exists_least m hm)
theorem least_spec {P:Nat→Prop} (h: ∃ m,P m):P (least P):=(least_both h).1
theorem least_le {P:Nat→Prop} {m:Nat} (h:P m):least P≤m:=(least_both ⟨m,h⟩).2 m h
theorem least_lt {P Q:Nat→Prop} {m:Nat} (h:Q m) (hm:m<least P):least Q<least P:=Nat.lt_of_le_of_lt (least_le h) hm
end H
namespace H
open P
def revM (M:Nat→S79) (N i x:Nat):S79:=if x<i∨N - i≤x then M (N - 1 - x) else M x
theorem revM_step (M:Nat→S79) (N i j:Nat) (h:i+j+1=N) (hij:i<j) (x:Nat) (hx:x<N):revM M N (i+1) x=upd (upd (revM M N i) i (revM M N i j)) j (revM M N i i) x:=by
 unfold upd revM;by_cases e1:x=j
 ·subst e1
  rw[Yx (by omega),Yx rfl,Yy (by omega)];congr 1;omega
 ·rw[Yy e1]
  by_cases e2:x=i
  ·subst e2
   rw[Yx (by omega),Yx rfl,Yy (by omega)];congr 1;omega
  ·rw[Yy e2]
   by_cases e3:x<i∨N - i≤x
   ·rw[Yx (by omega),Yx e3]
   ·rw[Yy (by omega),Yy e3]
set_option maxHeartbeats 2000000 in
set_option maxRecDepth 100000 in
theorem reverse_calls (g N cap:Nat) (M:Nat→S79) (w:World) (h:Arr w g N M) (hN0:0<N) (hN:N≤1000000):
  Calls Try.prog 88 #[.slice (some ⟨g,0,none⟩) N cap] w fun e w'=>e= .returned (.tuple #[])∧Arr w' g N (fun x=>M (N - 1 - x))∧Fr w w' g:=by
 have HA:=Ya h;have p0:(0:Int)<(N:Int):=by omega
 have p1:(N:Int)≤1000000:=by omega
 clear h;go_enter Try.func88,Try.ntmps88;go_wp2_with fail;go_loopw [2,3] (fun v2 v3 w'=> ∃ i j:Nat,i+j+1=N∧v2= .int .i64 i∧v3= .int .i64 j∧i≤j+1∧Aside0 (Arr w' g N (revM M N i))∧Aside0 (Fr w w' g)) (fun v2 _ _=>N - (intOf v2).toNat)
 case atStart=>exact⟨0,N - 1,by omega,rfl,by first|go_num|(congr 1;omega),by omega,⟨HA.out.congr (fun x hx=>by unfold revM;rw[Yy (by omega)])⟩,⟨grow_refl w g⟩⟩
 case round=>
  obtain⟨i,j,hij,rfl,rfl,hle,HR,HF⟩:=hrel;by_cases hlt:i<j
  ·have e1:decide ((i:Int)<(j:Int))=true:=Yv (by omega)
   have q0:(0:Int)≤(i:Int):=by omega
   have q1:(i:Int)<(N:Int):=by omega
   have q2:(0:Int)≤(j:Int):=by omega
   have q3:(j:Int)<(N:Int):=by omega
   have q4:(1:Int)≤(j:Int):=by omega
   have a0:=HR.out.cell0 (x:=i) (by omega);have a1:=HR.out.cell1 (x:=i) (by omega);have b0:=HR.out.cell0 (x:=j) (by omega);have b1:=HR.out.cell1 (x:=j) (by omega);have f0:=HR.out.free (i * 2);have f1:=HR.out.free (i * 2+1);have f2:=HR.out.free (j * 2);have f3:=HR.out.free (j * 2+1);have n1:i * 2≠j * 2:=by omega
   have n2:i * 2≠j * 2+1:=by omega
   have n3:i * 2+1≠j * 2:=by omega
   have n4:i≠j:=by omega
   have HA2:=Ya ((((HR.out.put (x:=i) (by omega) (revM M N i j)).put (x:=j) (by omega) (revM M N i i)).congr (fun x hx=>revM_step M N i j hij hlt x hx)).drew);have HF2:Aside0 (Fr w ((((((wr.setCell ⟨g,i * 2,none⟩ (.int .i64 (revM M N i j).f0)).setCell ⟨g,i * 2+1,none⟩ (.bool (revM M N i j).f1)).setCell ⟨g,j * 2,none⟩ (.int .i64 (revM M N i i).f0)).setCell ⟨g,j * 2+1,none⟩ (.bool (revM M N i i).f1)).drew)) g):=⟨grow_drew (grow_set (grow_set (grow_set (grow_set HF.out _ _) _ _) _ _) _ _)⟩;clear HR HF;generalize revM M N i i=si at *;generalize revM M N i j=sj at *;go_wp2_with fail;go_region;clear a0 a1 b0 b1 f0 f1 f2 f3 n1 n2 n3 n4;generalize ((((wr.setCell ⟨g,i * 2,none⟩ (.int .i64 sj.f0)).setCell ⟨g,i * 2+1,none⟩ (.bool sj.f1)).setCell ⟨g,j * 2,none⟩ (.int .i64 si.f0)).setCell ⟨g,j * 2+1,none⟩ (.bool si.f1)).drew=w9 at HA2 HF2 ⊢;go_wp2_with fail;go_roundw
   case rel=>exact⟨i+1,j - 1,by omega,by go_num,by first|go_num|(congr 1;omega),by omega,HA2,HF2⟩
   case measure=>simp[intOf]<;>omega
  ·have e1:decide ((i:Int)<(j:Int))=false:=Yw (by omega)
   go_wp2_with fail;refine bodyPost_end (results_none rfl _ _ _) rfl ⟨rfl,HR.out.congr (fun x hx=> ?_),HF.out⟩;unfold revM;by_cases e3:x<i∨N - i≤x
   ·rw[Yx e3]
   ·rw[Yy e3]
    congr 1;omega
theorem map_rev (xs:List S79) (z:S79):(List.range xs.length).map (fun x=>xs.getD (xs.length - 1 - x) z)=xs.reverse:=by
 apply List.ext_getElem (by simp);intro j h1 h2;have hj:j<xs.length:=by simpa using h2
 rw[List.getElem_map,List.getElem_range,List.getElem_reverse,List.getD_eq_getElem?_getD,List.getElem?_eq_getElem (by omega)];rfl
theorem reverse_row (base:Nat) (ok:Nat→Prop) (v:Value) (xs:List S79) (w:World) (h:Kd.R k79 79 w base ok v xs) (hp:0<xs.length) (hl:xs.length≤1000000):
  Calls Try.prog 88 #[v] w fun e w'=>e= .returned (.tuple #[])∧Kd.R k79 79 w' base ok v xs.reverse∧w.grownBy w' v.ownBlock:=by
 obtain⟨g,cap,rfl,hb,hlt,_⟩:=Kd.R_form h hp;refine(reverse_calls g xs.length cap _ w (arr_of_R h hp) hp hl).mono ?_;rintro e w' ⟨rfl,ha,hf⟩;have hr:=R_of_arr (ok':=ok) h rfl hp ha hf (h.1 g rfl);rw[map_rev] at hr;exact⟨rfl,hr,hf.1⟩
end H
namespace H
open P Q
def endsErr (n:Int) (l:List S50) (s t:Int):Int:=if netErr n l=0 then(if 0≤s∧s<n∧0≤t∧t<n∧s≠t then 0 else 70) else netErr n l
end H
namespace H
open P
attribute [local irreducible] wpQuiet
theorem fromS_f {l:List S50} {F:List Int} {n:Nat} (hr:Right l F n) {s:S79} (hs:StepOf l s) (a:Int) (b:Bool):static_Flowing_From.f a b l F s.f0 s.f1=some (stFrom l s):=by
 obtain⟨i,h1,h2⟩:=hs;unfold static_Flowing_From.f stFrom eFrom eTo;rw[h2];cases s.f1<;>simp[h1]
theorem back_end {fr:S79→Nat} {st:List (Fd S79)} {s k:Nat} :backL fr st s k s=[]:=by
 cases k with
 |zero=>rfl
 |succ k=>rw[backL,Yx rfl]
end H
namespace H
open P
attribute [local irreducible] wpQuiet
set_option maxHeartbeats 4000000 in
set_option maxRecDepth 100000 in
theorem fastest_calls (n0:Nat) (Zc:Bool) (A2:Option Addr) (c2:Nat) (l:List S50) (A3:Option Addr) (c3:Nat) (F:List Int) (A4:Option Addr) (c4:Nat) (AD:Option Addr) (cD:Nat) (AI:Option Addr) (cI:Nat) (AB:Option Addr) (cB:Nat) (x:Rch) (rk:Nat→Nat) (s t:Nat) (w:World)
  (hR:Right l F n0) (hx:x.Ok n0) (hby:ByOk l F n0 s x rk) (hs:s<n0) (ht:t<n0) (hts:s≠t) (hI:x.I.getD t false=true) (hc2:l.length≤c2) (hc3:F.length≤c3) (h2:Kd.C k50 w A2 l.length l) (h3:Kd.C (Kd.int .i64) w A3 F.length F) (h5:Kd.C k79 w AB n0 x.B):
  Calls Try.prog 69 #[.agg #[.int .i64 (n0:Int), .bool Zc, .slice A2 l.length c2, .slice A3 F.length c3, .slice A4 n0 c4], .agg #[.slice AD n0 cD, .slice AI n0 cI, .slice AB n0 cB], .int .i64 (s:Int), .int .i64 (t:Int)] w fun e w'=> ∃ v:Value,e= .returned v∧Kd.R k79 79 w' w.heap.size (fun _=>True) v (backB l x s (n0+1) t).reverse∧Below w.heap.size w w':=by
 have hu118:=Try.underlying107;have hu115:=Try.underlying104;have hu109:=Try.underlying69;have hn50:=hR.fifty;obtain⟨ad,eAB,_⟩:=h5.2.2 (by omega);subst eAB;obtain⟨FULL,hFU⟩: ∃ L_,L_=backB l x s (n0+1) t:=⟨_,rfl⟩;rw[← hFU];have HFU:=Ya hFU;have HR:=Ya hR;have HX:=Ya hx;have HBY:=Ya hby
 have HIT:=Ya hI;have HC2:=Ya hc2;have HC3:=Ya hc3;have H2:=Ya h2;have H3:=Ya h3;have H5:=Ya h5;have HB:=Ya (Yo w.heap.size w);clear hR hx hby hI hc2 hc3 h2 h3 h5 hFU;go_enter Try.func69,Try.ntmps69;go_upto_region 2 with (first|((with_reducible refine gate_dst (N:=4) rfl ?_);refine Yz ?hg (N:=4) ?hd (cs:= #[.int .i64 (n0:Int), .bool Zc, .slice A2 l.length c2, .slice A3 F.length c3, .slice A4 n0 c4]) (t:=107) ?hr ?_;(case hd=>rfl);(case hg=>rfl);(case hr=>first|(go_simp;done)|(go_simp;rfl));intro g4 hg w5 Zf hb;have B4:=Ya Zf;have m0_:=Ya (Yk HB.out hb);clear HB hb Zf hg;have HB:=m0_;clear m0_)|((with_reducible refine gate_dst (N:=5) rfl ?_);refine Yz ?hg (N:=5) ?hd (cs:= #[.slice AD n0 cD, .slice AI n0 cI, .slice (some ad) n0 cB]) (t:=69) ?hr ?_;(case hd=>rfl);(case hg=>rfl);(case hr=>first|(go_simp;done)|(go_simp;rfl));intro g5 hg w6 Zf hb;have B5:=Ya Zf;have m0_:=Ya (Yk HB.out hb);have m1_:=Ya (Yn B4.out hb);clear HB B4 hb Zf hg;have HB:=m0_;have B4:=m1_;clear m0_ m1_)|fail)
 have HO:Aside0 (Kd.R k79 79 (w6.alloc (.cells #[] 79)) w.heap.size (fun k=>k≠g4∧k≠g5) (.slice (some ⟨w6.heap.size,0,none⟩) 0 0) []):=⟨IsS.R (B:=[]) (heap_alloc_new w6 _) (by simp) HB.out.size ⟨by have:=blk_lt B4.out;omega,by have:=blk_lt B5.out;omega⟩⟩;have m0_:=Ya (Ye HB.out (.cells #[] 79));have m1_:=Ya (Yn B4.out (Ye (Yo _ _) (.cells #[] 79)));have m2_:=Ya (Yn B5.out (Ye (Yo _ _) (.cells #[] 79)));clear HB B4 B5;have HB:=m0_;have B4:=m1_;have B5:=m2_;clear m0_ m1_ m2_;generalize w6.alloc (.cells #[] 79)=w7 at *;generalize Value.slice (some ⟨w6.heap.size,0,none⟩) 0 0=v0 at *;go_wp2_with fail;go_loopw [9,10] (fun v9 v10 w'=> ∃ (v m:Nat) (O:List S79),v10= .int .i64 (v:Int)∧v<n0∧Aside0 (x.I.getD v false=true)∧Aside0 (cntB rk n0 v<m)∧Aside0 (O ++ backB l x s m v=FULL)∧Aside0 (O.length+cntB rk n0 v≤50)∧Aside0 (Kd.R k79 79 w' w.heap.size (fun k=>k≠g4∧k≠g5) v9 O)∧Aside0 (w'.heap[g4]? =some (.cells #[.int .i64 (n0:Int), .bool Zc, .slice A2 l.length c2, .slice A3 F.length c3, .slice A4 n0 c4] 107 (0,0)))∧Aside0 (w'.heap[g5]? =some (.cells #[.slice AD n0 cD, .slice AI n0 cI, .slice (some ad) n0 cB] 69 (0,0)))∧Aside0 (Below w.heap.size w w')) (fun _ v10 _=>cntB rk n0 (intOf v10).toNat)
 case atStart=>exact⟨t,n0+1,[],rfl,ht,HIT,⟨by have:=cntB_le rk n0 t;omega⟩,⟨by rw[List.nil_append];exact HFU.out.symm⟩,⟨by have:=cntB_le rk n0 t;show 0+_≤_;omega⟩,HO,B4,B5,HB⟩
 case round=>
  clear HO B4 B5 HB;obtain⟨v,m,O,rfl,hv,HI,HM,HBK,HLN,HO,B4,B5,HB⟩:=hrel;obtain⟨m,rfl⟩: ∃ m_,m=m_+1:=⟨m - 1,by have:=HM.out;omega⟩;by_cases hvs:v=s
  ·have e1:((v:Int) != (s:Int))=false:=by rw[hvs];simp
   have hO:O=FULL:=by
    have h_:=HBK.out;rw[backB,Yx hvs,List.append_nil] at h_;exact h_
   have hlp:0<O.length:=by
    rw[hO,HFU.out,backB,Yy (Ne.symm hts)];simp
   have HOE:=Ya hO;have HLP:=Ya hlp;clear hO hlp hvs;go_wp2_with (first|(go_at_call 88;refine(reverse_row w.heap.size _ u9 O _ HO.out HLP.out (by have:=HLN.out;omega)).mono ?_;rintro e_ w9 ⟨rfl,hr,hg⟩;have m0_:=Ya hr;have m1_:=Ya (pw_below_grown HB.out _ HB.out.size hg (fun k hk=>Kd.R_base HO.out k hk));clear HO HB hr hg;have HO:=m0_;have HB:=m1_;clear m0_ m1_)|fail);go_ret;exact⟨_,rfl,by rw[← HOE.out];exact Kd.R_mono HO.out (fun _ _=>trivial),HB.out⟩
  ·have e1:((v:Int) != (s:Int))=true:=by rw[bne_iff_ne];omega
   obtain⟨a1,a2,a3,a4,a5,a6⟩:=HBY.out.is_ v hv HI.out hvs;obtain⟨e,hee⟩: ∃ e_,e_=x.B.getD v z79:=⟨_,rfl⟩;have hfl:=frP_lt HR.out a1;have hlt:=cntB_lt (n:=n0) hfl a6;have hff:=stFrom_in HR.out a1;have hfm:=fromS_f HR.out a1 (n0:Int) Zc;rw[← hee] at a1 a4 hfl hlt hff hfm;obtain⟨u,hu⟩: ∃ u_,u_=frP l e:=⟨_,rfl⟩;have hfi:stFrom l e=(u:Int):=by rw[hu];unfold frP;omega
   rw[hfi] at hfm;rw[← hu] at a4 hfl hlt;have HFM:=Ya hfm;have HBK2:Aside0 ((O ++ [e]) ++ backB l x s m u=FULL):=⟨by rw[← HBK.out,backB,Yy hvs, ← hee, ← hu,List.append_assoc];rfl⟩;have HA4:=Ya a4;have HM2:Aside0 (cntB rk n0 u<m):=⟨by have:=HM.out;omega⟩;have HLN2:Aside0 ((O ++ [e]).length+cntB rk n0 u≤50):=⟨by rw[List.length_append,List.length_singleton];have:=HLN.out;omega⟩;have HLT:=Ya hlt;have hOl:O.length≤50:=by have:=HLN.out;omega
   have hB:=HX.out.hB;have pv:(0:Int)≤(v:Int):=by omega
   have qv:(v:Int)<(n0:Int):=by omega
   obtain⟨ad',ead,b0,b1⟩:=at_T79 (Yt H5.out HB.out) (v:Int) pv qv;injection ead with ead
   subst ead;have hrd:rd_T79 x.B (v:Int)=e:=by rw[hee];unfold rd_T79;rw[Int.toNat_natCast]
   have HRD:=Ya hrd;rw[hrd,Int.toNat_natCast] at b0 b1;clear a1 a2 a3 a4 a5 a6 hlt hff hfm hfi hu hee hrd HBK HM hvs hB HI;have x2:wr.cell? ⟨g5,2,none⟩=some (.slice (some ad) n0 cB):=(Yc B5.out 2).trans rfl;go_wp2_with (first|((with_reducible refine gate_builtin (b:= .append) (xs:= #[.tmp 24, .tmp 30]) rfl ?_);at_builtin;refine Kd.R_append k79 (w0:=w) w.heap.size rfl (.tmp 24) (.tmp 30) 67 79 (.agg #[(.int .i64 0),(.bool false)]) 16 rfl Try.underlying67 info79 rfl (by decide) (by omega) u9 O e [.int .i64 e.f0, .bool e.f1] (fun k=>k≠g4∧k≠g5) (fun _=>False) rfl rfl ?aP (fun _ hk=>hk.elim) ?aF ?aO ?aB ?aS ?aL ?_;(case aP=>exact k79_mkM _ _ _ e);(case aF=>exact(fun k hk=>⟨by have:=blk_lt B4.out;omega,by have:=blk_lt B5.out;omega⟩));(case aO=>exact HO.out);(case aB=>exact HB.out);(case aS=>exact HB.out.size);(case aL=>omega);intro v1 w9 ho hb hg hat;have m0_:=Ya ho;have m1_:=Ya hb;have m2_:=Ya ((hg.block g4 (blk_lt B4.out) (fun h=>(HO.out.1 g4 h.symm).1 rfl)).trans B4.out);have m3_:=Ya ((hg.block g5 (blk_lt B5.out) (fun h=>(HO.out.1 g5 h.symm).2 rfl)).trans B5.out);clear HO B4 B5 HB ho hb hg hat b0 b1 x2;have HO:=m0_;have HB:=m1_;have B4:=m2_;have B5:=m3_;clear m0_ m1_ m2_ m3_)|fail);obtain⟨ad',ead,d0,d1⟩:=at_T79 (Yt H5.out HB.out) (v:Int) pv qv;injection ead with ead
   subst ead;rw[HRD.out,Int.toNat_natCast] at d0 d1;have q0: ∀ p:BelowW w9,p.at_.cell? ⟨g4,0,none⟩=some (.int .i64 (n0:Int)):=fun p=>p.cell ((Yc B4.out 0).trans rfl)
   have q1: ∀ p:BelowW w9,p.at_.cell? ⟨g4,1,none⟩=some (.bool Zc):=fun p=>p.cell ((Yc B4.out 1).trans rfl)
   have q2: ∀ p:BelowW w9,p.at_.cell? ⟨g4,2,none⟩=some (.slice A2 l.length c2):=fun p=>p.cell ((Yc B4.out 2).trans rfl)
   have q3: ∀ p:BelowW w9,p.at_.cell? ⟨g4,3,none⟩=some (.slice A3 F.length c3):=fun p=>p.cell ((Yc B4.out 3).trans rfl)
   have q4: ∀ p:BelowW w9,p.at_.cell? ⟨g5,2,none⟩=some (.slice (some ad) n0 cB):=fun p=>p.cell ((Yc B5.out 2).trans rfl)
   have q5: ∀ p:BelowW w9,p.at_.cell? (ad.add (v * 2))=some (.int .i64 e.f0):=fun p=>p.cell d0
   have q6: ∀ p:BelowW w9,p.at_.cell? ⟨(ad.add (v * 2)).block,(ad.add (v * 2)).off+1,none⟩=some (.bool e.f1):=fun p=>p.cell d1
   have HCA:Aside0 (∀ p:BelowW w9,Kd.C k50 p.at_ A2 l.length l):=⟨fun p=>Yt (Yt H2.out HB.out) p.below⟩;have HCF:Aside0 (∀ p:BelowW w9,Kd.C (Kd.int .i64) p.at_ A3 F.length F):=⟨fun p=>Yt (Yt H3.out HB.out) p.below⟩;clear d0 d1;refine wp_region_quiet_below (by kernel_rfl) (by kernel_rfl) ?_;(repeat(quiet_step ((first|(go_at_call 87;exact calls_below_of (static_Flowing_From.calls (n0:Int) Zc A2 c2 l A3 c3 F e.f0 e.f1 (u:Int) _ (HCA.out _) HC2.out (HCF.out _) HC3.out HFM.out))))));refine wpQuiet_nil ?_;intro wq hw';obtain⟨⟨wz,hbq⟩,hwq⟩:=hw';subst hwq;have m0_:=Ya (Ys HO.out hbq);have m1_:=Ya (Yn B4.out hbq);have m2_:=Ya (Yn B5.out hbq);have m3_:=Ya (Yk HB.out hbq);clear HO B4 B5 HB HCA HCF q0 q1 q2 q3 q4 q5 q6 hbq;have HO:=m0_;have B4:=m1_;have B5:=m2_;have HB:=m3_;clear m0_ m1_ m2_ m3_;go_wp2_with fail;go_roundw
   case rel=>exact⟨u,m,O ++ [e],rfl,hfl,HA4,HM2,HBK2,HLN2,HO,B4,B5,HB⟩
   case measure=>have h_:=HLT.out;simpa [intOf] using h_
end H
namespace H
open P
set_option maxHeartbeats 2000000 in
set_option maxRecDepth 100000 in
theorem go_calls (n0:Int) (Zc:Bool) (A2:Option Addr) (c2:Nat) (l:List S50) (gF cF:Nat) (F:List Int) (s:S79) (k:Int) (w:World)
  (hF:IsI w gF F) {i:Nat} (hi:i<F.length) (hs:s.f0=i) (hk: -9223372036854775808<k∧k≤9223372036854775807)
  (h1:s.f1=false→ -9223372036854775808≤F.getD i 0+k∧F.getD i 0+k≤9223372036854775807) (h2:s.f1=true→ -9223372036854775808≤F.getD i 0 - k∧F.getD i 0 - k≤9223372036854775807):
  Calls Try.prog 71 #[.agg #[.int .i64 n0, .bool Zc, .slice A2 l.length c2, .slice (some ⟨gF,0,none⟩) F.length cF], .agg #[.int .i64 s.f0, .bool s.f1], .int .i64 k] w fun e w'=>e= .returned (.tuple #[])∧IsI w' gF (goS F s k)∧Ks (fun b=>b=gF) w w':=by
 have hu115:=Try.underlying104;have hu38:=Try.underlying79;obtain⟨x,y⟩:=s;simp only at hs h1 h2;subst hs;have HF:=Ya hF;have hg:=hF.lt;clear hF;cases y
 ·have hb:=h1 rfl
  have hwr:IntKind.i64.wrap (F.getD i 0+k)=F.getD i 0+k:=IntWalk.i64_in _ (by omega);clear h1 h2;obtain⟨y0,hy0⟩: ∃ y,y=F.getD i 0:=⟨_,rfl⟩;rw[← hy0] at hwr hb;have HY:=Ya hy0;clear hy0;go_enter Try.func71,Try.ntmps71;go_upto_region 1 with (first|((with_reducible refine gate_dst (N:=3) rfl ?_);refine Yz ?hg (N:=3) ?hd (cs:= #[.int .i64 n0, .bool Zc, .slice A2 l.length c2, .slice (some ⟨gF,0,none⟩) F.length cF]) (t:=104) ?hr ?_;(case hd=>rfl);(case hg=>rfl);(case hr=>first|(go_simp;done)|(go_simp;rfl));intro g3 hg3 w3 Zf hb;have B3:=Ya Zf;have HB3:=Ya hb;have G3:Aside0 (w.heap.size≤g3):=⟨Nat.le_of_eq hg3.symm⟩;clear hg3;have m0_:=Ya (HF.out.below hb);clear HF hb Zf;have HF:=m0_;clear m0_)|((with_reducible refine gate_dst (N:=4) rfl ?_);refine Yz ?hg (N:=4) ?hd (cs:= #[.int .i64 (i:Int), .bool false]) (t:=79) ?hr ?_;(case hd=>rfl);(case hg=>rfl);(case hr=>first|(go_simp;done)|(go_simp;rfl));intro g4 hg4 w4 Zf hb;have B4:=Ya Zf;have G4:Aside0 (w.heap.size≤g4):=⟨Nat.le_trans HB3.out.size (Nat.le_of_eq hg4.symm)⟩;clear hg4;have HB4:=Ya (Yk HB3.out hb);have m0_:=Ya (HF.out.below hb);have m1_:=Ya (Yn B3.out hb);clear HF B3 HB3 hb Zf;have HF:=m0_;have B3:=m1_;clear m0_ m1_;have a3:w4.cell? ⟨g3,3,none⟩=some (.slice (some ⟨gF,0,none⟩) F.length cF):=(Yc B3.out 3).trans rfl;have b0:w4.cell? ⟨g4,0,none⟩=some (.int .i64 (i:Int)):=(Yc B4.out 0).trans rfl;have b1:w4.cell? ⟨g4,1,none⟩=some (.bool false):=(Yc B4.out 1).trans rfl)|fail)
  have c0:=HF.out.cell hi;have f0:=HF.out.free i;rw[← HY.out] at c0;go_wp2_with fail;refine bodyPost_end (results_none rfl _ _ _) rfl ⟨rfl,?_,(Ks.of_below HB4.out (fun b=>b=gF)).set (g:=gF) (fun _=>rfl) i _⟩;have e:goS F ⟨(i:Int),false⟩ k=F.set i (y0+k):=by unfold goS;simp[HY.out,Int.sub_eq_add_neg]
  rw[e];exact HF.out.put i _
 ·have hb:=h2 rfl
  have hwr:IntKind.i64.wrap (F.getD i 0+ -k)=F.getD i 0+ -k:=IntWalk.i64_in _ (by omega);have hwn:IntKind.i64.wrap (-k)= -k:=IntWalk.i64_in _ (by omega);clear h1 h2;obtain⟨y0,hy0⟩: ∃ y,y=F.getD i 0:=⟨_,rfl⟩;rw[← hy0] at hwr hb;have HY:=Ya hy0;clear hy0;go_enter Try.func71,Try.ntmps71;go_upto_region 1 with (first|((with_reducible refine gate_dst (N:=3) rfl ?_);refine Yz ?hg (N:=3) ?hd (cs:= #[.int .i64 n0, .bool Zc, .slice A2 l.length c2, .slice (some ⟨gF,0,none⟩) F.length cF]) (t:=104) ?hr ?_;(case hd=>rfl);(case hg=>rfl);(case hr=>first|(go_simp;done)|(go_simp;rfl));intro g3 hg3 w3 Zf hb;have B3:=Ya Zf;have HB3:=Ya hb;have G3:Aside0 (w.heap.size≤g3):=⟨Nat.le_of_eq hg3.symm⟩;clear hg3;have m0_:=Ya (HF.out.below hb);clear HF hb Zf;have HF:=m0_;clear m0_)|((with_reducible refine gate_dst (N:=4) rfl ?_);refine Yz ?hg (N:=4) ?hd (cs:= #[.int .i64 (i:Int), .bool true]) (t:=79) ?hr ?_;(case hd=>rfl);(case hg=>rfl);(case hr=>first|(go_simp;done)|(go_simp;rfl));intro g4 hg4 w4 Zf hb;have B4:=Ya Zf;have G4:Aside0 (w.heap.size≤g4):=⟨Nat.le_trans HB3.out.size (Nat.le_of_eq hg4.symm)⟩;clear hg4;have HB4:=Ya (Yk HB3.out hb);have m0_:=Ya (HF.out.below hb);have m1_:=Ya (Yn B3.out hb);clear HF B3 HB3 hb Zf;have HF:=m0_;have B3:=m1_;clear m0_ m1_;have a3:w4.cell? ⟨g3,3,none⟩=some (.slice (some ⟨gF,0,none⟩) F.length cF):=(Yc B3.out 3).trans rfl;have b0:w4.cell? ⟨g4,0,none⟩=some (.int .i64 (i:Int)):=(Yc B4.out 0).trans rfl;have b1:w4.cell? ⟨g4,1,none⟩=some (.bool true):=(Yc B4.out 1).trans rfl)|fail)
  have c0:=HF.out.cell hi;have f0:=HF.out.free i;rw[← HY.out] at c0;go_wp2_with fail;refine bodyPost_end (results_none rfl _ _ _) rfl ⟨rfl,?_,(Ks.of_below HB4.out (fun b=>b=gF)).set (g:=gF) (fun _=>rfl) i _⟩;have e:goS F ⟨(i:Int),true⟩ k=F.set i (y0+ -k):=by unfold goS;simp[HY.out,Int.sub_eq_add_neg]
  rw[e];exact HF.out.put i _
def minF (l:List S50) (F:List Int):Int→List S79→Int
 |a,[]=>a
 |a,s::L=>minF l F (min a (stRoom l F s)) L
theorem minF_least (l:List S50) (F:List Int): ∀ (L:List S79) (a:Int),L≠[]→minF l F a L=min a (leastR l F L)
 |[],a,h=>absurd rfl h
 |[s],a,_=>rfl
 |s::t::L,a,_=>by
  show minF l F (min a (stRoom l F s)) (t::L)=_;rw[minF_least l F (t::L) _ (by simp)];show _=min a (min (stRoom l F s) (leastR l F (t::L)));omega
theorem minF_cons (l:List S50) (F:List Int) (s:S79) (L:List S79):minF l F (stRoom l F s) L=leastR l F (s::L):=by
 cases L with
 |nil=>rfl
 |cons t L=>rw[minF_least l F (t::L) _ (by simp)];rfl
attribute [local go_sem] max2_int min2_int max_two min_two
set_option maxHeartbeats 2000000 in
set_option maxRecDepth 100000 in
theorem least_calls (n0:Nat) (Zc:Bool) (A2:Option Addr) (c2:Nat) (l:List S50) (A3:Option Addr) (c3:Nat) (F:List Int) (g cW:Nat) (W:List S79) (w:World)
  (hR:Right l F n0) (hW: ∀ s,s∈W→StepOf l s) (hne:0<W.length) (hl:W.length≤1000000) (hcW:W.length≤cW)
  (hc: ∀ (j:Nat) (e:S79),W[j]? =some e→w.cell? ⟨g,j * 2,none⟩=some (.int .i64 e.f0)∧w.cell? ⟨g,j * 2+1,none⟩=some (.bool e.f1))
  (hc2:l.length≤c2) (hc3:F.length≤c3) (h2:Kd.C k50 w A2 l.length l) (h3:Kd.C (Kd.int .i64) w A3 F.length F):
  Calls Try.prog 70 #[.agg #[.int .i64 (n0:Int), .bool Zc, .slice A2 l.length c2, .slice A3 F.length c3], .slice (some ⟨g,0,none⟩) W.length cW] w fun e w'=>e= .returned (.int .i64 (leastR l F W))∧Below w.heap.size w w':=by
 have hu115:=Try.underlying104;have hu38:=Try.underlying79;have HR:=Ya hR;have HC:=Ya hc;have HW:=Ya hW;have HC2:=Ya hc2;have HC3:=Ya hc3;have H2:=Ya h2;have H3:=Ya h3;obtain⟨e0,he0⟩: ∃ e,W[0]? =some e:=⟨_,List.getElem?_eq_getElem hne⟩;have hm0:=List.mem_of_getElem? he0;have HFM:=Ya (room_f hR (hW e0 hm0) (n0:Int) Zc);have HE0:=Ya he0;have p1:(0:Int)<(W.length:Int):=by omega
 have p2:(1:Int)≤(W.length:Int):=by omega
 clear hR hc hW hc2 hc3 h2 h3 he0 hm0;go_enter Try.func70,Try.ntmps70;go_upto_region 1 with (first|((with_reducible refine gate_dst (N:=2) rfl ?_);refine Yz ?hg (N:=2) ?hd (cs:= #[.int .i64 (n0:Int), .bool Zc, .slice A2 l.length c2, .slice A3 F.length c3]) (t:=104) ?hr ?_;(case hd=>rfl);(case hg=>rfl);(case hr=>first|(go_simp;done)|(go_simp;rfl));intro g2 hg2 w3 Zf hb;have B2:=Ya Zf;have HB:=Ya hb;clear hg2 hb Zf)|fail)
 have a0:w3.cell? ⟨g2,0,none⟩=some (.int .i64 n0):=(Yc B2.out 0).trans rfl;have a1:w3.cell? ⟨g2,1,none⟩=some (.bool Zc):=(Yc B2.out 1).trans rfl;have a2:w3.cell? ⟨g2,2,none⟩=some (.slice A2 l.length c2):=(Yc B2.out 2).trans rfl;have a3:w3.cell? ⟨g2,3,none⟩=some (.slice A3 F.length c3):=(Yc B2.out 3).trans rfl;obtain⟨b0,b1⟩:=HC.out 0 e0 HE0.out;replace b0:=pw_cell_below HB.out b0;replace b1:=pw_cell_below HB.out b1;have q0: ∀ p:BelowW w3,p.at_.cell? ⟨g2,0,none⟩=some (.int .i64 n0):=fun p=>p.cell a0
 have q1: ∀ p:BelowW w3,p.at_.cell? ⟨g2,1,none⟩=some (.bool Zc):=fun p=>p.cell a1
 have q2: ∀ p:BelowW w3,p.at_.cell? ⟨g2,2,none⟩=some (.slice A2 l.length c2):=fun p=>p.cell a2
 have q3: ∀ p:BelowW w3,p.at_.cell? ⟨g2,3,none⟩=some (.slice A3 F.length c3):=fun p=>p.cell a3
 have q4: ∀ p:BelowW w3,p.at_.cell? ⟨g,0,none⟩=some (.int .i64 e0.f0):=fun p=>p.cell (by simpa using b0)
 have q5: ∀ p:BelowW w3,p.at_.cell? ⟨g,1,none⟩=some (.bool e0.f1):=fun p=>p.cell (by simpa using b1)
 have HCA:Aside0 (∀ p:BelowW w3,Kd.C k50 p.at_ A2 l.length l):=⟨fun p=>Yt (Yt H2.out HB.out) p.below⟩;have HCF:Aside0 (∀ p:BelowW w3,Kd.C (Kd.int .i64) p.at_ A3 F.length F):=⟨fun p=>Yt (Yt H3.out HB.out) p.below⟩;clear a0 a1 a2 a3 b0 b1;refine wp_region_quiet_below (by kernel_rfl) (by kernel_rfl) ?_;(repeat(quiet_step ((first|(go_at_call 89;exact calls_below_of (static_Flowing_Room.calls (n0:Int) Zc A2 c2 l A3 c3 F e0.f0 e0.f1 _ _ (HCA.out _) HC2.out (HCF.out _) HC3.out HFM.out))))));refine wpQuiet_nil ?_;intro wq hw';obtain⟨⟨wz,hbq⟩,hwq⟩:=hw';subst hwq;have m0_:=Ya (Yk HB.out hbq);have m1_:=Ya (Yn B2.out hbq);clear HB B2 hbq q0 q1 q2 q3 q4 q5 HCA HCF;have HB:=m0_;have B2:=m1_;clear m0_ m1_;go_upto_region 2 with fail
 go_cut [14,15,16] (fun v14 v15 v16 wx=> ∃ oz cz:Nat,v14= .slice (some ⟨g,oz,none⟩) (W.length - 1) cz∧(1<W.length→oz=2)∧v15= .int .i64 ((W.length - 1:Nat):Int)∧v16= .int .i64 0∧wx=wq)
 case first=>
  by_cases hcap:cW=1
  ·have e9:W.length=1:=by omega
   go_wp2_with fail;go_meet;exact⟨0,0,by simp[e9],fun h=>by omega,by simp[e9],rfl,rfl⟩
  ·go_wp2_with fail
   go_meet;exact⟨2,_,rfl,fun h=>rfl,rfl,rfl,rfl⟩
 case rest=>
  obtain⟨oz,cz,rfl,hoz,rfl,rfl,rfl⟩:=hcut;go_wp2_with fail;go_loopw [5,16] (fun v5 v16 w'=> ∃ (a:Int) (j:Nat),v5= .int .i64 a∧v16= .int .i64 (j:Int)∧j+1≤W.length∧Aside0 (minF l F a (W.drop (j+1))=leastR l F W)∧Aside0 (w'.heap[g2]? =some (.cells #[.int .i64 (n0:Int), .bool Zc, .slice A2 l.length c2, .slice A3 F.length c3] 104 (0,0)))∧Aside0 (Below w.heap.size w w')) (fun _ v16 _=>W.length - (intOf v16).toNat)
  case atStart=>exact⟨stRoom l F e0,0,rfl,rfl,by omega,⟨by
   have hd:W=e0::W.drop 1:=by
    obtain⟨h1,h2⟩:=List.getElem?_eq_some_iff.1 HE0.out;have h_:=List.drop_eq_getElem_cons (i:=0) (l:=W) (by omega);rw[List.drop_zero,h2] at h_;exact h_
   rw[Nat.zero_add,minF_cons, ← hd]⟩,B2,HB⟩
  case round=>
   clear B2 HB;obtain⟨a,j,rfl,rfl,hj,HM,B2,HB⟩:=hrel;by_cases hlt:j+1<W.length
   ·have e1:decide ((j:Int)<((W.length - 1:Nat):Int))=true:=Yv (by omega)
    obtain rfl:=hoz (by omega);obtain⟨e,he⟩: ∃ e,W[j+1]? =some e:=⟨_,List.getElem?_eq_getElem hlt⟩;obtain⟨b0,b1⟩:=HC.out (j+1) e he;have b0:wr.cell? ⟨g,2+j * 2,none⟩=some (.int .i64 e.f0):=by rw[show 2+j * 2=(j+1) * 2 by omega];exact pw_cell_below HB.out b0
    have b1:wr.cell? ⟨g,2+j * 2+1,none⟩=some (.bool e.f1):=by rw[show 2+j * 2=(j+1) * 2 by omega];exact pw_cell_below HB.out b1
    have HFM2:=Ya (room_f HR.out (HW.out e (List.mem_of_getElem? he)) (n0:Int) Zc);have hM2:minF l F (min a (stRoom l F e)) (W.drop (j+1+1))=leastR l F W:=by
     rw[← HM.out];obtain⟨h1,h2⟩:=List.getElem?_eq_some_iff.1 he;rw[List.drop_eq_getElem_cons h1,h2];rfl
    obtain⟨rm,hrm⟩: ∃ r_,r_=stRoom l F e:=⟨_,rfl⟩;rw[← hrm] at hM2;rw[← hrm] at HFM2;clear he hrm;have q1:(0:Int)≤(j:Int):=by omega
    have q2:(j:Int)<((W.length - 1:Nat):Int):=by omega
    go_upto_region 5 with fail
    have HN:Aside0 ((wr.alloc (.cells #[.int .i64 e.f0, .bool e.f1] 79)).heap[wr.heap.size]? =some (.cells #[.int .i64 e.f0, .bool e.f1] 79 (0,0))):=⟨heap_alloc_new _ _⟩;have m0_:=Ya (Ye HB.out (.cells #[.int .i64 e.f0, .bool e.f1] 79));have m1_:=Ya (Yn B2.out (Ye (Yo _ _) (.cells #[.int .i64 e.f0, .bool e.f1] 79)));clear HB B2 b0 b1;have HB:=m0_;have B2:=m1_;clear m0_ m1_;generalize wr.alloc (.cells #[.int .i64 e.f0, .bool e.f1] 79)=w5 at *;generalize wr.heap.size=g7 at *;have a0:w5.cell? ⟨g2,0,none⟩=some (.int .i64 n0):=(Yc B2.out 0).trans rfl;have a1:w5.cell? ⟨g2,1,none⟩=some (.bool Zc):=(Yc B2.out 1).trans rfl;have a2:w5.cell? ⟨g2,2,none⟩=some (.slice A2 l.length c2):=(Yc B2.out 2).trans rfl;have a3:w5.cell? ⟨g2,3,none⟩=some (.slice A3 F.length c3):=(Yc B2.out 3).trans rfl;have b0:w5.cell? ⟨g7,0,none⟩=some (.int .i64 e.f0):=(Yc HN.out 0).trans rfl;have b1:w5.cell? ⟨g7,1,none⟩=some (.bool e.f1):=(Yc HN.out 1).trans rfl;have hmn:(if rm<a then rm else a)=min a rm:=by split<;>omega
    go_wp2_with (first|(go_at_call 89;refine(static_Flowing_Room.calls (n0:Int) Zc A2 c2 l A3 c3 F e.f0 e.f1 _ _ (Yt H2.out HB.out) HC2.out (Yt H3.out HB.out) HC3.out HFM2.out).mono ?_;rintro e_ w6 ⟨rfl,hb⟩;have m0_:=Ya (Yk HB.out hb);have m1_:=Ya (Yn B2.out hb);clear HB B2 a0 a1 a2 a3 b0 b1 hb;have HB:=m0_;have B2:=m1_;clear m0_ m1_)|fail);go_roundw
    case rel=>exact⟨min a rm,j+1,rfl,by go_num,by omega,⟨hM2⟩,B2,HB⟩
    case measure=>show W.length - ((j:Int)+1).toNat<W.length - (j:Int).toNat;omega
   ·have e1:decide ((j:Int)<((W.length - 1:Nat):Int))=false:=Yw (by omega)
    have hr:a=leastR l F W:=by
     rw[← HM.out,List.drop_of_length_le (by omega)];rfl
    have HRR:=Ya hr;clear hr;go_wp2_with fail;go_ret;exact⟨by rw[← HRR.out];rfl,HB.out⟩
end H
namespace P
attribute [local go_sem] max2_int min2_int max_two min_two max_three min_three max_four min_four
def ebbtideref07_Ends.f (k:Nat) (Zb:Int) (Zc:Bool) (Za:List (S50)) (a1:Int) (a2:Int):Option (Int):=(ebbtideref05_Check.f k Zb Zc Za).bind fun t192=>(if t192=0 then((ebbtideref06_Node.f Zb Zc Za a1).bind fun t193=>(if t193=true then((ebbtideref06_Node.f Zb Zc Za a2).bind fun t194=>(if t194=true then(if a1=a2 then(some 70) else(some 0)) else(some 70))) else(some 70))) else(some t192))
set_option maxHeartbeats 8000000 in
set_option maxRecDepth 100000 in
theorem ebbtideref07_Ends.calls (k:Nat) (Zb:Int) (Zc:Bool) (Ze:Option Addr) (Zd:Nat) (Za:List (S50)) (a1:Int) (a2:Int) (r:Int) (w:World) (Zp:Kd.C k50 w Ze Za.length Za) (Zq:Za.length≤Zd) (h:ebbtideref07_Ends.f k Zb Zc Za a1 a2=some r):
  Calls Try.prog 27 #[.agg #[.int .i64 Zb, .bool Zc, .slice Ze Za.length Zd], .int .i64 a1, .int .i64 a2] w fun e w'=>e= .returned (.int .i64 r)∧Below w.heap.size w w':=by
 have hu24:=Try.underlying24;have Zh:=Ya Zp;have Zo:=Ya Zq;clear Zp Zq;have HB:=Ya (Yo w.heap.size w);have H:=h;unfold ebbtideref07_Ends.f at H;clear h;replace H:=Option.bind_eq_some_iff.mp H;obtain⟨t192,A40,H⟩:=H;try dsimp only at H
 have A4:=Ya A40;clear A40;by_cases c5:t192=0
 rotate_left
 ·rw[Yy c5] at H
  have c5b0:(t192 == 0)=false:=beq_eq_false_iff_ne.mpr c5;have c5b1:(t192 != 0)=true:=bne_iff_ne.mpr c5;obtain rfl:=Option.some.inj H;go_enter Try.func27,Try.ntmps27;go_wp2_with (first|(refine bx 3 24 #[.int .i64 Zb, .bool Zc, .slice Ze Za.length Zd] ?_;intro We hg w37 Zf hb;have Zx:=Ya (Zf);have GW191:=Ya (by rw[hg];exact(Yi HB.out):w.heap.size≤We);have GE191:=Ya (by rw[hg];exact(Yi HB.out):w.heap.size≤We);replace HB:=Ya (Yk HB.out hb);clear hb Zf hg;have hcz38_0:w37.cell? ⟨We,0,none⟩=some (.int .i64 Zb):=bc Zx 0;have hcz38_1:w37.cell? ⟨We,1,none⟩=some (.bool Zc):=bc Zx 1;have hcz38_2:w37.cell? ⟨We,2,none⟩=some (.slice Ze Za.length Zd):=bc Zx 2;have hfz38_0:=Yf Zx.out 0;have hfz38_1:=Yf Zx.out 1;have hfz38_2:=Yf Zx.out 2)|((with_reducible refine gate_callee (f:=30) rfl ?_);refine gl (some 9) Try.func30 #[.agg #[.int .i64 Zb, .bool Zc, .slice Ze Za.length Zd]] ?_;(with_reducible refine(ebbtideref05_Check.calls k Zb Zc _ _ Za t192 _ ?side1 ?side2 A4.out).mono ?_);(case side1=>exact kC (Yt Zh.out HB.out));(case side2=>exact Zo.out);rintro e w39 ⟨rfl,hb⟩;refine⟨_,rfl,?_⟩;replace Zx:=Ya (Yn Zx.out hb);replace HB:=Ya (Yk HB.out hb);(try clear hb)));go_ret;exact⟨by first|rfl|(simp[errW_none,errW_some]<;>rfl)|(simp[*,errW_none,errW_some]<;>rfl),HB.out⟩
 rw[Yx c5] at H;have c5b0:(t192 == 0)=true:=beq_iff_eq.mpr c5;have c5b1:(t192 != 0)=false:=bne_eq_false_iff_eq.mpr c5;clear c5;replace H:=Option.bind_eq_some_iff.mp H;obtain⟨t193,A60,H⟩:=H;try dsimp only at H
 have A6:=Ya A60;clear A60;by_cases c7:t193=true
 rotate_left
 ·replace c7:=Bool.eq_false_iff.mpr c7
  subst c7;rw[Yy (show ¬ (false=true) by decide)] at H;obtain rfl:=Option.some.inj H;go_enter Try.func27,Try.ntmps27;go_wp2_with (first|(refine bx 3 24 #[.int .i64 Zb, .bool Zc, .slice Ze Za.length Zd] ?_;intro We hg w32 Zf hb;have Zx:=Ya (Zf);have GW191:=Ya (by rw[hg];exact(Yi HB.out):w.heap.size≤We);have GE191:=Ya (by rw[hg];exact(Yi HB.out):w.heap.size≤We);replace HB:=Ya (Yk HB.out hb);clear hb Zf hg;have hcz33_0:w32.cell? ⟨We,0,none⟩=some (.int .i64 Zb):=bc Zx 0;have hcz33_1:w32.cell? ⟨We,1,none⟩=some (.bool Zc):=bc Zx 1;have hcz33_2:w32.cell? ⟨We,2,none⟩=some (.slice Ze Za.length Zd):=bc Zx 2;have hfz33_0:=Yf Zx.out 0;have hfz33_1:=Yf Zx.out 1;have hfz33_2:=Yf Zx.out 2)|((with_reducible refine gate_callee (f:=30) rfl ?_);refine gl (some 9) Try.func30 #[.agg #[.int .i64 Zb, .bool Zc, .slice Ze Za.length Zd]] ?_;(with_reducible refine(ebbtideref05_Check.calls k Zb Zc _ _ Za t192 _ ?side1 ?side2 A4.out).mono ?_);(case side1=>exact kC (Yt Zh.out HB.out));(case side2=>exact Zo.out);rintro e w34 ⟨rfl,hb⟩;refine⟨_,rfl,?_⟩;replace Zx:=Ya (Yn Zx.out hb);replace HB:=Ya (Yk HB.out hb);(try clear hb);have hcz35_0:w34.cell? ⟨We,0,none⟩=some (.int .i64 Zb):=bc Zx 0;have hcz35_1:w34.cell? ⟨We,1,none⟩=some (.bool Zc):=bc Zx 1;have hcz35_2:w34.cell? ⟨We,2,none⟩=some (.slice Ze Za.length Zd):=bc Zx 2;have hfz35_0:=Yf Zx.out 0;have hfz35_1:=Yf Zx.out 1;have hfz35_2:=Yf Zx.out 2)|((with_reducible refine gate_callee (f:=58) rfl ?_);refine gl (some 15) Try.func58 #[.agg #[.int .i64 Zb, .bool Zc, .slice Ze Za.length Zd], .int .i64 a1] ?_;(with_reducible refine(ebbtideref06_Node.calls Zb Zc _ _ Za a1 false _ ?side1 ?side2 A6.out).mono ?_);(case side1=>exact kC (Yt Zh.out HB.out));(case side2=>exact Zo.out);rintro e w36 ⟨rfl,hb⟩;refine⟨_,rfl,?_⟩;replace Zx:=Ya (Yn Zx.out hb);replace HB:=Ya (Yk HB.out hb);(try clear hb);(try clear hb2);(try clear hk);(try clear hi)));go_ret;exact⟨by first|rfl|(simp[errW_none,errW_some]<;>rfl)|(simp[*,errW_none,errW_some]<;>rfl),HB.out⟩
 subst c7;first|rw[Yx rfl] at H|rw[Yx trivial] at H
 replace H:=Option.bind_eq_some_iff.mp H;obtain⟨t194,A80,H⟩:=H;try dsimp only at H
 have A8:=Ya A80;clear A80;by_cases c9:t194=true
 rotate_left
 ·replace c9:=Bool.eq_false_iff.mpr c9
  subst c9;rw[Yy (show ¬ (false=true) by decide)] at H;obtain rfl:=Option.some.inj H;go_enter Try.func27,Try.ntmps27;go_wp2_with (first|(refine bx 3 24 #[.int .i64 Zb, .bool Zc, .slice Ze Za.length Zd] ?_;intro We hg w25 Zf hb;have Zx:=Ya (Zf);have GW191:=Ya (by rw[hg];exact(Yi HB.out):w.heap.size≤We);have GE191:=Ya (by rw[hg];exact(Yi HB.out):w.heap.size≤We);replace HB:=Ya (Yk HB.out hb);clear hb Zf hg;have hcz26_0:w25.cell? ⟨We,0,none⟩=some (.int .i64 Zb):=bc Zx 0;have hcz26_1:w25.cell? ⟨We,1,none⟩=some (.bool Zc):=bc Zx 1;have hcz26_2:w25.cell? ⟨We,2,none⟩=some (.slice Ze Za.length Zd):=bc Zx 2;have hfz26_0:=Yf Zx.out 0;have hfz26_1:=Yf Zx.out 1;have hfz26_2:=Yf Zx.out 2)|((with_reducible refine gate_callee (f:=30) rfl ?_);refine gl (some 9) Try.func30 #[.agg #[.int .i64 Zb, .bool Zc, .slice Ze Za.length Zd]] ?_;(with_reducible refine(ebbtideref05_Check.calls k Zb Zc _ _ Za t192 _ ?side1 ?side2 A4.out).mono ?_);(case side1=>exact kC (Yt Zh.out HB.out));(case side2=>exact Zo.out);rintro e w27 ⟨rfl,hb⟩;refine⟨_,rfl,?_⟩;replace Zx:=Ya (Yn Zx.out hb);replace HB:=Ya (Yk HB.out hb);(try clear hb);have hcz28_0:w27.cell? ⟨We,0,none⟩=some (.int .i64 Zb):=bc Zx 0;have hcz28_1:w27.cell? ⟨We,1,none⟩=some (.bool Zc):=bc Zx 1;have hcz28_2:w27.cell? ⟨We,2,none⟩=some (.slice Ze Za.length Zd):=bc Zx 2;have hfz28_0:=Yf Zx.out 0;have hfz28_1:=Yf Zx.out 1;have hfz28_2:=Yf Zx.out 2)|((with_reducible refine gate_callee (f:=58) rfl ?_);refine gl (some 15) Try.func58 #[.agg #[.int .i64 Zb, .bool Zc, .slice Ze Za.length Zd], .int .i64 a1] ?_;(with_reducible refine(ebbtideref06_Node.calls Zb Zc _ _ Za a1 true _ ?side1 ?side2 A6.out).mono ?_);(case side1=>exact kC (Yt Zh.out HB.out));(case side2=>exact Zo.out);rintro e w29 ⟨rfl,hb⟩;refine⟨_,rfl,?_⟩;replace Zx:=Ya (Yn Zx.out hb);replace HB:=Ya (Yk HB.out hb);(try clear hb);(try clear hb2);(try clear hk);(try clear hi);have hcz30_0:w29.cell? ⟨We,0,none⟩=some (.int .i64 Zb):=bc Zx 0;have hcz30_1:w29.cell? ⟨We,1,none⟩=some (.bool Zc):=bc Zx 1;have hcz30_2:w29.cell? ⟨We,2,none⟩=some (.slice Ze Za.length Zd):=bc Zx 2;have hfz30_0:=Yf Zx.out 0;have hfz30_1:=Yf Zx.out 1;have hfz30_2:=Yf Zx.out 2)|(go_at_call 58;(with_reducible refine(ebbtideref06_Node.calls Zb Zc _ _ Za a2 false _ ?side1 ?side2 A8.out).mono ?_);(case side1=>exact kC (Yt Zh.out HB.out));(case side2=>exact Zo.out);rintro e w31 ⟨rfl,hb⟩;replace Zx:=Ya (Yn Zx.out hb);replace HB:=Ya (Yk HB.out hb);(try clear hb);(try clear hb2);(try clear hk);(try clear hi)));go_ret;exact⟨by first|rfl|(simp[errW_none,errW_some]<;>rfl)|(simp[*,errW_none,errW_some]<;>rfl),HB.out⟩
 subst c9;first|rw[Yx rfl] at H|rw[Yx trivial] at H
 by_cases c10:a1=a2
 rotate_left
 ·rw[Yy c10] at H
  have c10b0:(a1 == a2)=false:=beq_eq_false_iff_ne.mpr c10;have c10b1:(a1 != a2)=true:=bne_iff_ne.mpr c10;obtain rfl:=Option.some.inj H;go_enter Try.func27,Try.ntmps27;go_wp2_with (first|(refine bx 3 24 #[.int .i64 Zb, .bool Zc, .slice Ze Za.length Zd] ?_;intro We hg w18 Zf hb;have Zx:=Ya (Zf);have GW191:=Ya (by rw[hg];exact(Yi HB.out):w.heap.size≤We);have GE191:=Ya (by rw[hg];exact(Yi HB.out):w.heap.size≤We);replace HB:=Ya (Yk HB.out hb);clear hb Zf hg;have hcz19_0:w18.cell? ⟨We,0,none⟩=some (.int .i64 Zb):=bc Zx 0;have hcz19_1:w18.cell? ⟨We,1,none⟩=some (.bool Zc):=bc Zx 1;have hcz19_2:w18.cell? ⟨We,2,none⟩=some (.slice Ze Za.length Zd):=bc Zx 2;have hfz19_0:=Yf Zx.out 0;have hfz19_1:=Yf Zx.out 1;have hfz19_2:=Yf Zx.out 2)|((with_reducible refine gate_callee (f:=30) rfl ?_);refine gl (some 9) Try.func30 #[.agg #[.int .i64 Zb, .bool Zc, .slice Ze Za.length Zd]] ?_;(with_reducible refine(ebbtideref05_Check.calls k Zb Zc _ _ Za t192 _ ?side1 ?side2 A4.out).mono ?_);(case side1=>exact kC (Yt Zh.out HB.out));(case side2=>exact Zo.out);rintro e w20 ⟨rfl,hb⟩;refine⟨_,rfl,?_⟩;replace Zx:=Ya (Yn Zx.out hb);replace HB:=Ya (Yk HB.out hb);(try clear hb);have hcz21_0:w20.cell? ⟨We,0,none⟩=some (.int .i64 Zb):=bc Zx 0;have hcz21_1:w20.cell? ⟨We,1,none⟩=some (.bool Zc):=bc Zx 1;have hcz21_2:w20.cell? ⟨We,2,none⟩=some (.slice Ze Za.length Zd):=bc Zx 2;have hfz21_0:=Yf Zx.out 0;have hfz21_1:=Yf Zx.out 1;have hfz21_2:=Yf Zx.out 2)|((with_reducible refine gate_callee (f:=58) rfl ?_);refine gl (some 15) Try.func58 #[.agg #[.int .i64 Zb, .bool Zc, .slice Ze Za.length Zd], .int .i64 a1] ?_;(with_reducible refine(ebbtideref06_Node.calls Zb Zc _ _ Za a1 true _ ?side1 ?side2 A6.out).mono ?_);(case side1=>exact kC (Yt Zh.out HB.out));(case side2=>exact Zo.out);rintro e w22 ⟨rfl,hb⟩;refine⟨_,rfl,?_⟩;replace Zx:=Ya (Yn Zx.out hb);replace HB:=Ya (Yk HB.out hb);(try clear hb);(try clear hb2);(try clear hk);(try clear hi);have hcz23_0:w22.cell? ⟨We,0,none⟩=some (.int .i64 Zb):=bc Zx 0;have hcz23_1:w22.cell? ⟨We,1,none⟩=some (.bool Zc):=bc Zx 1;have hcz23_2:w22.cell? ⟨We,2,none⟩=some (.slice Ze Za.length Zd):=bc Zx 2;have hfz23_0:=Yf Zx.out 0;have hfz23_1:=Yf Zx.out 1;have hfz23_2:=Yf Zx.out 2)|(go_at_call 58;(with_reducible refine(ebbtideref06_Node.calls Zb Zc _ _ Za a2 true _ ?side1 ?side2 A8.out).mono ?_);(case side1=>exact kC (Yt Zh.out HB.out));(case side2=>exact Zo.out);rintro e w24 ⟨rfl,hb⟩;replace Zx:=Ya (Yn Zx.out hb);replace HB:=Ya (Yk HB.out hb);(try clear hb);(try clear hb2);(try clear hk);(try clear hi)));go_ret;exact⟨by first|rfl|(simp[errW_none,errW_some]<;>rfl)|(simp[*,errW_none,errW_some]<;>rfl),HB.out⟩
 rw[Yx c10] at H;have c10b0:(a1 == a2)=true:=beq_iff_eq.mpr c10;have c10b1:(a1 != a2)=false:=bne_eq_false_iff_eq.mpr c10;clear c10;obtain rfl:=Option.some.inj H;go_enter Try.func27,Try.ntmps27;go_wp2_with (first|(refine bx 3 24 #[.int .i64 Zb, .bool Zc, .slice Ze Za.length Zd] ?_;intro We hg w11 Zf hb;have Zx:=Ya (Zf);have GW191:=Ya (by rw[hg];exact(Yi HB.out):w.heap.size≤We);have GE191:=Ya (by rw[hg];exact(Yi HB.out):w.heap.size≤We);replace HB:=Ya (Yk HB.out hb);clear hb Zf hg;have hcz12_0:w11.cell? ⟨We,0,none⟩=some (.int .i64 Zb):=bc Zx 0;have hcz12_1:w11.cell? ⟨We,1,none⟩=some (.bool Zc):=bc Zx 1;have hcz12_2:w11.cell? ⟨We,2,none⟩=some (.slice Ze Za.length Zd):=bc Zx 2;have hfz12_0:=Yf Zx.out 0;have hfz12_1:=Yf Zx.out 1;have hfz12_2:=Yf Zx.out 2)|((with_reducible refine gate_callee (f:=30) rfl ?_);refine gl (some 9) Try.func30 #[.agg #[.int .i64 Zb, .bool Zc, .slice Ze Za.length Zd]] ?_;(with_reducible refine(ebbtideref05_Check.calls k Zb Zc _ _ Za t192 _ ?side1 ?side2 A4.out).mono ?_);(case side1=>exact kC (Yt Zh.out HB.out));(case side2=>exact Zo.out);rintro e w13 ⟨rfl,hb⟩;refine⟨_,rfl,?_⟩;replace Zx:=Ya (Yn Zx.out hb);replace HB:=Ya (Yk HB.out hb);(try clear hb);have Vy:w13.cell? ⟨We,0,none⟩=some (.int .i64 Zb):=bc Zx 0;have Ud:w13.cell? ⟨We,1,none⟩=some (.bool Zc):=bc Zx 1;have Jo:w13.cell? ⟨We,2,none⟩=some (.slice Ze Za.length Zd):=bc Zx 2;have Ue:=Yf Zx.out 0;have Uf:=Yf Zx.out 1;have Jp:=Yf Zx.out 2)|((with_reducible refine gate_callee (f:=58) rfl ?_);refine gl (some 15) Try.func58 #[.agg #[.int .i64 Zb, .bool Zc, .slice Ze Za.length Zd], .int .i64 a1] ?_;(with_reducible refine(ebbtideref06_Node.calls Zb Zc _ _ Za a1 true _ ?side1 ?side2 A6.out).mono ?_);(case side1=>exact kC (Yt Zh.out HB.out));(case side2=>exact Zo.out);rintro e w15 ⟨rfl,hb⟩;refine⟨_,rfl,?_⟩;replace Zx:=Ya (Yn Zx.out hb);replace HB:=Ya (Yk HB.out hb);(try clear hb);(try clear hb2);(try clear hk);(try clear hi);have hcz16_0:w15.cell? ⟨We,0,none⟩=some (.int .i64 Zb):=bc Zx 0;have hcz16_1:w15.cell? ⟨We,1,none⟩=some (.bool Zc):=bc Zx 1;have hcz16_2:w15.cell? ⟨We,2,none⟩=some (.slice Ze Za.length Zd):=bc Zx 2;have hfz16_0:=Yf Zx.out 0;have hfz16_1:=Yf Zx.out 1;have hfz16_2:=Yf Zx.out 2)|(go_at_call 58;(with_reducible refine(ebbtideref06_Node.calls Zb Zc _ _ Za a2 true _ ?side1 ?side2 A8.out).mono ?_);(case side1=>exact kC (Yt Zh.out HB.out));(case side2=>exact Zo.out);rintro e w17 ⟨rfl,hb⟩;replace Zx:=Ya (Yn Zx.out hb);replace HB:=Ya (Yk HB.out hb);(try clear hb);(try clear hb2);(try clear hk);(try clear hi)));go_ret;exact⟨by first|rfl|(simp[errW_none,errW_some]<;>rfl)|(simp[*,errW_none,errW_some]<;>rfl),HB.out⟩
end P
namespace Q
open P
open H (endsErr)
theorem ends_ev (n:Int) (b:Bool) (l:List S50) (s t:Int):Ev (fun k=>static_Ends.f k n b l s t) (endsErr n l s t):=by
 unfold static_Ends.f endsErr;refine Ev.bind (check_ev n b l) ?_;refine Ev.ite (fun h=> ?_) (fun h=> ?_)
 ·rw[Yx h]
  refine Ev.ite (fun g=> ?_) (fun g=> ?_)
  ·exact Ev.done (by unfold mn at g;rw[Yy (by omega)])
  ·unfold mn at g
   refine Ev.ite (fun g2=> ?_) (fun g2=> ?_)
   ·exact Ev.done (by unfold mx at g2;rw[Yy (by omega)])
   ·unfold mx at g2
    refine Ev.ite (fun g3=> ?_) (fun g3=> ?_)
    ·exact Ev.done (by rw[Yy (by omega)])
    ·exact Ev.done (by rw[Yx (by omega)])
 ·rw[Yy h]
  exact Ev.now _
theorem ref_ends_ev (n:Int) (b:Bool) (l:List S50) (s t:Int):Ev (fun k=>ebbtideref07_Ends.f k n b l s t) (endsErr n l s t):=by
 unfold ebbtideref07_Ends.f endsErr;refine Ev.bind (ref_check_ev n b l) ?_;refine Ev.ite (fun h=> ?_) (fun h=> ?_)
 ·rw[Yx h]
  refine Ev.call (node_eq n b l s) ?_;refine Ev.ite (fun g=> ?_) (fun g=> ?_)
  ·have g:=Yu g
   refine Ev.call (node_eq n b l t) ?_;refine Ev.ite (fun g2=> ?_) (fun g2=> ?_)
   ·have g2:=Yu g2
    refine Ev.ite (fun g3=> ?_) (fun g3=> ?_)
    ·exact Ev.done (by rw[Yy (by omega)])
    ·exact Ev.done (by rw[Yx (by omega)])
   ·have g2:=of_decide_eq_false (Bool.eq_false_iff.2 g2)
    exact Ev.done (by rw[Yy (by omega)])
  ·have g:=of_decide_eq_false (Bool.eq_false_iff.2 g)
   exact Ev.done (by rw[Yy (by omega)])
 ·rw[Yy h]
  exact Ev.now _
end Q
namespace H
open P Q
theorem right_of {n:Int} {l:List S50} {F:List Int} (h:askErr n l F=0): ∃ n0:Nat,n=n0∧Right l F n0:=by
 obtain⟨hn,hf⟩:=askErr_ok h;have h1:=hn.lo;have h2:=hn.hi;obtain⟨n0,rfl⟩: ∃ n0:Nat,n=n0:=⟨n.toNat,by omega⟩;refine⟨n0,rfl,⟨by omega,by omega,hn.len,hf.len,fun i hi=> ?_,fun i hi=> ?_⟩⟩
 ·have ha:=hn.at_ (i:=(i:Int)) (by omega) (by omega)
  exact⟨⟨ha.f0,ha.h0⟩,⟨ha.f1,ha.h1⟩⟩
 ·have ha:=hn.at_ (i:=(i:Int)) (by omega) (by omega)
  have hb:=hf.at_ i (by rw[hf.len];exact hi);rw[rd_nat] at hb;exact⟨ha.f3,ha.h3,hb.1,hb.2,ha.h2⟩
end H
namespace Q
open P
open H (endsErr Right right_of)
theorem ends_zero {n:Int} {l:List S50} {s t:Int} (h:endsErr n l s t=0): ∃ n0 s0 t0:Nat,n=n0∧s=s0∧t=t0∧s0<n0∧t0<n0∧s0≠t0∧NetOk n0 l∧Right l (List.replicate l.length 0) n0:=by
 have hb:NetOk n l∧0≤s∧s<n∧0≤t∧t<n∧s≠t:=by
  unfold endsErr at h;by_cases hn:netErr n l=0
  ·rw[Yx hn] at h
   split at h
   ·rename_i he
    exact⟨netErr_ok hn,he⟩
   ·cases h
  ·rw[Yy hn] at h;exact absurd h hn
 obtain⟨hn,h1,h2,h3,h4,h5⟩:=hb;have hz:FlowOk l (List.replicate l.length 0):=by
  refine⟨by simp,fun i hi=> ?_⟩;rw[List.length_replicate] at hi;have ha:=(hn.at_ (i:=(i:Int)) (by omega) (by omega)).f2;rw[rd_nat,List.getD_eq_getElem?_getD,List.getElem?_replicate,Yx hi];exact⟨Int.le_refl _,ha⟩
 obtain⟨n0,rfl,hr⟩:=right_of (ask_of hn hz);exact⟨n0,s.toNat,t.toNat,rfl,by omega,by omega,by omega,by omega,by omega,hn,hr⟩
end Q
namespace H
open P
section
variable {n0:Nat} {Zc:Bool} {A2:Option Addr} {c2:Nat} {l:List S50} {gF cF:Nat} {A4:Option Addr} {c4 gx gd gn B:Nat} {F D:List Int} {nx:List Nat} {w w1:World}
theorem isI_C {g:Nat} {X:List Int} (h:IsI w g X) (hl:X.length≤9223372036854775807):Kd.C (Kd.int .i64) w (some ⟨g,0,none⟩) X.length X:=(Kd.R_reads' (h.R hl (base:=0) (Nat.zero_le _) (ok:=fun _=>True) trivial)).2.2
end
end H
namespace H
open P
open Q (bal)
theorem pushW_snoc (F:List Int) (k:Int) (L:List S79) (e:S79):pushW F k (L ++ [e])=goS (pushW F k L) e k:=by unfold pushW;rw[List.foldl_append];rfl
theorem Right.take {l:List S50} {F:List Int} {n:Nat} {k:Int} (h0:0≤k) (hr:Right l F n) {L:List S79} (h: ∀ s,s∈L→StepOf l s∧k≤stRoom l F s) (hp:L.Pairwise (fun a b=>a.f0≠b.f0)) (j:Nat):Right l (H.pushW F k (L.take j)) n:=
 Right.pushW h0 _ hr (fun s hs=>h s (List.mem_of_mem_take hs)) (hp.sublist (List.take_sublist _ _))
theorem take_snoc {L:List S79} {j:Nat} {e:S79} (h:L[j]? =some e):L.take (j+1)=L.take j ++ [e]:=by
 rw[List.take_add_one,h];rfl
theorem ks_cellF {gF g j:Nat} {w w1:World} {v:Value} (h:Ks (fun b=>b=gF) w w1) (hc:w.cell? ⟨g,j,none⟩=some v) (hne: ¬ g=gF):w1.cell? ⟨g,j,none⟩=some v:=by
 have hb:=h.block g (Yb w _ hc) hne
 simpa [World.cell?,hb] using hc
end H
namespace H
open P
open Q (bal ends_zero)
theorem made_ints (n:Nat) (hn:n≤500): ∀ W:World,(Instr.makeSlice 31 (.int .i64 (n:Int)) (.int .i64 (n:Int))).run Try.prog W= .ok (.slice (some ⟨W.heap.size,0,none⟩) n n) (W.alloc (.cells (nums .i64 (List.replicate n 0)).toArray 3)):=by
 intro W;rw[print_make 31 3 .i64 8 Try.underlying31 (by kernel_rfl) (by omega) n (by omega) W];have hl:(madeCells #[Value.int .i64 0] n)=(nums .i64 (List.replicate n 0)).toArray:=by
  apply Array.ext';apply List.ext_getElem
  ·simp[nums,madeCells]
  ·intro i h1 h2
   simp[nums,madeCells,Nat.mod_one]
 rw[hl]
end H
namespace H
open P
open Q (bal ends_zero)
def fillRes (l:List S50) (n s t:Nat) (H:Int):List Int × List Int × List Bool × List S79:=(fillS l n s t H,(reachS l (fillS l n s t H) n s).D,(reachS l (fillS l n s t H) n s).I,(reachS l (fillS l n s t H) n s).B)
def Ss (n0:Nat) (l:List S50) (s t:Nat) (Hz:Int) (R:List Int) (gF g4 g9:Nat) (Zc:Bool) (A2:Option Addr) (c2:Nat) (w w':World) (k:Nat):Prop:=
 ∃ F:List Int,SpanOk l F n0 s t (Hz+1)∧209715200<(k:Int)+bal l F s∧spanS l n0 s t Hz k F=R∧IsI w' gF F∧w'.heap[g4]? =some (.cells #[.int .i64 (n0:Int), .bool Zc, .slice A2 l.length c2] 24 (0,0))∧w'.heap[g9]? =some (.cells #[.slice none 0 0, .slice none 0 0, .slice none 0 0] 69 (0,0))∧Below w.heap.size w w'
set_option maxHeartbeats 20000000 in
set_option maxRecDepth 100000 in
theorem fill_core (n0:Nat) (Zc:Bool) (Ze:Option Addr) (Zd:Nat) (l:List S50) (s t:Nat) (a3:Int) (w:World) (hr:Right l (List.replicate l.length 0) n0) (hs:s<n0) (ht:t<n0) (hst:s≠t) (hH:0≤a3) (hC:Kd.C k50 w Ze l.length l) (hc:l.length≤Zd):
  Calls Try.prog 35 #[.agg #[.int .i64 (n0:Int), .bool Zc, .slice Ze l.length Zd], .int .i64 (s:Int), .int .i64 (t:Int), .int .i64 a3] w fun e w'=> ∃ v0_ v1_ v2_ v3_:Value,e= .returned (.tuple #[v0_, .agg #[v1_,v2_,v3_]])∧Kd.R (Kd.int .i64) 3 w' w.heap.size (fun k_=>some k_≠(v1_:Value).ownBlock) v0_ (fillS l n0 s t a3)∧Kd.R (Kd.int .i64) 3 w' w.heap.size (fun k_=>some k_≠(v0_:Value).ownBlock) v1_ (reachS l (fillS l n0 s t a3) n0 s).D∧Kd.R Kd.bool 4 w' w.heap.size (fun _=>True) v2_ (reachS l (fillS l n0 s t a3) n0 s).I∧Kd.R k79 79 w' w.heap.size (fun _=>True) v3_ (reachS l (fillS l n0 s t a3) n0 s).B∧Below w.heap.size w w':=by
 have hu24:=Try.underlying24;have hu109:=Try.underlying69;have hu118:=Try.underlying107;have hu115:=Try.underlying104;have hu38:=Try.underlying79;have hn50:=hr.fifty;have harc:=hr.arcs;have hmk:=made_ints l.length (by omega);obtain⟨R,hR⟩: ∃ R,R=fillS l n0 s t a3:=⟨_,rfl⟩;rw[← hR];have HRR:Aside0 (spanS l n0 s t a3 300000000 (List.replicate l.length 0)=R):=⟨hR.symm⟩;have H0:=Ya (span_zero (t:=t) (s:=s) hr (c:=a3+1) (by omega));have HZ:=Ya (zeros_of (s:=s) (t:=t) hr).2;have H2:=Ya hC;have HC2:=Ya hc;clear hr hR hC hc;go_enter Try.func35,Try.ntmps35;go_upto_region 1 with (first|((with_reducible refine gate_dst (N:=4) rfl ?_);refine Yz ?hg (N:=4) ?hd (cs:= #[.int .i64 (n0:Int), .bool Zc, .slice Ze l.length Zd]) (t:=24) ?hr ?_;(case hd=>rfl);(case hg=>rfl);(case hr=>first|(go_simp;done)|(go_simp;rfl));intro g4 hg4 w5 Zf hb;have B4:=Ya Zf;have HB:=Ya hb;have HG4:Aside0 (w.heap.size≤g4):=⟨Nat.le_of_eq hg4.symm⟩;clear hg4 Zf hb)|fail)
 have B9:Aside0 ((w5.alloc (.cells #[.slice none 0 0, .slice none 0 0, .slice none 0 0] 69)).heap[w5.heap.size]? =some (.cells #[.slice none 0 0, .slice none 0 0, .slice none 0 0] 69 (0,0))):=⟨heap_alloc_new w5 _⟩;have m0_:=Ya (Yn B4.out (Ye (Yo _ _) (.cells #[.slice none 0 0, .slice none 0 0, .slice none 0 0] 69)));have m1_:=Ya (Ye HB.out (.cells #[.slice none 0 0, .slice none 0 0, .slice none 0 0] 69));have hg49:g4<w5.heap.size:=blk_lt B4.out;have hg9w:w.heap.size≤w5.heap.size:=HB.out.size;clear B4 HB;have B4:=m0_;have HB:=m1_;clear m0_ m1_;generalize w5.alloc (.cells #[.slice none 0 0, .slice none 0 0, .slice none 0 0] 69)=w6 at *;generalize w5.heap.size=g9 at *;have x2:w6.cell? ⟨g4,2,none⟩=some (.slice Ze l.length Zd):=(Yc B4.out 2).trans rfl;go_step3;go_wp2_with fail;go_step3;go_wp2_with fail;have hIA:Aside0 (IsI (w6.alloc (.cells (nums .i64 (List.replicate l.length 0)).toArray 3)) w6.heap.size (List.replicate l.length 0)):=⟨heap_alloc_new w6 _⟩;have m0_:=Ya (Yn B4.out (Ye (Yo _ _) (.cells (nums .i64 (List.replicate l.length 0)).toArray 3)));have m1_:=Ya (Yn B9.out (Ye (Yo _ _) (.cells (nums .i64 (List.replicate l.length 0)).toArray 3)));have m2_:=Ya (Ye HB.out (.cells (nums .i64 (List.replicate l.length 0)).toArray 3));have hgF:w.heap.size≤w6.heap.size∧g4≠w6.heap.size∧g9≠w6.heap.size:=⟨HB.out.size,by have:=blk_lt B4.out;omega,by have:=blk_lt B9.out;omega⟩;clear B4 B9 HB x2 hmk;have B4:=m0_;have B9:=m1_;have HB:=m2_;clear m0_ m1_ m2_;generalize w6.alloc (.cells (nums .i64 (List.replicate l.length 0)).toArray 3)=w7 at *;generalize w6.heap.size=gF at *;go_loopw [] (fun w'=> ∃ k,Ss n0 l s t a3 R gF g4 g9 Zc Ze Zd w w' k) (fun w'=>least (fun k=>Ss n0 l s t a3 R gF g4 g9 Zc Ze Zd w w' k))
 case atStart=>exact⟨300000000,_,H0.out,by rw[HZ.out];omega,HRR.out,hIA.out,B4.out,B9.out,HB.out⟩
 case round=>
  clear B4 B9 HB hIA;have hmin:=least_spec hrel;obtain⟨kk,hkk⟩: ∃ k_,k_=least (fun k=>Ss n0 l s t a3 R gF g4 g9 Zc Ze Zd w wr k):=⟨_,rfl⟩;rw[← hkk] at hmin;have HLE:=Ya hkk;clear hrel hkk;obtain⟨F,hok,hgk,hgp,hF,hB4,hB9,hB⟩:=hmin;have hgt:=flow_top hok.flow hs hst;obtain⟨k,rfl⟩: ∃ k,kk=k+1:=⟨kk - 1,by omega⟩;have hRt:=hok.flow.right;have hFl:=hRt.len;obtain⟨q,hq,_⟩:=hok.nums;obtain⟨_,hRO⟩:=reach_ok hRt hs (tightP_noGain hRt hq);have HRO:=Ya hRO;have HRT:=Ya hRt;have HOK:=Ya hok;have HGK:=Ya hgk;have HGP:=Ya hgp;have HF:=Ya hF;have B4:=Ya hB4;have B9:=Ya hB9;have HB:=Ya hB;have hRI:=hRO.ok.hI;have hRD:=hRO.ok.hD;have hRB:=hRO.ok.hB;have keyF:=from_calls n0 Zc Ze Zd l (some ⟨gF,0,none⟩) l.length F s wr hRt hs (Yt H2.out hB) HC2.out (isI_C hF (by omega)) (by omega);have er:(goesR l F n0 (n0+1) (startR n0 s)).1=reachS l F n0 s:=rfl;rw[hFl,er] at keyF;obtain⟨x,hxd⟩: ∃ x,x=reachS l F n0 s:=⟨_,rfl⟩;rw[← hxd] at keyF hRI hRD hRB;have HKF:=Ya keyF;have HXD:=Ya hxd;have hFL:=Ya hFl;clear hok hgk hgp hF hB4 hB9 hB hRt hFl hq hRO keyF er hxd hgt;have x0:wr.cell? ⟨g4,0,none⟩=some (.int .i64 (n0:Int)):=(Yc B4.out 0).trans rfl;have x1:wr.cell? ⟨g4,1,none⟩=some (.bool Zc):=(Yc B4.out 1).trans rfl;have x2:wr.cell? ⟨g4,2,none⟩=some (.slice Ze l.length Zd):=(Yc B4.out 2).trans rfl;go_upto_region 3 with (first|(go_at_call 67;refine HKF.out.mono ?_;rintro e_ w8 ⟨v0,v1,v2,rfl,r0,r1,r2,hb⟩;obtain⟨A0,c0,ev0⟩:=Kd.R_slice r0;obtain⟨A1,c1,ev1⟩:=Kd.R_slice r1;obtain⟨A2,c2,ev2⟩:=Kd.R_slice r2;subst ev0;subst ev1;subst ev2;rw[hRD] at r0 ⊢;rw[hRI] at r1 ⊢;rw[hRB] at r2 ⊢;have R0:=Ya r0;have R1:=Ya r1;have R2:=Ya r2;have m0_:=Ya (HF.out.below hb);have m1_:=Ya (Yn B4.out hb);have m2_:=Ya (Yn B9.out hb);have hwr8:=hb.size;have m3_:=Ya (Yk HB.out hb);have hgFr:gF<wr.heap.size:=HF.out.lt;have hg9r_:g9<wr.heap.size:=blk_lt B9.out;have hwrw:w.heap.size≤wr.heap.size:=HB.out.size;clear HF B4 B9 HB r0 r1 r2 hb x0 x1 x2 HKF;have HF:=m0_;have B4:=m1_;have B9:=m2_;have HB:=m3_;clear m0_ m1_ m2_ m3_)|fail)
  have hC109:Below w8.heap.size w8 (w8.alloc (.cells #[.slice A0 n0 c0, .slice A1 n0 c1, .slice A2 n0 c2] 69)):=Ye (Yo _ _) _;have B11:Aside0 ((w8.alloc (.cells #[.slice A0 n0 c0, .slice A1 n0 c1, .slice A2 n0 c2] 69)).heap[w8.heap.size]? =some (.cells #[.slice A0 n0 c0, .slice A1 n0 c1, .slice A2 n0 c2] 69 (0,0))):=⟨heap_alloc_new w8 _⟩;have hg11:wr.heap.size≤w8.heap.size:=hwr8;have hg9r:g9<wr.heap.size:=hg9r_;have hlts:g9<w8.heap.size∧g4<w8.heap.size∧gF<w8.heap.size:=⟨blk_lt B9.out,blk_lt B4.out,HF.out.lt⟩;have m0_:=Ya (HF.out.below hC109);have m1_:=Ya (Yn B4.out hC109);have m2_:=Ya (Yn B9.out hC109);have m3_:=Ya (Yk HB.out hC109);have m4_:=Ya (Ys R0.out hC109);have m5_:=Ya (Ys R1.out hC109);have m6_:=Ya (Ys R2.out hC109);clear HF B4 B9 HB R0 R1 R2 hC109;have HF:=m0_;have B4:=m1_;have B9:=m2_;have HB:=m3_;have R0:=m4_;have R1:=m5_;have R2:=m6_;clear m0_ m1_ m2_ m3_ m4_ m5_ m6_ hwr8;generalize w8.alloc (.cells #[.slice A0 n0 c0, .slice A1 n0 c1, .slice A2 n0 c2] 69)=w9 at *;generalize w8.heap.size=g11 at *;have y0:w9.cell? ⟨g11,0,none⟩=some (.slice A0 n0 c0):=(Yc B11.out 0).trans rfl;have y1:w9.cell? ⟨g11,1,none⟩=some (.slice A1 n0 c1):=(Yc B11.out 1).trans rfl;have y2:w9.cell? ⟨g11,2,none⟩=some (.slice A2 n0 c2):=(Yc B11.out 2).trans rfl;have pt:(0:Int)≤(t:Int):=by omega
  have qt:(t:Int)<(n0:Int):=by omega
  obtain⟨ad0,cc0,e0,_,hK0,hc0⟩:=Kd.C_get (Kd.R_reads' R0.out).2.2 0 (t:Int) pt (by rw[hRD];exact qt);obtain⟨ad1,cc1,e1,_,hK1,hc1⟩:=Kd.C_get (Kd.R_reads' R1.out).2.2 false (t:Int) pt (by rw[hRI];exact qt);subst e0;subst e1;have hd:w9.cell? (ad0.add t)=some (.int .i64 (x.D.getD t 0)):=by
   have e:cc0=[.int .i64 (x.D.getD t 0)]:=hK0;have h_:=hc0 0 (.int .i64 (x.D.getD t 0)) (by rw[e];rfl);have e2:(t:Int).toNat * (Kd.int .i64).sz+0=t:=by rw[Int.toNat_natCast];show t * 1+0=t;omega
   rw[e2] at h_;exact h_
  have hi:w9.cell? (ad1.add t)=some (.bool (x.I.getD t false)):=by
   have e:cc1=[.bool (x.I.getD t false)]:=hK1;have h_:=hc1 0 (.bool (x.I.getD t false)) (by rw[e];rfl);have e2:(t:Int).toNat * Kd.bool.sz+0=t:=by rw[Int.toNat_natCast];show t * 1+0=t;omega
   rw[e2] at h_;exact h_
  clear hK0 hK1 hc0 hc1;obtain⟨dt,hdt⟩: ∃ d_,d_=x.D.getD t 0:=⟨_,rfl⟩;obtain⟨it,hit⟩: ∃ d_,d_=x.I.getD t false:=⟨_,rfl⟩;rw[← hdt] at hd;rw[← hit] at hi;have HDT:=Ya hdt;have HIT:=Ya hit;clear hdt hit;have hNear:nearS l F n0 s t a3↔it=true∧dt≤a3:=by unfold nearS;rw[← HXD.out, ← HDT.out, ← HIT.out]
  by_cases hn:it=true∧dt≤a3
  ·have HN:=Ya (hNear.2 hn)
   obtain⟨hn1,hn2⟩:=hn;subst hn1;have t1:(!true)=false:=rfl;have t2:decide (a3<dt)=false:=Yw (by omega);clear hNear;go_upto_region 5 with fail
   clear hd hi y0 y1 y2;obtain⟨hTW,hTL⟩:=wayS_ok HRT.out (by rw[← HXD.out];rw[← HXD.out] at HRO;exact HRO.out) ht HN.out.1;obtain⟨rk,hby⟩:=HRO.out.by_;rw[← HXD.out] at hby
   have HBY:=Ya hby
   have HXO:Aside0 (x.Ok n0):=⟨by rw[HXD.out];exact HRO.out.ok⟩;have HIX:Aside0 (x.I.getD t false=true):=⟨HIT.out.symm⟩;obtain⟨L,hLd⟩: ∃ L_,L_=wayS l F n0 s t:=⟨_,rfl⟩;have hLx:L=(backB l x s (n0+1) t).reverse:=by rw[hLd,HXD.out];rfl
   rw[← hLd] at hTW hTL;obtain⟨p1,p2,p3,p4,p5,p6,p7⟩:=push_way HOK.out.flow hst hTW.leads hTW.apart;obtain⟨so1,so2⟩:=span_near HOK.out hs ht hst HN.out;have sgo:spanS l n0 s t a3 k (pushW F (leastR l F L) L)=R:=by rw[← HGP.out,spanS_go HN.out, ← hLd]
   rw[← hLd] at so1 so2;have hLp:0<L.length:=List.length_pos_iff.2 p3;have hLn:L.length≤50:=by omega
   obtain⟨m,hm⟩: ∃ m_,m_=leastR l F L:=⟨_,rfl⟩;rw[← hm] at p2 p6 so1 so2 sgo;have HMM:=Ya hm;have HP5:=Ya p5;have HAP:=Ya hTW.apart;have HSO:=Ya so1;have HSB:=Ya so2;have HSG:=Ya sgo;have HLX:=Ya hLx;have HRL:Aside0 (∀ e,e∈L→m≤stRoom l F e):=⟨fun e he=>by rw[hm];exact leastR_le he⟩;clear hTW hTL hby hLd hLx p1 p3 p4 p5 p7 so1 so2 sgo hm;have x0:w9.cell? ⟨g4,0,none⟩=some (.int .i64 (n0:Int)):=(Yc B4.out 0).trans rfl;have x1:w9.cell? ⟨g4,1,none⟩=some (.bool Zc):=(Yc B4.out 1).trans rfl;have x2:w9.cell? ⟨g4,2,none⟩=some (.slice Ze l.length Zd):=(Yc B4.out 2).trans rfl;go_upto_region 6 with (first|(go_at_call 68;refine(at_calls n0 Zc Ze Zd l (some ⟨gF,0,none⟩) l.length l.length _ (Yt H2.out HB.out) HC2.out (by omega) (by omega) (by omega) (fun k hk=>(HRT.out.ends k hk).1) (fun k hk=>(HRT.out.ends k hk).2)).mono ?_;rintro e_ w10 ⟨vr,rfl,hS,hb⟩;obtain⟨A4,c4,ev⟩:=Kd.S_slice hS;subst ev;rw[rowsAt_len] at hS ⊢;have m0_:=Ya (HF.out.below hb);have m1_:=Ya (Yn B4.out hb);have m2_:=Ya (Yn B9.out hb);have m3_:=Ya (Yk HB.out hb);have m4_:=Ya (Yn B11.out hb);have m5_:=Ya (Ys R2.out hb);clear HF B4 B9 HB B11 R0 R1 R2 hS hb x0 x1 x2;have HF:=m0_;have B4:=m1_;have B9:=m2_;have HB:=m3_;have B11:=m4_;have R2:=m5_;clear m0_ m1_ m2_ m3_ m4_ m5_)|fail)
   have hA:Below w10.heap.size w10 (w10.alloc (.cells #[.int .i64 (n0:Int), .bool Zc, .slice Ze l.length Zd, .slice (some ⟨gF,0,none⟩) l.length l.length, .slice A4 n0 c4] 107)):=Ye (Yo _ _) _;have B13:Aside0 ((w10.alloc (.cells #[.int .i64 (n0:Int), .bool Zc, .slice Ze l.length Zd, .slice (some ⟨gF,0,none⟩) l.length l.length, .slice A4 n0 c4] 107)).heap[w10.heap.size]? =some (.cells #[.int .i64 (n0:Int), .bool Zc, .slice Ze l.length Zd, .slice (some ⟨gF,0,none⟩) l.length l.length, .slice A4 n0 c4] 107 (0,0))):=⟨heap_alloc_new w10 _⟩;have hg13:w.heap.size≤w10.heap.size∧gF<w10.heap.size:=⟨HB.out.size,HF.out.lt⟩;have m0_:=Ya (HF.out.below hA);have m1_:=Ya (Yn B4.out hA);have m2_:=Ya (Yn B9.out hA);have m3_:=Ya (Yk HB.out hA);have m4_:=Ya (Yn B11.out hA);have m5_:=Ya (Ys R2.out hA);clear HF B4 B9 HB B11 R2 hA;have HF:=m0_;have B4:=m1_;have B9:=m2_;have HB:=m3_;have B11:=m4_;have R2:=m5_;clear m0_ m1_ m2_ m3_ m4_ m5_;generalize w10.alloc (.cells #[.int .i64 (n0:Int), .bool Zc, .slice Ze l.length Zd, .slice (some ⟨gF,0,none⟩) l.length l.length, .slice A4 n0 c4] 107)=w11 at *;generalize w10.heap.size=g13 at *;have u0:w11.cell? ⟨g13,0,none⟩=some (.int .i64 (n0:Int)):=(Yc B13.out 0).trans rfl;have u1:w11.cell? ⟨g13,1,none⟩=some (.bool Zc):=(Yc B13.out 1).trans rfl;have u2:w11.cell? ⟨g13,2,none⟩=some (.slice Ze l.length Zd):=(Yc B13.out 2).trans rfl;have u3:w11.cell? ⟨g13,3,none⟩=some (.slice (some ⟨gF,0,none⟩) l.length l.length):=(Yc B13.out 3).trans rfl;have u4:w11.cell? ⟨g13,4,none⟩=some (.slice A4 n0 c4):=(Yc B13.out 4).trans rfl;have y0:w11.cell? ⟨g11,0,none⟩=some (.slice (some ad0) n0 c0):=(Yc B11.out 0).trans rfl;have y1:w11.cell? ⟨g11,1,none⟩=some (.slice (some ad1) n0 c1):=(Yc B11.out 1).trans rfl;have y2:w11.cell? ⟨g11,2,none⟩=some (.slice A2 n0 c2):=(Yc B11.out 2).trans rfl;have HC2B:Aside0 (Kd.C k79 w11 A2 n0 x.B):=⟨by have h_:=(Kd.R_reads' R2.out).2.2;rw[hRB] at h_;exact h_⟩;have keyW:=fastest_calls n0 Zc Ze Zd l (some ⟨gF,0,none⟩) l.length F A4 c4 (some ad0) c0 (some ad1) c1 A2 c2 x rk s t w11 HRT.out HXO.out HBY.out hs ht hst HIX.out HC2.out (by have:=hFL.out;omega) (Yt H2.out HB.out) (isI_C HF.out (by have:=hFL.out;omega)) HC2B.out;rw[hFL.out, ← HLX.out] at keyW;have HKW:=Ya keyW;clear keyW R2 HC2B;go_upto_region 7 with (first|(go_at_call 69;refine HKW.out.mono ?_;rintro e_ w12 ⟨vw,rfl,hRv,hb⟩;have m0_:=Ya (HF.out.below hb);have m1_:=Ya (Yn B4.out hb);have m2_:=Ya (Yn B9.out hb);have m3_:=Ya (Yk HB.out hb);have m4_:=Ya (Yn B13.out hb);have hbs:=hb.size;have hw11:w.heap.size≤w11.heap.size:=HB.out.size;have hgF11:gF<w11.heap.size:=HF.out.lt;clear HF B4 B9 HB B11 B13 HKW hb u0 u1 u2 u3 u4 y0 y1 y2;have HF:=m0_;have B4:=m1_;have B9:=m2_;have HB:=m3_;have B13:=m4_;clear m0_ m1_ m2_ m3_ m4_)|fail)
   obtain⟨Aw,cw,ew⟩:=Kd.R_slice hRv;subst ew;have hCw:=(Kd.R_reads' hRv).2.2;have hcw:=(Kd.R_reads' hRv).2.1;obtain⟨adw,eadw,_⟩:=hCw.2.2 hLp;subst eadw;obtain⟨g,eg⟩:=Kd.R_head hRv;subst eg;have hgb:w11.heap.size≤g:=Kd.R_base hRv g rfl;have HWC:Aside0 (∀ (j:Nat) (e:S79),L[j]? =some e→w12.cell? ⟨g,j * 2,none⟩=some (.int .i64 e.f0)∧w12.cell? ⟨g,j * 2+1,none⟩=some (.bool e.f1)):=⟨by
    intro j e hj;obtain⟨ad,ead,c0,c1⟩:=at_T79 hCw (j:Int) (by omega) (by have:=(List.getElem?_eq_some_iff.1 hj).1;omega);injection ead with ead
    subst ead;have hee:rd_T79 L (j:Int)=e:=by
     unfold rd_T79;rw[Int.toNat_natCast,List.getD_eq_getElem?_getD,hj];rfl
    rw[hee,Int.toNat_natCast,add_at,Nat.zero_add] at c0 c1;exact⟨c0,c1⟩⟩
   have hgl:g<w12.heap.size:=Kd.R_lt hRv g rfl;clear hRv hCw;have u0:w12.cell? ⟨g13,0,none⟩=some (.int .i64 (n0:Int)):=(Yc B13.out 0).trans rfl;have u1:w12.cell? ⟨g13,1,none⟩=some (.bool Zc):=(Yc B13.out 1).trans rfl;have u2:w12.cell? ⟨g13,2,none⟩=some (.slice Ze l.length Zd):=(Yc B13.out 2).trans rfl;have u3:w12.cell? ⟨g13,3,none⟩=some (.slice (some ⟨gF,0,none⟩) l.length l.length):=(Yc B13.out 3).trans rfl;have keyL:=least_calls n0 Zc Ze Zd l (some ⟨gF,0,none⟩) l.length F g cw L w12 HRT.out HP5.out hLp (by omega) hcw HWC.out HC2.out (by have:=hFL.out;omega) (Yt H2.out HB.out) (isI_C HF.out (by have:=hFL.out;omega));rw[hFL.out, ← HMM.out] at keyL;have HKL:=Ya keyL;clear keyL;go_upto_region 8 with (first|(go_at_call 70;refine HKL.out.mono ?_;rintro e_ w13 ⟨rfl,hb⟩;have m0_:=Ya (HF.out.below hb);have m1_:=Ya (Yn B4.out hb);have m2_:=Ya (Yn B9.out hb);have m3_:=Ya (Yk HB.out hb);have m4_:=Ya (Yn B13.out hb);have m5_:Aside0 (∀ (j:Nat) (e:S79),L[j]? =some e→w13.cell? ⟨g,j * 2,none⟩=some (.int .i64 e.f0)∧w13.cell? ⟨g,j * 2+1,none⟩=some (.bool e.f1)):=⟨fun j e hj=>⟨pw_cell_below hb (HWC.out j e hj).1,pw_cell_below hb (HWC.out j e hj).2⟩⟩;have hgl13:g<w13.heap.size:=Nat.lt_of_lt_of_le hgl hb.size;clear HF B4 B9 HB B13 HWC HKL hb u0 u1 u2 u3;have HF:=m0_;have B4:=m1_;have B9:=m2_;have HB:=m3_;have B13:=m4_;have HWC:=m5_;clear m0_ m1_ m2_ m3_ m4_ m5_)|fail)
   go_wp2_with fail;go_loopw [60] (fun v60 w'=> ∃ j:Nat,j≤L.length∧v60= .int .i64 (j:Int)∧Aside0 (IsI w' gF (pushW F m (L.take j)))∧Aside0 (w'.heap[g4]? =some (.cells #[.int .i64 (n0:Int), .bool Zc, .slice Ze l.length Zd] 24 (0,0)))∧Aside0 (w'.heap[g9]? =some (.cells #[.slice none 0 0, .slice none 0 0, .slice none 0 0] 69 (0,0)))∧Aside0 (w'.heap[g13]? =some (.cells #[.int .i64 (n0:Int), .bool Zc, .slice Ze l.length Zd, .slice (some ⟨gF,0,none⟩) l.length l.length, .slice A4 n0 c4] 107 (0,0)))∧Aside0 (∀ (j:Nat) (e:S79),L[j]? =some e→w'.cell? ⟨g,j * 2,none⟩=some (.int .i64 e.f0)∧w'.cell? ⟨g,j * 2+1,none⟩=some (.bool e.f1))∧Aside0 (g<w'.heap.size)∧Aside0 (Below w.heap.size w w')) (fun v60 _=>L.length - (intOf v60).toNat)
   case atStart=>exact⟨0,by omega,rfl,by rw[List.take_zero];exact HF,B4,B9,B13,HWC,⟨hgl13⟩,HB⟩
   case round=>
    clear HF B4 B9 HB B13 HWC hgl hgl13;obtain⟨j,hj,rfl,HF,B4,B9,B13,HWC,HGL,HB⟩:=hrel;by_cases hlt:j<L.length
    ·have e3:decide ((j:Int)<(L.length:Int))=true:=Yv (by omega)
     obtain⟨e,he⟩: ∃ e,L[j]? =some e:=⟨_,List.getElem?_eq_getElem hlt⟩;obtain⟨c0,c1⟩:=HWC.out j e he;have hmem:=List.mem_of_getElem? he;have hso:=HP5.out e hmem;have hrj:=Right.take (k:=m) (by omega) HRT.out (L:=L) (fun x hx=>⟨HP5.out x hx,HRL.out x hx⟩) HAP.out j;have hgo:goS (pushW F m (L.take j)) e m=pushW F m (L.take (j+1)):=by rw[take_snoc he,pushW_snoc]
     obtain⟨i,hi,hei⟩:=hso;have hnj:=hrj.nums i hi;have hlj:=hrj.len;obtain⟨Fj,hFj⟩: ∃ F_,F_=pushW F m (L.take j):=⟨_,rfl⟩;rw[← hFj] at hgo hnj hlj HF;have HGO:=Ya hgo;have HNJ:=Ya hnj;have HLJ:=Ya hlj;have HEI:=Ya hei;clear hrj hgo hnj hlj hei hFj he hmem;have pj:(0:Int)≤(j:Int):=by omega
     have qj:(j:Int)<(L.length:Int):=by omega
     go_upto_region 11 with fail
     have HN:Aside0 ((wr.alloc (.cells #[.int .i64 e.f0, .bool e.f1] 79)).heap[wr.heap.size]? =some (.cells #[.int .i64 e.f0, .bool e.f1] 79 (0,0))):=⟨heap_alloc_new _ _⟩;have hbA:Below wr.heap.size wr (wr.alloc (.cells #[.int .i64 e.f0, .bool e.f1] 79)):=Ye (Yo _ _) _;have hszr:w.heap.size≤wr.heap.size:=HB.out.size;have m0_:=Ya (HF.out.below hbA);have m1_:=Ya (Yn B4.out hbA);have m2_:=Ya (Yn B9.out hbA);have m3_:=Ya (Yn B13.out hbA);have m5_:=Ya (Yk HB.out hbA);have m4_:Aside0 (∀ (q:Nat) (e_:S79),L[q]? =some e_→(wr.alloc (.cells #[.int .i64 e.f0, .bool e.f1] 79)).cell? ⟨g,q * 2,none⟩=some (.int .i64 e_.f0)∧(wr.alloc (.cells #[.int .i64 e.f0, .bool e.f1] 79)).cell? ⟨g,q * 2+1,none⟩=some (.bool e_.f1)):=⟨fun q e_ hq=>⟨pw_cell_below hbA (HWC.out q e_ hq).1,pw_cell_below hbA (HWC.out q e_ hq).2⟩⟩;have hlts2:gF<wr.heap.size:=HF.out.lt;clear HF B4 B9 B13 HB HWC c0 c1 hbA;have HF:=m0_;have B4:=m1_;have B9:=m2_;have B13:=m3_;have HWC:=m4_;have HB:=m5_;clear m0_ m1_ m2_ m3_ m4_ m5_;have HGL:=HGL.out;generalize wr.alloc (.cells #[.int .i64 e.f0, .bool e.f1] 79)=w14 at *;generalize wr.heap.size=g17 at *;have u0:w14.cell? ⟨g13,0,none⟩=some (.int .i64 (n0:Int)):=(Yc B13.out 0).trans rfl;have u1:w14.cell? ⟨g13,1,none⟩=some (.bool Zc):=(Yc B13.out 1).trans rfl;have u2:w14.cell? ⟨g13,2,none⟩=some (.slice Ze l.length Zd):=(Yc B13.out 2).trans rfl;have u3:w14.cell? ⟨g13,3,none⟩=some (.slice (some ⟨gF,0,none⟩) l.length l.length):=(Yc B13.out 3).trans rfl;have b0:w14.cell? ⟨g17,0,none⟩=some (.int .i64 e.f0):=(Yc HN.out 0).trans rfl;have b1:w14.cell? ⟨g17,1,none⟩=some (.bool e.f1):=(Yc HN.out 1).trans rfl;have hgw:g<w14.heap.size:=by have:=blk_lt HN.out;omega
     have hlF:i<Fj.length:=by have:=HLJ.out;omega
     have keyG:=go_calls (n0:Int) Zc Ze Zd l gF l.length Fj e m w14 HF.out (i:=i) hlF HEI.out ⟨by omega,by omega⟩ (fun _=>by have:=HNJ.out;omega) (fun _=>by have:=HNJ.out;omega);rw[HLJ.out] at keyG;have HKG:=Ya keyG;clear keyG;go_wp2_with (first|(go_at_call 71;refine HKG.out.mono ?_;rintro e_ w15 ⟨rfl,hil,hks⟩;rw[HGO.out] at hil;have m1_:=Ya (hks.blk B4.out (by show ¬ g4=gF;exact hgF.2.1));have m2_:=Ya (hks.blk B9.out (by show ¬ g9=gF;exact hgF.2.2));have m3_:=Ya (hks.blk B13.out (by show ¬ g13=gF;omega));have m4_:Aside0 (∀ (q:Nat) (e_:S79),L[q]? =some e_→w15.cell? ⟨g,q * 2,none⟩=some (.int .i64 e_.f0)∧w15.cell? ⟨g,q * 2+1,none⟩=some (.bool e_.f1)):=⟨fun q e_ hq=>⟨ks_cellF hks (HWC.out q e_ hq).1 (by omega),ks_cellF hks (HWC.out q e_ hq).2 (by omega)⟩⟩;have m5_:=Ya (hks.toBelow HB.out HB.out.size (fun b hb=>by have hb:b=gF:=hb;omega));have hgw2:g<w15.heap.size:=Nat.lt_of_lt_of_le hgw hks.size;clear HF B4 B9 B13 HB HWC HN HKG hks u0 u1 u2 u3 b0 b1)|fail);go_roundw
     case rel=>exact⟨j+1,by omega,by go_num,⟨hil⟩,m1_,m2_,m3_,m4_,⟨hgw2⟩,m5_⟩
     case measure=>simp[intOf];omega
    ·have e3:decide ((j:Int)<(L.length:Int))=false:=Yw (by omega)
     have htk:L.take j=L:=List.take_of_length_le (by omega);rw[htk] at HF;have hSs:Ss n0 l s t a3 R gF g4 g9 Zc Ze Zd w wr k:=⟨pushW F m L,HSO.out,by have:=HSB.out;have:=HGK.out;omega,HSG.out,HF.out,B4.out,B9.out,HB.out⟩;go_wp2_with fail;go_roundw
     case rel=>exact⟨k,hSs⟩
     case measure=>exact least_lt hSs (by rw[← HLE.out];exact Nat.lt_succ_self k)
  ·have HN:Aside0 (¬ nearS l F n0 s t a3):=⟨fun h=>hn (hNear.1 h)⟩
   have HE:Aside0 (F=R):=⟨by rw[← HGP.out,spanS_end HN.out]⟩;have z0:w9.cell? ⟨g9,0,none⟩=some (.slice none 0 0):=(Yc B9.out 0).trans rfl;have z1:w9.cell? ⟨g9,1,none⟩=some (.slice none 0 0):=(Yc B9.out 1).trans rfl;have z2:w9.cell? ⟨g9,2,none⟩=some (.slice none 0 0):=(Yc B9.out 2).trans rfl;have f0:=Yf B9.out 0;have f1:=Yf B9.out 1;have f2:=Yf B9.out 2;cases it with
   |false=>
    have t1:(!false)=true:=rfl;go_upto_region 4 with fail
    have hne:g9≠g11:=by omega
    go_region_held3 (fun w'=>w'.cell? ⟨g11,0,none⟩=some (.slice (some ad0) n0 c0)∧w'.cell? ⟨g11,1,none⟩=some (.slice (some ad1) n0 c1)∧w'.cell? ⟨g11,2,none⟩=some (.slice A2 n0 c2))
     (first|((try dsimp only);(refine⟨?_,?_,?_⟩)<;>first|(exact pw_cell_below (below_drew (Yo _ _)) (by assumption))|go_keep)|go_keep)
     (first|fail)
    clear y0 y1 y2 z0 z1 z2 f0 f1 f2 hd hi;have hBZ:Below w.heap.size w (((w9.setCell ⟨g9,0,none⟩ (.slice (some ad0) n0 c0)).setCell ⟨g9,1,none⟩ (.slice (some ad1) n0 c1)).setCell ⟨g9,2,none⟩ (.slice A2 n0 c2)).drew:=below_drew (Yh (Yh (Yh HB.out hg9w) hg9w) hg9w);have hsame: ∀ k,k≠g9→(((w9.setCell ⟨g9,0,none⟩ (.slice (some ad0) n0 c0)).setCell ⟨g9,1,none⟩ (.slice (some ad1) n0 c1)).setCell ⟨g9,2,none⟩ (.slice A2 n0 c2)).drew.heap[k]? =w9.heap[k]? :=fun k hk=>((Below.heap_setCell _ ⟨g9,2,none⟩ _ k hk).trans (Below.heap_setCell _ ⟨g9,1,none⟩ _ k hk)).trans (Below.heap_setCell _ ⟨g9,0,none⟩ _ k hk)
    obtain⟨wz,hwz⟩: ∃ W,W=(((w9.setCell ⟨g9,0,none⟩ (.slice (some ad0) n0 c0)).setCell ⟨g9,1,none⟩ (.slice (some ad1) n0 c1)).setCell ⟨g9,2,none⟩ (.slice A2 n0 c2)).drew:=⟨_,rfl⟩;rw[← hwz] at hBZ hsame;have hRF0:=(HF.out.same (hsame gF (Ne.symm hgF.2.2))).R (base:=w.heap.size) (ok:=fun k_=>some k_≠(Value.slice (some ad0) n0 c0).ownBlock) (by have:=hFL.out;omega) hgF.1 (fun h=>by have:=Kd.R_base R0.out gF h.symm;omega);rw[hFL.out] at hRF0;have hRF:Kd.R (Kd.int .i64) 3 wz w.heap.size (fun k_=>some k_≠(Value.slice (some ad0) n0 c0).ownBlock) (.slice (some ⟨gF,0,none⟩) l.length l.length) R:=by rw[← HE.out];exact hRF0
    have hR0:Kd.R (Kd.int .i64) 3 wz w.heap.size (fun k_=>some k_≠(Value.slice (some ⟨gF,0,none⟩) l.length l.length).ownBlock) (.slice (some ad0) n0 c0) (reachS l R n0 s).D:=by
     rw[← HE.out, ← HXD.out];exact Kd.R_mono (Kd.R_lower (Kd.R_move (Kd.R_bound R0.out) (fun k hk=>hsame k (by have:=hk.2.1;omega))) hwrw) (fun k hk=>by have:=hk.2.1;simp[Value.ownBlock];omega)
    have hR1:Kd.R Kd.bool 4 wz w.heap.size (fun _=>True) (.slice (some ad1) n0 c1) (reachS l R n0 s).I:=by
     rw[← HE.out, ← HXD.out];exact Kd.R_mono (Kd.R_lower (Kd.R_move (Kd.R_bound R1.out) (fun k hk=>hsame k (by have:=hk.2.1;omega))) hwrw) (fun _ _=>trivial)
    have hR2:Kd.R k79 79 wz w.heap.size (fun _=>True) (.slice A2 n0 c2) (reachS l R n0 s).B:=by
     rw[← HE.out, ← HXD.out];exact Kd.R_mono (Kd.R_lower (Kd.R_move (Kd.R_bound R2.out) (fun k hk=>hsame k (by have:=hk.2.1;omega))) hwrw) (fun _ _=>trivial)
    rw[hwz] at hBZ hRF hR0 hR1 hR2;clear hwz hsame hRF0;go_wp2_with fail
    (try rw[Exit.noGoto_ret]);refine bodyPost_ret (results_tc rfl _ _ g9 69 #[.slice (some ad0) n0 c0, .slice (some ad1) n0 c1, .slice A2 n0 c2] (0,0) _ rfl (Ym (YA (cs:= #[.slice (some ad0) n0 c0, .slice (some ad1) n0 c1, .slice none 0 0]) (YA (cs:= #[.slice (some ad0) n0 c0, .slice none 0 0, .slice none 0 0]) (YA (cs:= #[.slice none 0 0, .slice none 0 0, .slice none 0 0]) B9.out 0 _ rfl) 1 _ rfl) 2 _ rfl)) Try.underlying69 rfl (by kernel_rfl)) rfl ?_;exact⟨.slice (some ⟨gF,0,none⟩) l.length l.length,_,_,_,rfl,hRF,hR0,hR1,hR2,hBZ⟩
   |true=>
    have t1:(!true)=false:=rfl;have t2:decide (a3<dt)=true:=Yv (Int.not_le.1 (fun h=>hn ⟨rfl,h⟩));go_upto_region 4 with fail
    have hne:g9≠g11:=by omega
    go_region_held3 (fun w'=>w'.cell? ⟨g11,0,none⟩=some (.slice (some ad0) n0 c0)∧w'.cell? ⟨g11,1,none⟩=some (.slice (some ad1) n0 c1)∧w'.cell? ⟨g11,2,none⟩=some (.slice A2 n0 c2))
     (first|((try dsimp only);(refine⟨?_,?_,?_⟩)<;>first|(exact pw_cell_below (below_drew (Yo _ _)) (by assumption))|go_keep)|go_keep)
     (first|fail)
    clear y0 y1 y2 z0 z1 z2 f0 f1 f2 hd hi;have hBZ:Below w.heap.size w (((w9.setCell ⟨g9,0,none⟩ (.slice (some ad0) n0 c0)).setCell ⟨g9,1,none⟩ (.slice (some ad1) n0 c1)).setCell ⟨g9,2,none⟩ (.slice A2 n0 c2)).drew:=below_drew (Yh (Yh (Yh HB.out hg9w) hg9w) hg9w);have hsame: ∀ k,k≠g9→(((w9.setCell ⟨g9,0,none⟩ (.slice (some ad0) n0 c0)).setCell ⟨g9,1,none⟩ (.slice (some ad1) n0 c1)).setCell ⟨g9,2,none⟩ (.slice A2 n0 c2)).drew.heap[k]? =w9.heap[k]? :=fun k hk=>((Below.heap_setCell _ ⟨g9,2,none⟩ _ k hk).trans (Below.heap_setCell _ ⟨g9,1,none⟩ _ k hk)).trans (Below.heap_setCell _ ⟨g9,0,none⟩ _ k hk)
    obtain⟨wz,hwz⟩: ∃ W,W=(((w9.setCell ⟨g9,0,none⟩ (.slice (some ad0) n0 c0)).setCell ⟨g9,1,none⟩ (.slice (some ad1) n0 c1)).setCell ⟨g9,2,none⟩ (.slice A2 n0 c2)).drew:=⟨_,rfl⟩;rw[← hwz] at hBZ hsame;have hRF0:=(HF.out.same (hsame gF (Ne.symm hgF.2.2))).R (base:=w.heap.size) (ok:=fun k_=>some k_≠(Value.slice (some ad0) n0 c0).ownBlock) (by have:=hFL.out;omega) hgF.1 (fun h=>by have:=Kd.R_base R0.out gF h.symm;omega);rw[hFL.out] at hRF0;have hRF:Kd.R (Kd.int .i64) 3 wz w.heap.size (fun k_=>some k_≠(Value.slice (some ad0) n0 c0).ownBlock) (.slice (some ⟨gF,0,none⟩) l.length l.length) R:=by rw[← HE.out];exact hRF0
    have hR0:Kd.R (Kd.int .i64) 3 wz w.heap.size (fun k_=>some k_≠(Value.slice (some ⟨gF,0,none⟩) l.length l.length).ownBlock) (.slice (some ad0) n0 c0) (reachS l R n0 s).D:=by
     rw[← HE.out, ← HXD.out];exact Kd.R_mono (Kd.R_lower (Kd.R_move (Kd.R_bound R0.out) (fun k hk=>hsame k (by have:=hk.2.1;omega))) hwrw) (fun k hk=>by have:=hk.2.1;simp[Value.ownBlock];omega)
    have hR1:Kd.R Kd.bool 4 wz w.heap.size (fun _=>True) (.slice (some ad1) n0 c1) (reachS l R n0 s).I:=by
     rw[← HE.out, ← HXD.out];exact Kd.R_mono (Kd.R_lower (Kd.R_move (Kd.R_bound R1.out) (fun k hk=>hsame k (by have:=hk.2.1;omega))) hwrw) (fun _ _=>trivial)
    have hR2:Kd.R k79 79 wz w.heap.size (fun _=>True) (.slice A2 n0 c2) (reachS l R n0 s).B:=by
     rw[← HE.out, ← HXD.out];exact Kd.R_mono (Kd.R_lower (Kd.R_move (Kd.R_bound R2.out) (fun k hk=>hsame k (by have:=hk.2.1;omega))) hwrw) (fun _ _=>trivial)
    rw[hwz] at hBZ hRF hR0 hR1 hR2;clear hwz hsame hRF0;go_wp2_with fail
    (try rw[Exit.noGoto_ret]);refine bodyPost_ret (results_tc rfl _ _ g9 69 #[.slice (some ad0) n0 c0, .slice (some ad1) n0 c1, .slice A2 n0 c2] (0,0) _ rfl (Ym (YA (cs:= #[.slice (some ad0) n0 c0, .slice (some ad1) n0 c1, .slice none 0 0]) (YA (cs:= #[.slice (some ad0) n0 c0, .slice none 0 0, .slice none 0 0]) (YA (cs:= #[.slice none 0 0, .slice none 0 0, .slice none 0 0]) B9.out 0 _ rfl) 1 _ rfl) 2 _ rfl)) Try.underlying69 rfl (by kernel_rfl)) rfl ?_;exact⟨.slice (some ⟨gF,0,none⟩) l.length l.length,_,_,_,rfl,hRF,hR0,hR1,hR2,hBZ⟩
theorem span_Fill_calls (Zb:Int) (Zc:Bool) (Ze:Option Addr) (Zd:Nat) (Za:List S50) (a1:Int) (a2:Int) (a3:Int) (r1:List Int) (r2:List Int) (r3:List Bool) (r4:List S79) (w:World) (Zp:Kd.C k50 w Ze Za.length Za) (Zq:Za.length≤Zd) (h:(if endsErr Zb Za a1 a2=0∧0≤a3 then some (fillRes Za Zb.toNat a1.toNat a2.toNat a3) else none)=some (r1,r2,r3,r4)):
  Calls Try.prog 35 #[.agg #[.int .i64 Zb, .bool Zc, .slice Ze Za.length Zd], .int .i64 a1, .int .i64 a2, .int .i64 a3] w fun e w'=> ∃ v0_ v1_ v2_ v3_:Value,e= .returned (.tuple #[v0_, .agg #[v1_,v2_,v3_]])∧Kd.R (Kd.int .i64) 3 w' w.heap.size (fun k_=>some k_≠(v1_:Value).ownBlock) v0_ r1∧Kd.R (Kd.int .i64) 3 w' w.heap.size (fun k_=>some k_≠(v0_:Value).ownBlock) v1_ r2∧Kd.R Kd.bool 4 w' w.heap.size (fun _=>True) v2_ r3∧Kd.R k79 79 w' w.heap.size (fun _=>True) v3_ r4∧Below w.heap.size w w':=by
 by_cases he:endsErr Zb Za a1 a2=0∧0≤a3
 ·rw[Yx he] at h
  obtain⟨n0,s0,t0,rfl,rfl,rfl,hs,ht,hst,hn,hr⟩:=ends_zero he.1;simp only[Int.toNat_natCast] at h;injection h with h
  unfold fillRes at h;injection h with h1 h
  injection h with h2 h
  injection h with h3 h4
  subst h1;subst h2;subst h3;subst h4;exact fill_core n0 Zc Ze Zd Za s0 t0 a3 w hr hs ht hst he.2 Zp Zq
 ·rw[Yy he] at h;cases h
end H
namespace P
attribute [local go_sem] max2_int min2_int max_two min_two max_three min_three max_four min_four
def span_Fill.f (Zb:Int) (Zc:Bool) (Za:List (S50)) (a1:Int) (a2:Int) (a3:Int):Option (List Int × List Int × List Bool × (List (S79))):=(if H.endsErr Zb Za a1 a2=0∧0≤a3 then some (H.fillRes Za Zb.toNat a1.toNat a2.toNat a3) else none)
theorem span_Fill.calls (Zb:Int) (Zc:Bool) (Ze:Option Addr) (Zd:Nat) (Za:List (S50)) (a1:Int) (a2:Int) (a3:Int) (r1:List Int) (r2:List Int) (r3:List Bool) (r4:List (S79)) (w:World) (Zp:Kd.C k50 w Ze Za.length Za) (Zq:Za.length≤Zd) (h:span_Fill.f Zb Zc Za a1 a2 a3=some (r1,r2,r3,r4)):
  Calls Try.prog 35 #[.agg #[.int .i64 Zb, .bool Zc, .slice Ze Za.length Zd], .int .i64 a1, .int .i64 a2, .int .i64 a3] w fun e w'=> ∃ v0_ v1_ v2_ v3_:Value,e= .returned (.tuple #[v0_, .agg #[v1_,v2_,v3_]])∧Kd.R (Kd.int .i64) 3 w' w.heap.size (fun k_=>some k_≠(v1_:Value).ownBlock) v0_ r1∧Kd.R (Kd.int .i64) 3 w' w.heap.size (fun k_=>some k_≠(v0_:Value).ownBlock) v1_ r2∧Kd.R Kd.bool 4 w' w.heap.size (fun _=>True) v2_ r3∧Kd.R k79 79 w' w.heap.size (fun _=>True) v3_ r4∧Below w.heap.size w w':=H.span_Fill_calls Zb Zc Ze Zd Za a1 a2 a3 r1 r2 r3 r4 w Zp Zq h
end P
namespace P
attribute [local go_sem] max2_int min2_int max_two min_two max_three min_three max_four min_four
def maxflow_Value.l0:Nat→Int→List Int→Int→List (S50)→Int→Int→Option (Int)
 |0,_,_,_,_,_,_=>none
 |k+1,x1,x2,x7,x11,x12,x13=>if x13<x12 then(if 0≤x13 then(if x13<(x11.length:Int) then(if ((rd_T50 x11 x13).f0)=x1 then(if x13<(x2.length:Int) then(if ((rd_T50 x11 x13).f1)=x1 then(maxflow_Value.l0 k x1 x2 (wrap64 ((wrap64 (x7+(rd x2 x13))) - (rd x2 x13))) x11 x12 (wrap64 (x13+1))) else(maxflow_Value.l0 k x1 x2 (wrap64 (x7+(rd x2 x13))) x11 x12 (wrap64 (x13+1)))) else(none)) else(if ((rd_T50 x11 x13).f1)=x1 then(if x13<(x2.length:Int) then(maxflow_Value.l0 k x1 x2 (wrap64 (x7 - (rd x2 x13))) x11 x12 (wrap64 (x13+1))) else(none)) else(maxflow_Value.l0 k x1 x2 x7 x11 x12 (wrap64 (x13+1))))) else(none)) else(none)) else(some x7)
def maxflow_Value.f (k:Nat) (Zb:Int) (Zc:Bool) (Za:List (S50)) (a1:Int) (l2:List Int):Option (Int):=maxflow_Value.l0 k a1 l2 0 Za (Za.length:Int) 0
set_option maxHeartbeats 8000000 in
set_option maxRecDepth 100000 in
theorem maxflow_Value.calls (k:Nat) (Zb:Int) (Zc:Bool) (Ze:Option Addr) (Zd:Nat) (Za:List (S50)) (a1:Int) (A2:Option Addr) (c2:Nat) (l2:List Int) (r:Int) (w:World) (Zp:Kd.C k50 w Ze Za.length Za) (Zq:Za.length≤Zd) (hr2:Kd.C (Kd.int .i64) w A2 l2.length l2) (hc2:l2.length≤c2) (h:maxflow_Value.f k Zb Zc Za a1 l2=some r):
  Calls Try.prog 36 #[.agg #[.int .i64 Zb, .bool Zc, .slice Ze Za.length Zd], .int .i64 a1, .slice A2 l2.length c2] w fun e w'=>e= .returned (.int .i64 r)∧Below w.heap.size w w':=by
 have hu24:=Try.underlying24;have hu50:=Try.underlying50;have Zh:=Ya Zp;have Zo:=Ya Zq;clear Zp Zq;have HR2:=Ya hr2;have HC2:=Ya hc2;clear hr2 hc2;have HB:=Ya (Yo w.heap.size w);have H:=h;unfold maxflow_Value.f at H;clear h;have H':=Ya H;clear H;go_enter Try.func36,Try.ntmps36;go_wp2_with (first|(refine bx 3 24 #[.int .i64 Zb, .bool Zc, .slice Ze Za.length Zd] ?_;intro gb153 hg w4 Zf hb;have Uz:=Ya (Zf);have GW153:=Ya ((sz hg));have GE153:=Ya ((sz hg));replace HB:=Ya (Yk bl hb);clear hb Zf hg;have hcz5_0:w4.cell? ⟨gb153,0,none⟩=some (.int .i64 Zb):=bc Uz 0;have hcz5_1:w4.cell? ⟨gb153,1,none⟩=some (.bool Zc):=bc Uz 1;have hcz5_2:w4.cell? ⟨gb153,2,none⟩=some (.slice Ze Za.length Zd):=bc Uz 2;have hfz5_0:=Yf Uz.out 0;have hfz5_1:=Yf Uz.out 1;have hfz5_2:=Yf Uz.out 2));go_loopg [7,13] k (fun kq v7 v13 w'=> ∃ (Xu:Int) (Zg:Int),v7= .int .i64 Xu∧v13= .int .i64 Zg∧Aside0 (maxflow_Value.l0 kq a1 l2 Xu Za (Za.length:Int) Zg=some r)∧Aside0 (kq≤k)∧Aside0 (w'.heap[gb153]? =some (.cells #[.int .i64 Zb, .bool Zc,(.slice Ze Za.length Zd)] 24 (0,0)))∧Aside0 (Below w.heap.size w w'))
 case atStart=>exact⟨(0),(0),(by first|rfl|(simp;done)|(simp[*];done)),(by first|rfl|(simp;done)|(simp[*];done)),H',⟨Nat.le_refl _⟩,⟨Uz.out⟩,⟨HB.out⟩⟩
 case round=>
  clear H';try clear c2
  try clear hcz5_0
  try clear hcz5_1
  try clear hcz5_2
  try clear hfz5_0
  try clear hfz5_1
  try clear hfz5_2
  obtain⟨Xu,Zg,rfl,rfl,HA,HK1,Uz,HB⟩:=hrel;cases gk with
  |zero=>exact absurd HA.out (by simp[maxflow_Value.l0])
  |succ k1=>
   have H:=HA.out;clear HA;simp only[maxflow_Value.l0] at H;by_cases c6:Zg<(Za.length:Int)
   rotate_left
   ·rw[Yy c6] at H
    have c6b0:decide (Zg<(Za.length:Int))=false:=Yw c6;clear c6;obtain rfl:=Option.some.inj H;go_wp2;go_ret;exact⟨by first|rfl|(simp[errW_none,errW_some]<;>rfl)|(simp[*,errW_none,errW_some]<;>rfl),HB.out⟩
   rw[Yx c6] at H;have c6b0:decide (Zg<(Za.length:Int))=true:=Yv c6;clear c6;by_cases c7:0≤Zg
   rotate_left
   ·rw[Yy c7] at H
    exact absurd H (by simp)
   rw[Yx c7] at H;have c7b0:decide (0≤Zg)=true:=Yv c7;clear c7;by_cases c8:Zg<(Za.length:Int)
   rotate_left
   ·rw[Yy c8] at H
    exact absurd H (by simp)
   rw[Yx c8] at H;have c8b0:decide (Zg<(Za.length:Int))=true:=Yv c8;clear c8;by_cases c9:((rd_T50 Za Zg).f0)=a1
   rotate_left
   ·rw[Yy c9] at H
    have c9b0:(((rd_T50 Za Zg).f0) == a1)=false:=beq_eq_false_iff_ne.mpr c9;have c9b1:(((rd_T50 Za Zg).f0) != a1)=true:=bne_iff_ne.mpr c9;by_cases c18:((rd_T50 Za Zg).f1)=a1
    rotate_left
    ·rw[Yy c18] at H
     have c18b0:(((rd_T50 Za Zg).f1) == a1)=false:=beq_eq_false_iff_ne.mpr c18;have c18b1:(((rd_T50 Za Zg).f1) != a1)=true:=bne_iff_ne.mpr c18;have H':=Ya H;clear H;have p154:0≤(Zg:Int):=od;have q154:Zg<(Za.length:Int):=od;obtain⟨ad154,e154,hx154_0,hx154_1,hx154_2,hx154_3⟩:=at_T50 Zh.out Zg p154 q154;cases e154;replace hx154_0:=hc HB hx154_0;replace hx154_1:=hc HB hx154_1;replace hx154_2:=hc HB hx154_2;replace hx154_3:=hc HB hx154_3;replace p154:=eq_true p154;replace q154:=eq_true q154;go_wp2_with (first|(refine bx 9 50 #[.int .i64 0, .int .i64 0, .int .i64 0, .int .i64 0] ?_;intro Xq hg w23 Zf hb;have Vr:=Ya (Zf);have GW155:=Ya ((sz hg));have GE155:=Ya ((sz hg));replace HB:=Ya (Yk bl hb);have Xv:=Ya (by rw[hg];exact Nat.ne_of_lt (blk_lt (bk Uz)):gb153≠Xq);have NB155_153:=Ya (by rw[hg];exact Nat.ne_of_gt (blk_lt (bk Uz)):Xq≠gb153);replace Uz:=Ya (Yn (bk Uz) hb);clear hb Zf hg;have hnb24:=NB155_153.out;have hnc24:=Xv.out;have hcz25_0:w23.cell? ⟨Xq,0,none⟩=some (.int .i64 0):=bc Vr 0;have hcz25_1:w23.cell? ⟨Xq,1,none⟩=some (.int .i64 0):=bc Vr 1;have hcz25_2:w23.cell? ⟨Xq,2,none⟩=some (.int .i64 0):=bc Vr 2;have hcz25_3:w23.cell? ⟨Xq,3,none⟩=some (.int .i64 0):=bc Vr 3;have hfz25_0:=Yf Vr.out 0;have hfz25_1:=Yf Vr.out 1;have hfz25_2:=Yf Vr.out 2;have hfz25_3:=Yf Vr.out 3));go_roundg k1
     case measure=>have:=HK1.out;omega
     case rel=>exact⟨(Xu),(wrap64 (Zg+1)),(by first|rfl|(simp;done)|(simp[*];done)),(by first|rfl|(simp;done)|(simp[*];done)),H',⟨by have:=HK1.out;omega⟩,⟨by(with_reducible repeat(first|refine Yl ?_ _|refine Ym ?_|refine Yj ?_ _));refine blk_far ?_ Xv.out _;(with_reducible repeat(first|refine Yl ?_ _|refine Ym ?_|refine Yj ?_ _));refine blk_far ?_ Xv.out _;(with_reducible repeat(first|refine Yl ?_ _|refine Ym ?_|refine Yj ?_ _));refine blk_far ?_ Xv.out _;(with_reducible repeat(first|refine Yl ?_ _|refine Ym ?_|refine Yj ?_ _));refine blk_far ?_ Xv.out _;(with_reducible repeat(first|refine Yl ?_ _|refine Ym ?_|refine Yj ?_ _));exact Uz.out⟩,⟨bl⟩⟩
    rw[Yx c18] at H;have c18b0:(((rd_T50 Za Zg).f1) == a1)=true:=beq_iff_eq.mpr c18;have c18b1:(((rd_T50 Za Zg).f1) != a1)=false:=bne_eq_false_iff_eq.mpr c18;clear c18;by_cases c19:Zg<(l2.length:Int)
    rotate_left
    ·rw[Yy c19] at H
     exact absurd H (by simp)
    rw[Yx c19] at H;have c19b0:decide (Zg<(l2.length:Int))=true:=Yv c19;clear c19;have H':=Ya H;clear H;have p154:0≤(Zg:Int):=od;have q154:Zg<(Za.length:Int):=od;obtain⟨ad154,e154,hx154_0,hx154_1,hx154_2,hx154_3⟩:=at_T50 Zh.out Zg p154 q154;cases e154;replace hx154_0:=hc HB hx154_0;replace hx154_1:=hc HB hx154_1;replace hx154_2:=hc HB hx154_2;replace hx154_3:=hc HB hx154_3;replace p154:=eq_true p154;replace q154:=eq_true q154;go_wp2_with (first|(refine bx 9 50 #[.int .i64 0, .int .i64 0, .int .i64 0, .int .i64 0] ?_;intro Xq hg w20 Zf hb;have Vr:=Ya (Zf);have GW155:=Ya ((sz hg));have GE155:=Ya ((sz hg));replace HB:=Ya (Yk bl hb);have Xv:=Ya (by rw[hg];exact Nat.ne_of_lt (blk_lt (bk Uz)):gb153≠Xq);have NB155_153:=Ya (by rw[hg];exact Nat.ne_of_gt (blk_lt (bk Uz)):Xq≠gb153);replace Uz:=Ya (Yn (bk Uz) hb);clear hb Zf hg;have hnb21:=NB155_153.out;have hnc21:=Xv.out;have hcz22_0:w20.cell? ⟨Xq,0,none⟩=some (.int .i64 0):=bc Vr 0;have hcz22_1:w20.cell? ⟨Xq,1,none⟩=some (.int .i64 0):=bc Vr 1;have hcz22_2:w20.cell? ⟨Xq,2,none⟩=some (.int .i64 0):=bc Vr 2;have hcz22_3:w20.cell? ⟨Xq,3,none⟩=some (.int .i64 0):=bc Vr 3;have hfz22_0:=Yf Vr.out 0;have hfz22_1:=Yf Vr.out 1;have hfz22_2:=Yf Vr.out 2;have hfz22_3:=Yf Vr.out 3;have p158:0≤(Zg:Int):=od;have q158:Zg<(l2.length:Int):=od;obtain⟨ad158,e158,hx158_0⟩:=Kd.at_int HR2.out Zg p158 q158;cases e158;have hn158_0:ad158.block≠Xq:=Nat.ne_of_lt (Nat.lt_of_lt_of_le (by have:=Yb _ _ hx158_0;first|rwa [add_block] at this|exact this) GW155.out);have hn158_1:ad158.block≠Xq:=Nat.ne_of_lt (Nat.lt_of_lt_of_le (by have:=Yb _ _ hx158_0;first|rwa [add_block] at this|exact this) GW155.out);have hn158_2:ad158.block≠Xq:=Nat.ne_of_lt (Nat.lt_of_lt_of_le (by have:=Yb _ _ hx158_0;first|rwa [add_block] at this|exact this) GW155.out);have hn158_3:ad158.block≠Xq:=Nat.ne_of_lt (Nat.lt_of_lt_of_le (by have:=Yb _ _ hx158_0;first|rwa [add_block] at this|exact this) GW155.out);replace hx158_0:=hc HB hx158_0;replace hx158_0:=(cell_far (p:=⟨Xq,0,none⟩) (by first|(rw[add_block];exact hn158_0)|(show (Addr.add _ _).block≠_;rw[add_block];exact hn158_0)|exact hn158_0) (.int .i64 ((rd_T50 Za Zg).f0))).trans hx158_0;replace hx158_0:=(cell_far (p:=⟨Xq,1,none⟩) (by first|(rw[add_block];exact hn158_1)|(show (Addr.add _ _).block≠_;rw[add_block];exact hn158_1)|exact hn158_1) (.int .i64 ((rd_T50 Za Zg).f1))).trans hx158_0;replace hx158_0:=(cell_far (p:=⟨Xq,2,none⟩) (by first|(rw[add_block];exact hn158_2)|(show (Addr.add _ _).block≠_;rw[add_block];exact hn158_2)|exact hn158_2) (.int .i64 ((rd_T50 Za Zg).f2))).trans hx158_0;replace hx158_0:=(cell_far (p:=⟨Xq,3,none⟩) (by first|(rw[add_block];exact hn158_3)|(show (Addr.add _ _).block≠_;rw[add_block];exact hn158_3)|exact hn158_3) (.int .i64 ((rd_T50 Za Zg).f3))).trans hx158_0;clear hn158_0;clear hn158_1;clear hn158_2;clear hn158_3;replace p158:=eq_true p158;replace q158:=eq_true q158));go_roundg k1
    case measure=>have:=HK1.out;omega
    case rel=>exact⟨(wrap64 (Xu - (rd l2 Zg))),(wrap64 (Zg+1)),(by first|rfl|(simp;done)|(simp[*];done)),(by first|rfl|(simp;done)|(simp[*];done)),H',⟨by have:=HK1.out;omega⟩,⟨by(with_reducible repeat(first|refine Yl ?_ _|refine Ym ?_|refine Yj ?_ _));refine blk_far ?_ Xv.out _;(with_reducible repeat(first|refine Yl ?_ _|refine Ym ?_|refine Yj ?_ _));refine blk_far ?_ Xv.out _;(with_reducible repeat(first|refine Yl ?_ _|refine Ym ?_|refine Yj ?_ _));refine blk_far ?_ Xv.out _;(with_reducible repeat(first|refine Yl ?_ _|refine Ym ?_|refine Yj ?_ _));refine blk_far ?_ Xv.out _;(with_reducible repeat(first|refine Yl ?_ _|refine Ym ?_|refine Yj ?_ _));exact Uz.out⟩,⟨bl⟩⟩
   rw[Yx c9] at H;have c9b0:(((rd_T50 Za Zg).f0) == a1)=true:=beq_iff_eq.mpr c9;have c9b1:(((rd_T50 Za Zg).f0) != a1)=false:=bne_eq_false_iff_eq.mpr c9;clear c9;by_cases c10:Zg<(l2.length:Int)
   rotate_left
   ·rw[Yy c10] at H
    exact absurd H (by simp)
   rw[Yx c10] at H;have c10b0:decide (Zg<(l2.length:Int))=true:=Yv c10;clear c10;by_cases c11:((rd_T50 Za Zg).f1)=a1
   rotate_left
   ·rw[Yy c11] at H
    have c11b0:(((rd_T50 Za Zg).f1) == a1)=false:=beq_eq_false_iff_ne.mpr c11;have c11b1:(((rd_T50 Za Zg).f1) != a1)=true:=bne_iff_ne.mpr c11;have H':=Ya H;clear H;have p154:0≤(Zg:Int):=od;have q154:Zg<(Za.length:Int):=od;obtain⟨ad154,e154,hx154_0,hx154_1,hx154_2,hx154_3⟩:=at_T50 Zh.out Zg p154 q154;cases e154;replace hx154_0:=hc HB hx154_0;replace hx154_1:=hc HB hx154_1;replace hx154_2:=hc HB hx154_2;replace hx154_3:=hc HB hx154_3;replace p154:=eq_true p154;replace q154:=eq_true q154;go_wp2_with (first|(refine bx 9 50 #[.int .i64 0, .int .i64 0, .int .i64 0, .int .i64 0] ?_;intro Xq hg w15 Zf hb;have Vr:=Ya (Zf);have GW155:=Ya ((sz hg));have GE155:=Ya ((sz hg));replace HB:=Ya (Yk bl hb);have Xv:=Ya (by rw[hg];exact Nat.ne_of_lt (blk_lt (bk Uz)):gb153≠Xq);have NB155_153:=Ya (by rw[hg];exact Nat.ne_of_gt (blk_lt (bk Uz)):Xq≠gb153);replace Uz:=Ya (Yn (bk Uz) hb);clear hb Zf hg;have hnb16:=NB155_153.out;have hnc16:=Xv.out;have Vz:w15.cell? ⟨Xq,0,none⟩=some (.int .i64 0):=bc Vr 0;have Ua:w15.cell? ⟨Xq,1,none⟩=some (.int .i64 0):=bc Vr 1;have hcz17_2:w15.cell? ⟨Xq,2,none⟩=some (.int .i64 0):=bc Vr 2;have hcz17_3:w15.cell? ⟨Xq,3,none⟩=some (.int .i64 0):=bc Vr 3;have Ub:=Yf Vr.out 0;have Uc:=Yf Vr.out 1;have hfz17_2:=Yf Vr.out 2;have hfz17_3:=Yf Vr.out 3;have p156:0≤(Zg:Int):=od;have q156:Zg<(l2.length:Int):=od;obtain⟨ad156,e156,Wh⟩:=Kd.at_int HR2.out Zg p156 q156;cases e156;have hn156_0:ad156.block≠Xq:=Nat.ne_of_lt (Nat.lt_of_lt_of_le (by have:=Yb _ _ Wh;first|rwa [add_block] at this|exact this) GW155.out);have hn156_1:ad156.block≠Xq:=Nat.ne_of_lt (Nat.lt_of_lt_of_le (by have:=Yb _ _ Wh;first|rwa [add_block] at this|exact this) GW155.out);have hn156_2:ad156.block≠Xq:=Nat.ne_of_lt (Nat.lt_of_lt_of_le (by have:=Yb _ _ Wh;first|rwa [add_block] at this|exact this) GW155.out);have hn156_3:ad156.block≠Xq:=Nat.ne_of_lt (Nat.lt_of_lt_of_le (by have:=Yb _ _ Wh;first|rwa [add_block] at this|exact this) GW155.out);replace Wh:=hc HB Wh;replace Wh:=(cell_far (p:=⟨Xq,0,none⟩) (by first|(rw[add_block];exact hn156_0)|(show (Addr.add _ _).block≠_;rw[add_block];exact hn156_0)|exact hn156_0) (.int .i64 ((rd_T50 Za Zg).f0))).trans Wh;replace Wh:=(cell_far (p:=⟨Xq,1,none⟩) (by first|(rw[add_block];exact hn156_1)|(show (Addr.add _ _).block≠_;rw[add_block];exact hn156_1)|exact hn156_1) (.int .i64 ((rd_T50 Za Zg).f1))).trans Wh;replace Wh:=(cell_far (p:=⟨Xq,2,none⟩) (by first|(rw[add_block];exact hn156_2)|(show (Addr.add _ _).block≠_;rw[add_block];exact hn156_2)|exact hn156_2) (.int .i64 ((rd_T50 Za Zg).f2))).trans Wh;replace Wh:=(cell_far (p:=⟨Xq,3,none⟩) (by first|(rw[add_block];exact hn156_3)|(show (Addr.add _ _).block≠_;rw[add_block];exact hn156_3)|exact hn156_3) (.int .i64 ((rd_T50 Za Zg).f3))).trans Wh;clear hn156_0;clear hn156_1;clear hn156_2;clear hn156_3;replace p156:=eq_true p156;replace q156:=eq_true q156));go_roundg k1
    case measure=>have:=HK1.out;omega
    case rel=>exact⟨(wrap64 (Xu+(rd l2 Zg))),(wrap64 (Zg+1)),(by first|rfl|(simp;done)|(simp[*];done)),(by first|rfl|(simp;done)|(simp[*];done)),H',⟨by have:=HK1.out;omega⟩,⟨by(with_reducible repeat(first|refine Yl ?_ _|refine Ym ?_|refine Yj ?_ _));refine blk_far ?_ Xv.out _;(with_reducible repeat(first|refine Yl ?_ _|refine Ym ?_|refine Yj ?_ _));refine blk_far ?_ Xv.out _;(with_reducible repeat(first|refine Yl ?_ _|refine Ym ?_|refine Yj ?_ _));refine blk_far ?_ Xv.out _;(with_reducible repeat(first|refine Yl ?_ _|refine Ym ?_|refine Yj ?_ _));refine blk_far ?_ Xv.out _;(with_reducible repeat(first|refine Yl ?_ _|refine Ym ?_|refine Yj ?_ _));exact Uz.out⟩,⟨bl⟩⟩
   rw[Yx c11] at H;have c11b0:(((rd_T50 Za Zg).f1) == a1)=true:=beq_iff_eq.mpr c11;have c11b1:(((rd_T50 Za Zg).f1) != a1)=false:=bne_eq_false_iff_eq.mpr c11;clear c11;have H':=Ya H;clear H;have p154:0≤(Zg:Int):=od;have q154:Zg<(Za.length:Int):=od;obtain⟨ad154,e154,hx154_0,hx154_1,hx154_2,hx154_3⟩:=at_T50 Zh.out Zg p154 q154;cases e154;replace hx154_0:=hc HB hx154_0;replace hx154_1:=hc HB hx154_1;replace hx154_2:=hc HB hx154_2;replace hx154_3:=hc HB hx154_3;replace p154:=eq_true p154;replace q154:=eq_true q154;go_wp2_with (first|(refine bx 9 50 #[.int .i64 0, .int .i64 0, .int .i64 0, .int .i64 0] ?_;intro Xq hg w12 Zf hb;have Vr:=Ya (Zf);have GW155:=Ya ((sz hg));have GE155:=Ya ((sz hg));replace HB:=Ya (Yk bl hb);have Xv:=Ya (by rw[hg];exact Nat.ne_of_lt (blk_lt (bk Uz)):gb153≠Xq);have NB155_153:=Ya (by rw[hg];exact Nat.ne_of_gt (blk_lt (bk Uz)):Xq≠gb153);replace Uz:=Ya (Yn (bk Uz) hb);clear hb Zf hg;have hnb13:=NB155_153.out;have hnc13:=Xv.out;have Vy:w12.cell? ⟨Xq,0,none⟩=some (.int .i64 0):=bc Vr 0;have Ud:w12.cell? ⟨Xq,1,none⟩=some (.int .i64 0):=bc Vr 1;have Jo:w12.cell? ⟨Xq,2,none⟩=some (.int .i64 0):=bc Vr 2;have hcz14_3:w12.cell? ⟨Xq,3,none⟩=some (.int .i64 0):=bc Vr 3;have Ue:=Yf Vr.out 0;have Uf:=Yf Vr.out 1;have Jp:=Yf Vr.out 2;have hfz14_3:=Yf Vr.out 3;have p156:0≤(Zg:Int):=od;have q156:Zg<(l2.length:Int):=od;obtain⟨ad156,e156,Wh⟩:=Kd.at_int HR2.out Zg p156 q156;cases e156;have hn156_0:ad156.block≠Xq:=Nat.ne_of_lt (Nat.lt_of_lt_of_le (by have:=Yb _ _ Wh;first|rwa [add_block] at this|exact this) GW155.out);have hn156_1:ad156.block≠Xq:=Nat.ne_of_lt (Nat.lt_of_lt_of_le (by have:=Yb _ _ Wh;first|rwa [add_block] at this|exact this) GW155.out);have hn156_2:ad156.block≠Xq:=Nat.ne_of_lt (Nat.lt_of_lt_of_le (by have:=Yb _ _ Wh;first|rwa [add_block] at this|exact this) GW155.out);have hn156_3:ad156.block≠Xq:=Nat.ne_of_lt (Nat.lt_of_lt_of_le (by have:=Yb _ _ Wh;first|rwa [add_block] at this|exact this) GW155.out);replace Wh:=hc HB Wh;replace Wh:=(cell_far (p:=⟨Xq,0,none⟩) (by first|(rw[add_block];exact hn156_0)|(show (Addr.add _ _).block≠_;rw[add_block];exact hn156_0)|exact hn156_0) (.int .i64 ((rd_T50 Za Zg).f0))).trans Wh;replace Wh:=(cell_far (p:=⟨Xq,1,none⟩) (by first|(rw[add_block];exact hn156_1)|(show (Addr.add _ _).block≠_;rw[add_block];exact hn156_1)|exact hn156_1) (.int .i64 ((rd_T50 Za Zg).f1))).trans Wh;replace Wh:=(cell_far (p:=⟨Xq,2,none⟩) (by first|(rw[add_block];exact hn156_2)|(show (Addr.add _ _).block≠_;rw[add_block];exact hn156_2)|exact hn156_2) (.int .i64 ((rd_T50 Za Zg).f2))).trans Wh;replace Wh:=(cell_far (p:=⟨Xq,3,none⟩) (by first|(rw[add_block];exact hn156_3)|(show (Addr.add _ _).block≠_;rw[add_block];exact hn156_3)|exact hn156_3) (.int .i64 ((rd_T50 Za Zg).f3))).trans Wh;clear hn156_0;clear hn156_1;clear hn156_2;clear hn156_3;replace p156:=eq_true p156;replace q156:=eq_true q156;have p157:0≤(Zg:Int):=od;have q157:Zg<(l2.length:Int):=od;obtain⟨ad157,e157,hx157_0⟩:=Kd.at_int HR2.out Zg p157 q157;obtain rfl:ad156=ad157:=(by injection e157);have hn157_0:ad156.block≠Xq:=Nat.ne_of_lt (Nat.lt_of_lt_of_le (by have:=Yb _ _ hx157_0;first|rwa [add_block] at this|exact this) GW155.out);have hn157_1:ad156.block≠Xq:=Nat.ne_of_lt (Nat.lt_of_lt_of_le (by have:=Yb _ _ hx157_0;first|rwa [add_block] at this|exact this) GW155.out);have hn157_2:ad156.block≠Xq:=Nat.ne_of_lt (Nat.lt_of_lt_of_le (by have:=Yb _ _ hx157_0;first|rwa [add_block] at this|exact this) GW155.out);have hn157_3:ad156.block≠Xq:=Nat.ne_of_lt (Nat.lt_of_lt_of_le (by have:=Yb _ _ hx157_0;first|rwa [add_block] at this|exact this) GW155.out);replace hx157_0:=hc HB hx157_0;replace hx157_0:=(cell_far (p:=⟨Xq,0,none⟩) (by first|(rw[add_block];exact hn157_0)|(show (Addr.add _ _).block≠_;rw[add_block];exact hn157_0)|exact hn157_0) (.int .i64 ((rd_T50 Za Zg).f0))).trans hx157_0;replace hx157_0:=(cell_far (p:=⟨Xq,1,none⟩) (by first|(rw[add_block];exact hn157_1)|(show (Addr.add _ _).block≠_;rw[add_block];exact hn157_1)|exact hn157_1) (.int .i64 ((rd_T50 Za Zg).f1))).trans hx157_0;replace hx157_0:=(cell_far (p:=⟨Xq,2,none⟩) (by first|(rw[add_block];exact hn157_2)|(show (Addr.add _ _).block≠_;rw[add_block];exact hn157_2)|exact hn157_2) (.int .i64 ((rd_T50 Za Zg).f2))).trans hx157_0;replace hx157_0:=(cell_far (p:=⟨Xq,3,none⟩) (by first|(rw[add_block];exact hn157_3)|(show (Addr.add _ _).block≠_;rw[add_block];exact hn157_3)|exact hn157_3) (.int .i64 ((rd_T50 Za Zg).f3))).trans hx157_0;clear hn157_0;clear hn157_1;clear hn157_2;clear hn157_3;replace p157:=eq_true p157;replace q157:=eq_true q157));go_roundg k1
   case measure=>have:=HK1.out;omega
   case rel=>exact⟨(wrap64 ((wrap64 (Xu+(rd l2 Zg))) - (rd l2 Zg))),(wrap64 (Zg+1)),(by first|rfl|(simp;done)|(simp[*];done)),(by first|rfl|(simp;done)|(simp[*];done)),H',⟨by have:=HK1.out;omega⟩,⟨by(with_reducible repeat(first|refine Yl ?_ _|refine Ym ?_|refine Yj ?_ _));refine blk_far ?_ Xv.out _;(with_reducible repeat(first|refine Yl ?_ _|refine Ym ?_|refine Yj ?_ _));refine blk_far ?_ Xv.out _;(with_reducible repeat(first|refine Yl ?_ _|refine Ym ?_|refine Yj ?_ _));refine blk_far ?_ Xv.out _;(with_reducible repeat(first|refine Yl ?_ _|refine Ym ?_|refine Yj ?_ _));refine blk_far ?_ Xv.out _;(with_reducible repeat(first|refine Yl ?_ _|refine Ym ?_|refine Yj ?_ _));exact Uz.out⟩,⟨bl⟩⟩
end P
namespace P
attribute [local go_sem] max2_int min2_int max_two min_two max_three min_three max_four min_four
def span_paid.l0:Nat→List Int→Int→List (S50)→Int→Int→Option (Int)
 |0,_,_,_,_,_=>none
 |k+1,x1,x5,x9,x10,x11=>if x11<x10 then(if 0≤x11 then(if x11<(x9.length:Int) then(if x11<(x1.length:Int) then(span_paid.l0 k x1 (wrap64 (x5+(wrap64 ((rd x1 x11) * ((rd_T50 x9 x11).f3))))) x9 x10 (wrap64 (x11+1))) else(none)) else(none)) else(none)) else(some x5)
def span_paid.f (k:Nat) (Zb:Int) (Zc:Bool) (Za:List (S50)) (l1:List Int):Option (Int):=span_paid.l0 k l1 0 Za (Za.length:Int) 0
set_option maxHeartbeats 8000000 in
set_option maxRecDepth 100000 in
theorem span_paid.calls (k:Nat) (Zb:Int) (Zc:Bool) (Ze:Option Addr) (Zd:Nat) (Za:List (S50)) (A1:Option Addr) (c1:Nat) (l1:List Int) (r:Int) (w:World) (Zp:Kd.C k50 w Ze Za.length Za) (Zq:Za.length≤Zd) (hr1:Kd.C (Kd.int .i64) w A1 l1.length l1) (hc1:l1.length≤c1) (h:span_paid.f k Zb Zc Za l1=some r):
  Calls Try.prog 37 #[.agg #[.int .i64 Zb, .bool Zc, .slice Ze Za.length Zd], .slice A1 l1.length c1] w fun e w'=>e= .returned (.int .i64 r)∧Below w.heap.size w w':=by
 have hu24:=Try.underlying24;have hu50:=Try.underlying50;have Zh:=Ya Zp;have Zo:=Ya Zq;clear Zp Zq;have HR1:=Ya hr1;have HC1:=Ya hc1;clear hr1 hc1;have HB:=Ya (Yo w.heap.size w);have H:=h;unfold span_paid.f at H;clear h;have H':=Ya H;clear H;go_enter Try.func37,Try.ntmps37;go_wp2_with (first|(refine bx 2 24 #[.int .i64 Zb, .bool Zc, .slice Ze Za.length Zd] ?_;intro gb159 hg w3 Zf hb;have Vs:=Ya (Zf);have GW159:=Ya ((sz hg));have GE159:=Ya ((sz hg));replace HB:=Ya (Yk bl hb);clear hb Zf hg;have hcz4_0:w3.cell? ⟨gb159,0,none⟩=some (.int .i64 Zb):=bc Vs 0;have hcz4_1:w3.cell? ⟨gb159,1,none⟩=some (.bool Zc):=bc Vs 1;have hcz4_2:w3.cell? ⟨gb159,2,none⟩=some (.slice Ze Za.length Zd):=bc Vs 2;have hfz4_0:=Yf Vs.out 0;have hfz4_1:=Yf Vs.out 1;have hfz4_2:=Yf Vs.out 2));repeat(go_quiet (first|(refine bx 2 24 #[.int .i64 Zb, .bool Zc, .slice Ze Za.length Zd] ?_;intro gb159 hg w3 Zf hb;have Vs:=Ya (Zf);have GW159:=Ya ((sz hg));have GE159:=Ya ((sz hg));replace HB:=Ya (Yk bl hb);clear hb Zf hg;have hcz4_0:w3.cell? ⟨gb159,0,none⟩=some (.int .i64 Zb):=bc Vs 0;have hcz4_1:w3.cell? ⟨gb159,1,none⟩=some (.bool Zc):=bc Vs 1;have hcz4_2:w3.cell? ⟨gb159,2,none⟩=some (.slice Ze Za.length Zd):=bc Vs 2;have hfz4_0:=Yf Vs.out 0;have hfz4_1:=Yf Vs.out 1;have hfz4_2:=Yf Vs.out 2));try go_wp2_with (first|(refine bx 2 24 #[.int .i64 Zb, .bool Zc, .slice Ze Za.length Zd] ?_;intro gb159 hg w3 Zf hb;have Vs:=Ya (Zf);have GW159:=Ya ((sz hg));have GE159:=Ya ((sz hg));replace HB:=Ya (Yk bl hb);clear hb Zf hg;have hcz4_0:w3.cell? ⟨gb159,0,none⟩=some (.int .i64 Zb):=bc Vs 0;have hcz4_1:w3.cell? ⟨gb159,1,none⟩=some (.bool Zc):=bc Vs 1;have hcz4_2:w3.cell? ⟨gb159,2,none⟩=some (.slice Ze Za.length Zd):=bc Vs 2;have hfz4_0:=Yf Vs.out 0;have hfz4_1:=Yf Vs.out 1;have hfz4_2:=Yf Vs.out 2)))
 go_loopg [5,11] k (fun kq v5 v11 w'=> ∃ (Xr:Int) (Xi:Int),v5= .int .i64 Xr∧v11= .int .i64 Xi∧Aside0 (span_paid.l0 kq l1 Xr Za (Za.length:Int) Xi=some r)∧Aside0 (kq≤k)∧Aside0 (w'.heap[gb159]? =some (.cells #[.int .i64 Zb, .bool Zc,(.slice Ze Za.length Zd)] 24 (0,0)))∧Aside0 (Below w.heap.size w w'))
 case atStart=>exact⟨(0),(0),(by first|rfl|(simp;done)|(simp[*];done)),(by first|rfl|(simp;done)|(simp[*];done)),H',⟨Nat.le_refl _⟩,⟨Vs.out⟩,⟨HB.out⟩⟩
 case round=>
  clear H';try clear c1
  try clear hcz4_0
  try clear hcz4_1
  try clear hcz4_2
  try clear hfz4_0
  try clear hfz4_1
  try clear hfz4_2
  obtain⟨Xr,Xi,rfl,rfl,HA,HK1,Vs,HB⟩:=hrel;cases gk with
  |zero=>exact absurd HA.out (by simp[span_paid.l0])
  |succ k1=>
   have H:=HA.out;clear HA;simp only[span_paid.l0] at H;by_cases c5:Xi<(Za.length:Int)
   rotate_left
   ·rw[Yy c5] at H
    have c5b0:decide (Xi<(Za.length:Int))=false:=Yw c5;clear c5;obtain rfl:=Option.some.inj H;go_wp2;repeat(go_quiet (fail);try go_wp2)
    go_ret;exact⟨by first|rfl|(simp[errW_none,errW_some]<;>rfl)|(simp[*,errW_none,errW_some]<;>rfl),HB.out⟩
   rw[Yx c5] at H;have c5b0:decide (Xi<(Za.length:Int))=true:=Yv c5;clear c5;by_cases c6:0≤Xi
   rotate_left
   ·rw[Yy c6] at H
    exact absurd H (by simp)
   rw[Yx c6] at H;have c6b0:decide (0≤Xi)=true:=Yv c6;clear c6;by_cases c7:Xi<(Za.length:Int)
   rotate_left
   ·rw[Yy c7] at H
    exact absurd H (by simp)
   rw[Yx c7] at H;have c7b0:decide (Xi<(Za.length:Int))=true:=Yv c7;clear c7;by_cases c8:Xi<(l1.length:Int)
   rotate_left
   ·rw[Yy c8] at H
    exact absurd H (by simp)
   rw[Yx c8] at H;have c8b0:decide (Xi<(l1.length:Int))=true:=Yv c8;clear c8;have H':=Ya H;clear H;have p160:0≤(Xi:Int):=od;have q160:Xi<(Za.length:Int):=od;obtain⟨ad160,e160,hx160_0,hx160_1,hx160_2,hx160_3⟩:=at_T50 Zh.out Xi p160 q160;cases e160;replace hx160_0:=hc HB hx160_0;replace hx160_1:=hc HB hx160_1;replace hx160_2:=hc HB hx160_2;replace hx160_3:=hc HB hx160_3;replace p160:=eq_true p160;replace q160:=eq_true q160;go_wp2_with (first|(refine bx 7 50 #[.int .i64 0, .int .i64 0, .int .i64 0, .int .i64 0] ?_;intro Xt hg w9 Zf hb;have Jm:=Ya (Zf);have GW161:=Ya ((sz hg));have GE161:=Ya ((sz hg));replace HB:=Ya (Yk bl hb);have NB159_161:=Ya (by rw[hg];exact Nat.ne_of_lt (blk_lt (bk Vs)):gb159≠Xt);have NB161_159:=Ya (by rw[hg];exact Nat.ne_of_gt (blk_lt (bk Vs)):Xt≠gb159);replace Vs:=Ya (Yn (bk Vs) hb);clear hb Zf hg;have hnb10:=NB161_159.out;have hnc10:=NB159_161.out;have hcz11_0:w9.cell? ⟨Xt,0,none⟩=some (.int .i64 0):=bc Jm 0;have hcz11_1:w9.cell? ⟨Xt,1,none⟩=some (.int .i64 0):=bc Jm 1;have hcz11_2:w9.cell? ⟨Xt,2,none⟩=some (.int .i64 0):=bc Jm 2;have hcz11_3:w9.cell? ⟨Xt,3,none⟩=some (.int .i64 0):=bc Jm 3;have hfz11_0:=Yf Jm.out 0;have hfz11_1:=Yf Jm.out 1;have hfz11_2:=Yf Jm.out 2;have hfz11_3:=Yf Jm.out 3;have p162:0≤(Xi:Int):=od;have q162:Xi<(l1.length:Int):=od;obtain⟨ad162,e162,Xc⟩:=Kd.at_int HR1.out Xi p162 q162;cases e162;have hn162_0:ad162.block≠Xt:=Nat.ne_of_lt (Nat.lt_of_lt_of_le (by have:=Yb _ _ Xc;first|rwa [add_block] at this|exact this) GW161.out);have hn162_1:ad162.block≠Xt:=Nat.ne_of_lt (Nat.lt_of_lt_of_le (by have:=Yb _ _ Xc;first|rwa [add_block] at this|exact this) GW161.out);have hn162_2:ad162.block≠Xt:=Nat.ne_of_lt (Nat.lt_of_lt_of_le (by have:=Yb _ _ Xc;first|rwa [add_block] at this|exact this) GW161.out);have hn162_3:ad162.block≠Xt:=Nat.ne_of_lt (Nat.lt_of_lt_of_le (by have:=Yb _ _ Xc;first|rwa [add_block] at this|exact this) GW161.out);replace Xc:=hc HB Xc;replace Xc:=(cell_far (p:=⟨Xt,0,none⟩) (by first|(rw[add_block];exact hn162_0)|(show (Addr.add _ _).block≠_;rw[add_block];exact hn162_0)|exact hn162_0) (.int .i64 ((rd_T50 Za Xi).f0))).trans Xc;replace Xc:=(cell_far (p:=⟨Xt,1,none⟩) (by first|(rw[add_block];exact hn162_1)|(show (Addr.add _ _).block≠_;rw[add_block];exact hn162_1)|exact hn162_1) (.int .i64 ((rd_T50 Za Xi).f1))).trans Xc;replace Xc:=(cell_far (p:=⟨Xt,2,none⟩) (by first|(rw[add_block];exact hn162_2)|(show (Addr.add _ _).block≠_;rw[add_block];exact hn162_2)|exact hn162_2) (.int .i64 ((rd_T50 Za Xi).f2))).trans Xc;replace Xc:=(cell_far (p:=⟨Xt,3,none⟩) (by first|(rw[add_block];exact hn162_3)|(show (Addr.add _ _).block≠_;rw[add_block];exact hn162_3)|exact hn162_3) (.int .i64 ((rd_T50 Za Xi).f3))).trans Xc;(try have hy162_0:=fun(n_:Nat)=>(show ((((((w9.drewN n_).setCell ⟨Xt,0,none⟩ (.int .i64 ((rd_T50 Za Xi).f0))).setCell ⟨Xt,1,none⟩ (.int .i64 ((rd_T50 Za Xi).f1))).setCell ⟨Xt,2,none⟩ (.int .i64 ((rd_T50 Za Xi).f2))).setCell ⟨Xt,3,none⟩ (.int .i64 ((rd_T50 Za Xi).f3)))).cell? _=some _ from Xc));clear hn162_0;clear hn162_1;clear hn162_2;clear hn162_3;replace p162:=eq_true p162;replace q162:=eq_true q162));repeat(go_quiet (first|(refine bx 7 50 #[.int .i64 0, .int .i64 0, .int .i64 0, .int .i64 0] ?_;intro Xt hg w9 Zf hb;have Jm:=Ya (Zf);have GW161:=Ya ((sz hg));have GE161:=Ya ((sz hg));replace HB:=Ya (Yk bl hb);have NB159_161:=Ya (by rw[hg];exact Nat.ne_of_lt (blk_lt (bk Vs)):gb159≠Xt);have NB161_159:=Ya (by rw[hg];exact Nat.ne_of_gt (blk_lt (bk Vs)):Xt≠gb159);replace Vs:=Ya (Yn (bk Vs) hb);clear hb Zf hg;have hnb10:=NB161_159.out;have hnc10:=NB159_161.out;have hcz11_0:w9.cell? ⟨Xt,0,none⟩=some (.int .i64 0):=bc Jm 0;have hcz11_1:w9.cell? ⟨Xt,1,none⟩=some (.int .i64 0):=bc Jm 1;have hcz11_2:w9.cell? ⟨Xt,2,none⟩=some (.int .i64 0):=bc Jm 2;have hcz11_3:w9.cell? ⟨Xt,3,none⟩=some (.int .i64 0):=bc Jm 3;have hfz11_0:=Yf Jm.out 0;have hfz11_1:=Yf Jm.out 1;have hfz11_2:=Yf Jm.out 2;have hfz11_3:=Yf Jm.out 3;have p162:0≤(Xi:Int):=od;have q162:Xi<(l1.length:Int):=od;obtain⟨ad162,e162,Xc⟩:=Kd.at_int HR1.out Xi p162 q162;cases e162;have hn162_0:ad162.block≠Xt:=Nat.ne_of_lt (Nat.lt_of_lt_of_le (by have:=Yb _ _ Xc;first|rwa [add_block] at this|exact this) GW161.out);have hn162_1:ad162.block≠Xt:=Nat.ne_of_lt (Nat.lt_of_lt_of_le (by have:=Yb _ _ Xc;first|rwa [add_block] at this|exact this) GW161.out);have hn162_2:ad162.block≠Xt:=Nat.ne_of_lt (Nat.lt_of_lt_of_le (by have:=Yb _ _ Xc;first|rwa [add_block] at this|exact this) GW161.out);have hn162_3:ad162.block≠Xt:=Nat.ne_of_lt (Nat.lt_of_lt_of_le (by have:=Yb _ _ Xc;first|rwa [add_block] at this|exact this) GW161.out);replace Xc:=hc HB Xc;replace Xc:=(cell_far (p:=⟨Xt,0,none⟩) (by first|(rw[add_block];exact hn162_0)|(show (Addr.add _ _).block≠_;rw[add_block];exact hn162_0)|exact hn162_0) (.int .i64 ((rd_T50 Za Xi).f0))).trans Xc;replace Xc:=(cell_far (p:=⟨Xt,1,none⟩) (by first|(rw[add_block];exact hn162_1)|(show (Addr.add _ _).block≠_;rw[add_block];exact hn162_1)|exact hn162_1) (.int .i64 ((rd_T50 Za Xi).f1))).trans Xc;replace Xc:=(cell_far (p:=⟨Xt,2,none⟩) (by first|(rw[add_block];exact hn162_2)|(show (Addr.add _ _).block≠_;rw[add_block];exact hn162_2)|exact hn162_2) (.int .i64 ((rd_T50 Za Xi).f2))).trans Xc;replace Xc:=(cell_far (p:=⟨Xt,3,none⟩) (by first|(rw[add_block];exact hn162_3)|(show (Addr.add _ _).block≠_;rw[add_block];exact hn162_3)|exact hn162_3) (.int .i64 ((rd_T50 Za Xi).f3))).trans Xc;(try have hy162_0:=fun(n_:Nat)=>(show ((((((w9.drewN n_).setCell ⟨Xt,0,none⟩ (.int .i64 ((rd_T50 Za Xi).f0))).setCell ⟨Xt,1,none⟩ (.int .i64 ((rd_T50 Za Xi).f1))).setCell ⟨Xt,2,none⟩ (.int .i64 ((rd_T50 Za Xi).f2))).setCell ⟨Xt,3,none⟩ (.int .i64 ((rd_T50 Za Xi).f3)))).cell? _=some _ from Xc));clear hn162_0;clear hn162_1;clear hn162_2;clear hn162_3;replace p162:=eq_true p162;replace q162:=eq_true q162));try go_wp2_with (first|(refine bx 7 50 #[.int .i64 0, .int .i64 0, .int .i64 0, .int .i64 0] ?_;intro Xt hg w9 Zf hb;have Jm:=Ya (Zf);have GW161:=Ya ((sz hg));have GE161:=Ya ((sz hg));replace HB:=Ya (Yk bl hb);have NB159_161:=Ya (by rw[hg];exact Nat.ne_of_lt (blk_lt (bk Vs)):gb159≠Xt);have NB161_159:=Ya (by rw[hg];exact Nat.ne_of_gt (blk_lt (bk Vs)):Xt≠gb159);replace Vs:=Ya (Yn (bk Vs) hb);clear hb Zf hg;have hnb10:=NB161_159.out;have hnc10:=NB159_161.out;have hcz11_0:w9.cell? ⟨Xt,0,none⟩=some (.int .i64 0):=bc Jm 0;have hcz11_1:w9.cell? ⟨Xt,1,none⟩=some (.int .i64 0):=bc Jm 1;have hcz11_2:w9.cell? ⟨Xt,2,none⟩=some (.int .i64 0):=bc Jm 2;have hcz11_3:w9.cell? ⟨Xt,3,none⟩=some (.int .i64 0):=bc Jm 3;have hfz11_0:=Yf Jm.out 0;have hfz11_1:=Yf Jm.out 1;have hfz11_2:=Yf Jm.out 2;have hfz11_3:=Yf Jm.out 3;have p162:0≤(Xi:Int):=od;have q162:Xi<(l1.length:Int):=od;obtain⟨ad162,e162,Xc⟩:=Kd.at_int HR1.out Xi p162 q162;cases e162;have hn162_0:ad162.block≠Xt:=Nat.ne_of_lt (Nat.lt_of_lt_of_le (by have:=Yb _ _ Xc;first|rwa [add_block] at this|exact this) GW161.out);have hn162_1:ad162.block≠Xt:=Nat.ne_of_lt (Nat.lt_of_lt_of_le (by have:=Yb _ _ Xc;first|rwa [add_block] at this|exact this) GW161.out);have hn162_2:ad162.block≠Xt:=Nat.ne_of_lt (Nat.lt_of_lt_of_le (by have:=Yb _ _ Xc;first|rwa [add_block] at this|exact this) GW161.out);have hn162_3:ad162.block≠Xt:=Nat.ne_of_lt (Nat.lt_of_lt_of_le (by have:=Yb _ _ Xc;first|rwa [add_block] at this|exact this) GW161.out);replace Xc:=hc HB Xc;replace Xc:=(cell_far (p:=⟨Xt,0,none⟩) (by first|(rw[add_block];exact hn162_0)|(show (Addr.add _ _).block≠_;rw[add_block];exact hn162_0)|exact hn162_0) (.int .i64 ((rd_T50 Za Xi).f0))).trans Xc;replace Xc:=(cell_far (p:=⟨Xt,1,none⟩) (by first|(rw[add_block];exact hn162_1)|(show (Addr.add _ _).block≠_;rw[add_block];exact hn162_1)|exact hn162_1) (.int .i64 ((rd_T50 Za Xi).f1))).trans Xc;replace Xc:=(cell_far (p:=⟨Xt,2,none⟩) (by first|(rw[add_block];exact hn162_2)|(show (Addr.add _ _).block≠_;rw[add_block];exact hn162_2)|exact hn162_2) (.int .i64 ((rd_T50 Za Xi).f2))).trans Xc;replace Xc:=(cell_far (p:=⟨Xt,3,none⟩) (by first|(rw[add_block];exact hn162_3)|(show (Addr.add _ _).block≠_;rw[add_block];exact hn162_3)|exact hn162_3) (.int .i64 ((rd_T50 Za Xi).f3))).trans Xc;(try have hy162_0:=fun(n_:Nat)=>(show ((((((w9.drewN n_).setCell ⟨Xt,0,none⟩ (.int .i64 ((rd_T50 Za Xi).f0))).setCell ⟨Xt,1,none⟩ (.int .i64 ((rd_T50 Za Xi).f1))).setCell ⟨Xt,2,none⟩ (.int .i64 ((rd_T50 Za Xi).f2))).setCell ⟨Xt,3,none⟩ (.int .i64 ((rd_T50 Za Xi).f3)))).cell? _=some _ from Xc));clear hn162_0;clear hn162_1;clear hn162_2;clear hn162_3;replace p162:=eq_true p162;replace q162:=eq_true q162)))
   go_roundg k1
   case measure=>have:=HK1.out;omega
   case rel=>exact⟨(wrap64 (Xr+(wrap64 ((rd l1 Xi) * ((rd_T50 Za Xi).f3))))),(wrap64 (Xi+1)),(by first|rfl|(simp;done)|(simp[*];done)),(by first|rfl|(simp;done)|(simp[*];done)),H',⟨by have:=HK1.out;omega⟩,⟨by(with_reducible repeat(first|refine Yl ?_ _|refine Ym ?_|refine Yj ?_ _));refine blk_far ?_ NB159_161.out _;(with_reducible repeat(first|refine Yl ?_ _|refine Ym ?_|refine Yj ?_ _));refine blk_far ?_ NB159_161.out _;(with_reducible repeat(first|refine Yl ?_ _|refine Ym ?_|refine Yj ?_ _));refine blk_far ?_ NB159_161.out _;(with_reducible repeat(first|refine Yl ?_ _|refine Ym ?_|refine Yj ?_ _));refine blk_far ?_ NB159_161.out _;(with_reducible repeat(first|refine Yl ?_ _|refine Ym ?_|refine Yj ?_ _));exact Vs.out⟩,⟨bl⟩⟩
end P
namespace P
attribute [local go_sem] max2_int min2_int max_two min_two max_three min_three max_four min_four
def span_Best.f (k:Nat) (Zb:Int) (Zc:Bool) (Za:List (S50)) (a1:Int) (a2:Int) (a3:Int):Option (List Int × Int × Int):=(span_Asked.f k Zb Zc Za a1 a2 a3).bind fun t164=>(if t164=0 then((span_Fill.f Zb Zc Za a1 a2 a3).bind fun bt165=>((maxflow_Value.f k Zb Zc Za a1 bt165.1).bind fun t177=>((span_paid.f k Zb Zc Za bt165.1).bind fun t178=>(some (bt165.1,wrap64 ((wrap64 ((wrap64 (a3+1)) * t177)) - t178),0))))) else(some (([]:List Int),0,t164)))
def span_Best.T5:Bool × List (List Nat × List Nat):=(true,[([],[]),([],[]),([1],[1]),([],[]),([],[]),([],[]),([3,4,5],[3,4,5]),([2,6],[2,6]),([],[]),([],[]),([8,9,6],[8,9]),([7,10],[7,10]),([0,10,0,5,9],[0,5,9]),([11,12,0,1,2,3,4,5,6,7,8,9,10,11,12],[11]),([13,0,1,2,3,4,5,6,7,8,9,10,11,12,13],[])])
def span_Best.B5:List Nat:=[0,0,2,0,0,0,56,126,0,0,888,2046,1913,8191,16383]
theorem span_Best.tab5:rtab .any (opsOf Try.f13 5)=span_Best.T5:=by kernel_rfl
theorem span_Best.bits5:waitsOk span_Best.T5.2 span_Best.B5=true:=by kernel_rfl
set_option maxHeartbeats 8000000 in
set_option maxRecDepth 100000 in
theorem span_Best.calls (k:Nat) (Zb:Int) (Zc:Bool) (Ze:Option Addr) (Zd:Nat) (Za:List (S50)) (a1:Int) (a2:Int) (a3:Int) (r1:List Int) (r2:Int) (r3:Int) (w:World) (Zp:Kd.C k50 w Ze Za.length Za) (Zq:Za.length≤Zd) (h:span_Best.f k Zb Zc Za a1 a2 a3=some (r1,r2,r3)):
  Calls Try.prog 13 #[.agg #[.int .i64 Zb, .bool Zc, .slice Ze Za.length Zd], .int .i64 a1, .int .i64 a2, .int .i64 a3] w fun e w'=> ∃ v0_:Value,e= .returned (.tuple #[v0_, .int .i64 r2, .int .i64 r3])∧Kd.R (Kd.int .i64) 3 w' w.heap.size (fun _=>True) v0_ r1∧Below w.heap.size w w':=by
 have hu24:=Try.underlying24;have Zh:=Ya Zp;have Zo:=Ya Zq;clear Zp Zq;have HB:=Ya (Yo w.heap.size w);have H:=h;unfold span_Best.f at H;clear h;replace H:=Option.bind_eq_some_iff.mp H;obtain⟨t164,A50,H⟩:=H;try dsimp only at H
 have A5:=Ya A50;clear A50;by_cases c6:t164=0
 rotate_left
 ·rw[Yy c6] at H
  have c6b0:(t164 == 0)=false:=beq_eq_false_iff_ne.mpr c6;have c6b1:(t164 != 0)=true:=bne_iff_ne.mpr c6;simp only[Option.some.injEq,Prod.mk.injEq] at H;obtain⟨rfl,rfl,rfl⟩:=H;go_enter Try.func13,Try.ntmps13;go_wp2_with (first|(refine bx 4 24 #[.int .i64 Zb, .bool Zc, .slice Ze Za.length Zd] ?_;intro gb163 hg w19 Zf hb;have Vd:=Ya (Zf);have GW163:=Ya ((sz hg));have GE163:=Ya ((sz hg));replace HB:=Ya (Yk bl hb);clear hb Zf hg;have hcz20_0:w19.cell? ⟨gb163,0,none⟩=some (.int .i64 Zb):=bc Vd 0;have hcz20_1:w19.cell? ⟨gb163,1,none⟩=some (.bool Zc):=bc Vd 1;have hcz20_2:w19.cell? ⟨gb163,2,none⟩=some (.slice Ze Za.length Zd):=bc Vd 2;have hfz20_0:=Yf Vd.out 0;have hfz20_1:=Yf Vd.out 1;have hfz20_2:=Yf Vd.out 2)|((with_reducible refine gate_callee (f:=34) rfl ?_);refine gl (some 15) Try.func34 #[.agg #[.int .i64 Zb, .bool Zc, .slice Ze Za.length Zd], .int .i64 a1, .int .i64 a2, .int .i64 a3] ?_;(with_reducible refine(span_Asked.calls k Zb Zc _ _ Za a1 a2 a3 t164 _ ?side1 ?side2 A5.out).mono ?_);(case side1=>exact kC (Yt Zh.out HB.out));(case side2=>exact Zo.out);rintro e w21 ⟨rfl,hb⟩;refine⟨_,rfl,?_⟩;replace Vd:=Ya (Yn (bk Vd) hb);replace HB:=Ya (Yk bl hb);(try clear hb)));go_ret3;exact⟨_,by first|rfl|(simp[errW_none,errW_some]<;>rfl)|(simp[*,errW_none,errW_some]<;>rfl),by first|exact Kd.R_nil _ _ _ _ _|exact Kd.N_nil _ _ _ _ _|exact Kd.V_nil _ _ _ _ _|exact Kd.Q_nil _ _ _ _ _|exact Kd.S_nil _ _ _ _ _,HB.out⟩
 rw[Yx c6] at H;have c6b0:(t164 == 0)=true:=beq_iff_eq.mpr c6;have c6b1:(t164 != 0)=false:=bne_eq_false_iff_eq.mpr c6;clear c6;replace H:=Option.bind_eq_some_iff.mp H;obtain⟨⟨t165,t168,t171,t174⟩,A70,H⟩:=H;try dsimp only at H
 have A7:=Ya A70;clear A70;replace H:=Option.bind_eq_some_iff.mp H;obtain⟨t177,A80,H⟩:=H;try dsimp only at H
 have A8:=Ya A80;clear A80;replace H:=Option.bind_eq_some_iff.mp H;obtain⟨t178,A90,H⟩:=H;try dsimp only at H
 have A9:=Ya A90;clear A90;simp only[Option.some.injEq,Prod.mk.injEq] at H;obtain⟨rfl,rfl,rfl⟩:=H;go_enter Try.func13,Try.ntmps13;try go_wp2_with (first|(refine bx 4 24 #[.int .i64 Zb, .bool Zc, .slice Ze Za.length Zd] ?_;intro gb163 hg w10 Zf hb;have Vd:=Ya (Zf);have GW163:=Ya ((sz hg));have GE163:=Ya ((sz hg));replace HB:=Ya (Yk bl hb);clear hb Zf hg;have hcz11_0:w10.cell? ⟨gb163,0,none⟩=some (.int .i64 Zb):=bc Vd 0;have hcz11_1:w10.cell? ⟨gb163,1,none⟩=some (.bool Zc):=bc Vd 1;have hcz11_2:w10.cell? ⟨gb163,2,none⟩=some (.slice Ze Za.length Zd):=bc Vd 2;have hfz11_0:=Yf Vd.out 0;have hfz11_1:=Yf Vd.out 1;have hfz11_2:=Yf Vd.out 2)|((with_reducible refine gate_callee (f:=34) rfl ?_);refine gl (some 15) Try.func34 #[.agg #[.int .i64 Zb, .bool Zc, .slice Ze Za.length Zd], .int .i64 a1, .int .i64 a2, .int .i64 a3] ?_;(with_reducible refine(span_Asked.calls k Zb Zc _ _ Za a1 a2 a3 t164 _ ?side1 ?side2 A5.out).mono ?_);(case side1=>exact kC (Yt Zh.out HB.out));(case side2=>exact Zo.out);rintro e w12 ⟨rfl,hb⟩;refine⟨_,rfl,?_⟩;replace Vd:=Ya (Yn (bk Vd) hb);replace HB:=Ya (Yk bl hb);(try clear hb);have hcz13_0:w12.cell? ⟨gb163,0,none⟩=some (.int .i64 Zb):=bc Vd 0;have hcz13_1:w12.cell? ⟨gb163,1,none⟩=some (.bool Zc):=bc Vd 1;have hcz13_2:w12.cell? ⟨gb163,2,none⟩=some (.slice Ze Za.length Zd):=bc Vd 2;have hfz13_0:=Yf Vd.out 0;have hfz13_1:=Yf Vd.out 1;have hfz13_2:=Yf Vd.out 2)|((with_reducible refine gate_callee (f:=35) rfl ?_);refine gl (some 24) Try.func35 #[.agg #[.int .i64 Zb, .bool Zc, .slice Ze Za.length Zd], .int .i64 a1, .int .i64 a2, .int .i64 a3] ?_;(with_reducible refine(span_Fill.calls Zb Zc _ _ Za a1 a2 a3 t165 t168 t171 t174 _ ?side1 ?side2 A7.out).mono ?_);(case side1=>exact kC (Yt Zh.out HB.out));(case side2=>exact Zo.out);rintro e w14 ⟨v166,v169,v172,v175,rfl,ho0,ho1,ho2,ho3,hb⟩;refine⟨_,rfl,?_⟩;have HO167:=Ya (Kd.R_lower ho0 (Yi bl));have HO170:=Ya (Kd.R_lower ho1 (Yi bl));have HO173:=Ya (Kd.R_lower ho2 (Yi bl));have HO176:=Ya (Kd.R_lower ho3 (Yi bl));replace Vd:=Ya (Yn (bk Vd) hb);replace HB:=Ya (Yk bl hb);(try clear hb);(try clear hb2);(try clear hk);(try clear hi);(try clear ho0);(try clear ho1);(try clear ho2);(try clear ho3)))
 replace HO167:=Ya (Yp HO167.out);replace HO170:=Ya (Yp HO170.out);replace HO173:=Ya (Yp HO173.out);replace HO176:=Ya (Yp HO176.out);replace Vd:=Ya (Ym Vd.out);replace HB:=Ya (Yg HB.out);obtain⟨Ao16,co16,eo16⟩:=Kd.R_slice HO167.out
 (first|subst eo16|(injection eo16 with f1_ f2_ f3_;have f4_:=f1_.symm;have f5_:=f3_.symm;clear f1_ f2_ f3_;subst f4_;subst f5_))
 refine start_ (n:=15) (S:=fun w'=>w'.cell? ⟨gb163,0,none⟩=some (.int .i64 Zb)∧w'.cell? ⟨gb163,1,none⟩=some (.bool Zc)∧w'.cell? ⟨gb163,2,none⟩=some (.slice Ze Za.length Zd)) (ds:=[]) #[false,false,false,false,false,false,false,false,false,false,false,false,false,false,false] (by kernel_rfl) rfl rfl ⟨(Yc Vd.out 0).trans rfl,(Yc Vd.out 1).trans rfl,(Yc Vd.out 2).trans rfl⟩ (fun hHeld=> ?_);refine with_tabW span_Best.tab5 span_Best.bits5 (fun HT_ HW_=> ?_);generalize w14.drew=w15 at HO167 HO170 HO173 HO176 Vd HB hHeld ⊢;refine pu 0 27 (bm 15 1) ?_;refine pu 1 28 (bm 15 3) ?_;refine pu 2 29 (bm 15 7) ?_;refine pu 4 31 (bm 15 23) ?_;refine pu 5 32 (bm 15 55) ?_;refine pu 9 36 (bm 15 567) ?_;refine ta 3 30 (bm 15 575) hHeld ?_;refine ta 8 35 (bm 15 831) hHeld ?_;refine on 6 (some 33) (bm 15 895) fun K hK=> ?_
 refine gs Try.func36 #[.agg #[.int .i64 Zb, .bool Zc, .slice Ze Za.length Zd], .int .i64 a1, .slice Ao16 t165.length co16] ?_
 with_reducible refine(maxflow_Value.calls k Zb Zc _ _ Za a1 _ _ t165 t177 _ ?side1 ?side2 ?side3 ?side4 A8.out).mono ?_
 (case side1=>exact(Yt Zh.out HB.out))
 (case side2=>exact Zo.out)
 (case side3=>exact(Kd.R_reads' HO167.out).2.2)
 (case side4=>exact(Kd.R_reads' HO167.out).2.1)
 rintro e w17 ⟨rfl,hb⟩;refine⟨_,rfl,?_⟩;replace HO167:=Ya (Ys HO167.out hb);replace HO170:=Ya (Ys HO170.out hb);replace HO173:=Ya (Ys HO173.out hb);replace HO176:=Ya (Ys HO176.out hb);replace Vd:=Ya (Yn Vd.out hb);replace HB:=Ya (Yk HB.out hb)
 (try clear hb)
 (try clear hb2)
 (try clear hk)
 (try clear hi)
 refine hK.out _ _ ⟨bc Vd 0,bc Vd 1,bc Vd 2⟩ (fun hHeld=> ?_);clear hK K;refine nm ?_;refine pu 7 34 (bm 15 1023) ?_;refine on 10 (some 37) (bm 15 2047) fun K hK=> ?_
 refine gs Try.func37 #[.agg #[.int .i64 Zb, .bool Zc, .slice Ze Za.length Zd], .slice Ao16 t165.length co16] ?_
 with_reducible refine(span_paid.calls k Zb Zc _ _ Za _ _ t165 t178 _ ?side1 ?side2 ?side3 ?side4 A9.out).mono ?_
 (case side1=>exact(Yt Zh.out HB.out))
 (case side2=>exact Zo.out)
 (case side3=>exact(Kd.R_reads' HO167.out).2.2)
 (case side4=>exact(Kd.R_reads' HO167.out).2.1)
 rintro e w18 ⟨rfl,hb⟩;refine⟨_,rfl,?_⟩;replace HO167:=Ya (Ys HO167.out hb);replace HO170:=Ya (Ys HO170.out hb);replace HO173:=Ya (Ys HO173.out hb);replace HO176:=Ya (Ys HO176.out hb);replace Vd:=Ya (Yn Vd.out hb);replace HB:=Ya (Yk HB.out hb)
 (try clear hb)
 (try clear hb2)
 (try clear hk)
 (try clear hi)
 refine hK.out _ _ ⟨bc Vd 0,bc Vd 1,bc Vd 2⟩ (fun hHeld=> ?_);clear hK K;refine nm ?_;refine pu 11 38 (bm 15 4095) ?_;refine pu 12 8 (bm 15 8191) ?_;refine pu 13 9 (bm 15 16383) ?_;refine pu 14 10 (bm 15 32767) ?_;refine done_ (done_of HT_.out (by kernel_rfl)) ?_;try go_wp2
 go_ret3;exact⟨_,by first|rfl|(simp[errW_none,errW_some]<;>rfl)|(simp[*,errW_none,errW_some]<;>rfl),by(with_reducible repeat(first|apply Yr|apply Yq|apply Yp));exact Kd.R_mono HO167.out (fun _ hk=>trivial),HB.out⟩
end P
namespace P
attribute [local go_sem] max2_int min2_int max_two min_two max_three min_three max_four min_four
def span_Most.f (k:Nat) (Zb:Int) (Zc:Bool) (Za:List (S50)) (a1:Int) (a2:Int) (a3:Int):Option (Int × Int):=(span_Best.f k Zb Zc Za a1 a2 a3).bind fun bt180=>(some (bt180.2.1,bt180.2.2))
set_option maxHeartbeats 8000000 in
set_option maxRecDepth 100000 in
theorem span_Most.calls (k:Nat) (Zb:Int) (Zc:Bool) (Ze:Option Addr) (Zd:Nat) (Za:List (S50)) (a1:Int) (a2:Int) (a3:Int) (r1:Int) (r2:Int) (w:World) (Zp:Kd.C k50 w Ze Za.length Za) (Zq:Za.length≤Zd) (h:span_Most.f k Zb Zc Za a1 a2 a3=some (r1,r2)):
  Calls Try.prog 10 #[.agg #[.int .i64 Zb, .bool Zc, .slice Ze Za.length Zd], .int .i64 a1, .int .i64 a2, .int .i64 a3] w fun e w'=>e= .returned (.tuple #[.int .i64 r1, .int .i64 r2])∧Below w.heap.size w w':=by
 have hu24:=Try.underlying24;have Zh:=Ya Zp;have Zo:=Ya Zq;clear Zp Zq;have HB:=Ya (Yo w.heap.size w);have H:=h;unfold span_Most.f at H;clear h;replace H:=Option.bind_eq_some_iff.mp H;obtain⟨⟨t180,t183,t184⟩,A50,H⟩:=H;try dsimp only at H
 have A5:=Ya A50;clear A50;simp only[Option.some.injEq,Prod.mk.injEq] at H;obtain⟨rfl,rfl⟩:=H;go_enter Try.func10,Try.ntmps10;go_wp2_with (first|(refine bx 4 24 #[.int .i64 Zb, .bool Zc, .slice Ze Za.length Zd] ?_;intro gb179 hg w6 Zf hb;have BK179:=Ya (Zf);have GW179:=Ya ((sz hg));have GE179:=Ya ((sz hg));replace HB:=Ya (Yk bl hb);clear hb Zf hg;have hcz7_0:w6.cell? ⟨gb179,0,none⟩=some (.int .i64 Zb):=bc BK179 0;have hcz7_1:w6.cell? ⟨gb179,1,none⟩=some (.bool Zc):=bc BK179 1;have hcz7_2:w6.cell? ⟨gb179,2,none⟩=some (.slice Ze Za.length Zd):=bc BK179 2;have hfz7_0:=Yf BK179.out 0;have hfz7_1:=Yf BK179.out 1;have hfz7_2:=Yf BK179.out 2)|((with_reducible refine gate_callee (f:=13) rfl ?_);refine gl (some 15) Try.func13 #[.agg #[.int .i64 Zb, .bool Zc, .slice Ze Za.length Zd], .int .i64 a1, .int .i64 a2, .int .i64 a3] ?_;(with_reducible refine(span_Best.calls k Zb Zc _ _ Za a1 a2 a3 t180 t183 t184 _ ?side1 ?side2 A5.out).mono ?_);(case side1=>exact kC (Yt Zh.out HB.out));(case side2=>exact Zo.out);rintro e w8 ⟨v181,rfl,ho0,hb⟩;refine⟨_,rfl,?_⟩;have HO182:=Ya (Kd.R_lower ho0 (Yi bl));replace BK179:=Ya (Yn (bk BK179) hb);replace HB:=Ya (Yk bl hb);(try clear hb);(try clear ho0)));go_ret2;exact⟨by first|rfl|(simp[errW_none,errW_some]<;>rfl)|(simp[*,errW_none,errW_some]<;>rfl),HB.out⟩
end P
namespace P
attribute [local go_sem] max2_int min2_int max_two min_two max_three min_three max_four min_four
def ebbtideref12_Span.f (a0:Int):Option (Int):=if a0<0 then(some 1) else(if a0>1024 then(some 2) else(some 0))
set_option maxHeartbeats 8000000 in
set_option maxRecDepth 100000 in
theorem ebbtideref12_Span.calls (a0:Int) (r:Int) (w:World) (h:ebbtideref12_Span.f a0=some r):
  Calls Try.prog 38 #[.int .i64 a0] w fun e w'=>e= .returned (.int .i64 r)∧Drawn0 w w':=by
 have H:=h;unfold ebbtideref12_Span.f at H;clear h;by_cases c2:a0<0
 ·rw[Yx c2] at H
  have c2b0:decide (a0<0)=true:=Yv c2;clear c2;obtain rfl:=Option.some.inj H;go_enter Try.func38,Try.ntmps38;go_wp2;go_ret;exact⟨by first|rfl|(simp;done)|(simp[*];done),by repeat(first|exact Drawn0.refl _|apply Drawn0.step)⟩
 rw[Yy c2] at H;have c2b0:decide (a0<0)=false:=Yw c2;clear c2;by_cases c3:a0>1024
 rotate_left
 ·rw[Yy c3] at H
  have c3b0:decide (1024<a0)=false:=Yw c3;clear c3;obtain rfl:=Option.some.inj H;go_enter Try.func38,Try.ntmps38;go_wp2;go_ret;exact⟨by first|rfl|(simp;done)|(simp[*];done),by repeat(first|exact Drawn0.refl _|apply Drawn0.step)⟩
 rw[Yx c3] at H;have c3b0:decide (1024<a0)=true:=Yv c3;clear c3;obtain rfl:=Option.some.inj H;go_enter Try.func38,Try.ntmps38;go_wp2;go_ret;exact⟨by first|rfl|(simp;done)|(simp[*];done),by repeat(first|exact Drawn0.refl _|apply Drawn0.step)⟩
end P
namespace P
attribute [local go_sem] max2_int min2_int max_two min_two max_three min_three max_four min_four
def ebbtideref12_Asked.f (k:Nat) (Zb:Int) (Zc:Bool) (Za:List (S50)) (a1:Int) (a2:Int) (a3:Int):Option (Int):=(ebbtideref07_Ends.f k Zb Zc Za a1 a2).bind fun t196=>(if t196=0 then((ebbtideref12_Span.f a3).bind fun t197=>(some t197)) else(some t196))
set_option maxHeartbeats 8000000 in
set_option maxRecDepth 100000 in
theorem ebbtideref12_Asked.calls (k:Nat) (Zb:Int) (Zc:Bool) (Ze:Option Addr) (Zd:Nat) (Za:List (S50)) (a1:Int) (a2:Int) (a3:Int) (r:Int) (w:World) (Zp:Kd.C k50 w Ze Za.length Za) (Zq:Za.length≤Zd) (h:ebbtideref12_Asked.f k Zb Zc Za a1 a2 a3=some r):
  Calls Try.prog 14 #[.agg #[.int .i64 Zb, .bool Zc, .slice Ze Za.length Zd], .int .i64 a1, .int .i64 a2, .int .i64 a3] w fun e w'=>e= .returned (.int .i64 r)∧Below w.heap.size w w':=by
 have hu24:=Try.underlying24;have Zh:=Ya Zp;have Zo:=Ya Zq;clear Zp Zq;have HB:=Ya (Yo w.heap.size w);have H:=h;unfold ebbtideref12_Asked.f at H;clear h;replace H:=Option.bind_eq_some_iff.mp H;obtain⟨t196,A50,H⟩:=H;try dsimp only at H
 have A5:=Ya A50;clear A50;by_cases c6:t196=0
 rotate_left
 ·rw[Yy c6] at H
  have c6b0:(t196 == 0)=false:=beq_eq_false_iff_ne.mpr c6;have c6b1:(t196 != 0)=true:=bne_iff_ne.mpr c6;obtain rfl:=Option.some.inj H;go_enter Try.func14,Try.ntmps14;go_wp2_with (first|(refine bx 4 24 #[.int .i64 Zb, .bool Zc, .slice Ze Za.length Zd] ?_;intro gb195 hg w11 Zf hb;have BK195:=Ya (Zf);have GW195:=Ya ((sz hg));have GE195:=Ya ((sz hg));replace HB:=Ya (Yk bl hb);clear hb Zf hg;have hcz12_0:w11.cell? ⟨gb195,0,none⟩=some (.int .i64 Zb):=bc BK195 0;have hcz12_1:w11.cell? ⟨gb195,1,none⟩=some (.bool Zc):=bc BK195 1;have hcz12_2:w11.cell? ⟨gb195,2,none⟩=some (.slice Ze Za.length Zd):=bc BK195 2;have hfz12_0:=Yf BK195.out 0;have hfz12_1:=Yf BK195.out 1;have hfz12_2:=Yf BK195.out 2)|((with_reducible refine gate_callee (f:=27) rfl ?_);refine gl (some 13) Try.func27 #[.agg #[.int .i64 Zb, .bool Zc, .slice Ze Za.length Zd], .int .i64 a1, .int .i64 a2] ?_;(with_reducible refine(ebbtideref07_Ends.calls k Zb Zc _ _ Za a1 a2 t196 _ ?side1 ?side2 A5.out).mono ?_);(case side1=>exact kC (Yt Zh.out HB.out));(case side2=>exact Zo.out);rintro e w13 ⟨rfl,hb⟩;refine⟨_,rfl,?_⟩;replace BK195:=Ya (Yn (bk BK195) hb);replace HB:=Ya (Yk bl hb);(try clear hb)));go_ret;exact⟨by first|rfl|(simp[errW_none,errW_some]<;>rfl)|(simp[*,errW_none,errW_some]<;>rfl),HB.out⟩
 rw[Yx c6] at H;have c6b0:(t196 == 0)=true:=beq_iff_eq.mpr c6;have c6b1:(t196 != 0)=false:=bne_eq_false_iff_eq.mpr c6;clear c6;replace H:=Option.bind_eq_some_iff.mp H;obtain⟨t197,A70,H⟩:=H;try dsimp only at H
 have A7:=Ya A70;clear A70;obtain rfl:=Option.some.inj H;go_enter Try.func14,Try.ntmps14;go_wp2_with (first|(refine bx 4 24 #[.int .i64 Zb, .bool Zc, .slice Ze Za.length Zd] ?_;intro gb195 hg w8 Zf hb;have BK195:=Ya (Zf);have GW195:=Ya ((sz hg));have GE195:=Ya ((sz hg));replace HB:=Ya (Yk bl hb);clear hb Zf hg;have hcz9_0:w8.cell? ⟨gb195,0,none⟩=some (.int .i64 Zb):=bc BK195 0;have hcz9_1:w8.cell? ⟨gb195,1,none⟩=some (.bool Zc):=bc BK195 1;have hcz9_2:w8.cell? ⟨gb195,2,none⟩=some (.slice Ze Za.length Zd):=bc BK195 2;have hfz9_0:=Yf BK195.out 0;have hfz9_1:=Yf BK195.out 1;have hfz9_2:=Yf BK195.out 2)|((with_reducible refine gate_callee (f:=27) rfl ?_);refine gl (some 13) Try.func27 #[.agg #[.int .i64 Zb, .bool Zc, .slice Ze Za.length Zd], .int .i64 a1, .int .i64 a2] ?_;(with_reducible refine(ebbtideref07_Ends.calls k Zb Zc _ _ Za a1 a2 t196 _ ?side1 ?side2 A5.out).mono ?_);(case side1=>exact kC (Yt Zh.out HB.out));(case side2=>exact Zo.out);rintro e w10 ⟨rfl,hb⟩;refine⟨_,rfl,?_⟩;replace BK195:=Ya (Yn (bk BK195) hb);replace HB:=Ya (Yk bl hb);(try clear hb))|((with_reducible refine gate_callee (f:=38) rfl ?_);refine gl (some 18) Try.func38 #[.int .i64 a3] ?_;(with_reducible refine(ebbtideref12_Span.calls a3 t197 _ A7.out).mono ?_);rintro e w' ⟨rfl,⟨nd,rfl⟩⟩;refine⟨_,rfl,?_⟩));go_ret;exact⟨by first|rfl|(simp[errW_none,errW_some]<;>rfl)|(simp[*,errW_none,errW_some]<;>rfl),bl⟩
end P
namespace P
attribute [local go_sem] max2_int min2_int max_two min_two max_three min_three max_four min_four
def ebbtideref07_Check.l0:Nat→Int→Int→List Int→Int→Int→Bool→List (S50)→Option (Int × Int)
 |0,_,_,_,_,_,_,_=>none
 |k+1,x1,x2,x11,x13,x217000,x217001,x217002=>if x13<x217000 then(if x13=x1 then(ebbtideref07_Check.l0 k x1 x2 x11 (wrap64 (x13+1)) x217000 x217001 x217002) else(if x13=x2 then(ebbtideref07_Check.l0 k x1 x2 x11 (wrap64 (x13+1)) x217000 x217001 x217002) else(if 0≤x13 then(if x13<(x11.length:Int) then(if (rd x11 x13)=0 then(ebbtideref07_Check.l0 k x1 x2 x11 (wrap64 (x13+1)) x217000 x217001 x217002) else(some (0,71))) else(none)) else(none)))) else(if 0≤x1 then(if x1<(x11.length:Int) then(some (rd x11 x1,0)) else(none)) else(none))
def ebbtideref07_Check.f (k:Nat) (Zb:Int) (Zc:Bool) (Za:List (S50)) (a1:Int) (a2:Int) (l3:List Int):Option (Int × Int):=(ebbtideref07_Ends.f k Zb Zc Za a1 a2).bind fun t217=>(if t217=0 then((ebbtideref07_Balance.f k Zb Zc Za l3).bind fun bt218=>(if bt218.2=0 then(ebbtideref07_Check.l0 k a1 a2 bt218.1 0 Zb Zc Za) else(some (0,bt218.2)))) else(some (0,t217)))
set_option maxHeartbeats 8000000 in
set_option maxRecDepth 100000 in
theorem ebbtideref07_Check.calls (k:Nat) (Zb:Int) (Zc:Bool) (Ze:Option Addr) (Zd:Nat) (Za:List (S50)) (a1:Int) (a2:Int) (A3:Option Addr) (c3:Nat) (l3:List Int) (r1:Int) (r2:Int) (w:World) (Zp:Kd.C k50 w Ze Za.length Za) (Zq:Za.length≤Zd) (hr3:Kd.C (Kd.int .i64) w A3 l3.length l3) (hc3:l3.length≤c3) (h:ebbtideref07_Check.f k Zb Zc Za a1 a2 l3=some (r1,r2)):
  Calls Try.prog 20 #[.agg #[.int .i64 Zb, .bool Zc, .slice Ze Za.length Zd], .int .i64 a1, .int .i64 a2, .slice A3 l3.length c3] w fun e w'=>e= .returned (.tuple #[.int .i64 r1, .int .i64 r2])∧Below w.heap.size w w':=by
 have hu24:=Try.underlying24;have Zh:=Ya Zp;have Zo:=Ya Zq;clear Zp Zq;have HR3:=Ya hr3;have HC3:=Ya hc3;clear hr3 hc3;have HB:=Ya (Yo w.heap.size w);have H:=h;unfold ebbtideref07_Check.f at H;clear h;replace H:=Option.bind_eq_some_iff.mp H;obtain⟨t217,A50,H⟩:=H;try dsimp only at H
 have A5:=Ya A50;clear A50;by_cases c6:t217=0
 rotate_left
 ·rw[Yy c6] at H
  have c6b0:(t217 == 0)=false:=beq_eq_false_iff_ne.mpr c6;have c6b1:(t217 != 0)=true:=bne_iff_ne.mpr c6;simp only[Option.some.injEq,Prod.mk.injEq] at H;obtain⟨rfl,rfl⟩:=H;go_enter Try.func20,Try.ntmps20;go_wp2_with (first|(refine bx 4 24 #[.int .i64 Zb, .bool Zc, .slice Ze Za.length Zd] ?_;intro Vi hg w35 Zf hb;have Xe:=Ya (Zf);have GW216:=Ya (by rw[hg];exact(Yi HB.out):w.heap.size≤Vi);have GE216:=Ya (by rw[hg];exact(Yi HB.out):w.heap.size≤Vi);replace HB:=Ya (Yk HB.out hb);clear hb Zf hg;have hcz36_0:w35.cell? ⟨Vi,0,none⟩=some (.int .i64 Zb):=bc Xe 0;have hcz36_1:w35.cell? ⟨Vi,1,none⟩=some (.bool Zc):=bc Xe 1;have hcz36_2:w35.cell? ⟨Vi,2,none⟩=some (.slice Ze Za.length Zd):=bc Xe 2;have hfz36_0:=Yf Xe.out 0;have hfz36_1:=Yf Xe.out 1;have hfz36_2:=Yf Xe.out 2)|((with_reducible refine gate_callee (f:=27) rfl ?_);refine gl (some 17) Try.func27 #[.agg #[.int .i64 Zb, .bool Zc, .slice Ze Za.length Zd], .int .i64 a1, .int .i64 a2] ?_;(with_reducible refine(ebbtideref07_Ends.calls k Zb Zc _ _ Za a1 a2 t217 _ ?side1 ?side2 A5.out).mono ?_);(case side1=>exact kC (Yt Zh.out HB.out));(case side2=>exact Zo.out);rintro e w37 ⟨rfl,hb⟩;refine⟨_,rfl,?_⟩;replace Xe:=Ya (Yn Xe.out hb);replace HB:=Ya (Yk HB.out hb);(try clear hb)));go_ret2;exact⟨by first|rfl|(simp[errW_none,errW_some]<;>rfl)|(simp[*,errW_none,errW_some]<;>rfl),HB.out⟩
 rw[Yx c6] at H;have c6b0:(t217 == 0)=true:=beq_iff_eq.mpr c6;have c6b1:(t217 != 0)=false:=bne_eq_false_iff_eq.mpr c6;clear c6;replace H:=Option.bind_eq_some_iff.mp H;obtain⟨⟨t218,t221⟩,A70,H⟩:=H;try dsimp only at H
 have A7:=Ya A70;clear A70;by_cases c8:t221=0
 rotate_left
 ·rw[Yy c8] at H
  have c8b0:(t221 == 0)=false:=beq_eq_false_iff_ne.mpr c8;have c8b1:(t221 != 0)=true:=bne_iff_ne.mpr c8;simp only[Option.some.injEq,Prod.mk.injEq] at H;obtain⟨rfl,rfl⟩:=H;go_enter Try.func20,Try.ntmps20;go_wp2_with (first|(refine bx 4 24 #[.int .i64 Zb, .bool Zc, .slice Ze Za.length Zd] ?_;intro Vi hg w30 Zf hb;have Xe:=Ya (Zf);have GW216:=Ya (by rw[hg];exact(Yi HB.out):w.heap.size≤Vi);have GE216:=Ya (by rw[hg];exact(Yi HB.out):w.heap.size≤Vi);replace HB:=Ya (Yk HB.out hb);clear hb Zf hg;have hcz31_0:w30.cell? ⟨Vi,0,none⟩=some (.int .i64 Zb):=bc Xe 0;have hcz31_1:w30.cell? ⟨Vi,1,none⟩=some (.bool Zc):=bc Xe 1;have hcz31_2:w30.cell? ⟨Vi,2,none⟩=some (.slice Ze Za.length Zd):=bc Xe 2;have hfz31_0:=Yf Xe.out 0;have hfz31_1:=Yf Xe.out 1;have hfz31_2:=Yf Xe.out 2)|((with_reducible refine gate_callee (f:=27) rfl ?_);refine gl (some 17) Try.func27 #[.agg #[.int .i64 Zb, .bool Zc, .slice Ze Za.length Zd], .int .i64 a1, .int .i64 a2] ?_;(with_reducible refine(ebbtideref07_Ends.calls k Zb Zc _ _ Za a1 a2 t217 _ ?side1 ?side2 A5.out).mono ?_);(case side1=>exact kC (Yt Zh.out HB.out));(case side2=>exact Zo.out);rintro e w32 ⟨rfl,hb⟩;refine⟨_,rfl,?_⟩;replace Xe:=Ya (Yn Xe.out hb);replace HB:=Ya (Yk HB.out hb);(try clear hb);have hcz33_0:w32.cell? ⟨Vi,0,none⟩=some (.int .i64 Zb):=bc Xe 0;have hcz33_1:w32.cell? ⟨Vi,1,none⟩=some (.bool Zc):=bc Xe 1;have hcz33_2:w32.cell? ⟨Vi,2,none⟩=some (.slice Ze Za.length Zd):=bc Xe 2;have hfz33_0:=Yf Xe.out 0;have hfz33_1:=Yf Xe.out 1;have hfz33_2:=Yf Xe.out 2)|((with_reducible refine gate_callee (f:=51) rfl ?_);refine gl (some 24) Try.func51 #[.agg #[.int .i64 Zb, .bool Zc, .slice Ze Za.length Zd], .slice A3 l3.length c3] ?_;(with_reducible refine(ebbtideref07_Balance.calls k Zb Zc _ _ Za _ _ l3 t218 t221 _ ?side1 ?side2 ?side3 ?side4 A7.out).mono ?_);(case side1=>exact kC (Yt Zh.out HB.out));(case side2=>exact Zo.out);(case side3=>exact kC (Yt HR3.out HB.out));(case side4=>exact HC3.out);rintro e w34 ⟨v219,rfl,ho0,hb⟩;refine⟨_,rfl,?_⟩;have HO220:=Ya (Kd.R_lower ho0 (Yi HB.out));replace Xe:=Ya (Yn Xe.out hb);replace HB:=Ya (Yk HB.out hb);(try clear hb);(try clear hb2);(try clear hk);(try clear hi);(try clear ho0)));go_ret2;exact⟨by first|rfl|(simp[errW_none,errW_some]<;>rfl)|(simp[*,errW_none,errW_some]<;>rfl),HB.out⟩
 rw[Yx c8] at H;have c8b0:(t221 == 0)=true:=beq_iff_eq.mpr c8;have c8b1:(t221 != 0)=false:=bne_eq_false_iff_eq.mpr c8;clear c8;have H':=Ya H;clear H;go_enter Try.func20,Try.ntmps20;go_wp2_with (first|(refine bx 4 24 #[.int .i64 Zb, .bool Zc, .slice Ze Za.length Zd] ?_;intro Vi hg w9 Zf hb;have Xe:=Ya (Zf);have GW216:=Ya (by rw[hg];exact(Yi HB.out):w.heap.size≤Vi);have GE216:=Ya (by rw[hg];exact(Yi HB.out):w.heap.size≤Vi);replace HB:=Ya (Yk HB.out hb);clear hb Zf hg;have Wu:w9.cell? ⟨Vi,0,none⟩=some (.int .i64 Zb):=bc Xe 0;have Wv:w9.cell? ⟨Vi,1,none⟩=some (.bool Zc):=bc Xe 1;have Vl:w9.cell? ⟨Vi,2,none⟩=some (.slice Ze Za.length Zd):=bc Xe 2;have Ww:=Yf Xe.out 0;have Wx:=Yf Xe.out 1;have Vm:=Yf Xe.out 2)|((with_reducible refine gate_callee (f:=27) rfl ?_);refine gl (some 17) Try.func27 #[.agg #[.int .i64 Zb, .bool Zc, .slice Ze Za.length Zd], .int .i64 a1, .int .i64 a2] ?_;(with_reducible refine(ebbtideref07_Ends.calls k Zb Zc _ _ Za a1 a2 t217 _ ?side1 ?side2 A5.out).mono ?_);(case side1=>exact kC (Yt Zh.out HB.out));(case side2=>exact Zo.out);rintro e w11 ⟨rfl,hb⟩;refine⟨_,rfl,?_⟩;replace Xe:=Ya (Yn Xe.out hb);replace HB:=Ya (Yk HB.out hb);(try clear hb);have hcz12_0:w11.cell? ⟨Vi,0,none⟩=some (.int .i64 Zb):=bc Xe 0;have hcz12_1:w11.cell? ⟨Vi,1,none⟩=some (.bool Zc):=bc Xe 1;have hcz12_2:w11.cell? ⟨Vi,2,none⟩=some (.slice Ze Za.length Zd):=bc Xe 2;have hfz12_0:=Yf Xe.out 0;have hfz12_1:=Yf Xe.out 1;have hfz12_2:=Yf Xe.out 2)|((with_reducible refine gate_callee (f:=51) rfl ?_);refine gl (some 24) Try.func51 #[.agg #[.int .i64 Zb, .bool Zc, .slice Ze Za.length Zd], .slice A3 l3.length c3] ?_;(with_reducible refine(ebbtideref07_Balance.calls k Zb Zc _ _ Za _ _ l3 t218 t221 _ ?side1 ?side2 ?side3 ?side4 A7.out).mono ?_);(case side1=>exact kC (Yt Zh.out HB.out));(case side2=>exact Zo.out);(case side3=>exact kC (Yt HR3.out HB.out));(case side4=>exact HC3.out);rintro e w13 ⟨v219,rfl,ho0,hb⟩;refine⟨_,rfl,?_⟩;have HO220:=Ya (Kd.R_lower ho0 (Yi HB.out));replace Xe:=Ya (Yn Xe.out hb);replace HB:=Ya (Yk HB.out hb);(try clear hb);(try clear hb2);(try clear hk);(try clear hi);(try clear ho0)));go_loopg [13] k (fun kq v13 w'=> ∃ (Zg:Int),v13= .int .i64 Zg∧Aside0 (ebbtideref07_Check.l0 kq a1 a2 t218 Zg Zb Zc Za=some (r1,r2))∧Aside0 (kq≤k)∧Aside0 (Kd.R (Kd.int .i64) 3 w' w.heap.size (fun _=>True) v219 t218)∧Aside0 (w'.heap[Vi]? =some (.cells #[.int .i64 Zb, .bool Zc,(.slice Ze Za.length Zd)] 24 (0,0)))∧Aside0 (Below w.heap.size w w'))
 case atStart=>exact⟨(0),(by first|rfl|(simp;done)|(simp[*];done)),H',⟨Nat.le_refl _⟩,⟨HO220.out⟩,⟨Xe.out⟩,⟨HB.out⟩⟩
 case round=>
  clear H';try clear c3
  try clear c6
  try clear c6b0
  try clear c6b1
  try clear c8
  try clear c8b0
  try clear c8b1
  try clear Wu
  try clear Wv
  try clear Vl
  try clear hcz12_0
  try clear hcz12_1
  try clear hcz12_2
  try clear Ww
  try clear Wx
  try clear Vm
  try clear hfz12_0
  try clear hfz12_1
  try clear hfz12_2
  obtain⟨Zg,rfl,HA,HK1,HO_11,Xe,HB⟩:=hrel;cases gk with
  |zero=>exact absurd HA.out (by simp[ebbtideref07_Check.l0])
  |succ k1=>
   have H:=HA.out;clear HA;simp only[ebbtideref07_Check.l0] at H;by_cases c14:Zg<Zb
   rotate_left
   ·rw[Yy c14] at H
    have c14b0:decide (Zg<Zb)=false:=Yw c14;clear c14;by_cases c26:0≤a1
    rotate_left
    ·rw[Yy c26] at H
     exact absurd H (by simp)
    rw[Yx c26] at H;have c26b0:decide (0≤a1)=true:=Yv c26;clear c26;by_cases c27:a1<(t218.length:Int)
    rotate_left
    ·rw[Yy c27] at H
     exact absurd H (by simp)
    rw[Yx c27] at H;have c27b0:decide (a1<(t218.length:Int))=true:=Yv c27;clear c27;simp only[Option.some.injEq,Prod.mk.injEq] at H;obtain⟨rfl,rfl⟩:=H;have hcz28_0:wr.cell? ⟨Vi,0,none⟩=some (.int .i64 Zb):=bc Xe 0;have hcz28_1:wr.cell? ⟨Vi,1,none⟩=some (.bool Zc):=bc Xe 1;have hcz28_2:wr.cell? ⟨Vi,2,none⟩=some (.slice Ze Za.length Zd):=bc Xe 2;have hfz28_0:=Yf Xe.out 0;have hfz28_1:=Yf Xe.out 1;have hfz28_2:=Yf Xe.out 2;obtain⟨Ao29,co29,eo29⟩:=Kd.R_slice HO_11.out;subst eo29;have p223:0≤(a1:Int):=od;have q223:a1<(t218.length:Int):=od;obtain⟨ad223,e223,hx223_0⟩:=Kd.at_int (Kd.R_reads' HO_11.out).2.2 a1 p223 q223;cases e223;replace p223:=eq_true p223;replace q223:=eq_true q223;go_wp2;go_ret2;exact⟨by first|rfl|(simp[errW_none,errW_some]<;>rfl)|(simp[*,errW_none,errW_some]<;>rfl),HB.out⟩
   rw[Yx c14] at H;have c14b0:decide (Zg<Zb)=true:=Yv c14;clear c14;by_cases c15:Zg=a1
   ·rw[Yx c15] at H
    have c15b0:(Zg == a1)=true:=beq_iff_eq.mpr c15;have c15b1:(Zg != a1)=false:=bne_eq_false_iff_eq.mpr c15;clear c15;have H':=Ya H;clear H;have hcz16_0:wr.cell? ⟨Vi,0,none⟩=some (.int .i64 Zb):=bc Xe 0;have hcz16_1:wr.cell? ⟨Vi,1,none⟩=some (.bool Zc):=bc Xe 1;have hcz16_2:wr.cell? ⟨Vi,2,none⟩=some (.slice Ze Za.length Zd):=bc Xe 2;have hfz16_0:=Yf Xe.out 0;have hfz16_1:=Yf Xe.out 1;have hfz16_2:=Yf Xe.out 2;go_wp2;go_roundg k1
    case measure=>have:=HK1.out;omega
    case rel=>exact⟨(wrap64 (Zg+1)),(by first|rfl|(simp;done)|(simp[*];done)),H',⟨by have:=HK1.out;omega⟩,⟨HO_11.out⟩,⟨Xe.out⟩,⟨HB.out⟩⟩
   rw[Yy c15] at H;have c15b0:(Zg == a1)=false:=beq_eq_false_iff_ne.mpr c15;have c15b1:(Zg != a1)=true:=bne_iff_ne.mpr c15;by_cases c17:Zg=a2
   ·rw[Yx c17] at H
    have c17b0:(Zg == a2)=true:=beq_iff_eq.mpr c17;have c17b1:(Zg != a2)=false:=bne_eq_false_iff_eq.mpr c17;clear c17;have H':=Ya H;clear H;have hcz18_0:wr.cell? ⟨Vi,0,none⟩=some (.int .i64 Zb):=bc Xe 0;have hcz18_1:wr.cell? ⟨Vi,1,none⟩=some (.bool Zc):=bc Xe 1;have hcz18_2:wr.cell? ⟨Vi,2,none⟩=some (.slice Ze Za.length Zd):=bc Xe 2;have hfz18_0:=Yf Xe.out 0;have hfz18_1:=Yf Xe.out 1;have hfz18_2:=Yf Xe.out 2;go_wp2;go_roundg k1
    case measure=>have:=HK1.out;omega
    case rel=>exact⟨(wrap64 (Zg+1)),(by first|rfl|(simp;done)|(simp[*];done)),H',⟨by have:=HK1.out;omega⟩,⟨HO_11.out⟩,⟨Xe.out⟩,⟨HB.out⟩⟩
   rw[Yy c17] at H;have c17b0:(Zg == a2)=false:=beq_eq_false_iff_ne.mpr c17;have c17b1:(Zg != a2)=true:=bne_iff_ne.mpr c17;by_cases c19:0≤Zg
   rotate_left
   ·rw[Yy c19] at H
    exact absurd H (by simp)
   rw[Yx c19] at H;have c19b0:decide (0≤Zg)=true:=Yv c19;clear c19;by_cases c20:Zg<(t218.length:Int)
   rotate_left
   ·rw[Yy c20] at H
    exact absurd H (by simp)
   rw[Yx c20] at H;have c20b0:decide (Zg<(t218.length:Int))=true:=Yv c20;clear c20;by_cases c21:(rd t218 Zg)=0
   rotate_left
   ·rw[Yy c21] at H
    have c21b0:((rd t218 Zg) == 0)=false:=beq_eq_false_iff_ne.mpr c21;have c21b1:((rd t218 Zg) != 0)=true:=bne_iff_ne.mpr c21;simp only[Option.some.injEq,Prod.mk.injEq] at H;obtain⟨rfl,rfl⟩:=H;have hcz24_0:wr.cell? ⟨Vi,0,none⟩=some (.int .i64 Zb):=bc Xe 0;have hcz24_1:wr.cell? ⟨Vi,1,none⟩=some (.bool Zc):=bc Xe 1;have hcz24_2:wr.cell? ⟨Vi,2,none⟩=some (.slice Ze Za.length Zd):=bc Xe 2;have hfz24_0:=Yf Xe.out 0;have hfz24_1:=Yf Xe.out 1;have hfz24_2:=Yf Xe.out 2;obtain⟨Ao25,co25,eo25⟩:=Kd.R_slice HO_11.out;subst eo25;have p222:0≤(Zg:Int):=od;have q222:Zg<(t218.length:Int):=od;obtain⟨ad222,e222,hx222_0⟩:=Kd.at_int (Kd.R_reads' HO_11.out).2.2 Zg p222 q222;cases e222;replace p222:=eq_true p222;replace q222:=eq_true q222;go_wp2;go_ret2;exact⟨by first|rfl|(simp[errW_none,errW_some]<;>rfl)|(simp[*,errW_none,errW_some]<;>rfl),HB.out⟩
   rw[Yx c21] at H;have c21b0:((rd t218 Zg) == 0)=true:=beq_iff_eq.mpr c21;have c21b1:((rd t218 Zg) != 0)=false:=bne_eq_false_iff_eq.mpr c21;clear c21;have H':=Ya H;clear H;have hcz22_0:wr.cell? ⟨Vi,0,none⟩=some (.int .i64 Zb):=bc Xe 0;have hcz22_1:wr.cell? ⟨Vi,1,none⟩=some (.bool Zc):=bc Xe 1;have hcz22_2:wr.cell? ⟨Vi,2,none⟩=some (.slice Ze Za.length Zd):=bc Xe 2;have hfz22_0:=Yf Xe.out 0;have hfz22_1:=Yf Xe.out 1;have hfz22_2:=Yf Xe.out 2;obtain⟨Ao23,co23,eo23⟩:=Kd.R_slice HO_11.out;subst eo23;have p222:0≤(Zg:Int):=od;have q222:Zg<(t218.length:Int):=od;obtain⟨ad222,e222,hx222_0⟩:=Kd.at_int (Kd.R_reads' HO_11.out).2.2 Zg p222 q222;cases e222;replace p222:=eq_true p222;replace q222:=eq_true q222;go_wp2;go_roundg k1
   case measure=>have:=HK1.out;omega
   case rel=>exact⟨(wrap64 (Zg+1)),(by first|rfl|(simp;done)|(simp[*];done)),H',⟨by have:=HK1.out;omega⟩,⟨HO_11.out⟩,⟨Xe.out⟩,⟨HB.out⟩⟩
end P
namespace P
attribute [local go_sem] max2_int min2_int max_two min_two max_three min_three max_four min_four
def ebbtideref07_Cost.l0:Nat→List Int→Int→Int→Int→Bool→List (S50)→Option (Int × Int)
 |0,_,_,_,_,_,_=>none
 |k+1,x1,x7,x8,x228000,x228001,x228002=>if x8<(x1.length:Int) then(if 0≤x8 then(if x8<(x228002.length:Int) then(ebbtideref07_Cost.l0 k x1 (wrap64 (x7+(wrap64 ((rd x1 x8) * ((rd_T50 x228002 x8).f3))))) (wrap64 (x8+1)) x228000 x228001 x228002) else(none)) else(none)) else(some (x7,0))
def ebbtideref07_Cost.f (k:Nat) (Zb:Int) (Zc:Bool) (Za:List (S50)) (l1:List Int):Option (Int × Int):=(ebbtideref07_Asked.f k Zb Zc Za l1).bind fun t228=>(if t228=0 then(ebbtideref07_Cost.l0 k l1 0 0 Zb Zc Za) else(some (0,t228)))
set_option maxHeartbeats 8000000 in
set_option maxRecDepth 100000 in
theorem ebbtideref07_Cost.calls (k:Nat) (Zb:Int) (Zc:Bool) (Ze:Option Addr) (Zd:Nat) (Za:List (S50)) (A1:Option Addr) (c1:Nat) (l1:List Int) (r1:Int) (r2:Int) (w:World) (Zp:Kd.C k50 w Ze Za.length Za) (Zq:Za.length≤Zd) (hr1:Kd.C (Kd.int .i64) w A1 l1.length l1) (hc1:l1.length≤c1) (h:ebbtideref07_Cost.f k Zb Zc Za l1=some (r1,r2)):
  Calls Try.prog 39 #[.agg #[.int .i64 Zb, .bool Zc, .slice Ze Za.length Zd], .slice A1 l1.length c1] w fun e w'=>e= .returned (.tuple #[.int .i64 r1, .int .i64 r2])∧Below w.heap.size w w':=by
 have hu24:=Try.underlying24;have Zh:=Ya Zp;have Zo:=Ya Zq;clear Zp Zq;have HR1:=Ya hr1;have HC1:=Ya hc1;clear hr1 hc1;have HB:=Ya (Yo w.heap.size w);have H:=h;unfold ebbtideref07_Cost.f at H;clear h;replace H:=Option.bind_eq_some_iff.mp H;obtain⟨t228,A30,H⟩:=H;try dsimp only at H
 have A3:=Ya A30;clear A30;by_cases c4:t228=0
 rotate_left
 ·rw[Yy c4] at H
  have c4b0:(t228 == 0)=false:=beq_eq_false_iff_ne.mpr c4;have c4b1:(t228 != 0)=true:=bne_iff_ne.mpr c4;simp only[Option.some.injEq,Prod.mk.injEq] at H;obtain⟨rfl,rfl⟩:=H;go_enter Try.func39,Try.ntmps39;go_wp2_with (first|(refine bx 2 24 #[.int .i64 Zb, .bool Zc, .slice Ze Za.length Zd] ?_;intro Jh hg w12 Zf hb;have Xp:=Ya (Zf);have GW227:=Ya ((sz hg));have GE227:=Ya ((sz hg));replace HB:=Ya (Yk bl hb);clear hb Zf hg;have hcz13_0:w12.cell? ⟨Jh,0,none⟩=some (.int .i64 Zb):=bc Xp 0;have hcz13_1:w12.cell? ⟨Jh,1,none⟩=some (.bool Zc):=bc Xp 1;have hcz13_2:w12.cell? ⟨Jh,2,none⟩=some (.slice Ze Za.length Zd):=bc Xp 2;have hfz13_0:=Yf Xp.out 0;have hfz13_1:=Yf Xp.out 1;have hfz13_2:=Yf Xp.out 2)|(go_at_call 40;(with_reducible refine(ebbtideref07_Asked.calls k Zb Zc _ _ Za _ _ l1 t228 _ ?side1 ?side2 ?side3 ?side4 A3.out).mono ?_);(case side1=>exact kC (Yt Zh.out HB.out));(case side2=>exact Zo.out);(case side3=>exact kC (Yt HR1.out HB.out));(case side4=>exact HC1.out);rintro e w14 ⟨rfl,hb⟩;replace Xp:=Ya (Yn (bk Xp) hb);replace HB:=Ya (Yk bl hb);(try clear hb)));repeat(go_quiet (first|(refine bx 2 24 #[.int .i64 Zb, .bool Zc, .slice Ze Za.length Zd] ?_;intro Jh hg w12 Zf hb;have Xp:=Ya (Zf);have GW227:=Ya ((sz hg));have GE227:=Ya ((sz hg));replace HB:=Ya (Yk bl hb);clear hb Zf hg;have hcz13_0:w12.cell? ⟨Jh,0,none⟩=some (.int .i64 Zb):=bc Xp 0;have hcz13_1:w12.cell? ⟨Jh,1,none⟩=some (.bool Zc):=bc Xp 1;have hcz13_2:w12.cell? ⟨Jh,2,none⟩=some (.slice Ze Za.length Zd):=bc Xp 2;have hfz13_0:=Yf Xp.out 0;have hfz13_1:=Yf Xp.out 1;have hfz13_2:=Yf Xp.out 2)|(go_at_call 40;(with_reducible refine(ebbtideref07_Asked.calls k Zb Zc _ _ Za _ _ l1 t228 _ ?side1 ?side2 ?side3 ?side4 A3.out).mono ?_);(case side1=>exact kC (Yt Zh.out HB.out));(case side2=>exact Zo.out);(case side3=>exact kC (Yt HR1.out HB.out));(case side4=>exact HC1.out);rintro e w14 ⟨rfl,hb⟩;replace Xp:=Ya (Yn (bk Xp) hb);replace HB:=Ya (Yk bl hb);(try clear hb)));try go_wp2_with (first|(refine bx 2 24 #[.int .i64 Zb, .bool Zc, .slice Ze Za.length Zd] ?_;intro Jh hg w12 Zf hb;have Xp:=Ya (Zf);have GW227:=Ya ((sz hg));have GE227:=Ya ((sz hg));replace HB:=Ya (Yk bl hb);clear hb Zf hg;have hcz13_0:w12.cell? ⟨Jh,0,none⟩=some (.int .i64 Zb):=bc Xp 0;have hcz13_1:w12.cell? ⟨Jh,1,none⟩=some (.bool Zc):=bc Xp 1;have hcz13_2:w12.cell? ⟨Jh,2,none⟩=some (.slice Ze Za.length Zd):=bc Xp 2;have hfz13_0:=Yf Xp.out 0;have hfz13_1:=Yf Xp.out 1;have hfz13_2:=Yf Xp.out 2)|(go_at_call 40;(with_reducible refine(ebbtideref07_Asked.calls k Zb Zc _ _ Za _ _ l1 t228 _ ?side1 ?side2 ?side3 ?side4 A3.out).mono ?_);(case side1=>exact kC (Yt Zh.out HB.out));(case side2=>exact Zo.out);(case side3=>exact kC (Yt HR1.out HB.out));(case side4=>exact HC1.out);rintro e w14 ⟨rfl,hb⟩;replace Xp:=Ya (Yn (bk Xp) hb);replace HB:=Ya (Yk bl hb);(try clear hb);(try clear hb2);(try clear hk);(try clear hi))))
  go_ret2;exact⟨by first|rfl|(simp[errW_none,errW_some]<;>rfl)|(simp[*,errW_none,errW_some]<;>rfl),HB.out⟩
 rw[Yx c4] at H;have c4b0:(t228 == 0)=true:=beq_iff_eq.mpr c4;have c4b1:(t228 != 0)=false:=bne_eq_false_iff_eq.mpr c4;clear c4;have H':=Ya H;clear H;go_enter Try.func39,Try.ntmps39;go_wp2_with (first|(refine bx 2 24 #[.int .i64 Zb, .bool Zc, .slice Ze Za.length Zd] ?_;intro Jh hg w5 Zf hb;have Xp:=Ya (Zf);have GW227:=Ya ((sz hg));have GE227:=Ya ((sz hg));replace HB:=Ya (Yk bl hb);clear hb Zf hg;have hcz6_0:w5.cell? ⟨Jh,0,none⟩=some (.int .i64 Zb):=bc Xp 0;have hcz6_1:w5.cell? ⟨Jh,1,none⟩=some (.bool Zc):=bc Xp 1;have hcz6_2:w5.cell? ⟨Jh,2,none⟩=some (.slice Ze Za.length Zd):=bc Xp 2;have hfz6_0:=Yf Xp.out 0;have hfz6_1:=Yf Xp.out 1;have hfz6_2:=Yf Xp.out 2)|(go_at_call 40;(with_reducible refine(ebbtideref07_Asked.calls k Zb Zc _ _ Za _ _ l1 t228 _ ?side1 ?side2 ?side3 ?side4 A3.out).mono ?_);(case side1=>exact kC (Yt Zh.out HB.out));(case side2=>exact Zo.out);(case side3=>exact kC (Yt HR1.out HB.out));(case side4=>exact HC1.out);rintro e w7 ⟨rfl,hb⟩;replace Xp:=Ya (Yn (bk Xp) hb);replace HB:=Ya (Yk bl hb);(try clear hb)));repeat(go_quiet (first|(refine bx 2 24 #[.int .i64 Zb, .bool Zc, .slice Ze Za.length Zd] ?_;intro Jh hg w5 Zf hb;have Xp:=Ya (Zf);have GW227:=Ya ((sz hg));have GE227:=Ya ((sz hg));replace HB:=Ya (Yk bl hb);clear hb Zf hg;have hcz6_0:w5.cell? ⟨Jh,0,none⟩=some (.int .i64 Zb):=bc Xp 0;have hcz6_1:w5.cell? ⟨Jh,1,none⟩=some (.bool Zc):=bc Xp 1;have hcz6_2:w5.cell? ⟨Jh,2,none⟩=some (.slice Ze Za.length Zd):=bc Xp 2;have hfz6_0:=Yf Xp.out 0;have hfz6_1:=Yf Xp.out 1;have hfz6_2:=Yf Xp.out 2)|(go_at_call 40;(with_reducible refine(ebbtideref07_Asked.calls k Zb Zc _ _ Za _ _ l1 t228 _ ?side1 ?side2 ?side3 ?side4 A3.out).mono ?_);(case side1=>exact kC (Yt Zh.out HB.out));(case side2=>exact Zo.out);(case side3=>exact kC (Yt HR1.out HB.out));(case side4=>exact HC1.out);rintro e w7 ⟨rfl,hb⟩;replace Xp:=Ya (Yn (bk Xp) hb);replace HB:=Ya (Yk bl hb);(try clear hb)));try go_wp2_with (first|(refine bx 2 24 #[.int .i64 Zb, .bool Zc, .slice Ze Za.length Zd] ?_;intro Jh hg w5 Zf hb;have Xp:=Ya (Zf);have GW227:=Ya ((sz hg));have GE227:=Ya ((sz hg));replace HB:=Ya (Yk bl hb);clear hb Zf hg;have hcz6_0:w5.cell? ⟨Jh,0,none⟩=some (.int .i64 Zb):=bc Xp 0;have hcz6_1:w5.cell? ⟨Jh,1,none⟩=some (.bool Zc):=bc Xp 1;have hcz6_2:w5.cell? ⟨Jh,2,none⟩=some (.slice Ze Za.length Zd):=bc Xp 2;have hfz6_0:=Yf Xp.out 0;have hfz6_1:=Yf Xp.out 1;have hfz6_2:=Yf Xp.out 2)|(go_at_call 40;(with_reducible refine(ebbtideref07_Asked.calls k Zb Zc _ _ Za _ _ l1 t228 _ ?side1 ?side2 ?side3 ?side4 A3.out).mono ?_);(case side1=>exact kC (Yt Zh.out HB.out));(case side2=>exact Zo.out);(case side3=>exact kC (Yt HR1.out HB.out));(case side4=>exact HC1.out);rintro e w7 ⟨rfl,hb⟩;replace Xp:=Ya (Yn (bk Xp) hb);replace HB:=Ya (Yk bl hb);(try clear hb);(try clear hb2);(try clear hk);(try clear hi))))
 go_loopg [7,8] k (fun kq v7 v8 w'=> ∃ (Xu:Int) (Zn:Int),v7= .int .i64 Xu∧v8= .int .i64 Zn∧Aside0 (ebbtideref07_Cost.l0 kq l1 Xu Zn Zb Zc Za=some (r1,r2))∧Aside0 (kq≤k)∧Aside0 (w'.heap[Jh]? =some (.cells #[.int .i64 Zb, .bool Zc,(.slice Ze Za.length Zd)] 24 (0,0)))∧Aside0 (Below w.heap.size w w'))
 case atStart=>exact⟨(0),(0),(by first|rfl|(simp;done)|(simp[*];done)),(by first|rfl|(simp;done)|(simp[*];done)),H',⟨Nat.le_refl _⟩,⟨Xp.out⟩,⟨HB.out⟩⟩
 case round=>
  clear H';try clear c1
  try clear c4
  try clear c4b0
  try clear c4b1
  try clear hcz6_0
  try clear hcz6_1
  try clear hcz6_2
  try clear hfz6_0
  try clear hfz6_1
  try clear hfz6_2
  obtain⟨Xu,Zn,rfl,rfl,HA,HK1,Xp,HB⟩:=hrel;cases gk with
  |zero=>exact absurd HA.out (by simp[ebbtideref07_Cost.l0])
  |succ k1=>
   have H:=HA.out;clear HA;simp only[ebbtideref07_Cost.l0] at H;by_cases c8:Zn<(l1.length:Int)
   rotate_left
   ·rw[Yy c8] at H
    have c8b0:decide (Zn<(l1.length:Int))=false:=Yw c8;clear c8;simp only[Option.some.injEq,Prod.mk.injEq] at H;obtain⟨rfl,rfl⟩:=H;go_wp2;repeat(go_quiet (fail);try go_wp2)
    go_ret2;exact⟨by first|rfl|(simp[errW_none,errW_some]<;>rfl)|(simp[*,errW_none,errW_some]<;>rfl),HB.out⟩
   rw[Yx c8] at H;have c8b0:decide (Zn<(l1.length:Int))=true:=Yv c8;clear c8;by_cases c9:0≤Zn
   rotate_left
   ·rw[Yy c9] at H
    exact absurd H (by simp)
   rw[Yx c9] at H;have c9b0:decide (0≤Zn)=true:=Yv c9;clear c9;by_cases c10:Zn<(Za.length:Int)
   rotate_left
   ·rw[Yy c10] at H
    exact absurd H (by simp)
   rw[Yx c10] at H;have c10b0:decide (Zn<(Za.length:Int))=true:=Yv c10;clear c10;have H':=Ya H;clear H;have p229:0≤(Zn:Int):=od;have q229:Zn<(l1.length:Int):=od;obtain⟨ad229,e229,hx229_0⟩:=Kd.at_int HR1.out Zn p229 q229;cases e229;replace hx229_0:=hc HB hx229_0;replace p229:=eq_true p229;replace q229:=eq_true q229;have hcz11_0:wr.cell? ⟨Jh,0,none⟩=some (.int .i64 Zb):=bc Xp 0;have hcz11_1:wr.cell? ⟨Jh,1,none⟩=some (.bool Zc):=bc Xp 1;have hcz11_2:wr.cell? ⟨Jh,2,none⟩=some (.slice Ze Za.length Zd):=bc Xp 2;have hfz11_0:=Yf Xp.out 0;have hfz11_1:=Yf Xp.out 1;have hfz11_2:=Yf Xp.out 2;have p230:0≤(Zn:Int):=od;have q230:Zn<(Za.length:Int):=od;obtain⟨ad230,e230,hx230_0,hx230_1,hx230_2,hx230_3⟩:=at_T50 Zh.out Zn p230 q230;cases e230;replace hx230_0:=hc HB hx230_0;replace hx230_1:=hc HB hx230_1;replace hx230_2:=hc HB hx230_2;replace hx230_3:=hc HB hx230_3;replace p230:=eq_true p230;replace q230:=eq_true q230;go_wp2;repeat(go_quiet (fail);try go_wp2)
   go_roundg k1
   case measure=>have:=HK1.out;omega
   case rel=>exact⟨(wrap64 (Xu+(wrap64 ((rd l1 Zn) * ((rd_T50 Za Zn).f3))))),(wrap64 (Zn+1)),(by first|rfl|(simp;done)|(simp[*];done)),(by first|rfl|(simp;done)|(simp[*];done)),H',⟨by have:=HK1.out;omega⟩,⟨bk Xp⟩,⟨bl⟩⟩
end P
end Go.Proofs.Ytoedkglggapggaa
