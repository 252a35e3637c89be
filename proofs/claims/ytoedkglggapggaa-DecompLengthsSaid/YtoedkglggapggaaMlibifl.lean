/- What the law's row needs of these texts, taken out of them by wip/tool/mini.py: QSortRow QAt QEndsLaw QRightOf QWayFact QArcsLaw QCycLaw QFillMem QFillWalk QSplitMem QTakeWalk QCycWalk QBegunWalk QCheckRef QSplitDef QCheapLaw QFromWalk QCostLaw QByLaw QSpanRun QWorthLaw QSplitWalk P83 P85 P86 P87. -/
import Derived.Test.YtoedkglggapggaaMgjaola
import Derived.Test.YtoedkglggapggaaMejgebm
import Derived.Deep.RegionHeld3
import Derived.Deep.DeepCutAuto
import Derived.Laws.IdiomCopy
import Derived.Lib.SliceRun
import Derived.Test.YtoedkglggapggaaProg
import Derived.RegionTactic
import Derived.ChangeAlike
import Derived.BigRegion
import Derived.LoopTactic
import Derived.WalkKit
import Derived.WalkMore
import Derived.Test.YtoedkglggapggaaVhpaoob
set_option linter.unusedVariables false
set_option linter.unusedSimpArgs false
open Go.RowKit Go.Proofs.YtoedkglggapggaaW.PrintWords Go.Proofs.YtoedkglggapggaaW.PrintLast Go.Proofs.YtoedkglggapggaaW.PrintMore
namespace Go.Proofs.Ytoedkglggapggaa
namespace H
open P
theorem stL_nil {l:List S50} {n:Nat} {v:Int} (hv0:0≤v) (hv:v<n) (hE:ends l n) (h:stepsU l n v=[]):stL l v l.length=[]:=by
 refine List.eq_nil_iff_forall_not_mem.2 fun s hs=> ?_
 have:=(mem_stepsU l n v hv0 hv hE s).2 ((mem_stL l v l.length s).1 hs);rw[h] at this;cases this
theorem row_step (P:List S79) (L:List Int) (b:Bool) (j:Nat) (hj:j<L.length):P ++ (L.take (j+1)).map (fun i=>(⟨i,b⟩:S79))=(P ++ (L.take j).map (fun i=>(⟨i,b⟩:S79))) ++ [⟨rd L (j:Int),b⟩]:=by
 have e:L.take (j+1)=L.take j ++ [rd L (j:Int)]:=by
  rw[List.take_add_one,List.getElem?_eq_getElem hj];show _ ++ [L[j]]=_ ++ [L.getD (j:Int).toNat 0];rw[Int.toNat_natCast,List.getD_eq_getElem?_getD,List.getElem?_eq_getElem hj];rfl
 rw[e,List.map_append,List.append_assoc];rfl
theorem sort_row {w:World} {base go n co k N:Nat} {l:List S50} {X:List (List S79)} {oki:Nat→Prop} {A:Option Addr} {cr:Nat} {RW:List S79}
  (hH:Kd.H (Kd.slice 79 k79) 67 w base (fun _=>True) (.slice (some ⟨go,0,none⟩) n co) X (k:Int) oki [.slice A RW.length cr])
  (hR:Kd.R k79 79 w base oki (.slice A RW.length cr) RW) (hRW:RW=stepsU l N (k:Int)) (hk:k<N) (hE:ends l N) (hl:l.length≤1000000) (hlen:RW.length≤1000000):
  Calls Try.prog 85 #[.slice A RW.length cr, .func (.func 86) #[] #[]] w fun e w'=>e= .returned (.tuple #[])∧
   ∃ v:Value,w.grownBy w' v.ownBlock∧(∀ g,v.ownBlock=some g→base≤g∧ ∃ cells,w.heap[g]? =some (.cells cells 79 (0,0)))∧Kd.S (Kd.slice 79 k79) 67 w' base (fun _=>True) (.slice (some ⟨go,0,none⟩) n co) (X.set k (stL l k l.length)):=by
 have hk0:0≤(k:Int):=by omega
 have hkn:(k:Int)<N:=by omega
 by_cases hp:0<RW.length
 ·obtain⟨g,cap,e,hb,_,cells,hcl⟩:=Kd.R_form hR hp
  injection e with e1 _ e3
  subst e1;subst e3;have hA:=arr_of_R hR hp;refine(sortStable_calls g RW.length cr (fun i=>RW.getD i z79) w hA hlen ?_ ?_).mono ?_
  ·rw[hRW];exact stab_of_list (stab_stepsU l N (k:Int) hk0 hkn hE)
  ·rw[hRW];exact small_steps hk0 hkn hE hl
  ·rintro e w' ⟨rfl,⟨K,hK,hs⟩,hf⟩
   refine⟨rfl, .slice (some ⟨g,0,none⟩) RW.length cr,hf.1,fun g' hg'=> ?_,?_⟩
   ·have:g=g':=by simpa [Value.ownBlock] using hg'
    subst this;exact⟨hb,cells,hcl⟩
   ·have hoki:oki g:=hR.1 g rfl
    have hR':=R_of_arr hR rfl hp hK hf hoki;have hst:(List.range RW.length).map K=stL l k l.length:=by rw[hRW] at hs ⊢;exact sorted_is hk0 hkn hE hs
    rw[hst] at hR';have hS:=Kd.H_back (Kd.H_grown hH hf.1 (fun q hq=>by injection hq with hq;subst hq;exact hoki)) (x':=stL l k l.length) ⟨_,rfl,hR'⟩ (fun _ hk=>hk);rw[Int.toNat_natCast] at hS;exact hS
 ·have h0:RW=[]:=List.eq_nil_of_length_eq_zero (by omega)
  have hst:stL l k l.length=[]:=stL_nil hk0 hkn hE (by rw[← hRW];exact h0);subst h0;refine(sortStable_nil A cr _ w).mono ?_;rintro e w' ⟨rfl,rfl⟩;refine⟨rfl, .slice none 0 0,World.grownBy.refl _ _,fun g' hg'=>by simp[Value.ownBlock] at hg',?_⟩;rw[hst];have hS:=Kd.H_back hH (x':=([]:List S79)) ⟨_,rfl,hR⟩ (fun _ hk=>hk);rw[Int.toNat_natCast] at hS;exact hS
end H
namespace H
open Go.RowKit Go.Proofs.YtoedkglggapggaaW.PrintWords Go.Proofs.YtoedkglggapggaaW.PrintLast Go.Proofs.YtoedkglggapggaaW.PrintMore P
theorem infoRowS:(Try.prog.info? 67).map (fun i=>(i.zero,i.size,i.bytes))=some (some (.slice none 0 0),1,24):=by kernel_rfl
set_option maxHeartbeats 2000000 in
set_option maxRecDepth 100000 in
theorem at_calls (n0:Nat) (a0_1:Bool) (A0_2:Option Addr) (c0_2:Nat) (l0_2:List S50) (A1:Option Addr) (c1 n1:Nat) (w:World) (hr0_2:Kd.C k50 w A0_2 l0_2.length l0_2) (hc0_2:l0_2.length≤c0_2) (h0:0≤(n0:Int)) (h1:(n0:Int)≤1000000) (hl:l0_2.length≤500000) (hE0: ∀ k:Nat,k<l0_2.length→0≤eFrom (rd_T50 l0_2 k)∧eFrom (rd_T50 l0_2 k)<(n0:Int)) (hE1: ∀ k:Nat,k<l0_2.length→0≤eTo (rd_T50 l0_2 k)∧eTo (rd_T50 l0_2 k)<(n0:Int)):
  Calls Try.prog 68 #[.agg #[.int .i64 (n0:Int), .bool a0_1, .slice A0_2 l0_2.length c0_2], .slice A1 n1 c1] w fun e w'=> ∃ v0_:Value,e= .returned (.agg #[.int .i64 (n0:Int), .bool a0_1, .slice A0_2 l0_2.length c0_2, .slice A1 n1 c1,v0_])∧Kd.S (Kd.slice 79 k79) 67 w' w.heap.size (fun _=>True) v0_ (rowsAt l0_2 n0 n0)∧Below w.heap.size w w':=by
 have hu24:=Try.underlying24;have hu118:=Try.underlying107;have HR0_2:=Aside0.mk hr0_2;have HC0_2:=Aside0.mk hc0_2;have HH0:=Aside0.mk h0;have HH1:=Aside0.mk h1;have HE0:=Aside0.mk hE0;have HE1:=Aside0.mk hE1;have HR0:=Aside0.mk hr0_2;clear hr0_2 hc0_2 h0 h1 hE0 hE1;have HB:=Aside0.mk (Below.refl w.heap.size w);go_enter Try.func68,Try.ntmps68;go_wp2_with (first|((with_reducible refine gate_dst (N:=2) rfl ?_);refine box_event ?hg (N:=2) ?hd (cs:= #[.int .i64 (n0:Int), .bool a0_1, .slice A0_2 l0_2.length c0_2]) (t:=24) ?hr ?_;(case hd=>rfl);(case hg=>rfl);(case hr=>first|(go_simp;done)|(go_simp;rfl));intro gb111 hg w4 hbox hb;have n0_:=Aside0.mk (below_step (by repeat(first|(with_reducible first|exact HB.out|apply below_alloc|apply pw_below_drewN|apply below_drew1)|exact HB.out)) hb);have n1_:=Aside0.mk (hbox);have n2_:=Aside0.mk (Kd.C_below HR0_2.out hb);clear HB HR0_2;have HB:=n0_;have BK111:=n1_;have HR0_2:=n2_;clear n0_ n1_ n2_;clear hb hbox hg)|((with_reducible refine gate_dst (N:=4) rfl ?_);refine box_event ?hg (N:=4) ?hd (cs:= #[.int .i64 0, .bool false, .slice none 0 0, .slice none 0 0, .slice none 0 0]) (t:=107) ?hr ?_;(case hd=>rfl);(case hg=>rfl);(case hr=>first|(go_simp;done)|(go_simp;rfl));intro gb4 hg w5 hbox hb;have GE4:Aside0 (w.heap.size≤gb4):=⟨by rw[hg];exact HB.out.size⟩;have n0_:=Aside0.mk (below_step (by repeat(first|(with_reducible first|exact HB.out|apply below_alloc|apply pw_below_drewN|apply below_drew1)|exact HB.out)) hb);have n1_:=Aside0.mk (hbox);have n2_:=Aside0.mk (Kd.C_below HR0_2.out hb);have n3_:=Aside0.mk (blk_below BK111.out hb);clear HB HR0_2 BK111;have HB:=n0_;have BK4:=n1_;have HR0_2:=n2_;have BK111:=n3_;clear n0_ n1_ n2_ n3_;clear hb hbox hg)|fail);obtain⟨R0,hR0⟩: ∃ y_:List (List S79),y_=List.replicate (n0:Int).toNat []:=⟨_,rfl⟩;have NR0:=Aside0.mk hR0;clear hR0;refine start_ (n:=9) (S:=(fun w'=>w'.cell? ⟨gb111,0,none⟩=some (.int .i64 (n0:Int))∧w'.cell? ⟨gb111,1,none⟩=some (.bool a0_1)∧w'.cell? ⟨gb111,2,none⟩=some (.slice A0_2 l0_2.length c0_2))) (ds:=[]) #[false,false,false,false,false,false,false,false,false] (by kernel_rfl) rfl rfl ⟨(blk_cell BK111.out 0).trans rfl,(blk_cell BK111.out 1).trans rfl,(blk_cell BK111.out 2).trans rfl⟩ (fun hHeld=> ?_);have n0_:=Aside0.mk (below_drew HB.out);have n1_:Aside0 (w5.drew.heap[gb111]? =some (.cells #[.int .i64 (n0:Int), .bool a0_1, .slice A0_2 l0_2.length c0_2] 24 (0,0))):=⟨BK111.out⟩;have n2_:Aside0 (w5.drew.heap[gb4]? =some (.cells #[.int .i64 0, .bool false, .slice none 0 0, .slice none 0 0, .slice none 0 0] 107 (0,0))):=⟨BK4.out⟩;clear HB BK111 BK4;have HB:=n0_;have BK111:=n1_;have BK4:=n2_;clear n0_ n1_ n2_;generalize w5.drew=w6 at BK111 HB BK4 hHeld ⊢;refine pure_ (i:=1) (N:=some 14) (v:= ?_) (a':= ?_) #[false,true,false,false,false,false,false,false,false] rfl rfl (by kernel_rfl) (fun _ _ _ h=>h) (Or.inl ⟨by rfl,?_⟩) ?_ ?_
 rotate_left
 ·intro w'
  go_simp
  with_reducible rfl
 rotate_left
 ·simp only[Act.put,List.setIfInBounds_toArray,List.set_cons_zero,List.set_cons_succ,i64_w,i32_w]
  rfl
 refine pure_ (i:=3) (N:=some 16) (v:= ?_) (a':= ?_) #[false,true,false,true,false,false,false,false,false] rfl rfl (by kernel_rfl) (fun _ _ _ h=>h) (Or.inl ⟨by rfl,?_⟩) ?_ ?_
 rotate_left
 ·intro w'
  go_simp
  with_reducible rfl
 rotate_left
 ·simp only[Act.put,List.setIfInBounds_toArray,List.set_cons_zero,List.set_cons_succ,i64_w,i32_w]
  rfl
 refine take_ (i:=0) (N:=some 13) (v:= ?_) (a':= ?_) #[true,true,false,true,false,false,false,false,false] rfl rfl (by kernel_rfl) (fun _ _ _ h=>h) (Or.inl ⟨by rfl,?_⟩) hHeld ?_ ?_
 rotate_left
 ·rintro w' ⟨s0,s1,s2⟩
  go_simp
  with_reducible rfl
 rotate_left
 ·simp only[Act.put,List.setIfInBounds_toArray,List.set_cons_zero,List.set_cons_succ,i64_w,i32_w]
  rfl
 refine take_ (i:=4) (N:=some 17) (v:= ?_) (a':= ?_) #[true,true,false,true,true,false,false,false,false] rfl rfl (by kernel_rfl) (fun _ _ _ h=>h) (Or.inl ⟨by rfl,?_⟩) hHeld ?_ ?_
 rotate_left
 ·rintro w' ⟨s0,s1,s2⟩
  go_simp
  with_reducible rfl
 rotate_left
 ·simp only[Act.put,List.setIfInBounds_toArray,List.set_cons_zero,List.set_cons_succ,i64_w,i32_w]
  rfl
 refine pure_ (i:=2) (N:=some 15) (v:= ?_) (a':= ?_) #[true,true,true,true,true,false,false,false,false] rfl rfl (by kernel_rfl) (fun _ _ _ h=>h) (Or.inl ⟨by rfl,?_⟩) ?_ ?_
 rotate_left
 ·intro w'
  go_simp
  with_reducible rfl
 rotate_left
 ·simp only[Act.put,List.setIfInBounds_toArray,List.set_cons_zero,List.set_cons_succ,i64_w,i32_w]
  rfl
 refine join_ (σ:=Value × Nat) 1 #[true,true,true,true,true,true,true,true,false] (fun s_=>[(18,s_.1),(19, .agg #[.int .i64 (n0:Int), .bool a0_1, .slice A0_2 l0_2.length c0_2, .slice A1 n1 c1,s_.1]),(5, .pointer (some ⟨s_.2,0,none⟩))]) (fun s_ w'=>(w'.cell? ⟨gb111,0,none⟩=some (.int .i64 (n0:Int))∧w'.cell? ⟨gb111,1,none⟩=some (.bool a0_1)∧w'.cell? ⟨gb111,2,none⟩=some (.slice A0_2 l0_2.length c0_2))∧Kd.S (Kd.slice 79 k79) 67 w' w.heap.size (fun _=>True) s_.1 R0∧w'.heap[gb111]? =some (.cells #[.int .i64 (n0:Int), .bool a0_1, .slice A0_2 l0_2.length c0_2] 24 (0,0))∧w'.heap[s_.2]? =some (.cells #[.int .i64 0, .bool false, .slice none 0 0, .slice none 0 0, .slice none 0 0] 107 (0,0))∧w'.heap[gb4]? =some (.cells #[.int .i64 0, .bool false, .slice none 0 0, .slice none 0 0, .slice none 0 0] 107 (0,0))∧w.heap.size≤s_.2∧gb111≠s_.2∧gb4≠s_.2∧Below w.heap.size w w') ?_ ?_
 rotate_left
 ·intro hCont
  refine two_ (i:=5) (j:=7) (Ni:=some 18) (Nj:=some 5) #[true,true,true,true,true,true,false,false,false] #[true,true,true,true,true,false,false,true,false] rfl rfl rfl rfl (by kernel_rfl) (by decide) (by decide) (fun K hK=> ?_) (fun K hK=> ?_)
  ·skip
   refine Kd.S_make_step (Kd.slice 79 k79) _ 67 (by rfl) (N:=18) rfl 105 _ _ rfl (n0:Int) rfl rfl Try.underlying105 (.slice none 0 0) 24 infoRowS rfl (by decide) (by omega) [] (ok:=fun _=>True) (okp:=fun _=>True) ⟨_,rfl,Kd.R_nil _ _ _ _ _⟩ (fun _ hk=>hk) trivial HH0.out (by have:=HH1.out;omega) (Below.refl _ _) (Nat.le_refl _) ?_;intro v18 w7 ho hb _ _;rw[← NR0.out] at ho;obtain⟨Ao,co,eo⟩:=Kd.S_slice ho;subst eo;have n0_:=Aside0.mk (Kd.S_lower ho HB.out.size);have n1_:=Aside0.mk (blk_below BK111.out hb);have n2_:=Aside0.mk (blk_below BK4.out hb);have n3_:=Aside0.mk (below_step HB.out hb);clear BK111 BK4 HB ho hb;have HO:=n0_;have BK111:=n1_;have BK4:=n2_;have HB:=n3_;clear n0_ n1_ n2_ n3_;refine hK.out _ _ ⟨(blk_cell BK111.out 0).trans rfl,(blk_cell BK111.out 1).trans rfl,(blk_cell BK111.out 2).trans rfl⟩ (fun hHeld=> ?_);clear hK K;refine norm_ (a':= ?_) ?_ ?_
   rotate_left
   ·show Act.put _ (some 18) _=_
    simp only[Act.put,List.setIfInBounds_toArray,List.set_cons_zero,List.set_cons_succ,i64_w,i32_w];rfl
   refine pure_ (i:=6) (N:=some 19) (v:= ?_) (a':= ?_) #[true,true,true,true,true,true,true,false,false] rfl rfl (by kernel_rfl) (fun _ _ _ h=>h) (Or.inl ⟨by rfl,?_⟩) ?_ ?_
   rotate_left
   ·intro w'
    go_simp
    with_reducible rfl
   rotate_left
   ·simp only[Act.put,List.setIfInBounds_toArray,List.set_cons_zero,List.set_cons_succ,i64_w,i32_w]
    rfl
   refine one_ (i:=7) (N:=some 5) #[true,true,true,true,true,true,true,true,false] rfl rfl (by kernel_rfl) (by decide) (fun K hK=> ?_);refine box_step ?hg (N:=5) ?hd (cs:= #[.int .i64 0, .bool false, .slice none 0 0, .slice none 0 0, .slice none 0 0]) (t:=107) ?hr ?_;(case hd=>rfl);(case hg=>rfl);(case hr=>first|(go_simp;done)|(go_simp;rfl));intro gb5 hg w8 hbox hb;have n0_:=Aside0.mk hbox;have n1_:=Aside0.mk (blk_below BK111.out hb);have n2_:=Aside0.mk (blk_below BK4.out hb);have n3_:=Aside0.mk (below_step HB.out hb);have n5_:Aside0 (w.heap.size≤gb5):=⟨by rw[hg];exact HB.out.size⟩;have n6_:Aside0 (gb111≠gb5):=⟨by rw[hg];exact Nat.ne_of_lt (blk_lt BK111.out)⟩;have n7_:Aside0 (gb4≠gb5):=⟨by rw[hg];exact Nat.ne_of_lt (blk_lt BK4.out)⟩;have n4_:=Aside0.mk (Kd.S_below HO.out hb);clear HO;have HO:=n4_;clear n4_;clear BK111 BK4 HB hbox hb hg;have BK5:=n0_;have BK111:=n1_;have BK4:=n2_;have HB:=n3_;have GE5:=n5_;have NB111:=n6_;have NB4:=n7_;clear n0_ n1_ n2_ n3_ n5_ n6_ n7_;refine hK.out _ _ ⟨(blk_cell BK111.out 0).trans rfl,(blk_cell BK111.out 1).trans rfl,(blk_cell BK111.out 2).trans rfl⟩ (fun hHeld=> ?_);clear hK K;refine norm_ (a':= ?_) ?_ ?_
   rotate_left
   ·show Act.put _ (some 5) _=_
    simp only[Act.put,List.setIfInBounds_toArray,List.set_cons_zero,List.set_cons_succ,i64_w,i32_w];rfl
   exact norm_ (by(simp only[putAll,Act.put,List.setIfInBounds_toArray,List.set_cons_zero,List.set_cons_succ])<;>rfl) (hCont (.slice Ao R0.length co,gb5) _ ⟨hHeld,HO.out,BK111.out,BK5.out,BK4.out,GE5.out,NB111.out,NB4.out,HB.out⟩)
  ·skip
   refine box_step ?hg (N:=5) ?hd (cs:= #[.int .i64 0, .bool false, .slice none 0 0, .slice none 0 0, .slice none 0 0]) (t:=107) ?hr ?_;(case hd=>rfl);(case hg=>rfl);(case hr=>first|(go_simp;done)|(go_simp;rfl));intro gb5 hg w7 hbox hb;have n0_:=Aside0.mk hbox;have n1_:=Aside0.mk (blk_below BK111.out hb);have n2_:=Aside0.mk (blk_below BK4.out hb);have n3_:=Aside0.mk (below_step HB.out hb);have n5_:Aside0 (w.heap.size≤gb5):=⟨by rw[hg];exact HB.out.size⟩;have n6_:Aside0 (gb111≠gb5):=⟨by rw[hg];exact Nat.ne_of_lt (blk_lt BK111.out)⟩;have n7_:Aside0 (gb4≠gb5):=⟨by rw[hg];exact Nat.ne_of_lt (blk_lt BK4.out)⟩;clear BK111 BK4 HB hbox hb hg;have BK5:=n0_;have BK111:=n1_;have BK4:=n2_;have HB:=n3_;have GE5:=n5_;have NB111:=n6_;have NB4:=n7_;clear n0_ n1_ n2_ n3_ n5_ n6_ n7_;refine hK.out _ _ ⟨(blk_cell BK111.out 0).trans rfl,(blk_cell BK111.out 1).trans rfl,(blk_cell BK111.out 2).trans rfl⟩ (fun hHeld=> ?_);clear hK K;refine norm_ (a':= ?_) ?_ ?_
   rotate_left
   ·show Act.put _ (some 5) _=_
    simp only[Act.put,List.setIfInBounds_toArray,List.set_cons_zero,List.set_cons_succ,i64_w,i32_w];rfl
   refine one_ (i:=5) (N:=some 18) #[true,true,true,true,true,true,false,true,false] rfl rfl (by kernel_rfl) (by decide) (fun K hK=> ?_);refine Kd.S_make_step (Kd.slice 79 k79) _ 67 (by rfl) (N:=18) rfl 105 _ _ rfl (n0:Int) rfl rfl Try.underlying105 (.slice none 0 0) 24 infoRowS rfl (by decide) (by omega) [] (ok:=fun _=>True) (okp:=fun _=>True) ⟨_,rfl,Kd.R_nil _ _ _ _ _⟩ (fun _ hk=>hk) trivial HH0.out (by have:=HH1.out;omega) (Below.refl _ _) (Nat.le_refl _) ?_;intro v18 w8 ho hb _ _;rw[← NR0.out] at ho;obtain⟨Ao,co,eo⟩:=Kd.S_slice ho;subst eo;have n0_:=Aside0.mk (Kd.S_lower ho HB.out.size);have n1_:=Aside0.mk (blk_below BK111.out hb);have n2_:=Aside0.mk (blk_below BK4.out hb);have n3_:=Aside0.mk (below_step HB.out hb);have n4_:=Aside0.mk (blk_below BK5.out hb);clear BK5;have BK5:=n4_;clear n4_;clear BK111 BK4 HB ho hb;have HO:=n0_;have BK111:=n1_;have BK4:=n2_;have HB:=n3_;clear n0_ n1_ n2_ n3_;refine hK.out _ _ ⟨(blk_cell BK111.out 0).trans rfl,(blk_cell BK111.out 1).trans rfl,(blk_cell BK111.out 2).trans rfl⟩ (fun hHeld=> ?_);clear hK K;refine norm_ (a':= ?_) ?_ ?_
   rotate_left
   ·show Act.put _ (some 18) _=_
    simp only[Act.put,List.setIfInBounds_toArray,List.set_cons_zero,List.set_cons_succ,i64_w,i32_w];rfl
   refine pure_ (i:=6) (N:=some 19) (v:= ?_) (a':= ?_) #[true,true,true,true,true,true,true,true,false] rfl rfl (by kernel_rfl) (fun _ _ _ h=>h) (Or.inl ⟨by rfl,?_⟩) ?_ ?_
   rotate_left
   ·intro w'
    go_simp
    with_reducible rfl
   rotate_left
   ·simp only[Act.put,List.setIfInBounds_toArray,List.set_cons_zero,List.set_cons_succ,i64_w,i32_w]
    rfl
   exact norm_ (by(simp only[putAll,Act.put,List.setIfInBounds_toArray,List.set_cons_zero,List.set_cons_succ])<;>rfl) (hCont (.slice Ao R0.length co,gb5) _ ⟨hHeld,HO.out,BK111.out,BK5.out,BK4.out,GE5.out,NB111.out,NB4.out,HB.out⟩)
 rintro⟨v18,gb5⟩ w9 ⟨hHeld,h0_,h1_,h2_,h3_,h4_,h5_,h6_,h7_⟩;clear BK111 BK4 HB;have HO:=Aside0.mk h0_;clear h0_;have BK111:=Aside0.mk h1_;clear h1_;have BK5:=Aside0.mk h2_;clear h2_;have BK4:=Aside0.mk h3_;clear h3_;have GE5:=Aside0.mk h4_;clear h4_;have NB111:=Aside0.mk h5_;clear h5_;have NB4:=Aside0.mk h6_;clear h6_;have HB:=Aside0.mk h7_;clear h7_;obtain⟨Ao,co,eo⟩:=Kd.S_slice HO.out;dsimp only at eo HO BK5 GE5 NB111 NB4;subst eo;refine norm_ (a':= ?_) ?_ ?_
 rotate_left
 ·simp only[putAll,Act.put,List.setIfInBounds_toArray,List.set_cons_zero,List.set_cons_succ]
  rfl
 refine one_ (i:=8) (N:=none) #[true,true,true,true,true,true,true,true,true] rfl rfl (by kernel_rfl) (by decide) (fun K hK=> ?_);have hs0:w9.cell? ⟨gb5,0,none⟩=some (.int .i64 0):=(blk_cell BK5.out 0).trans rfl;have hfs0:=blk_frozen BK5.out 0;have hs1:w9.cell? ⟨gb5,1,none⟩=some (.bool false):=(blk_cell BK5.out 1).trans rfl;have hfs1:=blk_frozen BK5.out 1;have hs2:w9.cell? ⟨gb5,2,none⟩=some (.slice none 0 0):=(blk_cell BK5.out 2).trans rfl;have hfs2:=blk_frozen BK5.out 2;have hs3:w9.cell? ⟨gb5,3,none⟩=some (.slice none 0 0):=(blk_cell BK5.out 3).trans rfl;have hfs3:=blk_frozen BK5.out 3;have hs4:w9.cell? ⟨gb5,4,none⟩=some (.slice none 0 0):=(blk_cell BK5.out 4).trans rfl;have hfs4:=blk_frozen BK5.out 4;have n0_:Aside0 ((((((w9.setCell ⟨gb5,0,none⟩ (.int .i64 (n0:Int))).setCell ⟨gb5,1,none⟩ (.bool a0_1)).setCell ⟨gb5,2,none⟩ (.slice A0_2 l0_2.length c0_2)).setCell ⟨gb5,3,none⟩ (.slice A1 n1 c1)).setCell ⟨gb5,4,none⟩ (.slice Ao R0.length co)).heap[gb5]? =some (.cells #[.int .i64 (n0:Int), .bool a0_1, .slice A0_2 l0_2.length c0_2, .slice A1 n1 c1, .slice Ao R0.length co] 107 (0,0))):=⟨by
  refine blk_put (cs:= #[.int .i64 (n0:Int), .bool a0_1, .slice A0_2 l0_2.length c0_2, .slice A1 n1 c1, .slice none 0 0]) ?_ 4 _ rfl;refine blk_put (cs:= #[.int .i64 (n0:Int), .bool a0_1, .slice A0_2 l0_2.length c0_2, .slice none 0 0, .slice none 0 0]) ?_ 3 _ rfl;refine blk_put (cs:= #[.int .i64 (n0:Int), .bool a0_1, .slice none 0 0, .slice none 0 0, .slice none 0 0]) ?_ 2 _ rfl;refine blk_put (cs:= #[.int .i64 (n0:Int), .bool false, .slice none 0 0, .slice none 0 0, .slice none 0 0]) ?_ 1 _ rfl;refine blk_put (cs:= #[.int .i64 0, .bool false, .slice none 0 0, .slice none 0 0, .slice none 0 0]) ?_ 0 _ rfl;exact BK5.out⟩
 have n1_:Aside0 ((((((w9.setCell ⟨gb5,0,none⟩ (.int .i64 (n0:Int))).setCell ⟨gb5,1,none⟩ (.bool a0_1)).setCell ⟨gb5,2,none⟩ (.slice A0_2 l0_2.length c0_2)).setCell ⟨gb5,3,none⟩ (.slice A1 n1 c1)).setCell ⟨gb5,4,none⟩ (.slice Ao R0.length co)).heap[gb111]? =some (.cells #[.int .i64 (n0:Int), .bool a0_1, .slice A0_2 l0_2.length c0_2] 24 (0,0))):=⟨by
  refine blk_far ?_ NB111.out _;refine blk_far ?_ NB111.out _;refine blk_far ?_ NB111.out _;refine blk_far ?_ NB111.out _;refine blk_far ?_ NB111.out _;exact BK111.out⟩
 have n2_:Aside0 ((((((w9.setCell ⟨gb5,0,none⟩ (.int .i64 (n0:Int))).setCell ⟨gb5,1,none⟩ (.bool a0_1)).setCell ⟨gb5,2,none⟩ (.slice A0_2 l0_2.length c0_2)).setCell ⟨gb5,3,none⟩ (.slice A1 n1 c1)).setCell ⟨gb5,4,none⟩ (.slice Ao R0.length co)).heap[gb4]? =some (.cells #[.int .i64 0, .bool false, .slice none 0 0, .slice none 0 0, .slice none 0 0] 107 (0,0))):=⟨by
  refine blk_far ?_ NB4.out _;refine blk_far ?_ NB4.out _;refine blk_far ?_ NB4.out _;refine blk_far ?_ NB4.out _;refine blk_far ?_ NB4.out _;exact BK4.out⟩
 have n3_:Aside0 (Kd.S (Kd.slice 79 k79) 67 (((((w9.setCell ⟨gb5,0,none⟩ (.int .i64 (n0:Int))).setCell ⟨gb5,1,none⟩ (.bool a0_1)).setCell ⟨gb5,2,none⟩ (.slice A0_2 l0_2.length c0_2)).setCell ⟨gb5,3,none⟩ (.slice A1 n1 c1)).setCell ⟨gb5,4,none⟩ (.slice Ao R0.length co)) w.heap.size (fun _=>True) (.slice Ao R0.length co) R0):=⟨Kd.S_mono (Kd.S_far (p:=⟨gb5,4,none⟩) (Kd.S_far (p:=⟨gb5,3,none⟩) (Kd.S_far (p:=⟨gb5,2,none⟩) (Kd.S_far (p:=⟨gb5,1,none⟩) (Kd.S_far (p:=⟨gb5,0,none⟩) (Kd.S_types HO.out BK5.out (by decide)) (fun _ hk=>hk.2) (.int .i64 (n0:Int))) (fun _ hk=>hk.2) (.bool a0_1)) (fun _ hk=>hk.2) (.slice A0_2 l0_2.length c0_2)) (fun _ hk=>hk.2) (.slice A1 n1 c1)) (fun _ hk=>hk.2) (.slice Ao R0.length co)) (fun _ _=>trivial)⟩;have n4_:Aside0 (Below w.heap.size w (((((w9.setCell ⟨gb5,0,none⟩ (.int .i64 (n0:Int))).setCell ⟨gb5,1,none⟩ (.bool a0_1)).setCell ⟨gb5,2,none⟩ (.slice A0_2 l0_2.length c0_2)).setCell ⟨gb5,3,none⟩ (.slice A1 n1 c1)).setCell ⟨gb5,4,none⟩ (.slice Ao R0.length co))):=⟨by repeat(first|exact HB.out|refine below_set ?_ GE5.out)⟩;refine skip_ (w1:=(((((w9.setCell ⟨gb5,0,none⟩ (.int .i64 (n0:Int))).setCell ⟨gb5,1,none⟩ (.bool a0_1)).setCell ⟨gb5,2,none⟩ (.slice A0_2 l0_2.length c0_2)).setCell ⟨gb5,3,none⟩ (.slice A1 n1 c1)).setCell ⟨gb5,4,none⟩ (.slice Ao R0.length co))) (by rfl) rfl ?_ ?_
 ·go_simp
 clear hs0 hfs0 hs1 hfs1 hs2 hfs2 hs3 hfs3 hs4 hfs4;refine hK.out _ _ ⟨(blk_cell n1_.out 0).trans rfl,(blk_cell n1_.out 1).trans rfl,(blk_cell n1_.out 2).trans rfl⟩ (fun hHeld=> ?_);clear hK K BK5 BK111 BK4 HO HB hHeld;have BK5:=n0_;have BK111:=n1_;have BK4:=n2_;have HO:=n3_;have HB:=n4_;clear n0_ n1_ n2_ n3_ n4_;refine done_ (by kernel_rfl) ?_;generalize (((((w9.setCell ⟨gb5,0,none⟩ (.int .i64 (n0:Int))).setCell ⟨gb5,1,none⟩ (.bool a0_1)).setCell ⟨gb5,2,none⟩ (.slice A0_2 l0_2.length c0_2)).setCell ⟨gb5,3,none⟩ (.slice A1 n1 c1)).setCell ⟨gb5,4,none⟩ (.slice Ao R0.length co))=w10 at BK5 BK111 BK4 HO HB ⊢;go_wp2_with fail;refine start_ (n:=6) (S:=(fun w'=>w'.cell? ⟨gb111,0,none⟩=some (.int .i64 (n0:Int))∧w'.cell? ⟨gb111,1,none⟩=some (.bool a0_1)∧w'.cell? ⟨gb111,2,none⟩=some (.slice A0_2 l0_2.length c0_2))) (ds:=[]) #[false,false,false,false,false,false] (by kernel_rfl) rfl rfl ⟨(blk_cell BK111.out 0).trans rfl,(blk_cell BK111.out 1).trans rfl,(blk_cell BK111.out 2).trans rfl⟩ (fun hHeld=> ?_);have n0_:=Aside0.mk (below_drew HB.out);have n1_:Aside0 (w10.drew.heap[gb111]? =some (.cells #[.int .i64 (n0:Int), .bool a0_1, .slice A0_2 l0_2.length c0_2] 24 (0,0))):=⟨BK111.out⟩;have n2_:Aside0 (w10.drew.heap[gb4]? =some (.cells #[.int .i64 0, .bool false, .slice none 0 0, .slice none 0 0, .slice none 0 0] 107 (0,0))):=⟨BK4.out⟩;have n3_:Aside0 (w10.drew.heap[gb5]? =some (.cells #[.int .i64 (n0:Int), .bool a0_1, .slice A0_2 l0_2.length c0_2, .slice A1 n1 c1, .slice Ao R0.length co] 107 (0,0))):=⟨BK5.out⟩;have n4_:=Aside0.mk (Kd.S_drew HO.out);clear HB BK111 BK4 BK5 HO;have HB:=n0_;have BK111:=n1_;have BK4:=n2_;have BK5:=n3_;have HO:=n4_;clear n0_ n1_ n2_ n3_ n4_;generalize w10.drew=w11 at BK111 HB BK4 BK5 HO hHeld ⊢;refine take_ (i:=0) (N:=some 20) (v:= ?_) (a':= ?_) #[true,false,false,false,false,false] rfl rfl (by kernel_rfl) (fun _ _ _ h=>h) (Or.inl ⟨by rfl,?_⟩) hHeld ?_ ?_
 rotate_left
 ·rintro w' ⟨s0,s1,s2⟩
  go_simp
  with_reducible rfl
 rotate_left
 ·simp only[Act.put,List.setIfInBounds_toArray,List.set_cons_zero,List.set_cons_succ,i64_w,i32_w]
  rfl
 refine take_ (i:=2) (N:=some 22) (v:= ?_) (a':= ?_) #[true,false,true,false,false,false] rfl rfl (by kernel_rfl) (fun _ _ _ h=>h) (Or.inl ⟨by rfl,?_⟩) hHeld ?_ ?_
 rotate_left
 ·rintro w' ⟨s0,s1,s2⟩
  go_simp
  with_reducible rfl
 rotate_left
 ·simp only[Act.put,List.setIfInBounds_toArray,List.set_cons_zero,List.set_cons_succ,i64_w,i32_w]
  rfl
 refine one_ (i:=1) (N:=some 21) #[true,true,true,false,false,false] rfl rfl (by kernel_rfl) (by decide) (fun K hK=> ?_);refine goes_ Try.func83 (by kernel_rfl) rfl #[.agg #[.int .i64 (n0:Int), .bool a0_1, .slice A0_2 l0_2.length c0_2]] (by rfl) rfl rfl (by(try simp only[List.map_toArray,List.map_cons,List.map_nil]);first|done|rfl) ?_
 refine(leaving_calls (n0:Int) a0_1 A0_2 c0_2 l0_2 _ (Kd.C_below HR0.out HB.out) HC0_2.out HH0.out HH1.out (by omega) HE0.out).mono ?_;rintro e w12 ⟨v21,rfl,hS,hb⟩;refine⟨_,rfl,?_⟩;have n0_:=Aside0.mk (below_step HB.out hb);have n1_:=Aside0.mk (blk_below BK111.out hb);have n2_:=Aside0.mk (blk_below BK4.out hb);have n3_:=Aside0.mk (blk_below BK5.out hb);have n4_:=Aside0.mk (Kd.S_below HO.out hb);have n5_:=Aside0.mk (Kd.S_lower hS HB.out.size);clear HB BK111 BK4 BK5 HO hS hb;have HB:=n0_;have BK111:=n1_;have BK4:=n2_;have BK5:=n3_;have HO:=n4_;have Hv21:=n5_;clear n0_ n1_ n2_ n3_ n4_ n5_;obtain⟨Av21,cv21,ev21⟩:=Kd.S_slice Hv21.out;subst ev21;refine hK.out _ _ ⟨(blk_cell BK111.out 0).trans rfl,(blk_cell BK111.out 1).trans rfl,(blk_cell BK111.out 2).trans rfl⟩ (fun hHeld=> ?_);clear hK K;refine norm_ (a':= ?_) ?_ ?_
 rotate_left
 ·show Act.put _ (some 21) _=_
  simp only[Act.put,List.setIfInBounds_toArray,List.set_cons_zero,List.set_cons_succ,i64_w,i32_w];rfl
 refine one_ (i:=3) (N:=some 23) #[true,true,true,true,false,false] rfl rfl (by kernel_rfl) (by decide) (fun K hK=> ?_);refine goes_ Try.func84 (by kernel_rfl) rfl #[.agg #[.int .i64 (n0:Int), .bool a0_1, .slice A0_2 l0_2.length c0_2]] (by rfl) rfl rfl (by(try simp only[List.map_toArray,List.map_cons,List.map_nil]);first|done|rfl) ?_
 refine(coming_calls (n0:Int) a0_1 A0_2 c0_2 l0_2 _ (Kd.C_below HR0.out HB.out) HC0_2.out HH0.out HH1.out (by omega) HE1.out).mono ?_;rintro e w13 ⟨v23,rfl,hS,hb⟩;refine⟨_,rfl,?_⟩;have n0_:=Aside0.mk (below_step HB.out hb);have n1_:=Aside0.mk (blk_below BK111.out hb);have n2_:=Aside0.mk (blk_below BK4.out hb);have n3_:=Aside0.mk (blk_below BK5.out hb);have n4_:=Aside0.mk (Kd.S_below HO.out hb);have n5_:=Aside0.mk (Kd.S_lower hS HB.out.size);have m_:=Aside0.mk (Kd.S_below Hv21.out hb);clear Hv21;have Hv21:=m_;clear m_;clear HB BK111 BK4 BK5 HO hS hb;have HB:=n0_;have BK111:=n1_;have BK4:=n2_;have BK5:=n3_;have HO:=n4_;have Hv23:=n5_;clear n0_ n1_ n2_ n3_ n4_ n5_;obtain⟨Av23,cv23,ev23⟩:=Kd.S_slice Hv23.out;subst ev23;refine hK.out _ _ ⟨(blk_cell BK111.out 0).trans rfl,(blk_cell BK111.out 1).trans rfl,(blk_cell BK111.out 2).trans rfl⟩ (fun hHeld=> ?_);clear hK K;refine norm_ (a':= ?_) ?_ ?_
 rotate_left
 ·show Act.put _ (some 23) _=_
  simp only[Act.put,List.setIfInBounds_toArray,List.set_cons_zero,List.set_cons_succ,i64_w,i32_w];rfl
 refine pure_ (i:=4) (N:=some 6) (v:= ?_) (a':= ?_) #[true,true,true,true,true,false] rfl rfl (by kernel_rfl) (fun _ _ _ h=>h) (Or.inl ⟨by rfl,?_⟩) ?_ ?_
 rotate_left
 ·intro w'
  go_simp
  with_reducible rfl
 rotate_left
 ·simp only[Act.put,List.setIfInBounds_toArray,List.set_cons_zero,List.set_cons_succ,i64_w,i32_w]
  rfl
 refine pure_ (i:=5) (N:=some 7) (v:= ?_) (a':= ?_) #[true,true,true,true,true,true] rfl rfl (by kernel_rfl) (fun _ _ _ h=>h) (Or.inl ⟨by rfl,?_⟩) ?_ ?_
 rotate_left
 ·intro w'
  go_simp
  with_reducible rfl
 rotate_left
 ·simp only[Act.put,List.setIfInBounds_toArray,List.set_cons_zero,List.set_cons_succ,i64_w,i32_w]
  rfl
 refine done_ (by kernel_rfl) ?_;go_wp2_with fail;have HR0':Aside0 (R0=rowsAt l0_2 n0 0):=⟨by rw[NR0.out,rowsAt_zero,Int.toNat_natCast]⟩;have hlR:R0.length=n0:=by rw[HR0'.out,rowsAt_len]
 rw[hlR] at HO BK5 ⊢;rw[HR0'.out] at HO;simp only[Int.toNat_natCast] at Hv21 Hv23 ⊢;clear hHeld;obtain⟨L0,hL0⟩: ∃ L,L=lsAt eFrom l0_2 n0 l0_2.length:=⟨_,rfl⟩;obtain⟨L1,hL1⟩: ∃ L,L=lsAt eTo l0_2 n0 l0_2.length:=⟨_,rfl⟩;have hn0:L0.length=n0:=by rw[hL0,lsAt_len]
 have hn1:L1.length=n0:=by rw[hL1,lsAt_len]
 rw[← hL0,hn0] at Hv21 ⊢;rw[← hL1,hn1] at Hv23 ⊢;have HL0:=Aside0.mk hL0;have HL1:=Aside0.mk hL1;clear hL0 hL1;clear HR0' hlR HR0_2;have hn6:n0≤1000000:=by have:=HH1.out;omega
 go_loopw [26] (fun v26 w'=> ∃ k:Nat,k≤n0∧v26= .int .i64 k∧Aside0 (Kd.S (Kd.slice 79 k79) 67 w' w.heap.size (fun _=>True) (.slice Ao n0 co) (rowsAt l0_2 n0 k))∧Aside0 (w'.heap[gb111]? =some (.cells #[.int .i64 (n0:Int), .bool a0_1, .slice A0_2 l0_2.length c0_2] 24 (0,0)))∧Aside0 (w'.heap[gb4]? =some (.cells #[.int .i64 0, .bool false, .slice none 0 0, .slice none 0 0, .slice none 0 0] 107 (0,0)))∧Aside0 (w'.heap[gb5]? =some (.cells #[.int .i64 (n0:Int), .bool a0_1, .slice A0_2 l0_2.length c0_2, .slice A1 n1 c1, .slice Ao n0 co] 107 (0,0)))∧Aside0 (Kd.S (Kd.slice 3 (Kd.int .i64)) 31 w' w.heap.size (fun _=>True) (.slice Av21 n0 cv21) L0)∧Aside0 (Kd.S (Kd.slice 3 (Kd.int .i64)) 31 w' w.heap.size (fun _=>True) (.slice Av23 n0 cv23) L1)∧Aside0 (Below w.heap.size w w')) (fun v26 _=>n0 - (intOf v26).toNat)
 case atStart=>exact⟨0,Nat.zero_le _,rfl,HO,BK111,BK4,BK5,Hv21,Hv23,HB⟩
 case round=>
  clear HO BK111 BK4 BK5 Hv21 Hv23 HB;obtain⟨k,hk,rfl,HO,BK111,BK4,BK5,Hv21,Hv23,HB⟩:=hrel;by_cases hlt:k<n0
  ·have pk:0≤((k:Nat):Int):=by omega
   have qk:((k:Nat):Int)<(n0:Int):=by omega
   have c27:decide ((k:Int)<(n0:Int))=true:=decide_eq_true qk;obtain⟨ad0,AA0,cc0,e_,hx_,hl_,_⟩:=at_L5 (Kd.S_reads' Hv21.out).2.2 (k:Int) pk (by rw[hn0];omega);cases e_;obtain⟨ce_,hce_,hM_,hcc_⟩:=Kd.S_get Hv21.out [] (k:Int) pk qk;obtain⟨ve_,rfl,ge_⟩:=hM_;have hv_:=hcc_ 0 _ rfl;rw[Nat.add_zero,show ((Kd.slice 3 (Kd.int .i64))).sz=1 from rfl,Nat.mul_one] at hv_;replace hv_:=Option.some.inj (hv_.symm.trans hx_);rw[hv_] at ge_;obtain⟨LL0,hLL0⟩: ∃ L,L=rd_L5 L0 (k:Int):=⟨_,rfl⟩;have HLL0:Aside0 (Kd.R (Kd.int .i64) 3 wr w.heap.size (fun _=>True) (.slice AA0 LL0.length cc0) LL0):=⟨by rw[hLL0];exact Kd.R_mono ge_ (fun _ _=>trivial)⟩;rw[← hLL0] at hx_;simp only[Int.toNat_natCast] at hx_;have HELL0:=Aside0.mk hLL0;clear ge_ hv_ hcc_ hce_ hl_ hLL0;have hxLL0:=hx_;clear hx_;obtain⟨go,co2,eo,gbase,glt,cl,HG⟩:=Kd.S_form HO.out (by rw[rowsAt_len];omega);rw[rowsAt_len] at eo;injection eo with ea _ ec
   subst ea;subst ec;have GBO:=Aside0.mk gbase;clear gbase glt HG;have HLE0:Aside0 (LL0.length≤500000):=⟨by rw[HELL0.out,HL0.out];exact Nat.le_trans (lsAt_row _ _ _ _ _) hl⟩;go_wp2_with fail;have hLL0:=HLE0.out;obtain⟨wo1,hwo1⟩: ∃ x_:World,x_=wr:=⟨_,rfl⟩;subst hwo1;go_loopw [34] (fun v_ w'=> ∃ j:Nat,j≤LL0.length∧v_= .int .i64 j∧Aside0 (Kd.S (Kd.slice 79 k79) 67 w' w.heap.size (fun _=>True) (.slice (some ⟨go,0,none⟩) n0 co) ((rowsAt l0_2 n0 k).set k (([]:List S79) ++ (LL0.take j).map (fun i=>(⟨i,false⟩:S79)))))∧Aside0 (w'.heap[gb111]? =some (.cells #[.int .i64 (n0:Int), .bool a0_1, .slice A0_2 l0_2.length c0_2] 24 (0,0)))∧Aside0 (w'.heap[gb4]? =some (.cells #[.int .i64 0, .bool false, .slice none 0 0, .slice none 0 0, .slice none 0 0] 107 (0,0)))∧Aside0 (w'.heap[gb5]? =some (.cells #[.int .i64 (n0:Int), .bool a0_1, .slice A0_2 l0_2.length c0_2, .slice A1 n1 c1, .slice (some ⟨go,0,none⟩) n0 co] 107 (0,0)))∧Aside0 (Kd.S (Kd.slice 3 (Kd.int .i64)) 31 w' w.heap.size (fun _=>True) (.slice (some ad0) n0 cv21) L0)∧Aside0 (Kd.S (Kd.slice 3 (Kd.int .i64)) 31 w' w.heap.size (fun _=>True) (.slice Av23 n0 cv23) L1)∧Aside0 (Kd.R (Kd.int .i64) 3 w' w.heap.size (fun _=>True) (.slice AA0 LL0.length cc0) LL0)∧Aside0 (Below w.heap.size w w')) (fun v_ _=>LL0.length - (intOf v_).toNat)
   case atStart=>exact⟨0,Nat.zero_le _,rfl,⟨by rw[List.take_zero,List.map_nil,List.append_nil,rowsAt_self l0_2 n0 k hlt];exact HO.out⟩,BK111,BK4,BK5,Hv21,Hv23,HLL0,HB⟩
   case round=>
    clear HO BK111 BK4 BK5 Hv21 Hv23 HLL0 HB;obtain⟨j,hj,rfl,HO,BK111,BK4,BK5,Hv21,Hv23,HLL0,HB⟩:=hrel;by_cases hltj:j<LL0.length
    ·have pj:0≤((j:Nat):Int):=by omega
     have qj:((j:Nat):Int)<(LL0.length:Int):=by omega
     have cj:decide ((j:Int)<(LL0.length:Int))=true:=decide_eq_true qj;obtain⟨adj,eadj,hxj⟩:=Kd.at_int (Kd.R_reads' HLL0.out).2.2 (j:Int) pj qj;cases eadj;simp only[Int.toNat_natCast] at hxj;have HST:=Aside0.mk (row_step ([]:List S79) LL0 false j hltj);obtain⟨xj,hxv⟩: ∃ x_,x_=rd LL0 (j:Int):=⟨_,rfl⟩;obtain⟨RW,hRW⟩: ∃ r_,r_=(([]:List S79) ++ (LL0.take j).map (fun i=>(⟨i,false⟩:S79))):=⟨_,rfl⟩;have HRL:Aside0 (RW.length≤1000000):=⟨by rw[hRW];simp;have:=HLE0.out;omega⟩;rw[← hRW, ← hxv] at HST;obtain⟨RW2,hRW2⟩: ∃ r_,r_=(([]:List S79) ++ (LL0.take (j+1)).map (fun i=>(⟨i,false⟩:S79))):=⟨_,rfl⟩;rw[← hRW2] at HST;have HRW2:=Aside0.mk hRW2;clear hRW2;rw[← hxv] at hxj;rw[← hRW] at HO;have HRW:=Aside0.mk hRW;have HXV:=Aside0.mk hxv;clear hRW hxv;obtain⟨oki,c_,_,hM_,hcc_,_,_,hH_⟩:=Kd.S_elem HO.out [] (k:Int) pk qk;obtain⟨vr,rfl,hR_⟩:=hM_;rw[show ((rowsAt l0_2 n0 k).set k RW).getD (k:Int).toNat []=RW from rd_set (rowsAt l0_2 n0 k) k RW (by rw[rowsAt_len];exact hlt)] at hR_;obtain⟨Ar,cr,er⟩:=Kd.R_slice hR_;subst er;have hx4:=hcc_ 0 _ rfl;rw[show ((Kd.slice 79 k79)).sz=1 from rfl,Nat.mul_one,Nat.add_zero,Int.toNat_natCast] at hx4;have UU:=Aside0.mk hR_;have HH:=Aside0.mk hH_;clear hcc_ hR_ hH_;have hx5:wr.cell? ⟨gb5,4,none⟩=some (.slice (some ⟨go,0,none⟩) n0 co):=(blk_cell BK5.out 4).trans rfl;go_wp2_with fail;refine start_ (n:=14) (S:=fun w'=>w'.cell? ⟨gb5,4,none⟩=some (.slice (some ⟨go,0,none⟩) n0 co)∧w'.cell? ⟨go,k,none⟩=some (.slice Ar RW.length cr)) (ds:=[13]) #[false,false,false,false,false,false,false,false,false,false,false,false,false,false] (by kernel_rfl) rfl rfl ⟨hx5,hx4⟩ (fun hHeld=> ?_);have m0_:=Aside0.mk (below_drew HB.out);have m1_:=Aside0.mk ((show wr.drew.heap[gb111]? =_ from BK111.out));have m2_:=Aside0.mk ((show wr.drew.heap[gb4]? =_ from BK4.out));have m3_:=Aside0.mk ((show wr.drew.heap[gb5]? =_ from BK5.out));have m4_:=Aside0.mk (Kd.S_drew Hv21.out);have m5_:=Aside0.mk (Kd.S_drew Hv23.out);have m6_:=Aside0.mk (Kd.R_drew HLL0.out);have m7_:=Aside0.mk (Kd.R_drew UU.out);have m8_:=Aside0.mk (Kd.H_drew HH.out);clear HB BK111 BK4 BK5 Hv21 Hv23 HLL0 UU HH;have HB:=m0_;clear m0_;have BK111:=m1_;clear m1_;have BK4:=m2_;clear m2_;have BK5:=m3_;clear m3_;have Hv21:=m4_;clear m4_;have Hv23:=m5_;clear m5_;have HLL0:=m6_;clear m6_;have UU:=m7_;clear m7_;have HH:=m8_;clear m8_;clear HO hxj hx5 hx4;generalize wr.drew=w14 at HB BK111 BK4 BK5 Hv21 Hv23 HLL0 UU HH hHeld ⊢;refine pure_ (i:=0) (N:=some 38) (v:= ?_) (a':= ?_) #[true,false,false,false,false,false,false,false,false,false,false,false,false,false] rfl rfl (by kernel_rfl) (fun _ _ _ h=>h) (Or.inl ⟨by rfl,?_⟩) ?_ ?_
     rotate_left
     ·intro w'
      go_simp
      with_reducible rfl
     rotate_left
     ·simp only[Act.put,List.setIfInBounds_toArray,List.set_cons_zero,List.set_cons_succ,i64_w,i32_w]
      rfl
     refine pure_ (i:=2) (N:=some 40) (v:= ?_) (a':= ?_) #[true,false,true,false,false,false,false,false,false,false,false,false,false,false] rfl rfl (by kernel_rfl) (fun _ _ _ h=>h) (Or.inl ⟨by rfl,?_⟩) ?_ ?_
     rotate_left
     ·intro w'
      go_simp
      with_reducible rfl
     rotate_left
     ·simp only[Act.put,List.setIfInBounds_toArray,List.set_cons_zero,List.set_cons_succ,i64_w,i32_w]
      rfl
     refine pure_ (i:=3) (N:=some 41) (v:= ?_) (a':= ?_) #[true,false,true,true,false,false,false,false,false,false,false,false,false,false] rfl rfl (by kernel_rfl) (fun _ _ _ h=>h) (Or.inl ⟨by rfl,?_⟩) ?_ ?_
     rotate_left
     ·intro w'
      go_simp
      with_reducible rfl
     rotate_left
     ·simp only[Act.put,List.setIfInBounds_toArray,List.set_cons_zero,List.set_cons_succ,i64_w,i32_w]
      rfl
     refine pure_ (i:=5) (N:=some 43) (v:= ?_) (a':= ?_) #[true,false,true,true,false,true,false,false,false,false,false,false,false,false] rfl rfl (by kernel_rfl) (fun _ _ _ h=>h) (Or.inl ⟨by rfl,?_⟩) ?_ ?_
     rotate_left
     ·intro w'
      go_simp
      with_reducible rfl
     rotate_left
     ·simp only[Act.put,List.setIfInBounds_toArray,List.set_cons_zero,List.set_cons_succ,i64_w,i32_w]
      rfl
     refine pure_ (i:=8) (N:=some 46) (v:= ?_) (a':= ?_) #[true,false,true,true,false,true,false,false,true,false,false,false,false,false] rfl rfl (by kernel_rfl) (fun _ _ _ h=>h) (Or.inl ⟨by rfl,?_⟩) ?_ ?_
     rotate_left
     ·intro w'
      go_simp
      with_reducible rfl
     rotate_left
     ·simp only[Act.put,List.setIfInBounds_toArray,List.set_cons_zero,List.set_cons_succ,i64_w,i32_w]
      rfl
     refine pure_ (i:=9) (N:=some 47) (v:= ?_) (a':= ?_) #[true,false,true,true,false,true,false,false,true,true,false,false,false,false] rfl rfl (by kernel_rfl) (fun _ _ _ h=>h) (Or.inl ⟨by rfl,?_⟩) ?_ ?_
     rotate_left
     ·intro w'
      go_simp
      with_reducible rfl
     rotate_left
     ·simp only[Act.put,List.setIfInBounds_toArray,List.set_cons_zero,List.set_cons_succ,i64_w,i32_w]
      rfl
     refine take_ (i:=1) (N:=some 39) (v:= ?_) (a':= ?_) #[true,true,true,true,false,true,false,false,true,true,false,false,false,false] rfl rfl (by kernel_rfl) (fun _ _ _ h=>h) (Or.inl ⟨by rfl,?_⟩) hHeld ?_ ?_
     rotate_left
     ·rintro w' ⟨s0,s1⟩
      go_simp
      with_reducible rfl
     rotate_left
     ·simp only[Act.put,List.setIfInBounds_toArray,List.set_cons_zero,List.set_cons_succ,i64_w,i32_w]
      rfl
     refine take_ (i:=4) (N:=some 42) (v:= ?_) (a':= ?_) #[true,true,true,true,true,true,false,false,true,true,false,false,false,false] rfl rfl (by kernel_rfl) (fun _ _ _ h=>h) (Or.inl ⟨by rfl,?_⟩) hHeld ?_ ?_
     rotate_left
     ·rintro w' ⟨s0,s1⟩
      go_simp
      with_reducible rfl
     rotate_left
     ·simp only[Act.put,List.setIfInBounds_toArray,List.set_cons_zero,List.set_cons_succ,i64_w,i32_w]
      rfl
     refine pure_ (i:=6) (N:=some 44) (v:= ?_) (a':= ?_) #[true,true,true,true,true,true,true,false,true,true,false,false,false,false] rfl rfl (by kernel_rfl) (fun _ _ _ h=>h) (Or.inl ⟨by rfl,?_⟩) ?_ ?_
     rotate_left
     ·intro w'
      go_simp
      with_reducible rfl
     rotate_left
     ·simp only[Act.put,List.setIfInBounds_toArray,List.set_cons_zero,List.set_cons_succ,i64_w,i32_w]
      rfl
     refine take_ (i:=7) (N:=some 45) (v:= ?_) (a':= ?_) #[true,true,true,true,true,true,true,true,true,true,false,false,false,false] rfl rfl (by kernel_rfl) (fun _ _ _ h=>h) (Or.inl ⟨by rfl,?_⟩) hHeld ?_ ?_
     rotate_left
     ·rintro w' ⟨s0,s1⟩
      go_simp
      with_reducible rfl
     rotate_left
     ·simp only[Act.put,List.setIfInBounds_toArray,List.set_cons_zero,List.set_cons_succ,i64_w,i32_w]
      rfl
     refine one_ (i:=10) (N:=some 48) #[true,true,true,true,true,true,true,true,true,true,true,false,false,false] rfl rfl (by kernel_rfl) (by decide) (fun K hK=> ?_);refine value_ (w1:= ?_) (v:= ?_) (by rfl) rfl ?_ ?_
     rotate_left 2
     ·go_simp
      constructor
      ·rfl
      ·rfl
     refine hK.out _ _ ⟨(blk_cell (blk_alloc BK5.out _) 4).trans rfl,(World.cell?_alloc_lt _ _ _ (World.block_lt_of_cell? _ _ hHeld.2)).trans hHeld.2⟩ (fun hHeld2=> ?_);clear hK K hHeld2;refine norm_ (a':= ?_) ?_ ?_
     rotate_left
     ·show Act.put _ (some 48) _=_
      simp only[Act.put,List.setIfInBounds_toArray,List.set_cons_zero,List.set_cons_succ,i64_w,i32_w];rfl
     refine one_ (i:=11) (N:=some 49) #[true,true,true,true,true,true,true,true,true,true,true,true,false,false] rfl rfl (by kernel_rfl) (by decide) (fun K hK=> ?_);refine Kd.R_append_step k79 (w0:=w) w.heap.size (by rfl) (.tmp 45) (.tmp 48) 67 79 (.agg #[(.int .i64 0),(.bool false)]) 16 rfl Try.underlying67 info79 rfl (by decide) (by omega) (.slice Ar RW.length cr) RW (⟨xj,false⟩:S79) [.int .i64 xj, .bool false] (fun k_=>oki k_∨((fun _=>True)) k_∧w14.heap.size≤k_) (fun _=>False) rfl rfl ?aP (fun _ hk=>hk.elim) ?aF ?aO ?aB ?aS ?aL ?_
     (case aP=>exact k79_mkM _ _ _ (⟨xj,false⟩:S79))
     (case aF=>exact fun k_ hk=> .inr ⟨trivial,hk⟩)
     (case aO=>exact Kd.R_mono UU.out (fun _ hk=> .inl hk))
     (case aB=>exact HB.out)
     (case aS=>exact HB.out.size)
     (case aL=>have:=HRL.out;omega)
     intro v_ w16 ho hb hg hat
     clear hat
     have m0_:=Aside0.mk (blk_grown BK111.out hg (Kd.R_ne UU.out BK111.out (by decide)));have m1_:=Aside0.mk (blk_grown BK4.out hg (Kd.R_ne UU.out BK4.out (by decide)));have m2_:=Aside0.mk (blk_grown BK5.out hg (Kd.R_ne UU.out BK5.out (by decide)));have m3_:=Aside0.mk (Kd.S_over' Hv21.out (Kd.R_typed UU.out) (by decide) hg);have m4_:=Aside0.mk (Kd.S_over' Hv23.out (Kd.R_typed UU.out) (by decide) hg);have m5_:=Aside0.mk (Kd.R_over' HLL0.out (Kd.R_typed UU.out) (by decide) hg);have m6_:=Aside0.mk (Kd.H_grown (Kd.H_widen HH.out) hg (fun k_ e_=> .inl (UU.out.1 k_ e_)));have m7_:=Aside0.mk (hb);have m8_:=Aside0.mk (ho);clear BK111 BK4 BK5 Hv21 Hv23 HLL0 HH HB UU;have BK111:=m0_;clear m0_;have BK4:=m1_;clear m1_;have BK5:=m2_;clear m2_;have Hv21:=m3_;clear m3_;have Hv23:=m4_;clear m4_;have HLL0:=m5_;clear m5_;have HH:=m6_;clear m6_;have HB:=m7_;clear m7_;have UU:=m8_;clear m8_;rw[← HST.out] at UU;obtain⟨A2,c2,e2⟩:=Kd.R_slice UU.out;subst e2;obtain⟨_,_,hraw,_,_,hcc_,_⟩:=Kd.H_raw HH.out pk qk;obtain⟨_,hfr_⟩:=Kd.H_at HH.out pk qk;have hx4:=hcc_ 0 _ rfl;have hf4:=hfr_ 0;rw[show ((Kd.slice 79 k79)).sz=1 from rfl,Nat.mul_one,Nat.add_zero,Int.toNat_natCast] at hx4 hf4;have HRAW:=Aside0.mk hraw;clear hcc_ hfr_ hraw ho hb hg;refine hK.out _ _ ⟨(blk_cell BK5.out 4).trans rfl,hx4⟩ (fun hHeld=> ?_);clear hK K;refine norm_ (a':= ?_) ?_ ?_
     rotate_left
     ·show Act.put _ (some 49) _=_
      simp only[Act.put,List.setIfInBounds_toArray,List.set_cons_zero,List.set_cons_succ,i64_w,i32_w];rfl
     refine pure_ (i:=12) (N:=some 50) (v:= ?_) (a':= ?_) #[true,true,true,true,true,true,true,true,true,true,true,true,true,false] rfl rfl (by kernel_rfl) (fun _ _ _ h=>h) (Or.inl ⟨by rfl,?_⟩) ?_ ?_
     rotate_left
     ·intro w'
      go_simp
      with_reducible rfl
     rotate_left
     ·simp only[Act.put,List.setIfInBounds_toArray,List.set_cons_zero,List.set_cons_succ,i64_w,i32_w]
      rfl
     have HP:=Kd.S_seg0 HH.out pk qk (seg:=[.slice A2 RW2.length c2]) (j:=0) (show 1≤1 from by decide) (x':=RW2) (Kd.M_row UU.out) (fun _ hk=>hk);rw[show ((Kd.slice 79 k79)).sz=1 from rfl,Nat.mul_one,Nat.add_zero,Int.toNat_natCast,List.set_set] at HP;have HG2:w16.grownBy (w16.setCell ⟨go,k,none⟩ (.slice A2 RW2.length c2)) (some go):=HP.2;have HO:=Aside0.mk (show Kd.S (Kd.slice 79 k79) 67 (w16.setCell ⟨go,k,none⟩ (.slice A2 RW2.length c2)) w.heap.size (fun _=>True) (.slice (some ⟨go,0,none⟩) n0 co) ((rowsAt l0_2 n0 k).set k RW2) from HP.1);refine last_ (i:=13) (N:=none) #[true,true,true,true,true,true,true,true,true,true,true,true,true,true] rfl rfl (by kernel_rfl) (by decide) (fun K hK=> ?_);refine skip_ (w1:=w16.setCell ⟨go,k,none⟩ (.slice A2 RW2.length c2)) (by rfl) rfl ?_ ?_
     ·go_simp
     refine hK.out _ _ ?_;clear hK K;have m0_:=Aside0.mk (blk_grown BK111.out HG2 (Kd.R_ne HRAW.out BK111.out (by decide)));have m1_:=Aside0.mk (blk_grown BK4.out HG2 (Kd.R_ne HRAW.out BK4.out (by decide)));have m2_:=Aside0.mk (blk_grown BK5.out HG2 (Kd.R_ne HRAW.out BK5.out (by decide)));have m3_:=Aside0.mk (Kd.S_over' Hv21.out (Kd.R_typed HRAW.out) (by decide) HG2);have m4_:=Aside0.mk (Kd.S_over' Hv23.out (Kd.R_typed HRAW.out) (by decide) HG2);have m5_:=Aside0.mk (Kd.R_over' HLL0.out (Kd.R_typed HRAW.out) (by decide) HG2);have m6_:=Aside0.mk ((below_set HB.out GBO.out:Below w.heap.size w (w16.setCell ⟨go,k,none⟩ (.slice A2 RW2.length c2))));clear BK111 BK4 BK5 Hv21 Hv23 HLL0 HB;have BK111:=m0_;clear m0_;have BK4:=m1_;clear m1_;have BK5:=m2_;clear m2_;have Hv21:=m3_;clear m3_;have Hv23:=m4_;clear m4_;have HLL0:=m5_;clear m5_;have HB:=m6_;clear m6_;clear HP HG2 HRAW UU HH hHeld hx4 hf4;refine done_ (by kernel_rfl) ?_;generalize w16.setCell ⟨go,k,none⟩ (.slice A2 RW2.length c2)=w17 at HO BK111 BK4 BK5 Hv21 Hv23 HLL0 HB ⊢;rw[HRW2.out] at HO;clear HRW2 HST HRW;go_wp2_with fail;go_roundw
     case rel=>exact⟨j+1,by omega,by first|rfl|go_num,HO,BK111,BK4,BK5,Hv21,Hv23,HLL0,HB⟩
     case measure=>simp[intOf]<;>omega
    ·have ej:j=LL0.length:=by omega
     subst ej;rw[List.take_length] at HO;have cj:decide ((LL0.length:Int)<(LL0.length:Int))=false:=decide_eq_false (by omega);have hlenx:True:=trivial;obtain⟨ad1,AA1,cc1,e_,hx_,hl_,_⟩:=at_L5 (Kd.S_reads' Hv23.out).2.2 (k:Int) pk (by rw[hn1];omega);cases e_;obtain⟨ce_,hce_,hM_,hcc_⟩:=Kd.S_get Hv23.out [] (k:Int) pk qk;obtain⟨ve_,rfl,ge_⟩:=hM_;have hv_:=hcc_ 0 _ rfl;rw[Nat.add_zero,show ((Kd.slice 3 (Kd.int .i64))).sz=1 from rfl,Nat.mul_one] at hv_;replace hv_:=Option.some.inj (hv_.symm.trans hx_);rw[hv_] at ge_;obtain⟨LL1,hLL1⟩: ∃ L,L=rd_L5 L1 (k:Int):=⟨_,rfl⟩;have HLL1:Aside0 (Kd.R (Kd.int .i64) 3 wr w.heap.size (fun _=>True) (.slice AA1 LL1.length cc1) LL1):=⟨by rw[hLL1];exact Kd.R_mono ge_ (fun _ _=>trivial)⟩;rw[← hLL1] at hx_;simp only[Int.toNat_natCast] at hx_;have HELL1:=Aside0.mk hLL1;clear ge_ hv_ hcc_ hce_ hl_ hLL1;have hxLL1:=hx_;clear hx_;have HLE1:Aside0 (LL1.length≤500000):=⟨by rw[HELL1.out,HL1.out];exact Nat.le_trans (lsAt_row _ _ _ _ _) hl⟩;go_wp2_with fail;have hLL1:=HLE1.out;obtain⟨wo2,hwo2⟩: ∃ x_:World,x_=wr:=⟨_,rfl⟩;subst hwo2;go_loopw [57] (fun v_ w'=> ∃ j:Nat,j≤LL1.length∧v_= .int .i64 j∧Aside0 (Kd.S (Kd.slice 79 k79) 67 w' w.heap.size (fun _=>True) (.slice (some ⟨go,0,none⟩) n0 co) ((rowsAt l0_2 n0 k).set k ((([]:List S79) ++ LL0.map (fun i=>(⟨i,false⟩:S79))) ++ (LL1.take j).map (fun i=>(⟨i,true⟩:S79)))))∧Aside0 (w'.heap[gb111]? =some (.cells #[.int .i64 (n0:Int), .bool a0_1, .slice A0_2 l0_2.length c0_2] 24 (0,0)))∧Aside0 (w'.heap[gb4]? =some (.cells #[.int .i64 0, .bool false, .slice none 0 0, .slice none 0 0, .slice none 0 0] 107 (0,0)))∧Aside0 (w'.heap[gb5]? =some (.cells #[.int .i64 (n0:Int), .bool a0_1, .slice A0_2 l0_2.length c0_2, .slice A1 n1 c1, .slice (some ⟨go,0,none⟩) n0 co] 107 (0,0)))∧Aside0 (Kd.S (Kd.slice 3 (Kd.int .i64)) 31 w' w.heap.size (fun _=>True) (.slice (some ad0) n0 cv21) L0)∧Aside0 (Kd.S (Kd.slice 3 (Kd.int .i64)) 31 w' w.heap.size (fun _=>True) (.slice (some ad1) n0 cv23) L1)∧Aside0 (Kd.R (Kd.int .i64) 3 w' w.heap.size (fun _=>True) (.slice AA1 LL1.length cc1) LL1)∧Aside0 (Below w.heap.size w w')) (fun v_ _=>LL1.length - (intOf v_).toNat)
     case atStart=>exact⟨0,Nat.zero_le _,rfl,⟨by rw[List.take_zero,List.map_nil,List.append_nil];exact HO.out⟩,BK111,BK4,BK5,Hv21,Hv23,HLL1,HB⟩
     case round=>
      clear HO BK111 BK4 BK5 Hv21 Hv23 HLL1 HB;obtain⟨j,hj,rfl,HO,BK111,BK4,BK5,Hv21,Hv23,HLL1,HB⟩:=hrel;by_cases hltj:j<LL1.length
      ·have pj:0≤((j:Nat):Int):=by omega
       have qj:((j:Nat):Int)<(LL1.length:Int):=by omega
       have cj:decide ((j:Int)<(LL1.length:Int))=true:=decide_eq_true qj;obtain⟨adj,eadj,hxj⟩:=Kd.at_int (Kd.R_reads' HLL1.out).2.2 (j:Int) pj qj;cases eadj;simp only[Int.toNat_natCast] at hxj;have HST:=Aside0.mk (row_step (([]:List S79) ++ LL0.map (fun i=>(⟨i,false⟩:S79))) LL1 true j hltj);obtain⟨xj,hxv⟩: ∃ x_,x_=rd LL1 (j:Int):=⟨_,rfl⟩;obtain⟨RW,hRW⟩: ∃ r_,r_=((([]:List S79) ++ LL0.map (fun i=>(⟨i,false⟩:S79))) ++ (LL1.take j).map (fun i=>(⟨i,true⟩:S79))):=⟨_,rfl⟩;have HRL:Aside0 (RW.length≤1000000):=⟨by rw[hRW];simp;have:=HLE0.out;have:=HLE1.out;omega⟩;rw[← hRW, ← hxv] at HST;obtain⟨RW2,hRW2⟩: ∃ r_,r_=((([]:List S79) ++ LL0.map (fun i=>(⟨i,false⟩:S79))) ++ (LL1.take (j+1)).map (fun i=>(⟨i,true⟩:S79))):=⟨_,rfl⟩;rw[← hRW2] at HST;have HRW2:=Aside0.mk hRW2;clear hRW2;rw[← hxv] at hxj;rw[← hRW] at HO;have HRW:=Aside0.mk hRW;have HXV:=Aside0.mk hxv;clear hRW hxv;obtain⟨oki,c_,_,hM_,hcc_,_,_,hH_⟩:=Kd.S_elem HO.out [] (k:Int) pk qk;obtain⟨vr,rfl,hR_⟩:=hM_;rw[show ((rowsAt l0_2 n0 k).set k RW).getD (k:Int).toNat []=RW from rd_set (rowsAt l0_2 n0 k) k RW (by rw[rowsAt_len];exact hlt)] at hR_;obtain⟨Ar,cr,er⟩:=Kd.R_slice hR_;subst er;have hx4:=hcc_ 0 _ rfl;rw[show ((Kd.slice 79 k79)).sz=1 from rfl,Nat.mul_one,Nat.add_zero,Int.toNat_natCast] at hx4;have UU:=Aside0.mk hR_;have HH:=Aside0.mk hH_;clear hcc_ hR_ hH_;have hx5:wr.cell? ⟨gb5,4,none⟩=some (.slice (some ⟨go,0,none⟩) n0 co):=(blk_cell BK5.out 4).trans rfl;go_wp2_with fail;refine start_ (n:=14) (S:=fun w'=>w'.cell? ⟨gb5,4,none⟩=some (.slice (some ⟨go,0,none⟩) n0 co)∧w'.cell? ⟨go,k,none⟩=some (.slice Ar RW.length cr)) (ds:=[13]) #[false,false,false,false,false,false,false,false,false,false,false,false,false,false] (by kernel_rfl) rfl rfl ⟨hx5,hx4⟩ (fun hHeld=> ?_);have m0_:=Aside0.mk (below_drew HB.out);have m1_:=Aside0.mk ((show wr.drew.heap[gb111]? =_ from BK111.out));have m2_:=Aside0.mk ((show wr.drew.heap[gb4]? =_ from BK4.out));have m3_:=Aside0.mk ((show wr.drew.heap[gb5]? =_ from BK5.out));have m4_:=Aside0.mk (Kd.S_drew Hv21.out);have m5_:=Aside0.mk (Kd.S_drew Hv23.out);have m6_:=Aside0.mk (Kd.R_drew HLL1.out);have m7_:=Aside0.mk (Kd.R_drew UU.out);have m8_:=Aside0.mk (Kd.H_drew HH.out);clear HB BK111 BK4 BK5 Hv21 Hv23 HLL1 UU HH;have HB:=m0_;clear m0_;have BK111:=m1_;clear m1_;have BK4:=m2_;clear m2_;have BK5:=m3_;clear m3_;have Hv21:=m4_;clear m4_;have Hv23:=m5_;clear m5_;have HLL1:=m6_;clear m6_;have UU:=m7_;clear m7_;have HH:=m8_;clear m8_;clear HO hxj hx5 hx4;generalize wr.drew=w14 at HB BK111 BK4 BK5 Hv21 Hv23 HLL1 UU HH hHeld ⊢;refine pure_ (i:=0) (N:=some 61) (v:= ?_) (a':= ?_) #[true,false,false,false,false,false,false,false,false,false,false,false,false,false] rfl rfl (by kernel_rfl) (fun _ _ _ h=>h) (Or.inl ⟨by rfl,?_⟩) ?_ ?_
       rotate_left
       ·intro w'
        go_simp
        with_reducible rfl
       rotate_left
       ·simp only[Act.put,List.setIfInBounds_toArray,List.set_cons_zero,List.set_cons_succ,i64_w,i32_w]
        rfl
       refine pure_ (i:=2) (N:=some 63) (v:= ?_) (a':= ?_) #[true,false,true,false,false,false,false,false,false,false,false,false,false,false] rfl rfl (by kernel_rfl) (fun _ _ _ h=>h) (Or.inl ⟨by rfl,?_⟩) ?_ ?_
       rotate_left
       ·intro w'
        go_simp
        with_reducible rfl
       rotate_left
       ·simp only[Act.put,List.setIfInBounds_toArray,List.set_cons_zero,List.set_cons_succ,i64_w,i32_w]
        rfl
       refine pure_ (i:=3) (N:=some 64) (v:= ?_) (a':= ?_) #[true,false,true,true,false,false,false,false,false,false,false,false,false,false] rfl rfl (by kernel_rfl) (fun _ _ _ h=>h) (Or.inl ⟨by rfl,?_⟩) ?_ ?_
       rotate_left
       ·intro w'
        go_simp
        with_reducible rfl
       rotate_left
       ·simp only[Act.put,List.setIfInBounds_toArray,List.set_cons_zero,List.set_cons_succ,i64_w,i32_w]
        rfl
       refine pure_ (i:=5) (N:=some 66) (v:= ?_) (a':= ?_) #[true,false,true,true,false,true,false,false,false,false,false,false,false,false] rfl rfl (by kernel_rfl) (fun _ _ _ h=>h) (Or.inl ⟨by rfl,?_⟩) ?_ ?_
       rotate_left
       ·intro w'
        go_simp
        with_reducible rfl
       rotate_left
       ·simp only[Act.put,List.setIfInBounds_toArray,List.set_cons_zero,List.set_cons_succ,i64_w,i32_w]
        rfl
       refine pure_ (i:=8) (N:=some 69) (v:= ?_) (a':= ?_) #[true,false,true,true,false,true,false,false,true,false,false,false,false,false] rfl rfl (by kernel_rfl) (fun _ _ _ h=>h) (Or.inl ⟨by rfl,?_⟩) ?_ ?_
       rotate_left
       ·intro w'
        go_simp
        with_reducible rfl
       rotate_left
       ·simp only[Act.put,List.setIfInBounds_toArray,List.set_cons_zero,List.set_cons_succ,i64_w,i32_w]
        rfl
       refine pure_ (i:=9) (N:=some 70) (v:= ?_) (a':= ?_) #[true,false,true,true,false,true,false,false,true,true,false,false,false,false] rfl rfl (by kernel_rfl) (fun _ _ _ h=>h) (Or.inl ⟨by rfl,?_⟩) ?_ ?_
       rotate_left
       ·intro w'
        go_simp
        with_reducible rfl
       rotate_left
       ·simp only[Act.put,List.setIfInBounds_toArray,List.set_cons_zero,List.set_cons_succ,i64_w,i32_w]
        rfl
       refine take_ (i:=1) (N:=some 62) (v:= ?_) (a':= ?_) #[true,true,true,true,false,true,false,false,true,true,false,false,false,false] rfl rfl (by kernel_rfl) (fun _ _ _ h=>h) (Or.inl ⟨by rfl,?_⟩) hHeld ?_ ?_
       rotate_left
       ·rintro w' ⟨s0,s1⟩
        go_simp
        with_reducible rfl
       rotate_left
       ·simp only[Act.put,List.setIfInBounds_toArray,List.set_cons_zero,List.set_cons_succ,i64_w,i32_w]
        rfl
       refine take_ (i:=4) (N:=some 65) (v:= ?_) (a':= ?_) #[true,true,true,true,true,true,false,false,true,true,false,false,false,false] rfl rfl (by kernel_rfl) (fun _ _ _ h=>h) (Or.inl ⟨by rfl,?_⟩) hHeld ?_ ?_
       rotate_left
       ·rintro w' ⟨s0,s1⟩
        go_simp
        with_reducible rfl
       rotate_left
       ·simp only[Act.put,List.setIfInBounds_toArray,List.set_cons_zero,List.set_cons_succ,i64_w,i32_w]
        rfl
       refine pure_ (i:=6) (N:=some 67) (v:= ?_) (a':= ?_) #[true,true,true,true,true,true,true,false,true,true,false,false,false,false] rfl rfl (by kernel_rfl) (fun _ _ _ h=>h) (Or.inl ⟨by rfl,?_⟩) ?_ ?_
       rotate_left
       ·intro w'
        go_simp
        with_reducible rfl
       rotate_left
       ·simp only[Act.put,List.setIfInBounds_toArray,List.set_cons_zero,List.set_cons_succ,i64_w,i32_w]
        rfl
       refine take_ (i:=7) (N:=some 68) (v:= ?_) (a':= ?_) #[true,true,true,true,true,true,true,true,true,true,false,false,false,false] rfl rfl (by kernel_rfl) (fun _ _ _ h=>h) (Or.inl ⟨by rfl,?_⟩) hHeld ?_ ?_
       rotate_left
       ·rintro w' ⟨s0,s1⟩
        go_simp
        with_reducible rfl
       rotate_left
       ·simp only[Act.put,List.setIfInBounds_toArray,List.set_cons_zero,List.set_cons_succ,i64_w,i32_w]
        rfl
       refine one_ (i:=10) (N:=some 71) #[true,true,true,true,true,true,true,true,true,true,true,false,false,false] rfl rfl (by kernel_rfl) (by decide) (fun K hK=> ?_);refine value_ (w1:= ?_) (v:= ?_) (by rfl) rfl ?_ ?_
       rotate_left 2
       ·go_simp
        constructor
        ·rfl
        ·rfl
       refine hK.out _ _ ⟨(blk_cell (blk_alloc BK5.out _) 4).trans rfl,(World.cell?_alloc_lt _ _ _ (World.block_lt_of_cell? _ _ hHeld.2)).trans hHeld.2⟩ (fun hHeld2=> ?_);clear hK K hHeld2;refine norm_ (a':= ?_) ?_ ?_
       rotate_left
       ·show Act.put _ (some 71) _=_
        simp only[Act.put,List.setIfInBounds_toArray,List.set_cons_zero,List.set_cons_succ,i64_w,i32_w];rfl
       refine one_ (i:=11) (N:=some 72) #[true,true,true,true,true,true,true,true,true,true,true,true,false,false] rfl rfl (by kernel_rfl) (by decide) (fun K hK=> ?_);refine Kd.R_append_step k79 (w0:=w) w.heap.size (by rfl) (.tmp 68) (.tmp 71) 67 79 (.agg #[(.int .i64 0),(.bool false)]) 16 rfl Try.underlying67 info79 rfl (by decide) (by omega) (.slice Ar RW.length cr) RW (⟨xj,true⟩:S79) [.int .i64 xj, .bool true] (fun k_=>oki k_∨((fun _=>True)) k_∧w14.heap.size≤k_) (fun _=>False) rfl rfl ?aP (fun _ hk=>hk.elim) ?aF ?aO ?aB ?aS ?aL ?_
       (case aP=>exact k79_mkM _ _ _ (⟨xj,true⟩:S79))
       (case aF=>exact fun k_ hk=> .inr ⟨trivial,hk⟩)
       (case aO=>exact Kd.R_mono UU.out (fun _ hk=> .inl hk))
       (case aB=>exact HB.out)
       (case aS=>exact HB.out.size)
       (case aL=>have:=HRL.out;omega)
       intro v_ w16 ho hb hg hat
       clear hat
       have m0_:=Aside0.mk (blk_grown BK111.out hg (Kd.R_ne UU.out BK111.out (by decide)));have m1_:=Aside0.mk (blk_grown BK4.out hg (Kd.R_ne UU.out BK4.out (by decide)));have m2_:=Aside0.mk (blk_grown BK5.out hg (Kd.R_ne UU.out BK5.out (by decide)));have m3_:=Aside0.mk (Kd.S_over' Hv21.out (Kd.R_typed UU.out) (by decide) hg);have m4_:=Aside0.mk (Kd.S_over' Hv23.out (Kd.R_typed UU.out) (by decide) hg);have m5_:=Aside0.mk (Kd.R_over' HLL1.out (Kd.R_typed UU.out) (by decide) hg);have m6_:=Aside0.mk (Kd.H_grown (Kd.H_widen HH.out) hg (fun k_ e_=> .inl (UU.out.1 k_ e_)));have m7_:=Aside0.mk (hb);have m8_:=Aside0.mk (ho);clear BK111 BK4 BK5 Hv21 Hv23 HLL1 HH HB UU;have BK111:=m0_;clear m0_;have BK4:=m1_;clear m1_;have BK5:=m2_;clear m2_;have Hv21:=m3_;clear m3_;have Hv23:=m4_;clear m4_;have HLL1:=m5_;clear m5_;have HH:=m6_;clear m6_;have HB:=m7_;clear m7_;have UU:=m8_;clear m8_;rw[← HST.out] at UU;obtain⟨A2,c2,e2⟩:=Kd.R_slice UU.out;subst e2;obtain⟨_,_,hraw,_,_,hcc_,_⟩:=Kd.H_raw HH.out pk qk;obtain⟨_,hfr_⟩:=Kd.H_at HH.out pk qk;have hx4:=hcc_ 0 _ rfl;have hf4:=hfr_ 0;rw[show ((Kd.slice 79 k79)).sz=1 from rfl,Nat.mul_one,Nat.add_zero,Int.toNat_natCast] at hx4 hf4;have HRAW:=Aside0.mk hraw;clear hcc_ hfr_ hraw ho hb hg;refine hK.out _ _ ⟨(blk_cell BK5.out 4).trans rfl,hx4⟩ (fun hHeld=> ?_);clear hK K;refine norm_ (a':= ?_) ?_ ?_
       rotate_left
       ·show Act.put _ (some 72) _=_
        simp only[Act.put,List.setIfInBounds_toArray,List.set_cons_zero,List.set_cons_succ,i64_w,i32_w];rfl
       refine pure_ (i:=12) (N:=some 73) (v:= ?_) (a':= ?_) #[true,true,true,true,true,true,true,true,true,true,true,true,true,false] rfl rfl (by kernel_rfl) (fun _ _ _ h=>h) (Or.inl ⟨by rfl,?_⟩) ?_ ?_
       rotate_left
       ·intro w'
        go_simp
        with_reducible rfl
       rotate_left
       ·simp only[Act.put,List.setIfInBounds_toArray,List.set_cons_zero,List.set_cons_succ,i64_w,i32_w]
        rfl
       have HP:=Kd.S_seg0 HH.out pk qk (seg:=[.slice A2 RW2.length c2]) (j:=0) (show 1≤1 from by decide) (x':=RW2) (Kd.M_row UU.out) (fun _ hk=>hk);rw[show ((Kd.slice 79 k79)).sz=1 from rfl,Nat.mul_one,Nat.add_zero,Int.toNat_natCast,List.set_set] at HP;have HG2:w16.grownBy (w16.setCell ⟨go,k,none⟩ (.slice A2 RW2.length c2)) (some go):=HP.2;have HO:=Aside0.mk (show Kd.S (Kd.slice 79 k79) 67 (w16.setCell ⟨go,k,none⟩ (.slice A2 RW2.length c2)) w.heap.size (fun _=>True) (.slice (some ⟨go,0,none⟩) n0 co) ((rowsAt l0_2 n0 k).set k RW2) from HP.1);refine last_ (i:=13) (N:=none) #[true,true,true,true,true,true,true,true,true,true,true,true,true,true] rfl rfl (by kernel_rfl) (by decide) (fun K hK=> ?_);refine skip_ (w1:=w16.setCell ⟨go,k,none⟩ (.slice A2 RW2.length c2)) (by rfl) rfl ?_ ?_
       ·go_simp
       refine hK.out _ _ ?_;clear hK K;have m0_:=Aside0.mk (blk_grown BK111.out HG2 (Kd.R_ne HRAW.out BK111.out (by decide)));have m1_:=Aside0.mk (blk_grown BK4.out HG2 (Kd.R_ne HRAW.out BK4.out (by decide)));have m2_:=Aside0.mk (blk_grown BK5.out HG2 (Kd.R_ne HRAW.out BK5.out (by decide)));have m3_:=Aside0.mk (Kd.S_over' Hv21.out (Kd.R_typed HRAW.out) (by decide) HG2);have m4_:=Aside0.mk (Kd.S_over' Hv23.out (Kd.R_typed HRAW.out) (by decide) HG2);have m5_:=Aside0.mk (Kd.R_over' HLL1.out (Kd.R_typed HRAW.out) (by decide) HG2);have m6_:=Aside0.mk ((below_set HB.out GBO.out:Below w.heap.size w (w16.setCell ⟨go,k,none⟩ (.slice A2 RW2.length c2))));clear BK111 BK4 BK5 Hv21 Hv23 HLL1 HB;have BK111:=m0_;clear m0_;have BK4:=m1_;clear m1_;have BK5:=m2_;clear m2_;have Hv21:=m3_;clear m3_;have Hv23:=m4_;clear m4_;have HLL1:=m5_;clear m5_;have HB:=m6_;clear m6_;clear HP HG2 HRAW UU HH hHeld hx4 hf4;refine done_ (by kernel_rfl) ?_;generalize w16.setCell ⟨go,k,none⟩ (.slice A2 RW2.length c2)=w17 at HO BK111 BK4 BK5 Hv21 Hv23 HLL1 HB ⊢;rw[HRW2.out] at HO;clear HRW2 HST HRW;go_wp2_with fail;go_roundw
       case rel=>exact⟨j+1,by omega,by first|rfl|go_num,HO,BK111,BK4,BK5,Hv21,Hv23,HLL1,HB⟩
       case measure=>simp[intOf]<;>omega
      ·have ej:j=LL1.length:=by omega
       subst ej;rw[List.take_length] at HO;have cj:decide ((LL1.length:Int)<(LL1.length:Int))=false:=decide_eq_false (by omega);obtain⟨RW,hRW⟩: ∃ r_,r_=((([]:List S79) ++ LL0.map (fun i=>(⟨i,false⟩:S79))) ++ LL1.map (fun i=>(⟨i,true⟩:S79))):=⟨_,rfl⟩;have HRU:Aside0 (RW=stepsU l0_2 n0 (k:Int)):=⟨by rw[hRW,HELL0.out,HELL1.out,HL0.out,HL1.out];rfl⟩;have HRL:Aside0 (RW.length≤1000000):=⟨by rw[hRW];simp;have:=HLE0.out;have:=HLE1.out;omega⟩;rw[← hRW] at HO;clear hRW;obtain⟨oki,c_,_,hM_,hcc_,_,_,hH_⟩:=Kd.S_elem HO.out [] (k:Int) pk qk;obtain⟨vr,rfl,hR_⟩:=hM_;rw[show ((rowsAt l0_2 n0 k).set k RW).getD (k:Int).toNat []=RW from rd_set (rowsAt l0_2 n0 k) k RW (by rw[rowsAt_len];exact hlt)] at hR_;obtain⟨Ar,cr,er⟩:=Kd.R_slice hR_;subst er;have hx4:=hcc_ 0 _ rfl;rw[show ((Kd.slice 79 k79)).sz=1 from rfl,Nat.mul_one,Nat.add_zero,Int.toNat_natCast] at hx4;have UU:=Aside0.mk hR_;have HH:=Aside0.mk hH_;clear hcc_ hR_ hH_;have hx5:wr.cell? ⟨gb5,4,none⟩=some (.slice (some ⟨go,0,none⟩) n0 co):=(blk_cell BK5.out 4).trans rfl;have HEN:Aside0 (ends l0_2 n0):=⟨fun i hi=>⟨HE0.out i hi,HE1.out i hi⟩⟩;go_wp2_with (first|(go_at_call 85;refine(sort_row HH.out UU.out HRU.out hlt HEN.out (by omega) HRL.out).mono ?_;rintro e_ w20 ⟨rfl,vv,hg,hty,hS⟩;rw[List.set_set,rowsAt_set l0_2 n0 k hlt] at hS;have m0_:=Aside0.mk (blk_grown BK111.out hg (fun he=>by obtain⟨_,cells_,hc_⟩:=hty _ he.symm;have t_:=BK111.out.symm.trans hc_;simp at t_));have m1_:=Aside0.mk (blk_grown BK4.out hg (fun he=>by obtain⟨_,cells_,hc_⟩:=hty _ he.symm;have t_:=BK4.out.symm.trans hc_;simp at t_));have m2_:=Aside0.mk (blk_grown BK5.out hg (fun he=>by obtain⟨_,cells_,hc_⟩:=hty _ he.symm;have t_:=BK5.out.symm.trans hc_;simp at t_));have m3_:=Aside0.mk (Kd.S_over' (v:=vv) Hv21.out (fun k_ hk_=>(hty k_ hk_).2) (by decide) hg);have m4_:=Aside0.mk (Kd.S_over' (v:=vv) Hv23.out (fun k_ hk_=>(hty k_ hk_).2) (by decide) hg);have m5_:=Aside0.mk (HB.out.grown hg HB.out.size (fun k_ hk_=>(hty k_ hk_).1));have m6_:=Aside0.mk hS;clear hg hty hS HO BK111 BK4 BK5 Hv21 Hv23 HLL1 HB UU HH hx4 hx5;have HO:=m6_;have BK111:=m0_;have BK4:=m1_;have BK5:=m2_;have Hv21:=m3_;have Hv23:=m4_;have HB:=m5_;clear m0_ m1_ m2_ m3_ m4_ m5_ m6_)|fail);go_roundw
       case rel=>exact⟨k+1,by omega,by first|rfl|go_num,HO,BK111,BK4,BK5,Hv21,Hv23,HB⟩
       case measure=>simp[intOf]<;>omega
  ·have ek:n0=k:=by omega
   subst ek;have hx0:wr.cell? ⟨gb5,0,none⟩=some (.int .i64 (n0:Int)):=(blk_cell BK5.out 0).trans rfl;have hx1:wr.cell? ⟨gb5,1,none⟩=some (.bool a0_1):=(blk_cell BK5.out 1).trans rfl;have hx2:wr.cell? ⟨gb5,2,none⟩=some (.slice A0_2 l0_2.length c0_2):=(blk_cell BK5.out 2).trans rfl;have hx3:wr.cell? ⟨gb5,3,none⟩=some (.slice A1 n1 c1):=(blk_cell BK5.out 3).trans rfl;have hx4:wr.cell? ⟨gb5,4,none⟩=some (.slice Ao n0 co):=(blk_cell BK5.out 4).trans rfl;have hy0:wr.cell? ⟨gb4,0,none⟩=some (.int .i64 0):=(blk_cell BK4.out 0).trans rfl;have hf0:=blk_frozen BK4.out 0;have hy1:wr.cell? ⟨gb4,1,none⟩=some (.bool false):=(blk_cell BK4.out 1).trans rfl;have hf1:=blk_frozen BK4.out 1;have hy2:wr.cell? ⟨gb4,2,none⟩=some (.slice none 0 0):=(blk_cell BK4.out 2).trans rfl;have hf2:=blk_frozen BK4.out 2;have hy3:wr.cell? ⟨gb4,3,none⟩=some (.slice none 0 0):=(blk_cell BK4.out 3).trans rfl;have hf3:=blk_frozen BK4.out 3;have hy4:wr.cell? ⟨gb4,4,none⟩=some (.slice none 0 0):=(blk_cell BK4.out 4).trans rfl;have hf4:=blk_frozen BK4.out 4;have GE4':=GE4.out;go_wp2;refine bodyPost_ret (results_cell_row rfl _ _ gb4 107 #[.int .i64 (n0:Int), .bool a0_1, .slice A0_2 l0_2.length c0_2, .slice A1 n1 c1, .slice Ao n0 co] (0,0) _ rfl (by refine blk_put (cs:= #[.int .i64 (n0:Int), .bool a0_1, .slice A0_2 l0_2.length c0_2, .slice A1 n1 c1, .slice none 0 0]) ?_ 4 _ rfl;refine blk_put (cs:= #[.int .i64 (n0:Int), .bool a0_1, .slice A0_2 l0_2.length c0_2, .slice none 0 0, .slice none 0 0]) ?_ 3 _ rfl;refine blk_put (cs:= #[.int .i64 (n0:Int), .bool a0_1, .slice none 0 0, .slice none 0 0, .slice none 0 0]) ?_ 2 _ rfl;refine blk_put (cs:= #[.int .i64 (n0:Int), .bool false, .slice none 0 0, .slice none 0 0, .slice none 0 0]) ?_ 1 _ rfl;refine blk_put (cs:= #[.int .i64 0, .bool false, .slice none 0 0, .slice none 0 0, .slice none 0 0]) ?_ 0 _ rfl;exact BK4.out) Try.underlying107 rfl (by kernel_rfl)) rfl ?_;exact⟨_,rfl,Kd.S_mono (Kd.S_far (p:=⟨gb4,4,none⟩) (Kd.S_far (p:=⟨gb4,3,none⟩) (Kd.S_far (p:=⟨gb4,2,none⟩) (Kd.S_far (p:=⟨gb4,1,none⟩) (Kd.S_far (p:=⟨gb4,0,none⟩) (Kd.S_types HO.out BK4.out (by decide)) (fun _ hk=>hk.2) (.int .i64 (n0:Int))) (fun _ hk=>hk.2) (.bool a0_1)) (fun _ hk=>hk.2) (.slice A0_2 l0_2.length c0_2)) (fun _ hk=>hk.2) (.slice A1 n1 c1)) (fun _ hk=>hk.2) (.slice Ao n0 co)) (fun _ _=>trivial),by repeat(first|exact HB.out|refine below_set ?_ GE4.out)⟩
end H
namespace Q
open P
open H (endsErr)
theorem ends_ev (n:Int) (b:Bool) (l:List S50) (s t:Int):Ev (fun k=>static_Ends.f k n b l s t) (endsErr n l s t):=by
 unfold static_Ends.f endsErr;refine Ev.bind (check_ev n b l) ?_;refine Ev.ite (fun h=> ?_) (fun h=> ?_)
 ·rw[Yu h]
  refine Ev.ite (fun g=> ?_) (fun g=> ?_)
  ·exact Ev.done (by unfold mn at g;rw[Yv (by omega)])
  ·unfold mn at g
   refine Ev.ite (fun g2=> ?_) (fun g2=> ?_)
   ·exact Ev.done (by unfold mx at g2;rw[Yv (by omega)])
   ·unfold mx at g2
    refine Ev.ite (fun g3=> ?_) (fun g3=> ?_)
    ·exact Ev.done (by rw[Yv (by omega)])
    ·exact Ev.done (by rw[Yu (by omega)])
 ·rw[Yv h]
  exact Ev.now _
end Q
namespace H
open P Q
theorem right_of {n:Int} {l:List S50} {F:List Int} (h:askErr n l F=0): ∃ n0:Nat,n=n0∧Right l F n0:=by
 obtain⟨hn,hf⟩:=askErr_ok h;have h1:=hn.lo;have h2:=hn.hi;obtain⟨n0,rfl⟩: ∃ n0:Nat,n=n0:=⟨n.toNat,by omega⟩;refine⟨n0,rfl,⟨by omega,by omega,hn.len,hf.len,fun i hi=> ?_,fun i hi=> ?_⟩⟩
 ·have ha:=hn.at_ (i:=(i:Int)) (by omega) (by omega)
  exact⟨⟨ha.f0,ha.h0⟩,⟨ha.f1,ha.h1⟩⟩
 ·have ha:=hn.at_ (i:=(i:Int)) (by omega) (by omega)
  have hb:=hf.at_ i (by rw[hf.len];exact hi);rw[rd_nat] at hb;exact⟨ha.f3,ha.h3,hb.1,hb.2,ha.h2⟩
end H
namespace Q
open P
open H (wayP Right bfP dOf nodes wayL frP toP esP bfP_upto dOf_len backL backL_spec esP_fr esP_to stFrom stTo stRoom mem_esP stL_of StepOf Leads netG fds_lt dOf_mem fnd fnd_some)
theorem leads_imp {α:Type} {to_:α→Nat} {es es':Nat→List α} (h: ∀ u e,e∈es u→e∈es' u): ∀ {L:List α} {u t:Nat},Leads to_ es u L t→Leads to_ es' u L t
 |[],u,t,hl=>hl
 |e::L,u,t,hl=>⟨h _ _ hl.1,leads_imp h hl.2⟩
theorem backL_mem {fr:S79→Nat} {st:List (H.Fd S79)} {s:Nat} (k:Nat): ∀ {v:Nat} {e:S79},e∈backL fr st s k v→ ∃ x,x∈st∧x.v≠s∧x.by_=e:=by
 induction k with
 |zero=>intro v e h;cases h
 |succ k ih=>
  intro v e h;unfold backL at h;by_cases hv:v=s
  ·rw[Yu hv] at h;cases h
  ·rw[Yv hv] at h
   cases hf:fnd st v with
   |none=>rw[hf] at h;cases h
   |some x=>
    rw[hf] at h;rcases List.mem_cons.1 h with h|h
    ·obtain⟨h1,h2⟩:=fnd_some hf
     exact⟨x,h1,by omega,h.symm⟩
    ·exact ih h
section
variable {l:List S50} {F:List Int} {n s t:Nat}
theorem wayP_fact (hr:Right l F n) (hs:s<n) (hm:t∈nodes (bfP l F n s)):Leads (toP l) (fun v=>H.stL l v l.length) s (wayP l F n s t) t∧ ∀ e,e∈wayP l F n s t→(netG l F (dOf n (bfP l F n s))).adm (frP l e) e=true:=by
 have hu:=(bfP_upto hr hs).fds;obtain⟨x,hx,hxt⟩:=List.mem_map.1 hm;have hW:wayP l F n s t=(backL (frP l) (bfP l F n s) s x.lv x.v).reverse:=by rw[← hxt];exact H.way_of hr hs hu ⟨[],by rw[List.append_nil]⟩ hx
 rw[hW];constructor
 ·have h_:=(backL_spec hu esP_fr _ hx (Nat.le_refl _)).2
  rw[hxt] at h_;exact leads_imp (fun u e he=>(mem_esP.1 he).1) (by rw[hxt];exact h_)
 ·intro e he
  rw[List.mem_reverse] at he;obtain⟨y,hy,hyne,hye⟩:=backL_mem _ he;rcases hu.mem_lv hy with ⟨h1,_⟩|⟨_,hto,z,hz,hze,hlv⟩
  ·exact absurd h1 hyne
  rw[hye] at hto hze;have hfz:=esP_fr _ _ hze;have hzd:=dOf_mem hu.nodup hz (0:Int) (fds_lt hu (esP_to hr) hs _ (List.mem_map_of_mem hz));have hyd:=dOf_mem hu.nodup hy (0:Int) (fds_lt hu (esP_to hr) hs _ (List.mem_map_of_mem hy));unfold H.Net_.adm;rw[Bool.and_eq_true,decide_eq_true_eq];refine⟨?_,?_⟩
  ·show (dOf n (bfP l F n s)).getD (toP l e) 0=(dOf n (bfP l F n s)).getD (frP l e) 0+1
   rw[hto,hfz];have h1:(dOf n (bfP l F n s)).getD y.v 0=(y.lv:Int):=hyd;have h2:(dOf n (bfP l F n s)).getD z.v 0=(z.lv:Int):=hzd;omega
  ·show decide (0<stRoom l F e)=true
   exact Ys (mem_esP.1 hze).2
end
end Q
namespace H
open P Q
def leftA (l:List S50) (F:List Int):List S50:=List.zipWith (fun a x=> { a with f2:=x }) l F
abbrev zer (l:List S50):List Int:=List.replicate l.length 0
theorem leftA_len {l:List S50} {F:List Int} (h:F.length=l.length):(leftA l F).length=l.length:=by
 unfold leftA;rw[List.length_zipWith];omega
theorem rdArc_of {l:List S50} {F:List Int} (h:F.length=l.length) (i:Int):rd_T50 (leftA l F) i= { rd_T50 l i with f2:=F.getD i.toNat 0 } :=by
 unfold rd_T50 leftA;rw[List.getD_eq_getElem?_getD,List.getD_eq_getElem?_getD,List.getD_eq_getElem?_getD,List.getElem?_zipWith];by_cases hi:i.toNat<l.length
 ·rw[List.getElem?_eq_getElem hi,List.getElem?_eq_getElem (by omega)];rfl
 ·rw[List.getElem?_eq_none (by omega),List.getElem?_eq_none (by omega)];rfl
theorem stFrom_of {l:List S50} {F:List Int} (h:F.length=l.length) (s:S79):stFrom (leftA l F) s=stFrom l s:=by
 unfold stFrom eFrom eTo;rw[rdArc_of h]
theorem stTo_of {l:List S50} {F:List Int} (h:F.length=l.length) (s:S79):stTo (leftA l F) s=stTo l s:=by
 unfold stTo eFrom eTo;rw[rdArc_of h]
theorem zer_get (l:List S50) (i:Nat):(zer l).getD i 0=0:=by
 rw[List.getD_eq_getElem?_getD,List.getElem?_replicate];split<;>rfl
theorem left_right {l:List S50} {F:List Int} {n:Nat} (hr:Right l F n):Right (leftA l F) (zer l) n:=by
 have hl:=leftA_len hr.len;refine⟨hr.pos,hr.fifty,by rw[hl];exact hr.arcs,by rw[hl,List.length_replicate],fun i hi=> ?_,fun i hi=> ?_⟩
 ·rw[rdArc_of hr.len];exact hr.ends i (by omega)
 ·rw[rdArc_of hr.len,zer_get,Int.toNat_natCast]
  have:=hr.nums i (by omega);show 0≤(rd_T50 l i).f3∧(rd_T50 l i).f3≤1048576∧(0:Int)≤0∧0≤F.getD i 0∧F.getD i 0≤1048576;omega
def reach (l:List S50) (F:List Int) (n s:Nat):List Nat:=nodes (bfP (leftA l F) (zer l) n s)
def wayA (l:List S50) (F:List Int) (n s t:Nat):List S79:=wayP (leftA l F) (zer l) n s t
def arcsOf (W:List S79):List Int:=W.map fun e=>e.f0
def GoA (l:List S50):Int→List Int→Int→Prop
 |a,[],b=>a=b
 |a,i::ax,b=>(0≤i∧i<l.length)∧eFrom (rd_T50 l i)=a∧GoA l (eTo (rd_T50 l i)) ax b
theorem GoA.of {l:List S50} : ∀ {ax:List Int} {a b:Int},GoA l a ax b→ ∀ i,i∈ax→0≤i∧i<l.length
 |[],_,_,_,i,hi=>by cases hi
 |x::ax,_,_,h,i,hi=>(List.mem_cons.1 hi).elim (fun e=>e▸h.1) (h.2.2.of i)
theorem trail_go {l:List S50} : ∀ {W:List S79} {a b:Int},Trail l a W b→(∀ e,e∈W→e.f1=false)→GoA l a (arcsOf W) b
 |[],_,_,h,_=>h
 |x::W,a,b,h,hf=>by
  obtain⟨⟨i,h1,h2⟩,h3,h4⟩:=h;have hx:=hf x List.mem_cons_self;refine⟨by show 0≤x.f0∧x.f0<_;omega,?_,?_⟩
  ·unfold stFrom at h3;rw[hx] at h3;exact h3
  ·unfold stTo at h4;rw[hx] at h4;exact trail_go h4 (fun e he=>hf e (List.mem_cons_of_mem _ he))
theorem trail_of {l:List S50} {F:List Int} (h:F.length=l.length): ∀ {W:List S79} {a b:Int},Trail (leftA l F) a W b→Trail l a W b
 |[],_,_,g=>g
 |x::W,a,b,g=>by
  obtain⟨⟨i,h1,h2⟩,h3,h4⟩:=g;rw[stFrom_of h] at h3;rw[stTo_of h] at h4;exact⟨⟨i,by rw[leftA_len h] at h1;exact h1,h2⟩,h3,trail_of h h4⟩
structure Link (l:List S50) (F:List Int) (a b:Int) (ax:List Int):Prop where
 go:GoA l a ax b
 ne:ax≠[]
 pos: ∀ i,i∈ax→0<F.getD i.toNat 0
 once:ax.Pairwise fun x y=>eTo (rd_T50 l x)≠eTo (rd_T50 l y)
 mid: ∀ i,i∈ax.dropLast→eTo (rd_T50 l i)≠a
theorem rises_go {l:List S50} (lv:Int→Int): ∀ {ax:List Int} {a b:Int},GoA l a ax b→(∀ i,i∈ax→lv (eTo (rd_T50 l i))=lv (eFrom (rd_T50 l i))+1)→
  ax.Pairwise (fun x y=>lv (eTo (rd_T50 l x))<lv (eTo (rd_T50 l y)))∧(∀ i,i∈ax→lv a<lv (eTo (rd_T50 l i))∧lv (eTo (rd_T50 l i))≤lv b)∧lv a≤lv b
 |[],a,b,h,_=>by
  have h:a=b:=h;exact⟨List.Pairwise.nil,fun i hi=>(by cases hi),by rw[h];exact Int.le_refl _⟩
 |x::ax,a,b,h,hv=>by
  obtain⟨h0,rfl,h1⟩:=h;obtain⟨i1,i2,i3⟩:=rises_go lv h1 (fun i hi=>hv i (List.mem_cons_of_mem _ hi));have hx:=hv x List.mem_cons_self;refine⟨List.pairwise_cons.2 ⟨fun y hy=>(i2 y hy).1,i1⟩,fun i hi=> ?_,by omega⟩;rcases List.mem_cons.1 hi with rfl|hi
  ·omega
  ·have:=i2 i hi;omega
theorem rises_last {l:List S50} (lv:Int→Int): ∀ {ax:List Int} {a b:Int},GoA l a ax b→(∀ i,i∈ax→lv (eTo (rd_T50 l i))=lv (eFrom (rd_T50 l i))+1)→
  ∀ i,i∈ax.dropLast→lv (eTo (rd_T50 l i))<lv b
 |[],a,b,h,_=>fun i hi=>by cases hi
 |[x],a,b,h,_=>fun i hi=>by cases hi
 |x::y::ax,a,b,h,hv=>by
  obtain⟨h0,h2,h1⟩:=h;have ih:=rises_last lv h1 (fun i hi=>hv i (List.mem_cons_of_mem _ hi));intro i hi;rw[List.dropLast_cons_of_ne_nil (by simp)] at hi;rcases List.mem_cons.1 hi with rfl|hi
  ·have h3:=(rises_go lv h1 (fun i hi=>hv i (List.mem_cons_of_mem _ hi))).2.1 y List.mem_cons_self
   omega
  ·exact ih i hi
theorem way_link {l:List S50} {F:List Int} {n s t:Nat} (hr:Right l F n) (hs:s<n) (h:t∈reach l F n s):
  GoA l s (arcsOf (wayA l F n s t)) t∧(∀ i,i∈arcsOf (wayA l F n s t)→0<F.getD i.toNat 0)∧(∀ e,e∈wayA l F n s t→e.f1=false)∧
  ∃ lv:Int→Int, ∀ i,i∈arcsOf (wayA l F n s t)→lv (eTo (rd_T50 l i))=lv (eFrom (rd_T50 l i))+1:=by
 have hR:=left_right hr;obtain⟨h1,h2⟩:=Q.wayP_fact hR hs h;have h3:=trail_of hr.len (leads_trail hR (rows:=fun v=>stL (leftA l F) v (leftA l F).length) (fun _ _ g=>g) h1);have hstep:=h3.of;have hroom: ∀ e,e∈wayA l F n s t→e.f1=false∧0<F.getD e.f0.toNat 0:=by
  intro e he;have g:=Yr (adm_lv (h2 e he)).2;unfold stRoom at g;rw[rdArc_of hr.len,zer_get] at g;cases hb:e.f1
  ·rw[hb,Yv (by simp)] at g
   exact⟨rfl,by simpa using g⟩
  ·rw[hb,Yu rfl] at g
   omega
 have hf:=fun e he=>(hroom e he).1
 refine⟨trail_go h3 hf,?_,hf,fun v=>(dOf n (bfP (leftA l F) (zer l) n s)).getD v.toNat 0,?_⟩
 ·intro i hi
  obtain⟨e,he,rfl⟩:=List.mem_map.1 hi;exact(hroom e he).2
 ·intro i hi
  obtain⟨e,he,rfl⟩:=List.mem_map.1 hi;have g:=(adm_lv (h2 e he)).1;have hb:=hf e he;have g1:stTo (leftA l F) e=eTo (rd_T50 l e.f0):=by rw[stTo_of hr.len];unfold stTo;rw[hb];rfl
  have g2:stFrom (leftA l F) e=eFrom (rd_T50 l e.f0):=by rw[stFrom_of hr.len];unfold stFrom;rw[hb];rfl
  have g3:(dOf n (bfP (leftA l F) (zer l) n s)).getD (toP (leftA l F) e) 0=(dOf n (bfP (leftA l F) (zer l) n s)).getD (frP (leftA l F) e) 0+1:=g;unfold toP frP at g3;rw[g1,g2] at g3;exact g3
theorem chain_link {l:List S50} {F:List Int} {n s t:Nat} (hr:Right l F n) (hs:s<n) (hst:s≠t) (h:t∈reach l F n s):Link l F s t (arcsOf (wayA l F n s t)):=by
 obtain⟨h1,h2,_,lv,h3⟩:=way_link hr hs h;obtain⟨i1,i2,_⟩:=rises_go lv h1 h3;refine⟨h1,fun e=> ?_,h2,i1.imp fun hxy e=> ?_,fun i hi e=> ?_⟩
 ·rw[e] at h1;have h1:(s:Int)=t:=h1;omega
 ·rw[e] at hxy;omega
 ·have:=(i2 i (List.dropLast_subset _ hi)).1
  rw[e] at this;omega
theorem cycle_link {l:List S50} {F:List Int} {n:Nat} (hr:Right l F n) {i:Nat} (hi:i<l.length) (hp:0<F.getD i 0) {u v:Nat} (hu:eTo (rd_T50 l i)=u) (hv:eFrom (rd_T50 l i)=v) (huv:u≠v) (h:v∈reach l F n u):
  Link l F v v ((i:Int)::arcsOf (wayA l F n u v)):=by
 have hun:u<n:=by have:=(hr.ends i hi).2;omega
 obtain⟨h1,h2,_,lv,h3⟩:=way_link hr hun h;obtain⟨i1,i2,_⟩:=rises_go lv h1 h3;have hne:arcsOf (wayA l F n u v)≠[]:=fun e=>by rw[e] at h1;have h1:(u:Int)=v:=h1;omega
 refine⟨⟨by omega,hv,by rw[hu];exact h1⟩,by simp,fun j hj=> ?_,List.pairwise_cons.2 ⟨fun y hy e=> ?_,i1.imp fun hxy e=> ?_⟩,fun j hj e=> ?_⟩
 ·rcases List.mem_cons.1 hj with rfl|hj
  ·rw[Int.toNat_natCast];exact hp
  ·exact h2 j hj
 ·have:=(i2 y hy).1
  rw[← e,hu] at this;omega
 ·rw[e] at hxy;omega
 ·rw[List.dropLast_cons_of_ne_nil hne] at hj
  rcases List.mem_cons.1 hj with rfl|hj
  ·rw[hu] at e;omega
  ·have:=rises_last lv h1 h3 j hj
   rw[e] at this;omega
theorem loop_link {l:List S50} {F:List Int} {i:Nat} (hi:i<l.length) (hp:0<F.getD i 0) {v:Int} (hu:eTo (rd_T50 l i)=v) (hv:eFrom (rd_T50 l i)=v):Link l F v v [(i:Int)]:=
 ⟨⟨by omega,hv,hu⟩,by simp,fun j hj=>by rw[List.mem_singleton.1 hj,Int.toNat_natCast];exact hp,List.pairwise_singleton _ _,fun j hj=>by cases hj⟩
theorem Link.nodup {l:List S50} {F:List Int} {a b:Int} {ax:List Int} (h:Link l F a b ax):ax.Nodup:=h.once.imp fun g e=>g (by rw[e])
def amt (F:List Int) (ax:List Int):Int:=ax.foldl (fun k i=>min k (F.getD i.toNat 0)) (F.getD (ax.headD 0).toNat 0)
def lessA (F:List Int) (k:Int) (ax:List Int):List Int:=ax.foldl (fun F i=>F.set i.toNat (F.getD i.toNat 0 - k)) F
theorem min_fold (F:List Int): ∀ (ax:List Int) (k:Int),ax.foldl (fun k i=>min k (F.getD i.toNat 0)) k≤k∧(∀ i,i∈ax→ax.foldl (fun k i=>min k (F.getD i.toNat 0)) k≤F.getD i.toNat 0)∧
  (ax.foldl (fun k i=>min k (F.getD i.toNat 0)) k=k∨ ∃ i,i∈ax∧ax.foldl (fun k i=>min k (F.getD i.toNat 0)) k=F.getD i.toNat 0)
 |[],k=>⟨Int.le_refl _,fun i hi=>(by cases hi),Or.inl rfl⟩
 |x::ax,k=>by
  obtain⟨h1,h2,h3⟩:=min_fold F ax (min k (F.getD x.toNat 0));rw[List.foldl_cons];refine⟨by omega,fun i hi=> ?_,?_⟩
  ·rcases List.mem_cons.1 hi with rfl|hi
   ·omega
   ·exact h2 i hi
  ·rcases h3 with h3|⟨i,hi,h3⟩
   ·by_cases g:k≤F.getD x.toNat 0
    ·exact Or.inl (by omega)
    ·exact Or.inr ⟨x,List.mem_cons_self,by omega⟩
   ·exact Or.inr ⟨i,List.mem_cons_of_mem _ hi,h3⟩
theorem amt_spec {F:List Int} {ax:List Int} (h:ax≠[]):(∀ i,i∈ax→amt F ax≤F.getD i.toNat 0)∧ ∃ i,i∈ax∧amt F ax=F.getD i.toNat 0:=by
 cases ax with
 |nil=>exact absurd rfl h
 |cons x ax=>
  obtain⟨h1,h2,h3⟩:=min_fold F (x::ax) (F.getD x.toNat 0);refine⟨h2,?_⟩;rcases h3 with h3|h3
  ·exact⟨x,List.mem_cons_self,h3⟩
  ·exact h3
theorem lessA_len (k:Int): ∀ (ax:List Int) (F:List Int),(lessA F k ax).length=F.length
 |[],F=>rfl
 |x::ax,F=>(lessA_len k ax _).trans (List.length_set ..)
theorem lessA_get (k:Int) (j:Nat): ∀ (ax:List Int) (F:List Int),ax.Nodup→(∀ i,i∈ax→0≤i∧i<F.length)→(lessA F k ax).getD j 0=F.getD j 0 - (if (j:Int)∈ax then k else 0)
 |[],F,_,_=>by rw[Yv (by simp)];show F.getD j 0=_;omega
 |x::ax,F,hn,hb=>by
  rw[List.nodup_cons] at hn;have hx:=hb x List.mem_cons_self;show (lessA (F.set x.toNat (F.getD x.toNat 0 - k)) k ax).getD j 0=_;rw[lessA_get k j ax _ hn.2 (fun i hi=>by rw[List.length_set];exact hb i (List.mem_cons_of_mem _ hi))];by_cases e:x.toNat=j
  ·have e2:x=(j:Int):=by omega
   rw[e2] at hn;rw[e,getD_set_eq _ _ _ _ (by omega),Yv hn.1,Yu (by rw[e2];exact List.mem_cons_self)];omega
  ·have e2: ¬ (j:Int)=x:=by omega
   rw[getD_set_ne _ _ _ _ _ e];by_cases g:(j:Int)∈ax
   ·rw[Yu g,Yu (List.mem_cons_of_mem _ g)]
   ·rw[Yv g,Yv (fun g2=>(List.mem_cons.1 g2).elim e2 g)]
theorem bal_less {l:List S50} (k v:Int): ∀ {ax:List Int} {F:List Int} {a b:Int},F.length=l.length→GoA l a ax b→
  bal l (lessA F k ax) v=bal l F v - (if v=a then k else 0)+(if v=b then k else 0)
 |[],F,a,b,_,h=>by
  have h:a=b:=h;subst h;show bal l F v=_;omega
 |x::ax,F,a,b,hl,h=>by
  obtain⟨hx,rfl,ht⟩:=h;obtain⟨i,rfl⟩: ∃ i:Nat,x=i:=⟨x.toNat,by omega⟩;show bal l (lessA (F.set (i:Int).toNat (F.getD (i:Int).toNat 0 - k)) k ax) v=_;rw[bal_less k v (by rw[List.length_set,hl]) ht,Int.toNat_natCast,bal_set l v F i _ hl (by omega)];unfold eFrom eTo;have e1:(if v=(rd_T50 l i).f0 then k else 0)=(if (rd_T50 l i).f0=v then k else 0):=by
   by_cases e:(rd_T50 l i).f0=v
   ·rw[Yu e,Yu e.symm]
   ·rw[Yv e,Yv (Ne.symm e)]
  have e2:(if v=(rd_T50 l i).f1 then k else 0)=(if (rd_T50 l i).f1=v then k else 0):=by
   by_cases e:(rd_T50 l i).f1=v
   ·rw[Yu e,Yu e.symm]
   ·rw[Yv e,Yv (Ne.symm e)]
  rw[e1,e2];split<;>split<;>omega
def posN (F:List Int):Nat:=F.countP fun x=>decide (0<x)
theorem posN_le: ∀ {F G:List Int},F.length=G.length→(∀ j:Nat,F.getD j 0≤G.getD j 0)→posN F≤posN G∧((∃ j:Nat,F.getD j 0≤0∧0<G.getD j 0)→posN F<posN G)
 |[],[],_,_=>⟨Nat.le_refl _,fun⟨j,_,h⟩=>by simp at h⟩
 |[],_::_,h,_=>by simp at h
 |_::_,[],h,_=>by simp at h
 |x::F,y::G,h,hj=>by
  obtain⟨h1,h2⟩:=posN_le (F:=F) (G:=G) (by simpa using h) (fun j=>by simpa using hj (j+1));have h0:=hj 0;simp only[List.getD_cons_zero] at h0;have ex:posN (x::F)=posN F+(if decide (0<x)=true then 1 else 0):=List.countP_cons;have ey:posN (y::G)=posN G+(if decide (0<y)=true then 1 else 0):=List.countP_cons;rw[ex,ey];simp only[decide_eq_true_eq];refine⟨by split<;>split<;>omega,fun⟨j,g1,g2⟩=> ?_⟩;cases j with
  |zero=>
   simp only[List.getD_cons_zero] at g1 g2;rw[Yv (by omega),Yu g2];omega
  |succ j=>
   have:=h2 ⟨j,by simpa using g1,by simpa using g2⟩;split<;>split<;>omega
theorem posN_len (F:List Int):posN F≤F.length:=List.countP_le_length
structure Taken (l:List S50) (F:List Int) (n:Nat) (a b:Int) (ax:List Int):Prop where
 right:Right l (lessA F (amt F ax) ax) n
 pos:1≤amt F ax
 top:amt F ax≤1048576
 get: ∀ j:Nat,F.getD j 0=(lessA F (amt F ax) ax).getD j 0+(if (j:Int)∈ax then amt F ax else 0)
 le: ∀ j:Nat,(lessA F (amt F ax) ax).getD j 0≤F.getD j 0
 bal: ∀ v,bal l (lessA F (amt F ax) ax) v=bal l F v - (if v=a then amt F ax else 0)+(if v=b then amt F ax else 0)
 fewer:posN (lessA F (amt F ax) ax)<posN F
theorem Link.taken {l:List S50} {F:List Int} {n:Nat} (hr:Right l F n) {a b:Int} {ax:List Int} (h:Link l F a b ax):Taken l F n a b ax:=by
 obtain⟨h1,m,hm,h2⟩:=amt_spec (F:=F) h.ne;have hin:=h.go.of;have hmin:=hin m hm;have hmp:=h.pos m hm;have hget:=fun j=>lessA_get (amt F ax) j ax F h.nodup (fun i hi=>by have:=hin i hi;rw[hr.len];exact this)
 have hmn:=hr.nums m.toNat (by omega);have hp:1≤amt F ax:=by omega
 have htop:amt F ax≤1048576:=by omega
 have hle: ∀ j:Nat,(lessA F (amt F ax) ax).getD j 0≤F.getD j 0:=fun j=>by rw[hget];split<;>omega
 refine⟨⟨hr.pos,hr.fifty,hr.arcs,by rw[lessA_len];exact hr.len,hr.ends,fun i hi=> ?_⟩,hp,htop,fun j=>by rw[hget];omega,hle,fun v=>bal_less _ v hr.len h.go,?_⟩
 ·have g:=hr.nums i hi
  have g2:=hle i;have g3:0≤(lessA F (amt F ax) ax).getD i 0:=by
   rw[hget];split
   ·rename_i hj
    have:=h1 _ hj;rw[Int.toNat_natCast] at this;omega
   ·omega
  omega
 ·refine(posN_le (by rw[lessA_len]) hle).2 ⟨m.toNat,?_,hmp⟩
  rw[hget,Yu (by rw[Int.toNat_of_nonneg hmin.1];exact hm)];omega
end H
namespace H
open P Q
theorem go_len {l:List S50} {F:List Int} {n:Nat} (hr:Right l F n) {a b:Int} {ax:List Int} (h:Link l F a b ax):ax.length≤200:=by
 have h1:=pigeonN l.length (ax.map Int.toNat) (by
  refine List.pairwise_map.2 ?_;have h2:=h.go.of;refine(List.Pairwise.and_mem.1 h.nodup).imp fun {x y} hxy e=>hxy.2.2 ?_
  have:=h2 x hxy.1;have:=h2 y hxy.2.1;omega) (fun x hx=>by obtain⟨y,hy,rfl⟩:=List.mem_map.1 hx;have:=h.go.of y hy;omega)
 rw[List.length_map] at h1;have:=hr.arcs;omega
theorem wayA_len {l:List S50} {F:List Int} {n s v:Nat} (hr:Right l F n) (hs:s<n) (hne:s≠v) (h:v∈reach l F n s):(wayA l F n s v).length≤200:=by
 have h1:=go_len hr (chain_link hr hs hne h);unfold arcsOf at h1
 rwa [List.length_map] at h1
theorem wayA_le {l:List S50} {F:List Int} {n s v:Nat} (hr:Right l F n) (hs:s<n) (hne:s≠v):(wayA l F n s v).length≤200:=by
 by_cases h:v∈reach l F n s
 ·exact wayA_len hr hs hne h
 ·unfold wayA wayP
  unfold reach at h;rw[Yv h];exact Nat.zero_le _
def Rea (l:List S50) (F:List Int) (a b:Int):Prop:= ∃ ax,GoA l a ax b∧ ∀ i,i∈ax→0<F.getD i.toNat 0
theorem Rea.refl (l:List S50) (F:List Int) (a:Int):Rea l F a a:=⟨[],rfl,fun i hi=>by cases hi⟩
theorem GoA.app {l:List S50} : ∀ {ax bs:List Int} {a b c:Int},GoA l a ax b→GoA l b bs c→GoA l a (ax ++ bs) c
 |[],bs,a,b,c,h,g=>by have h:a=b:=h;rw[h];exact g
 |x::ax,bs,a,b,c,h,g=>⟨h.1,h.2.1,h.2.2.app g⟩
theorem Rea.step {l:List S50} {F:List Int} {a:Int} {i:Nat} (h:Rea l F a (eFrom (rd_T50 l i))) (hi:i<l.length) (hp:0<F.getD i 0):Rea l F a (eTo (rd_T50 l i)):=by
 obtain⟨ax,h1,h2⟩:=h;refine⟨ax ++ [(i:Int)],h1.app ⟨by omega,rfl,rfl⟩,fun j hj=> ?_⟩;rcases List.mem_append.1 hj with hj|hj
 ·exact h2 j hj
 ·rw[List.mem_singleton.1 hj,Int.toNat_natCast];exact hp
theorem Rea.mono {l:List S50} {F G:List Int} {a b:Int} (h:Rea l F a b) (hle: ∀ j:Nat,F.getD j 0≤G.getD j 0):Rea l G a b:=by
 obtain⟨ax,h1,h2⟩:=h;exact⟨ax,h1,fun i hi=>Int.lt_of_lt_of_le (h2 i hi) (hle _)⟩
theorem reach_iff {l:List S50} {F:List Int} {n s t:Nat} (hr:Right l F n) (hs:s<n):t∈reach l F n s↔Rea l F s t:=by
 constructor
 ·intro h
  obtain⟨h1,h2,_⟩:=way_link hr hs h;exact⟨_,h1,h2⟩
 ·rintro⟨ax,h1,h2⟩
  have hR:=left_right hr;have h0:sideP (leftA l F) (zer l) n s s=true:=by
   obtain⟨x,hx,hxv,_⟩:=bfP_head hR hs;exact sideP_iff.2 (List.mem_map.2 ⟨x,hx,hxv⟩)
  have key: ∀ (ax:List Int) (a b:Int),GoA l a ax b→(∀ i,i∈ax→0<F.getD i.toNat 0)→sideP (leftA l F) (zer l) n s a=true→sideP (leftA l F) (zer l) n s b=true:=by
   intro ax
   induction ax with
   |nil=>intro a b h _ h0;have h:a=b:=h;rw[← h];exact h0
   |cons x ax ih=>
    intro a b h hp h0;obtain⟨hx,rfl,ht⟩:=h;obtain⟨i,rfl⟩: ∃ i:Nat,x=i:=⟨x.toNat,by omega⟩;refine ih _ _ ht (fun i hi=>hp i (List.mem_cons_of_mem _ hi)) ?_;have g:=side_closed hR hs ⟨(i:Int),false⟩ ⟨i,by rw[leftA_len hr.len];omega,rfl⟩ ?_
    ·rw[stFrom_of hr.len,stTo_of hr.len] at g
     exact g h0
    ·have:=hp (i:Int) List.mem_cons_self
     unfold stRoom;rw[rdArc_of hr.len,zer_get];show 0<F.getD (i:Int).toNat 0 - 0;omega
  exact sideP_iff.1 (key ax _ _ h1 h2 h0)
def Acyc (l:List S50) (F:List Int):Prop:= ∀ i:Nat,i<l.length→0<F.getD i 0→ ¬ Rea l F (eTo (rd_T50 l i)) (eFrom (rd_T50 l i))
theorem Acyc.mono {l:List S50} {F G:List Int} (h:Acyc l G) (hle: ∀ j:Nat,F.getD j 0≤G.getD j 0):Acyc l F:=
 fun i hi hp g=>h i hi (Int.lt_of_lt_of_le hp (hle i)) (g.mono hle)
def T (R:Int→Bool) (l:List S50) (f:List Int) (i:Nat):Int:=(if R (rd_T50 l i).f0 then f.getD i 0 else 0) - (if R (rd_T50 l i).f1 then f.getD i 0 else 0)
theorem T_succ (R:Int→Bool) (a:S50) (l:List S50) (x:Int) (f:List Int) (i:Nat):T R (a::l) (x::f) (i+1)=T R l f i:=by
 have e:rd_T50 (a::l) ((i+1:Nat):Int)=rd_T50 l (i:Int):=by rw[rdArc_nat,rdArc_nat];rfl
 unfold T;rw[e,List.getD_cons_succ]
theorem out_le (R:Int→Bool): ∀ (l:List S50) (f:List Int),f.length=l.length→(∀ j:Nat,j<l.length→T R l f j≤0)→outR R l f≤0∧ ∀ i:Nat,i<l.length→outR R l f≤T R l f i
 |[],[],_,_=>⟨Int.le_refl _,fun i hi=>by simp at hi⟩
 |[],_::_,h,_=>by simp at h
 |_::_,[],h,_=>by simp at h
 |a::l,x::f,h,ht=>by
  obtain⟨h1,h2⟩:=out_le R l f (by simpa using h) (fun j hj=>by have:=ht (j+1) (by simpa using hj);rwa [T_succ] at this);have h0:=ht 0 (by simp);have e0:T R (a::l) (x::f) 0=(if R a.f0 then x else 0) - (if R a.f1 then x else 0):=rfl;rw[outR_cons, ← e0];refine⟨by omega,fun i hi=> ?_⟩;cases i with
  |zero=>omega
  |succ i=>rw[T_succ];have:=h2 i (by simpa using hi);omega
theorem out_ge (R:Int→Bool): ∀ (l:List S50) (f:List Int),f.length=l.length→(∀ j:Nat,j<l.length→0≤T R l f j)→0≤outR R l f∧ ∀ i:Nat,i<l.length→T R l f i≤outR R l f
 |[],[],_,_=>⟨Int.le_refl _,fun i hi=>by simp at hi⟩
 |[],_::_,h,_=>by simp at h
 |_::_,[],h,_=>by simp at h
 |a::l,x::f,h,ht=>by
  obtain⟨h1,h2⟩:=out_ge R l f (by simpa using h) (fun j hj=>by have:=ht (j+1) (by simpa using hj);rwa [T_succ] at this);have h0:=ht 0 (by simp);have e0:T R (a::l) (x::f) 0=(if R a.f0 then x else 0) - (if R a.f1 then x else 0):=rfl;rw[outR_cons, ← e0];refine⟨by omega,fun i hi=> ?_⟩;cases i with
  |zero=>omega
  |succ i=>rw[T_succ];have:=h2 i (by simpa using hi);omega
theorem sumR_two {R:Int→Bool} {g:Int→Int} {s t:Int} (n:Nat) (hst:s≠t) (h0:0≤s) (h1:s<n) (h2:0≤t) (h3:t<n) (hg: ∀ v:Int,0≤v→v<n→v≠s→v≠t→g v=0):
  sumR R g n=(if R s then g s else 0)+(if R t then g t else 0):=by
 have aux: ∀ m:Nat,m≤n→sumR R g m=(if s<m then(if R s then g s else 0) else 0)+(if t<m then(if R t then g t else 0) else 0):=by
  intro m
  induction m with
  |zero=>intro _;rw[Yv (by omega),Yv (by omega)];rfl
  |succ m ih=>
   intro hm;unfold sumR;rw[ih (by omega)];show _+(if R m then g m else 0)=_;by_cases e:s=(m:Int)
   ·subst e
    rw[Yv (Int.lt_irrefl _),Yu (show (m:Int)<((m+1:Nat):Int) by omega)];by_cases k:t<(m:Int)
    ·rw[Yu k,Yu (show t<((m+1:Nat):Int) by omega)];omega
    ·rw[Yv k,Yv (show ¬ t<((m+1:Nat):Int) by omega)];omega
   ·by_cases e2:t=(m:Int)
    ·subst e2
     rw[Yv (Int.lt_irrefl _),Yu (show (m:Int)<((m+1:Nat):Int) by omega)];by_cases k:s<(m:Int)
     ·rw[Yu k,Yu (show s<((m+1:Nat):Int) by omega)];omega
     ·rw[Yv k,Yv (show ¬ s<((m+1:Nat):Int) by omega)];omega
    ·have e3:(if R m then g m else 0)=0:=by
      rw[hg m (by omega) (by omega) (Ne.symm e) (Ne.symm e2)];split<;>rfl
     rw[e3];have k (a x:Int) (ha: ¬ a=(m:Int)):(if a<((m+1:Nat):Int) then x else 0)=if a<(m:Int) then x else 0:=by
      by_cases hx:a<(m:Int)
      ·rw[Yu hx,Yu (by omega)]
      ·rw[Yv hx,Yv (by omega)]
     rw[k s _ e,k t _ e2];omega
 rw[aux n (Nat.le_refl _),Yu h1,Yu h3]
theorem outR_all: ∀ (l:List S50) (f:List Int),outR (fun _=>true) l f=0
 |[],f=>by cases f<;>rfl
 |_::_,[]=>rfl
 |a::l,x::f=>by rw[outR_cons,outR_all l f];simp
theorem ends_sum {l:List S50} {F:List Int} {n s t:Nat} (h:IsFlow l F n s t) (hs:s<n) (ht:t<n) (hst:s≠t):bal l F t= -bal l F s:=by
 have h1:=sum_bal (fun _=>true) n l F (ends_arcs h.right.ends) h.right.len;rw[sumR_two n (s:=(s:Int)) (t:=(t:Int)) (by omega) (by omega) (by omega) (by omega) (by omega) h.keeps,outR_all] at h1;simp only[if_true] at h1;omega
noncomputable def from_ (l:List S50) (F:List Int) (u v:Int):Bool:= @decide (Rea l F u v) (Classical.propDecidable _)
theorem from_iff {l:List S50} {F:List Int} {u v:Int} :from_ l F u v=true↔Rea l F u v:=by
 unfold from_;exact @decide_eq_true_iff (Rea l F u v) (Classical.propDecidable _)
theorem from_no {l:List S50} {F:List Int} {u v:Int} :from_ l F u v=false↔ ¬ Rea l F u v:=by rw[← Bool.not_eq_true,from_iff]
theorem from_T {l:List S50} {F:List Int} {n:Nat} (hr:Right l F n) (u:Int) (j:Nat) (hj:j<l.length):T (from_ l F u) l F j≤0:=by
 have h0:=(hr.nums j hj).2.2.1;unfold T;by_cases hp:0<F.getD j 0
 ·by_cases g:Rea l F u (rd_T50 l j).f0
  ·have g2:from_ l F u (rd_T50 l j).f1=true:=from_iff.2 (Rea.step g hj hp)
   rw[from_iff.2 g,g2];simp
  ·rw[from_no.2 g];simp only[Bool.false_eq_true,if_false];split<;>omega
 ·have e:F.getD j 0=0:=by omega
  rw[e];simp
theorem circ_back {l:List S50} {F:List Int} {n:Nat} (hr:Right l F n) {i:Nat} (hi:i<l.length) (hp:0<F.getD i 0) (h:0≤sumR (from_ l F (eTo (rd_T50 l i))) (bal l F) n):Rea l F (eTo (rd_T50 l i)) (eFrom (rd_T50 l i)):=by
 refine Classical.byContradiction fun g=> ?_
 rw[sum_bal _ n l F (ends_arcs hr.ends) hr.len] at h;have h1:=(out_le (from_ l F (eTo (rd_T50 l i))) l F hr.len (from_T hr _)).2 i hi;have h2:from_ l F (eTo (rd_T50 l i)) (rd_T50 l i).f0=false:=from_no.2 g;have h3:from_ l F (eTo (rd_T50 l i)) (rd_T50 l i).f1=true:=from_iff.2 (Rea.refl _ _ _);unfold T at h1;rw[h2,h3] at h1;simp only[Bool.false_eq_true,if_false,if_true] at h1;omega
section
variable {l:List S50} {F:List Int} {n s t:Nat}
theorem acyc_in (h:IsFlow l F n s t) (ha:Acyc l F) (hs:s<n) (ht:t<n) (hst:s≠t) (hR:Rea l F s t) {i:Nat} (hi:i<l.length) (hp:0<F.getD i 0):eTo (rd_T50 l i)≠(s:Int):=by
 intro e;refine ha i hi hp (circ_back h.right hi hp ?_);rw[sumR_two n (s:=(s:Int)) (t:=(t:Int)) (by omega) (by omega) (by omega) (by omega) (by omega) h.keeps,e,from_iff.2 (Rea.refl l F s),from_iff.2 hR,ends_sum h hs ht hst];simp only[if_true];omega
theorem chain_le (h:IsFlow l F n s t) (ha:Acyc l F) (hs:s<n) (ht:t<n) (hst:s≠t) (hR:Rea l F s t) {j:Nat} (hj:j<l.length) (hf:eFrom (rd_T50 l j)=(s:Int)):F.getD j 0≤bal l F s:=by
 have hx:=fun i hi=>(h.right.nums i hi).2.2.1
 have hin:=fun(i:Nat) (hi:i<l.length) (hp:0<F.getD i 0)=>acyc_in h ha hs ht hst hR hi hp
 have h1:=sum_bal (fun v=>decide (v=(s:Int))) n l F (ends_arcs h.right.ends) h.right.len;rw[sumR_ends n (s:=(s:Int)) (t:=(t:Int)) (Ys rfl) (Yt (by omega)) (by omega) (by omega) h.keeps] at h1;have hT: ∀ i:Nat,i<l.length→T (fun v=>decide (v=(s:Int))) l F i=if eFrom (rd_T50 l i)=(s:Int) then F.getD i 0 else 0:=by
  intro i hi;unfold T;have e2:(if decide ((rd_T50 l i).f1=(s:Int))=true then F.getD i 0 else 0)=0:=by
   by_cases e:(rd_T50 l i).f1=(s:Int)
   ·have:=hx i hi
    have g: ¬ 0<F.getD i 0:=fun g=>hin i hi g e
    rw[Ys e,Yu rfl];omega
   ·rw[Yt e];rfl
  rw[e2];simp only[decide_eq_true_eq];show (if eFrom (rd_T50 l i)=(s:Int) then F.getD i 0 else 0) - 0=_;omega
 have h2:=(out_ge (fun v=>decide (v=(s:Int))) l F h.right.len (fun i hi=>by rw[hT i hi];have:=hx i hi;split<;>omega)).2 j hj;rw[hT j hj,Yu hf] at h2;omega
theorem rest_zero (h:IsFlow l F n s t) (ha:Acyc l F) (hs:s<n) (ht:t<n) (hst:s≠t) (hv:0≤bal l F s) (hR: ¬ Rea l F s t):bal l F s=0∧ ∀ j:Nat,F.getD j 0=0:=by
 have h1:=sum_bal (from_ l F s) n l F (ends_arcs h.right.ends) h.right.len;rw[sumR_ends n (s:=(s:Int)) (t:=(t:Int)) (from_iff.2 (Rea.refl _ _ _)) (from_no.2 hR) (by omega) (by omega) h.keeps] at h1;have h2:=(out_le (from_ l F s) l F h.right.len (from_T h.right s)).1;have h3:bal l F s=0:=by omega
 refine⟨h3,fun j=> ?_⟩;by_cases hj:j<l.length
 ·have h4:=(h.right.nums j hj).2.2.1
  refine Classical.byContradiction fun g=> ?_
  refine ha j hj (by omega) (circ_back h.right hj (by omega) ?_);rw[sumR_two n (s:=(s:Int)) (t:=(t:Int)) (by omega) (by omega) (by omega) (by omega) (by omega) h.keeps,ends_sum h hs ht hst,h3];split<;>split<;>simp
 ·have:=h.right.len
  rw[List.getD_eq_getElem?_getD,List.getElem?_eq_none (by omega)];rfl
end
def cycA (l:List S50) (F:List Int) (n i:Nat):Option (List Int):=
 if F.getD i 0=0 then none else if eFrom (rd_T50 l i)=eTo (rd_T50 l i) then some [(i:Int)] else
 if (eFrom (rd_T50 l i)).toNat∈reach l F n (eTo (rd_T50 l i)).toNat then some ((i:Int)::arcsOf (wayA l F n (eTo (rd_T50 l i)).toNat (eFrom (rd_T50 l i)).toNat)) else none
theorem cycA_some {l:List S50} {F:List Int} {n i:Nat} (hr:Right l F n) (hi:i<l.length) {ax:List Int} (h:cycA l F n i=some ax):Link l F (eFrom (rd_T50 l i)) (eFrom (rd_T50 l i)) ax∧ax.head? =some (i:Int):=by
 have h0:=(hr.nums i hi).2.2.1;have h1:=hr.ends i hi;unfold cycA at h;split at h
 ·cases h
 ·split at h
  ·rename_i g
   injection h with h
   subst h;exact⟨loop_link hi (by omega) g.symm rfl,rfl⟩
  ·split at h
   ·rename_i g1 g2 g3
    injection h with h
    subst h;have e1:((eFrom (rd_T50 l i)).toNat:Int)=eFrom (rd_T50 l i):=by omega
    have:=cycle_link hr hi (by omega) (u:=(eTo (rd_T50 l i)).toNat) (v:=(eFrom (rd_T50 l i)).toNat) (by omega) (by omega) (by omega) g3;rw[e1] at this;exact⟨this,rfl⟩
   ·cases h
theorem cycA_none {l:List S50} {F:List Int} {n i:Nat} (hr:Right l F n) (hi:i<l.length):cycA l F n i=none↔(0<F.getD i 0→ ¬ Rea l F (eTo (rd_T50 l i)) (eFrom (rd_T50 l i))):=by
 have h0:=(hr.nums i hi).2.2.1;have h1:=hr.ends i hi;have e1:((eFrom (rd_T50 l i)).toNat:Int)=eFrom (rd_T50 l i):=by omega
 have e2:((eTo (rd_T50 l i)).toNat:Int)=eTo (rd_T50 l i):=by omega
 have h2:=reach_iff (t:=(eFrom (rd_T50 l i)).toNat) hr (show (eTo (rd_T50 l i)).toNat<n by omega);rw[e1,e2] at h2;unfold cycA;by_cases g0:F.getD i 0=0
 ·rw[Yu g0]
  exact⟨fun _ hp=>by omega,fun _=>rfl⟩
 rw[Yv g0];by_cases g1:eFrom (rd_T50 l i)=eTo (rd_T50 l i)
 ·rw[Yu g1]
  exact⟨fun h=>(by cases h),fun h=>absurd (by rw[g1];exact Rea.refl _ _ _) (h (by omega))⟩
 rw[Yv g1];by_cases g2:(eFrom (rd_T50 l i)).toNat∈reach l F n (eTo (rd_T50 l i)).toNat
 ·rw[Yu g2]
  exact⟨fun h=>(by cases h),fun h=>absurd (h2.1 g2) (h (by omega))⟩
 ·rw[Yv g2]
  exact⟨fun _ _ g=>g2 (h2.2 g),fun _=>rfl⟩
def cycF (l:List S50) (n:Nat):Nat→Nat→List Int→List S47 × List Int
 |0,_,F=>([],F)
 |k+1,i,F=>if i<l.length then(match cycA l F n i with
   |none=>cycF l n k (i+1) F
   |some ax=>(⟨ax,amt F ax⟩::(cycF l n k i (lessA F (amt F ax) ax)).1,(cycF l n k i (lessA F (amt F ax) ax)).2)) else([],F)
def chF (l:List S50) (n s t:Nat):Nat→List Int→List S47 × List Int
 |0,F=>([],F)
 |k+1,F=>if t∈reach l F n s then(⟨arcsOf (wayA l F n s t),amt F (arcsOf (wayA l F n s t))⟩::(chF l n s t k (lessA F (amt F (arcsOf (wayA l F n s t))) (arcsOf (wayA l F n s t)))).1,(chF l n s t k (lessA F (amt F (arcsOf (wayA l F n s t))) (arcsOf (wayA l F n s t)))).2) else([],F)
def tot (cs:List S47) (j:Nat):Int:=cs.foldr (fun c x=>(if (j:Int)∈c.f0 then c.f1 else 0)+x) 0
theorem tot_cons (c:S47) (cs:List S47) (j:Nat):tot (c::cs) j=(if (j:Int)∈c.f0 then c.f1 else 0)+tot cs j:=rfl
structure Parts (l:List S50) (F:List Int) (n:Nat) (P:S47→Prop) (r:List S47 × List Int):Prop where
 right:Right l r.2 n
 get: ∀ j:Nat,F.getD j 0=r.2.getD j 0+tot r.1 j
 le: ∀ j:Nat,r.2.getD j 0≤F.getD j 0
 each: ∀ c,c∈r.1→1≤c.f1∧c.f1≤1048576∧P c
 few:r.1.length+posN r.2≤posN F
theorem Parts.none {l:List S50} {F:List Int} {n:Nat} (hr:Right l F n) (P:S47→Prop):Parts l F n P ([],F):=
 ⟨hr,fun j=>(by show F.getD j 0=F.getD j 0+(0:Int);omega),fun j=>Int.le_refl _,fun c hc=>(by cases hc),by show 0+posN F≤posN F;omega⟩
theorem Parts.cons {l:List S50} {F:List Int} {n:Nat} {P:S47→Prop} {a b:Int} {ax:List Int} (ht:Taken l F n a b ax) {r:List S47 × List Int} (h:Parts l (lessA F (amt F ax) ax) n P r) (hP:P ⟨ax,amt F ax⟩):
  Parts l F n P (⟨ax,amt F ax⟩::r.1,r.2):=by
 refine⟨h.right,fun j=> ?_,fun j=>Int.le_trans (h.le j) (ht.le j),fun c hc=> ?_,?_⟩
 ·have h1:=ht.get j
  have h2:=h.get j;show F.getD j 0=r.2.getD j 0+tot (_::r.1) j;rw[tot_cons];show F.getD j 0=r.2.getD j 0+((if (j:Int)∈ax then amt F ax else 0)+_);omega
 ·rcases List.mem_cons.1 hc with rfl|hc
  ·exact⟨ht.pos,ht.top,hP⟩
  ·exact h.each c hc
 ·have:=h.few;have:=ht.fewer
  show (_::r.1).length+posN r.2≤posN F;rw[List.length_cons];omega
def IsCyc (l:List S50) (c:S47):Prop:= ∃ (F:List Int) (i:Nat),i<l.length∧Link l F (eFrom (rd_T50 l i)) (eFrom (rd_T50 l i)) c.f0∧c.f0.head? =some (i:Int)
def IsCh (l:List S50) (s t:Int) (c:S47):Prop:= ∃ F:List Int,Link l F s t c.f0
theorem cycF_parts {l:List S50} {n:Nat} (k:Nat): ∀ {i:Nat} {F:List Int},Right l F n→posN F+(l.length - i)<k→(∀ j:Nat,j<i→j<l.length→0<F.getD j 0→ ¬ Rea l F (eTo (rd_T50 l j)) (eFrom (rd_T50 l j)))→
  Parts l F n (IsCyc l) (cycF l n k i F)∧Acyc l (cycF l n k i F).2∧ ∀ v,bal l (cycF l n k i F).2 v=bal l F v:=by
 induction k with
 |zero=>intro i F hr hk;omega
 |succ k ih=>
  intro i F hr hk ha;unfold cycF;by_cases hi:i<l.length
  ·rw[Yu hi]
   cases hc:cycA l F n i with
   |none=>
    refine ih hr (by omega) fun j hj hjl=> ?_
    by_cases e:j=i
    ·subst e;exact(cycA_none hr hi).1 hc
    ·exact ha j (by omega) hjl
   |some ax=>
    obtain⟨hl,hh⟩:=cycA_some hr hi hc;have ht:=hl.taken hr;obtain⟨g1,g2,g3⟩:=ih (i:=i) ht.right (by have:=ht.fewer;omega) (fun j hj hjl hp g=>ha j hj hjl (Int.lt_of_lt_of_le hp (ht.le j)) (g.mono ht.le));refine⟨g1.cons ht ⟨F,i,hi,hl,hh⟩,g2,fun v=> ?_⟩;show bal l (cycF l n k i (lessA F (amt F ax) ax)).2 v=_;rw[g3,ht.bal];split<;>omega
  ·rw[Yv hi]
   exact⟨Parts.none hr _,fun j hj=>ha j (by omega) hj,fun v=>rfl⟩
theorem go_first {l:List S50} {ax:List Int} {a b:Int} (h:GoA l a ax b) (hne:ax≠[]): ∃ j:Nat,j<l.length∧(j:Int)∈ax∧eFrom (rd_T50 l j)=a:=by
 cases ax with
 |nil=>exact absurd rfl hne
 |cons x ax=>
  obtain⟨hx,h2,_⟩:=h;refine⟨x.toNat,by omega,by rw[Int.toNat_of_nonneg hx.1];exact List.mem_cons_self,by rw[Int.toNat_of_nonneg hx.1];exact h2⟩
theorem chF_parts {l:List S50} {n s t:Nat} (hs:s<n) (ht:t<n) (hst:s≠t) (k:Nat): ∀ {F:List Int},IsFlow l F n s t→Acyc l F→0≤bal l F s→posN F<k→
  Parts l F n (IsCh l s t) (chF l n s t k F)∧(∀ j:Nat,(chF l n s t k F).2.getD j 0=0)∧((chF l n s t k F).1.foldr (fun c x=>c.f1+x) 0=bal l F s):=by
 induction k with
 |zero=>intro F hr _ _ hk;omega
 |succ k ih=>
  intro F hf ha hv hk;unfold chF;by_cases hR:t∈reach l F n s
  ·rw[Yu hR]
   have hl:=chain_link hf.right hs hst hR;have hR2:=(reach_iff hf.right hs).1 hR;generalize arcsOf (wayA l F n s t)=ax at hl ⊢;have hk2:=hl.taken hf.right;obtain⟨j,hj,hjm,hjs⟩:=go_first hl.go hl.ne;have h1:=chain_le hf ha hs ht hst hR2 hj hjs;have h2:=(amt_spec (F:=F) hl.ne).1 _ hjm;rw[Int.toNat_natCast] at h2;have hb:bal l (lessA F (amt F ax) ax) s=bal l F s - amt F ax:=by
    rw[hk2.bal,Yu rfl,Yv (by omega)];omega
   obtain⟨g1,g2,g3⟩:=ih (F:=lessA F (amt F ax) ax) ⟨hk2.right,fun v h0 hn e1 e2=>by rw[hk2.bal,Yv e1,Yv e2,hf.keeps v h0 hn e1 e2];omega⟩ (ha.mono hk2.le) (by rw[hb];omega) (by have:=hk2.fewer;omega);refine⟨g1.cons hk2 ⟨F,hl⟩,g2,?_⟩;show amt F ax+(chF l n s t k (lessA F (amt F ax) ax)).1.foldr (fun c x=>c.f1+x) 0=_;rw[g3,hb];omega
  ·rw[Yv hR]
   obtain⟨h1,h2⟩:=rest_zero hf ha hs ht hst hv (fun g=>hR ((reach_iff hf.right hs).2 g));exact⟨Parts.none hf.right _,h2,h1.symm⟩
end H
namespace H
open P
section
variable {n0:Nat} {Zc:Bool} {A2:Option Addr} {c2:Nat} {l:List S50} {gF cF:Nat} {A4:Option Addr} {c4 gx gd gn B:Nat} {F D:List Int} {nx:List Nat} {w w1:World}
theorem isI_C {g:Nat} {X:List Int} (h:IsI w g X) (hl:X.length≤9223372036854775807):Kd.C (Kd.int .i64) w (some ⟨g,0,none⟩) X.length X:=(Kd.R_reads' (h.R hl (base:=0) (Nat.zero_le _) (ok:=fun _=>True) trivial)).2.2
theorem ks_b {S:Nat→Prop} {w2:World} (h:Ks S w w1) (hb:Below w.heap.size w1 w2):Ks S w w2:=
 ⟨hb.os.trans h.os,hb.tape.trans h.tape,hb.output.trans h.output,Nat.le_trans h.size hb.size,fun k hk hs=>(hb.block k hk).trans (h.block k hk hs)⟩
end
end H
namespace H
open P
open Q (bal)
theorem made_ints (n:Nat) (hn:n≤500): ∀ W:World,(Instr.makeSlice 31 (.int .i64 (n:Int)) (.int .i64 (n:Int))).run Try.prog W= .ok (.slice (some ⟨W.heap.size,0,none⟩) n n) (W.alloc (.cells (nums .i64 (List.replicate n 0)).toArray 3)):=by
 intro W;rw[print_make 31 3 .i64 8 Try.underlying31 (by kernel_rfl) (by omega) n (by omega) W];have hl:(madeCells #[Value.int .i64 0] n)=(nums .i64 (List.replicate n 0)).toArray:=by
  apply Array.ext';apply List.ext_getElem
  ·simp[nums,madeCells]
  ·intro i h1 h2
   simp[nums,madeCells,Nat.mod_one]
 rw[hl]
end H
namespace H
open P
structure Sp (n0:Nat) (Zc:Bool) (l:List S50) (gx gz gA:Nat) (A:Option Addr) (cA base:Nat) (F:List Int) (w:World):Prop where
 x:w.heap[gx]? =some (.cells #[.int .i64 (n0:Int), .bool Zc, .slice A l.length cA, .slice (some ⟨gz,0,none⟩) l.length l.length] 114 (0,0))
 arcs:Kd.R k50 50 w base (fun k=>k=gA) (.slice A l.length cA) (leftA l F)
 zero:IsI w gz (zer l)
 apart:gx≠gA∧gz≠gA∧gx≠gz
 low:base≤gx∧base≤gz
section
variable {n0:Nat} {Zc:Bool} {l:List S50} {gx gz gA:Nat} {A:Option Addr} {cA base:Nat} {F:List Int} {w w1:World}
theorem Sp.below (h:Sp n0 Zc l gx gz gA A cA base F w) (hb:Below w.heap.size w w1):Sp n0 Zc l gx gz gA A cA base F w1:=⟨Yn h.x hb,Yp h.arcs hb,h.zero.below hb,h.apart,h.low⟩
theorem Sp.c (h:Sp n0 Zc l gx gz gA A cA base F w):Kd.C k50 w A l.length (leftA l F):=by
 obtain⟨e,_,hc⟩:=Kd.R_reads' h.arcs;rw[← e] at hc;exact hc
theorem Sp.cap (h:Sp n0 Zc l gx gz gA A cA base F w):l.length≤cA:=(Kd.R_reads' h.arcs).2.1
end
theorem getD_take_app {i n:Nat} {X:List Int} (hi:i<n) (hx:X.length=n):(X.take i ++ List.replicate (n - i) 0).set i (X.getD i 0)=X.take (i+1) ++ List.replicate (n - (i+1)) 0:=by
 rw[List.set_append_right _ _ (by rw[List.length_take];omega),List.length_take,show i - min i X.length=0 by omega,show n - i=(n - (i+1))+1 by omega,List.replicate_succ,List.set_cons_zero,List.take_add_one,List.getElem?_eq_getElem (by omega),List.getD_eq_getElem?_getD,List.getElem?_eq_getElem (by omega),List.append_assoc];rfl
set_option maxHeartbeats 4000000 in
set_option maxRecDepth 100000 in
theorem sway_calls (n0:Nat) (Zc:Bool) (l:List S50) (gx gz gA:Nat) (A:Option Addr) (cA base:Nat) (F:List Int) (u v:Nat) (w:World)
  (hR:Right l F n0) (hu:u<n0) (hv:v<n0) (huv:u≠v) (hS:Sp n0 Zc l gx gz gA A cA base F w):
  Calls Try.prog 49 #[.pointer (some ⟨gx,0,none⟩), .int .i64 (u:Int), .int .i64 (v:Int)] w fun e w'=> ∃ vv:Value,e= .returned (.tuple #[vv, .bool (decide (v∈reach l F n0 u))])∧Kd.R (Kd.int .i64) 3 w' w.heap.size (fun _=>True) vv (arcsOf (wayA l F n0 u v))∧Below w.heap.size w w':=by
 have hu171:=Try.underlying114;have hu24:=Try.underlying24;have hu38:=Try.underlying79;have hn50:=hR.fifty;have hAr:=hR.arcs;have hL:=left_right hR;have hm1:=leftA_len hR.len;have hm2:(zer l).length=l.length:=List.length_replicate;have kA:=fun(w':World) (hb:Below w.heap.size w w')=>at_calls n0 Zc A cA (leftA l F) (some ⟨gz,0,none⟩) l.length l.length w' (by rw[hm1];exact Yq hS.c hb) (by rw[hm1];exact hS.cap) (by omega) (by omega) (by omega) (fun k hk=>(hL.ends k hk).1) (fun k hk=>(hL.ends k hk).2)
 rw[hm1] at kA;have kW:=fun(A4:Option Addr) (c4:Nat) (w':World) (hb:Below w.heap.size w w')=>way_calls n0 Zc A cA (leftA l F) (some ⟨gz,0,none⟩) l.length (zer l) A4 c4 u v w' hL hu hv huv (by rw[hm1];exact hS.cap) (by omega) (by rw[hm1];exact Yq hS.c hb) (isI_C (hS.zero.below hb) (by omega))
 rw[hm1,hm2] at kW;obtain⟨W,hW⟩: ∃ W,W=wayA l F n0 u v:=⟨_,rfl⟩;have hWl:W.length≤200:=by rw[hW];exact wayA_le hR hu huv
 have hW':wayP (leftA l F) (zer l) n0 u v=W:=hW.symm;rw[hW'] at kW;have KA:=Ya kA;have KW:=Ya kW;have HS:=Ya hS;have HW:=Ya hW;have HB:=Ya (Yo w.heap.size w);have hmk:=made_ints W.length (by omega);have x0:w.cell? ⟨gx,0,none⟩=some (.int .i64 (n0:Int)):=(Yc hS.x 0).trans rfl;have x1:w.cell? ⟨gx,1,none⟩=some (.bool Zc):=(Yc hS.x 1).trans rfl;have x2:w.cell? ⟨gx,2,none⟩=some (.slice A l.length cA):=(Yc hS.x 2).trans rfl;have x3:w.cell? ⟨gx,3,none⟩=some (.slice (some ⟨gz,0,none⟩) l.length l.length):=(Yc hS.x 3).trans rfl;rw[← hW];clear kA kW hS hL hm1 hm2 hW hW' hAr hR;go_enter Try.func49,Try.ntmps49;go_upto_region 1 with fail
 go_region_held3 (fun w'=>w'.cell? ⟨gx,0,none⟩=some (.int .i64 (n0:Int))∧w'.cell? ⟨gx,1,none⟩=some (.bool Zc)∧w'.cell? ⟨gx,2,none⟩=some (.slice A l.length cA)∧w'.cell? ⟨gx,3,none⟩=some (.slice (some ⟨gz,0,none⟩) l.length l.length))
  (first|((try dsimp only);(refine⟨?_,?_,?_,?_⟩)<;>first|(exact pw_cell_below (below_drew (Yo _ _)) (by assumption))|(exact pw_cell_below hbB (by assumption))|(exact pw_cell_below hbA (by assumption))|(exact pw_cell_below (below_drew hbA) (by assumption)))|go_keep)
  (first|(go_at_call 68;refine(KA.out _ ?hC).mono ?_;(case hC=>first|exact Yo _ _|exact below_drew (Yo _ _));rintro e_ w7 ⟨vr,rfl,hSr,hbr⟩;obtain⟨A4,c4,ev⟩:=Kd.S_slice hSr;subst ev;have hbA:Below w.heap.size w w7:=Yk (by first|exact below_drew (Yo _ _)|exact Yo _ _) hbr;have hcA:(Kd.slice 79 k79).C w7 A4 n0 (rowsAt (leftA l F) n0 n0):=(by have h_:=(Kd.S_reads' hSr).2.2;rw[rowsAt_len] at h_;exact h_);rw[rowsAt_len] at hSr ⊢)|(go_at_call 75;refine(KW.out A4 c4 _ ?hC ?hD).mono ?_;(case hC=>first|exact hbA|exact below_drew hbA);(case hD=>first|exact hcA|exact Yq hcA (below_drew (Yo _ _)));rintro e_ w8 ⟨vw,rfl,hvw,hb8⟩;obtain⟨Aw,cw,ev⟩:=Kd.R_slice hvw;subst ev;have hbB:Below w.heap.size w w8:=Yk (by first|exact hbA|exact below_drew hbA) hb8))
 go_wp2_with fail;have HVW:=Ya (Kd.R_reads' hvw).2.2;have HBB:=Ya hbB;have hIA:IsI (w8.alloc (.cells (nums .i64 (List.replicate W.length 0)).toArray 3)) w8.heap.size (List.replicate W.length 0):=heap_alloc_new w8 _;have hb9:Below w8.heap.size w8 (w8.alloc (.cells (nums .i64 (List.replicate W.length 0)).toArray 3)):=Ye (Yo _ _) _;generalize w8.alloc (.cells (nums .i64 (List.replicate W.length 0)).toArray 3)=w9 at *;obtain⟨go,hgo⟩: ∃ go,go=w8.heap.size:=⟨_,rfl⟩;rw[← hgo] at hIA ⊢;have HIA:=Ya hIA;have HB9:=Ya hb9;have HGO:=Ya hgo;clear x0 x1 x2 x3 hSr hbr hbA hcA hvw hb8 hbB hIA hb9 hgo hmk KA KW;go_loopw [33] (fun v33 w'=> ∃ i:Nat,v33= .int .i64 (i:Int)∧i≤W.length∧Aside0 (IsI w' go ((arcsOf W).take i ++ List.replicate (W.length - i) 0))∧Aside0 (Below w8.heap.size w8 w')) (fun v33 _=>W.length - (intOf v33).toNat)
 case atStart=>exact⟨0,rfl,Nat.zero_le _,⟨by rw[List.take_zero,List.nil_append,Nat.sub_zero];exact HIA.out⟩,HB9⟩
 case round=>
  clear HIA HB9;obtain⟨i,rfl,hi,HI,HBL⟩:=hrel;by_cases hlt:i<W.length
  ·have c34:decide ((i:Int)<(W.length:Int))=true:=Ys (by omega)
   have pi_:(0:Int)≤(i:Int):=by omega
   have qi:(i:Int)<(W.length:Int):=by omega
   obtain⟨adj,eadj,s0,s1⟩:=at_T79 (Yq HVW.out HBL.out) (i:Int) pi_ qi;subst eadj;simp only[Int.toNat_natCast] at s0 s1;obtain⟨e,hee⟩: ∃ e_,e_=rd_T79 W (i:Int):=⟨_,rfl⟩;rw[← hee] at s0 s1;have hX:(arcsOf W).getD i 0=e.f0:=by rw[hee];unfold arcsOf rd_T79;rw[List.getD_eq_getElem?_getD,List.getElem?_map,Int.toNat_natCast,List.getD_eq_getElem?_getD,List.getElem?_eq_getElem hlt];rfl
   have HX:=Ya hX;have hDl:((arcsOf W).take i ++ List.replicate (W.length - i) 0).length=W.length:=by unfold arcsOf;simp;omega
   obtain⟨D,hD⟩: ∃ D,D=(arcsOf W).take i ++ List.replicate (W.length - i) 0:=⟨_,rfl⟩;rw[← hD] at HI hDl;have HDE:=Ya hD;clear hee hX hD;go_wp2_with (first|((with_reducible refine gate_dst (N:=12) rfl ?_);refine Yw ?hg (N:=12) ?hd (cs:= #[.int .i64 0, .bool false]) (t:=79) ?hr ?_;(case hd=>rfl);(case hg=>rfl);(case hr=>first|(go_simp;done)|(go_simp;rfl));intro g8 hg w10 Zg hb;have GE8:Aside0 (w8.heap.size≤g8):=⟨by rw[hg];exact HBL.out.size⟩;have NE8:Aside0 (go≠g8):=⟨by have:=HI.out.lt;omega⟩;have B8:=Ya Zg;have m0_:=Ya (HI.out.below hb);have m1_:=Ya (Yk HBL.out hb);clear Zg hg hb HI HBL;have HI:=m0_;have HBL:=m1_;clear m0_ m1_;have hcz0:w10.cell? ⟨g8,0,none⟩=some (.int .i64 0):=(Yc B8.out 0).trans rfl;have hcz1:w10.cell? ⟨g8,1,none⟩=some (.bool false):=(Yc B8.out 1).trans rfl;have hfz0:=Yf B8.out 0;have hfz1:=Yf B8.out 1)|((with_reducible refine gate_store (t:=79) (p:=12) rfl ?_);refine store_event (t:=79) (p:=12) (v:= ?vo) (w1:=((w10.setCell ⟨g8,0,none⟩ (.int .i64 e.f0)).setCell ⟨g8,1,none⟩ (.bool e.f1))) ?hg ?ho ?hn ?hr ?_;(case ho=>rfl);(case hg=>rfl);(case hn=>rfl);(case hr=>first|(go_simp;done)|(go_simp;rfl));intro w11 hw;have m0_:Aside0 (w11.heap[g8]? =some (.cells #[.int .i64 e.f0, .bool e.f1] 79 (0,0))):=⟨by rw[hw];refine Yx (cs:= #[.int .i64 e.f0, .bool false]) ?_ 1 _ rfl;refine Yx (cs:= #[.int .i64 0, .bool false]) ?_ 0 _ rfl;exact B8.out⟩;have m1_:Aside0 (Below w8.heap.size w8 w11):=⟨by rw[hw];exact Yh (Yh HBL.out GE8.out) GE8.out⟩;have m2_:Aside0 (IsI w11 go D):=⟨by rw[hw];exact(HI.out.far (p:=⟨g8,0,none⟩) NE8.out _).far (p:=⟨g8,1,none⟩) NE8.out _⟩;clear hw B8 HBL HI hcz0 hcz1 hfz0 hfz1 s0 s1;have B8:=m0_;have HBL:=m1_;have HI:=m2_;clear m0_ m1_ m2_;have hc0:w11.cell? ⟨g8,0,none⟩=some (.int .i64 e.f0):=(Yc B8.out 0).trans rfl;have hgc:=HI.out.cell (j:=i) (by omega);have hgf:=HI.out.free i)|fail);have m0_:Aside0 (IsI (w11.setCell ⟨go,i,none⟩ (.int .i64 e.f0)) go ((arcsOf W).take (i+1) ++ List.replicate (W.length - (i+1)) 0)):=⟨by
    rw[← getD_take_app hlt (by unfold arcsOf;simp),HX.out, ← HDE.out];exact HI.out.put i e.f0⟩
   have m1_:Aside0 (Below w8.heap.size w8 (w11.setCell ⟨go,i,none⟩ (.int .i64 e.f0))):=⟨Yh HBL.out (by rw[HGO.out];exact Nat.le_refl _)⟩;go_roundw
   case rel=>exact⟨i+1,by go_num,hlt,m0_,m1_⟩
   case measure=>simp[intOf]<;>omega
  ·have ei:i=W.length:=by omega
   subst ei;have c34:decide ((W.length:Int)<(W.length:Int))=false:=Yt (by omega);go_wp2_with fail;go_ret2;have hX:IsI wr go (arcsOf W):=by
    have h_:=HI.out;rw[Nat.sub_self,List.replicate_zero,List.append_nil,List.take_of_length_le (by unfold arcsOf;simp)] at h_;exact h_
   have hlen:(arcsOf W).length=W.length:=by unfold arcsOf;simp
   have hR:=hX.R (base:=w.heap.size) (ok:=fun _=>True) (by omega) (by rw[HGO.out];exact HBB.out.size) trivial;rw[hlen] at hR;exact⟨_,rfl,hR,Yk HBB.out HBL.out⟩
end H
namespace H
open P
section
variable {n0:Nat} {Zc:Bool} {l:List S50} {gx gz gA:Nat} {A:Option Addr} {cA base:Nat} {F:List Int} {w w1:World}
theorem Sp.far (h:Sp n0 Zc l gx gz gA A cA base F w) {p:Addr} (hp:p.block≠gx∧p.block≠gA∧p.block≠gz) (u:Value):Sp n0 Zc l gx gz gA A cA base F (w.setCell p u):=
 ⟨blk_far h.x (Ne.symm hp.1) _,Kd.R_far h.arcs (fun k hk=>by have hk:k=gA:=hk;rw[hk];exact Ne.symm hp.2.1) _,h.zero.far (Ne.symm hp.2.2) _,h.apart,h.low⟩
theorem Sp.head (h:Sp n0 Zc l gx gz gA A cA base F w) (hl:F.length=l.length) (hp:0<l.length):A=some ⟨gA,0,none⟩:=by
 obtain⟨g,cap,e,_⟩:=Kd.R_form h.arcs (by rw[leftA_len hl];exact hp);injection e with e1 e2 e3
 subst e1;have:=h.arcs.1 g rfl;rw[this]
theorem Sp.cells (h:Sp n0 Zc l gx gz gA (some ⟨gA,0,none⟩) cA base F w) (hl:F.length=l.length) {i:Nat} (hi:i<l.length):
  w.cell? ⟨gA,i * 4,none⟩=some (.int .i64 (rd_T50 l i).f0)∧w.cell? ⟨gA,i * 4+1,none⟩=some (.int .i64 (rd_T50 l i).f1)∧w.cell? ⟨gA,i * 4+2,none⟩=some (.int .i64 (F.getD i 0))∧w.cell? ⟨gA,i * 4+3,none⟩=some (.int .i64 (rd_T50 l i).f3)∧w.frozen? ⟨gA,i * 4+2,none⟩=false:=by
 obtain⟨ad,e,h0,h1,h2,h3⟩:=at_T50 h.c (i:Int) (by omega) (by omega);injection e with e
 subst e;obtain⟨_,_,_,_,hf⟩:=Kd.R_elem h.arcs z50 (i:Int) (by omega) (by omega);rw[rdArc_of hl,Int.toNat_natCast] at h0 h1 h2 h3;have hf2:=hf 2;rw[Int.toNat_natCast] at hf2;simp only[add_plain] at h0 h1 h2 h3;exact⟨h0,h1,h2,h3,hf2⟩
theorem Sp.put (h:Sp n0 Zc l gx gz gA (some ⟨gA,0,none⟩) cA base F w) (hl:F.length=l.length) {i:Nat} (hi:i<l.length) (x:Int):
  Sp n0 Zc l gx gz gA (some ⟨gA,0,none⟩) cA base (F.set i x) (w.setCell ⟨gA,i * 4+2,none⟩ (.int .i64 x)):=by
 obtain⟨c,hcl,hM,hcc,hf⟩:=Kd.R_elem h.arcs z50 (i:Int) (by omega) (by omega);have hset:(leftA l F).set (i:Int).toNat { (leftA l F).getD (i:Int).toNat z50 with f2:=x } =leftA l (F.set i x):=by
  rw[Int.toNat_natCast];apply List.ext_getElem?;intro j;rw[List.getElem?_set];by_cases e:i=j
  ·subst e
   rw[Yu rfl,Yu (by rw[leftA_len hl];exact hi)];unfold leftA;rw[List.getD_eq_getElem?_getD,List.getElem?_zipWith,List.getElem?_zipWith,List.getElem?_set,Yu rfl,Yu (by omega),List.getElem?_eq_getElem hi,List.getElem?_eq_getElem (by omega)];rfl
  ·rw[Yv e]
   unfold leftA;rw[List.getElem?_zipWith,List.getElem?_zipWith,List.getElem?_set,Yv e]
 have hM2:Kd.M k50 w base (fun k=>k=gA∧k≠gA) { (leftA l F).getD (i:Int).toNat z50 with f2:=x } (c.take 2 ++ [.int .i64 x] ++ c.drop (2+1)):=by
  have:=k50_openM hM;subst this;exact k50_mkM _ _ _ _
 have h1:=Kd.R_seg h.arcs (i:Int) (by omega) (by omega) (seg:=[.int .i64 x]) (j:=2) hcl hcc (by show 2+1≤4;omega) hM2 (fun k hk=>hk);rw[hset] at h1;have e2:w.setCells gA ((i:Int).toNat * k50.sz+2) [.int .i64 x]=w.setCell ⟨gA,i * 4+2,none⟩ (.int .i64 x):=by rw[Int.toNat_natCast];rfl
 rw[e2] at h1;exact⟨blk_far h.x (p:=⟨gA,_,none⟩) h.apart.1 _,h1.1,h.zero.far (p:=⟨gA,_,none⟩) h.apart.2.1 _,h.apart,h.low⟩
end
theorem add_zero_ (ad:Addr):ad.add 0=ad:=by cases ad;rfl
theorem lessA_snoc (F:List Int) (k:Int) (ax:List Int) (i:Int):lessA F k (ax ++ [i])=(lessA F k ax).set i.toNat ((lessA F k ax).getD i.toNat 0 - k):=by unfold lessA;rw[List.foldl_append];rfl
attribute [local go_sem] min2_int
set_option maxHeartbeats 4000000 in
set_option maxRecDepth 100000 in
theorem take_calls (n0:Nat) (Zc:Bool) (l:List S50) (gx gz gA:Nat) (A:Option Addr) (cA base:Nat) (F:List Int) (a b:Int) (ax:List Int) (Aa:Option Addr) (ca:Nat) (w:World)
  (hR:Right l F n0) (hk:Link l F a b ax) (hS:Sp n0 Zc l gx gz gA A cA base F w) (hca:ax.length≤ca) (ha:Kd.F (Kd.int .i64) w (fun k=>k<w.heap.size∧k≠gA) Aa ax.length ax):
  Calls Try.prog 50 #[.pointer (some ⟨gx,0,none⟩), .slice Aa ax.length ca] w fun e w'=>e= .returned (.agg #[.slice Aa ax.length ca, .int .i64 (amt F ax)])∧Sp n0 Zc l gx gz gA A cA base (lessA F (amt F ax) ax) w'∧Ks (fun k=>k=gA) w w':=by
 have hu171:=Try.underlying114;have hu24:=Try.underlying24;have hu74:=Try.underlying50;have hu102:=Try.underlying47;have hin:=hk.go.of;obtain⟨j0,hj0,hjm,_⟩:=go_first hk.go hk.ne;obtain rfl:=hS.head hR.len (by omega);have hal:=go_len hR hk;have hnd:=hk.nodup;have hpos:0<ax.length:=List.length_pos_iff.2 hk.ne;have hrd: ∀ j:Nat,j<ax.length→ ∃ ij:Nat,rd ax (j:Int)=(ij:Int)∧ij<l.length∧(ij:Int)∈ax∧ax.take (j+1)=ax.take j ++ [(ij:Int)]∧ax.drop j=(ij:Int)::ax.drop (j+1)∧(ij:Int) ∉ ax.take j:=by
  intro j hj;have h1:=Q.drop_getD ax j 0 hj;have hm:ax.getD j 0∈ax:=Q.getD_mem hj;have h2:=hin _ hm;have e:ax.getD j 0=((ax.getD j 0).toNat:Int):=by omega
  have h3:ax.take (j+1)=ax.take j ++ [ax.getD j 0]:=by rw[List.take_add_one,List.getElem?_eq_getElem hj,List.getD_eq_getElem?_getD,List.getElem?_eq_getElem hj];rfl
  have h4:ax.getD j 0 ∉ ax.take j:=by
   have h5:(ax.take (j+1)).Nodup:=List.Sublist.nodup (List.take_sublist _ _) hnd;rw[h3,List.nodup_append] at h5;exact fun hm=>h5.2.2 _ hm _ (List.mem_singleton.2 rfl) rfl
  refine⟨(ax.getD j 0).toNat,by rw[Q.rd_nat];exact e,by omega,by rw[← e];exact hm,by rw[← e];exact h3,by rw[← e];exact h1,by rw[← e];exact h4⟩
 obtain⟨hmin,_⟩:=amt_spec (F:=F) hk.ne;have htk:=hk.taken hR;obtain⟨k,hkk⟩: ∃ k,k=amt F ax:=⟨_,rfl⟩;have k0:0≤k:=by have:=htk.pos;omega
 have k1:k≤1048576:=by have:=htk.top;omega
 have hamt0:ax.foldl (fun k i=>min k (F.getD i.toNat 0)) (F.getD (ax.headD 0).toNat 0)=k:=hkk.symm;have HR:=Ya hR;have HK:=Ya hk;have HGA:Aside0 (gA<w.heap.size):=⟨(Kd.R_lt hS.arcs) gA rfl⟩;have HLW:Aside0 (gx<w.heap.size∧gz<w.heap.size∧gA<w.heap.size):=⟨blk_lt hS.x,hS.zero.lt,HGA.out⟩;have HS:=Ya hS;have HCA:=Ya hca;have HFA:=Ya ha;have HRD:=Ya hrd;have HMIN:=Ya hmin;have HA0:=Ya hamt0;have HKK:=Ya hkk;have hlF:=hR.len;have HLF:=Ya hlF;obtain⟨i0,h0,i0l,_,_,hd0,_⟩:=hrd 0 hpos;have h0':rd ax 0=(i0:Int):=h0;have hh:F.getD (ax.headD 0).toNat 0=F.getD i0 0:=by rw[List.drop_zero] at hd0;rw[hd0];rfl
 have HHD:=Ya hh;rw[← hkk];clear hR hk hS hca ha hnd hin hjm hj0 hrd hmin htk hkk hamt0 hd0 h0 hh hlF;go_enter Try.func50,Try.ntmps50;go_upto_region 1 with (first|((with_reducible refine gate_dst (N:=4) rfl ?_);refine Yw ?hg (N:=4) ?hd (cs:= #[.slice none 0 0, .int .i64 0]) (t:=47) ?hr ?_;(case hd=>rfl);(case hg=>rfl);(case hr=>first|(go_simp;done)|(go_simp;rfl));intro g4 hg4 w5 Zg hb;have B4:=Ya Zg;have HB:=Ya hb;have HG4:Aside0 (w.heap.size≤g4):=⟨Nat.le_of_eq hg4.symm⟩;clear hg4 Zg hb)|fail)
 have HS5:=Ya (HS.out.below HB.out);have HF5:=Ya (Kd.F_below HFA.out HB.out);have x2:w5.cell? ⟨gx,2,none⟩=some (.slice (some ⟨gA,0,none⟩) l.length cA):=(Yc HS5.out.x 2).trans rfl;obtain⟨ad,e,y0⟩:=Kd.at_int (Kd.F_now HF5.out) 0 (by omega) (by omega);subst e;obtain⟨_,_,z0,_⟩:=HS5.out.cells HLF.out i0l;rw[h0',show (0:Int).toNat=0 from rfl,add_zero_] at y0;obtain⟨c0,hc0⟩: ∃ c,c=F.getD i0 0:=⟨_,rfl⟩;rw[← hc0] at z0;have HC0:=Ya hc0;clear hc0;simp only[Act.put,List.setIfInBounds_toArray,List.set_cons_zero,List.set_cons_succ];go_region;have HS6:=Ya (HS5.out.below (below_drew (Yo _ _)));have HF6:=Ya (Kd.F_below HF5.out (below_drew (Yo _ _)));have B6:=Ya (Yn B4.out (below_drew (Yo _ _)));have HB6:=Ya (Yk HB.out (below_drew (Yo _ _)));clear HS5 HF5 B4 HB x2 y0 z0 HS HFA;generalize w5.drew=w6 at *;go_wp2_with fail;go_loopw [5,23] (fun v5 v23 w'=> ∃ (j:Nat) (m:Int),v5= .int .i64 m∧v23= .int .i64 (j:Int)∧j≤ax.length∧Aside0 ((ax.drop j).foldl (fun k i=>min k (F.getD i.toNat 0)) m=k)∧w'=w6) (fun _ v23 _=>ax.length - (intOf v23).toNat)
 case atStart=>exact⟨0,c0,rfl,rfl,Nat.zero_le _,⟨by rw[List.drop_zero,HC0.out, ← HHD.out];exact HA0.out⟩,rfl⟩
 case round=>
  obtain⟨j,m,rfl,rfl,hj,HM,rfl⟩:=hrel;by_cases hlt:j<ax.length
  ·have c24:decide ((j:Int)<(ax.length:Int))=true:=Ys (by omega)
   have pj:(0:Int)≤(j:Int):=by omega
   have qj:(j:Int)<(ax.length:Int):=by omega
   obtain⟨ij,r1,ijl,_,_,r2,_⟩:=HRD.out j hlt;obtain⟨ad',e,y0⟩:=Kd.at_int (Kd.F_now HF6.out) (j:Int) pj qj;injection e with e
   subst e;rw[r1,Int.toNat_natCast] at y0;obtain⟨_,_,z0,_⟩:=HS6.out.cells HLF.out ijl;obtain⟨c,hc⟩: ∃ c,c=F.getD ij 0:=⟨_,rfl⟩;rw[← hc] at z0;have HM2:Aside0 ((ax.drop (j+1)).foldl (fun k i=>min k (F.getD i.toNat 0)) (mn m c)=k):=⟨by
    have h_:=HM.out;rw[r2,List.foldl_cons,Int.toNat_natCast, ← hc] at h_;rw[← h_];congr 1;unfold mn;omega⟩
   have x2:wr.cell? ⟨gx,2,none⟩=some (.slice (some ⟨gA,0,none⟩) l.length cA):=(Yc HS6.out.x 2).trans rfl;have pij:(0:Int)≤(ij:Int):=by omega
   have qij:(ij:Int)<(l.length:Int):=by omega
   clear r1 r2 hc HM;go_wp2_with fail;go_roundw
   case rel=>exact⟨j+1,mn m c,rfl,by go_num,hlt,HM2,trivial⟩
   case measure=>simp[intOf]<;>omega
  ·have ej:j=ax.length:=by omega
   subst ej;have c24:decide ((ax.length:Int)<(ax.length:Int))=false:=Yt (by omega);have hm:m=k:=by
    have h_:=HM.out;rw[List.drop_of_length_le (Nat.le_refl _)] at h_;exact h_
   subst hm;clear HM;obtain⟨w7,hw7⟩: ∃ x_:World,x_=wr:=⟨_,rfl⟩;subst hw7;go_wp2_with fail;go_loopw [41] (fun v41 w'=> ∃ j:Nat,v41= .int .i64 (j:Int)∧j≤ax.length∧Aside0 (Sp n0 Zc l gx gz gA (some ⟨gA,0,none⟩) cA base (lessA F m (ax.take j)) w')∧Aside0 (Ks (fun b=>b=gA) w7 w')) (fun v41 _=>ax.length - (intOf v41).toNat)
   case atStart=>exact⟨0,rfl,Nat.zero_le _,⟨by rw[List.take_zero];exact HS6.out⟩,⟨Ks.refl _ _⟩⟩
   case round=>
    obtain⟨j,rfl,hj,HSJ,HKJ⟩:=hrel;have HFJ:=Ya (HKJ.out.F HF6.out (fun k hk _=>hk.2));by_cases hlt:j<ax.length
    ·have c42:decide ((j:Int)<(ax.length:Int))=true:=Ys (by omega)
     have pj:(0:Int)≤(j:Int):=by omega
     have qj:(j:Int)<(ax.length:Int):=by omega
     obtain⟨ij,r1,ijl,r3,r4,_,r5⟩:=HRD.out j hlt;obtain⟨ad',e,y0⟩:=Kd.at_int (Kd.F_now HFJ.out) (j:Int) pj qj;injection e with e
     subst e;rw[r1,Int.toNat_natCast] at y0;have hlX:(lessA F m (ax.take j)).length=l.length:=by rw[lessA_len];exact HLF.out
     obtain⟨_,_,z0,_,zf⟩:=HSJ.out.cells hlX ijl;have hcF:(lessA F m (ax.take j)).getD ij 0=F.getD ij 0:=by
      rw[lessA_get m ij (ax.take j) F (List.Sublist.nodup (List.take_sublist _ _) HK.out.nodup) (fun i hi=>by have:=HK.out.go.of i (List.mem_of_mem_take hi);rw[HLF.out];exact this),Yv r5,Int.sub_zero]
     have hnum:=HR.out.nums ij ijl;have hput:=HSJ.out.put hlX ijl ((lessA F m (ax.take j)).getD ij 0 - m);have hsn:=lessA_snoc F m (ax.take j) (ij:Int);rw[Int.toNat_natCast] at hsn;rw[← hsn, ← r4] at hput;rw[hcF] at z0 hput;obtain⟨c,hc⟩: ∃ c,c=F.getD ij 0:=⟨_,rfl⟩;rw[← hc] at z0 hput hnum;have pc:0≤c:=hnum.2.2.1;have qc:c≤1048576:=by omega
     have HPUT:=Ya hput;have x2:wr.cell? ⟨gx,2,none⟩=some (.slice (some ⟨gA,0,none⟩) l.length cA):=(Yc HSJ.out.x 2).trans rfl;have pij:(0:Int)≤(ij:Int):=by omega
     have qij:(ij:Int)<(l.length:Int):=by omega
     clear r1 r3 r4 r5 hc hput hsn hnum hcF hlX;go_wp2_with fail;have m1_:Aside0 (Ks (fun b=>b=gA) w7 (wr.setCell ⟨gA,ij * 4+2,none⟩ (.int .i64 (c - m)))):=⟨HKJ.out.set (fun _=>rfl) _ _⟩;go_roundw
     case rel=>exact⟨j+1,by go_num,hlt,HPUT,m1_⟩
     case measure=>simp[intOf]<;>omega
    ·have ej:j=ax.length:=by omega
     subst ej;have c42:decide ((ax.length:Int)<(ax.length:Int))=false:=Yt (by omega);have hB:wr.heap[g4]? =some (.cells #[.slice none 0 0, .int .i64 0] 47 (0,0)):=HKJ.out.blk B6.out (fun e=>by have:=HG4.out;have h2:=HS6.out;have:=HGA.out;omega);have q0:wr.cell? ⟨g4,0,none⟩=some (.slice none 0 0):=(Yc hB 0).trans rfl;have q1:wr.cell? ⟨g4,1,none⟩=some (.int .i64 0):=(Yc hB 1).trans rfl;have q2:=Yf hB 0;have q3:=Yf hB 1;have HBW:=Ya hB;clear hB;go_wp2_with fail;refine bodyPost_ret (results_cell_row rfl _ _ g4 47 #[.slice (some ad) ax.length ca, .int .i64 m] (0,0) _ rfl (by refine Yx (cs:= #[.slice (some ad) ax.length ca, .int .i64 0]) ?_ 1 _ rfl;refine Yx (cs:= #[.slice none 0 0, .int .i64 0]) ?_ 0 _ rfl;exact HBW.out) Try.underlying47 rfl (by kernel_rfl)) rfl ?_;have hsj:=HSJ.out;rw[List.take_of_length_le (Nat.le_refl _)] at hsj;have hg:=HG4.out;have hlw:=HLW.out;have hn:g4≠gx∧g4≠gA∧g4≠gz:=by omega
     exact⟨rfl,(hsj.far (p:=⟨g4,0,none⟩) hn _).far (p:=⟨g4,1,none⟩) hn _,((HKJ.out.trans' HB6.out).set (fun h_=>by omega) _ _).set (fun h_=>by omega) _ _⟩
end H
namespace H
open P
theorem empty_S (w:World):Kd.S k47 47 (w.alloc (.cells #[] 47)) w.heap.size (fun k=>w.heap.size≤k) (.slice (some ⟨w.heap.size,0,none⟩) 0 0) []:=by
 refine⟨fun _=>0,fun k hk=> ?_,[],⟨rfl, .inr ⟨w.heap.size,0,#[],rfl,Nat.le_refl _,heap_alloc_new w _,Nat.le_refl _,?_,rfl,rfl⟩⟩,rfl,fun j p hj=>(by cases hj)⟩
 ·have:w.heap.size=k:=by simpa [Value.ownBlock] using hk
  omega
 ·simp only[maxLen]
  omega
def CyR (n0:Nat) (Zc:Bool) (l:List S50) (gx gz gA:Nat) (A:Option Addr) (cA base:Nat) (R:List S47 × List Int) (w:World) (v3 v4:Value) (w':World) (k:Nat):Prop:=
 ∃ (i:Nat) (G:List Int) (O:List S47),v4= .int .i64 (i:Int)∧i≤l.length∧Right l G n0∧posN G+(l.length - i)<k∧O.length+posN G≤200∧(O ++ (cycF l n0 k i G).1,(cycF l n0 k i G).2)=R∧Kd.S k47 47 w' w.heap.size (fun k=>w.heap.size≤k) v3 O∧Sp n0 Zc l gx gz gA A cA base G w'∧Ks (fun b=>b=gA) w w'
section
variable {n0:Nat} {Zc:Bool} {l:List S50} {gx gz gA:Nat} {A:Option Addr} {cA base B:Nat} {F:List Int} {w w1:World}
theorem Sp.keep (h:Sp n0 Zc l gx gz gA A cA base F w) (hb:Below B w w1) (h1:gx<B∧gz<B∧gA<B):Sp n0 Zc l gx gz gA A cA base F w1:=
 ⟨(hb.block _ h1.1).trans h.x,Kd.R_step h.arcs (fun k hk _=>by have hk:k=gA:=hk;rw[hk];exact hb.block _ h1.2.2),h.zero.same (hb.block _ h1.2.1),h.apart,h.low⟩
end
section
variable {n0:Nat} {Zc:Bool} {l:List S50} {gx gz gA:Nat} {A:Option Addr} {cA base:Nat} {R:List S47 × List Int} {w wr w1:World} {v3:Value} {i k:Nat} {G:List Int} {O:List S47}
theorem CyR.skip (hRG:Right l G n0) (hi:i<l.length) (hk:posN G+(l.length - i)<k+1) (hlen:O.length+posN G≤200) (hres:(O ++ (cycF l n0 (k+1) i G).1,(cycF l n0 (k+1) i G).2)=R)
  (hO:Kd.S k47 47 wr w.heap.size (fun k=>w.heap.size≤k) v3 O) (hS:Sp n0 Zc l gx gz gA A cA base G wr) (hK:Ks (fun b=>b=gA) w wr) (hc:cycA l G n0 i=none) (hb:Below wr.heap.size wr w1):CyR n0 Zc l gx gz gA A cA base R w v3 (.int .i64 ((i:Int)+1)) w1 k:=by
 have e:cycF l n0 (k+1) i G=cycF l n0 k (i+1) G:=by rw[cycF,Yu hi,hc]
 rw[e] at hres;exact⟨i+1,G,O,by congr 1,hi,hRG,by omega,hlen,hres,Kd.S_below hO hb,hS.below hb,hK.below hb⟩
theorem CyR.take {ax:List Int} {v3':Value} (hRG:Right l G n0) (hi:i<l.length) (hk:posN G+(l.length - i)<k+1) (hlen:O.length+posN G≤200) (hres:(O ++ (cycF l n0 (k+1) i G).1,(cycF l n0 (k+1) i G).2)=R)
  (hc:cycA l G n0 i=some ax) (hO:Kd.S k47 47 w1 w.heap.size (fun k=>w.heap.size≤k) v3' (O ++ [⟨ax,amt G ax⟩])) (hS:Sp n0 Zc l gx gz gA A cA base (lessA G (amt G ax) ax) w1) (hK:Ks (fun b=>b=gA) w w1):CyR n0 Zc l gx gz gA A cA base R w v3' (.int .i64 (i:Int)) w1 k:=by
 have e:cycF l n0 (k+1) i G=(⟨ax,amt G ax⟩::(cycF l n0 k i (lessA G (amt G ax) ax)).1,(cycF l n0 k i (lessA G (amt G ax) ax)).2):=by rw[cycF,Yu hi,hc]
 rw[e] at hres;have ht:=(cycA_some hRG hi hc).1.taken hRG;have hf:=ht.fewer;exact⟨i,lessA G (amt G ax) ax,O ++ [⟨ax,amt G ax⟩],rfl,Nat.le_of_lt hi,ht.right,by omega,by rw[List.length_append,List.length_singleton];omega,by rw[List.append_assoc];exact hres,hO,hS,hK⟩
end
set_option maxHeartbeats 8000000 in
set_option maxRecDepth 100000 in
theorem cycles_calls (n0:Nat) (Zc:Bool) (l:List S50) (gx gz gA:Nat) (A:Option Addr) (cA base:Nat) (F:List Int) (w:World)
  (hR:Right l F n0) (hS:Sp n0 Zc l gx gz gA A cA base F w):
  Calls Try.prog 48 #[.pointer (some ⟨gx,0,none⟩)] w fun e w'=> ∃ v:Value,e= .returned v∧Kd.S k47 47 w' w.heap.size (fun k=>w.heap.size≤k) v (cycF l n0 1000 0 F).1∧Sp n0 Zc l gx gz gA A cA base (cycF l n0 1000 0 F).2 w'∧Ks (fun b=>b=gA) w w':=by
 have hu171:=Try.underlying114;have hu24:=Try.underlying24;have hu74:=Try.underlying50;have hu102:=Try.underlying47;have hAr:=hR.arcs;obtain⟨R,hRR⟩: ∃ R,R=cycF l n0 1000 0 F:=⟨_,rfl⟩;rw[← hRR];have hp0:posN F≤200:=by have:=posN_len F;have:=hR.len;omega
 have HRR:=Ya hRR;have HLW:Aside0 (gx<w.heap.size∧gz<w.heap.size∧(0<l.length→gA<w.heap.size)):=⟨blk_lt hS.x,hS.zero.lt,fun hl=>(Kd.R_lt hS.arcs) gA (by rw[hS.head hR.len hl];rfl)⟩;have HR:=Ya hR;have HS:=Ya hS;have HP0:=Ya hp0;clear hR hS hRR hp0;go_enter Try.func48,Try.ntmps48;go_upto_region 2 with fail
 have HO:Aside0 (Kd.S k47 47 (w.alloc (.cells #[] 47)) w.heap.size (fun k=>w.heap.size≤k) (.slice (some ⟨w.heap.size,0,none⟩) 0 0) []):=⟨empty_S w⟩;have HSA:=Ya (HS.out.below (Ye (Yo w.heap.size w) (.cells #[] 47)));have HKA:Aside0 (Ks (fun b=>b=gA) w (w.alloc (.cells #[] 47))):=⟨Ks.of_below (Ye (Yo w.heap.size w) (.cells #[] 47)) _⟩;generalize w.alloc (.cells #[] 47)=w5 at *;generalize Value.slice (some ⟨w.heap.size,0,none⟩) 0 0=v0 at *;go_wp2_with fail;go_loopw [3,4] (fun v3 v4 w'=> ∃ k,CyR n0 Zc l gx gz gA A cA base R w v3 v4 w' k) (fun v3 v4 w'=>least (CyR n0 Zc l gx gz gA A cA base R w v3 v4 w'))
 case atStart=>exact⟨1000,0,F,[],rfl,Nat.zero_le _,HR.out,by have:=HP0.out;omega,by have:=HP0.out;show 0+_≤200;omega,by rw[List.nil_append];exact HRR.out.symm,HO.out,HSA.out,HKA.out⟩
 case round=>
  clear HO HSA HKA HRR HR HP0;have hsp:=least_spec hrel;obtain⟨K,hK⟩: ∃ K,K=least (CyR n0 Zc l gx gz gA A cA base R w u3 u4 wr):=⟨_,rfl⟩;rw[← hK] at hsp;have HLE:=Ya hK;clear hK hrel;obtain⟨i,G,O,rfl,hi,hRG,hk,hlen,hres,hO,hSG,hKG⟩:=hsp;obtain⟨k,rfl⟩: ∃ k,K=k+1:=⟨K - 1,by omega⟩;have HRG:=Ya hRG;have HO:=Ya hO;have HSG:=Ya hSG;have HKG:=Ya hKG;have HLN:=Ya hlen;have HKK:=Ya hk;have HRES:=Ya hres;clear hRG hO hSG hKG hlen hk hres;have x3:wr.cell? ⟨gx,3,none⟩=some (.slice (some ⟨gz,0,none⟩) l.length l.length):=(Yc HSG.out.x 3).trans rfl;by_cases hlt:i<l.length
  ·have c15:decide ((i:Int)<(l.length:Int))=true:=Ys (by omega)
   have pi_:(0:Int)≤(i:Int):=by omega
   have qi:(i:Int)<(l.length:Int):=by omega
   obtain rfl:=HSG.out.head HRG.out.len (by omega);have x2:wr.cell? ⟨gx,2,none⟩=some (.slice (some ⟨gA,0,none⟩) l.length cA):=(Yc HSG.out.x 2).trans rfl;obtain⟨z0,z1,z2,z3,_⟩:=HSG.out.cells HRG.out.len hlt;obtain⟨f0,hf0⟩: ∃ f,f=(rd_T50 l i).f0:=⟨_,rfl⟩;obtain⟨f1,hf1⟩: ∃ f,f=(rd_T50 l i).f1:=⟨_,rfl⟩;obtain⟨f3,hf3⟩: ∃ f,f=(rd_T50 l i).f3:=⟨_,rfl⟩;obtain⟨c,hc⟩: ∃ c,c=G.getD i 0:=⟨_,rfl⟩;rw[← hf0] at z0;rw[← hf1] at z1;rw[← hf3] at z3;rw[← hc] at z2;have HC:=Ya hc;have HF0:=Ya hf0;have HF1:=Ya hf1;clear hf0 hf1 hf3 hc;by_cases hc0:c=0
   ·have e26:(c == 0)=true:=beq_iff_eq.2 hc0
    have HC0:=Ya hc0;clear hc0;go_wp2_with (first|((with_reducible refine gate_dst (N:=5) rfl ?_);refine Yw ?hg (N:=5) ?hd (cs:= #[.int .i64 0, .int .i64 0, .int .i64 0, .int .i64 0]) (t:=50) ?hr ?_;(case hd=>rfl);(case hg=>rfl);(case hr=>first|(go_simp;done)|(go_simp;rfl));intro g8 hg w10 Zg hb;have GE8:Aside0 (wr.heap.size≤g8):=⟨Nat.le_of_eq hg.symm⟩;have B8:=Ya Zg;have HB8:=Ya hb;clear Zg hg hb;have y0:w10.cell? ⟨g8,0,none⟩=some (.int .i64 0):=(Yc B8.out 0).trans rfl;have y1:w10.cell? ⟨g8,1,none⟩=some (.int .i64 0):=(Yc B8.out 1).trans rfl;have y2:w10.cell? ⟨g8,2,none⟩=some (.int .i64 0):=(Yc B8.out 2).trans rfl;have y3:w10.cell? ⟨g8,3,none⟩=some (.int .i64 0):=(Yc B8.out 3).trans rfl;have q0:=Yf B8.out 0;have q1:=Yf B8.out 1;have q2:=Yf B8.out 2;have q3:=Yf B8.out 3)|((with_reducible refine gate_store (t:=50) (p:=5) rfl ?_);refine store_event (t:=50) (p:=5) (v:= ?vo) (w1:=((((w10.setCell ⟨g8,0,none⟩ (.int .i64 f0)).setCell ⟨g8,1,none⟩ (.int .i64 f1)).setCell ⟨g8,2,none⟩ (.int .i64 c)).setCell ⟨g8,3,none⟩ (.int .i64 f3))) ?hg ?ho ?hn ?hr ?_;(case ho=>rfl);(case hg=>rfl);(case hn=>rfl);(case hr=>first|(go_simp;done)|(go_simp;rfl));intro w11 hw;have m0_:Aside0 (w11.heap[g8]? =some (.cells #[.int .i64 f0, .int .i64 f1, .int .i64 c, .int .i64 f3] 50 (0,0))):=⟨by rw[hw];refine Yx (cs:= #[.int .i64 f0, .int .i64 f1, .int .i64 c, .int .i64 0]) ?_ 3 _ rfl;refine Yx (cs:= #[.int .i64 f0, .int .i64 f1, .int .i64 0, .int .i64 0]) ?_ 2 _ rfl;refine Yx (cs:= #[.int .i64 f0, .int .i64 0, .int .i64 0, .int .i64 0]) ?_ 1 _ rfl;refine Yx (cs:= #[.int .i64 0, .int .i64 0, .int .i64 0, .int .i64 0]) ?_ 0 _ rfl;exact B8.out⟩;have m1_:Aside0 (Below wr.heap.size wr w11):=⟨by rw[hw];exact Yh (Yh (Yh (Yh HB8.out GE8.out) GE8.out) GE8.out) GE8.out⟩;clear hw B8 HB8 y0 y1 y2 y3 q0 q1 q2 q3 x2 x3 z0 z1 z2 z3;have B8:=m0_;have HB8:=m1_;clear m0_ m1_;have y0:w11.cell? ⟨g8,0,none⟩=some (.int .i64 f0):=(Yc B8.out 0).trans rfl;have y1:w11.cell? ⟨g8,1,none⟩=some (.int .i64 f1):=(Yc B8.out 1).trans rfl;have y2:w11.cell? ⟨g8,2,none⟩=some (.int .i64 c):=(Yc B8.out 2).trans rfl)|fail);have hcy:cycA l G n0 i=none:=by unfold cycA;rw[Yu (by rw[← HC.out];exact HC0.out)]
    have h:=CyR.skip HRG.out hlt HKK.out HLN.out HRES.out HO.out HSG.out HKG.out hcy HB8.out;exact⟨⟨k,h⟩,least_lt h (by rw[← HLE.out];exact Nat.lt_succ_self k)⟩
   ·have e26:(c == 0)=false:=beq_eq_false_iff_ne.2 hc0
    have HC0:=Ya hc0;clear hc0;go_upto_region 7 with (first|((with_reducible refine gate_dst (N:=5) rfl ?_);refine Yw ?hg (N:=5) ?hd (cs:= #[.int .i64 0, .int .i64 0, .int .i64 0, .int .i64 0]) (t:=50) ?hr ?_;(case hd=>rfl);(case hg=>rfl);(case hr=>first|(go_simp;done)|(go_simp;rfl));intro g8 hg w10 Zg hb;have GE8:Aside0 (wr.heap.size≤g8):=⟨Nat.le_of_eq hg.symm⟩;have B8:=Ya Zg;have HB8:=Ya hb;clear Zg hg hb;have y0:w10.cell? ⟨g8,0,none⟩=some (.int .i64 0):=(Yc B8.out 0).trans rfl;have y1:w10.cell? ⟨g8,1,none⟩=some (.int .i64 0):=(Yc B8.out 1).trans rfl;have y2:w10.cell? ⟨g8,2,none⟩=some (.int .i64 0):=(Yc B8.out 2).trans rfl;have y3:w10.cell? ⟨g8,3,none⟩=some (.int .i64 0):=(Yc B8.out 3).trans rfl;have q0:=Yf B8.out 0;have q1:=Yf B8.out 1;have q2:=Yf B8.out 2;have q3:=Yf B8.out 3)|((with_reducible refine gate_store (t:=50) (p:=5) rfl ?_);refine store_event (t:=50) (p:=5) (v:= ?vo) (w1:=((((w10.setCell ⟨g8,0,none⟩ (.int .i64 f0)).setCell ⟨g8,1,none⟩ (.int .i64 f1)).setCell ⟨g8,2,none⟩ (.int .i64 c)).setCell ⟨g8,3,none⟩ (.int .i64 f3))) ?hg ?ho ?hn ?hr ?_;(case ho=>rfl);(case hg=>rfl);(case hn=>rfl);(case hr=>first|(go_simp;done)|(go_simp;rfl));intro w11 hw;have m0_:Aside0 (w11.heap[g8]? =some (.cells #[.int .i64 f0, .int .i64 f1, .int .i64 c, .int .i64 f3] 50 (0,0))):=⟨by rw[hw];refine Yx (cs:= #[.int .i64 f0, .int .i64 f1, .int .i64 c, .int .i64 0]) ?_ 3 _ rfl;refine Yx (cs:= #[.int .i64 f0, .int .i64 f1, .int .i64 0, .int .i64 0]) ?_ 2 _ rfl;refine Yx (cs:= #[.int .i64 f0, .int .i64 0, .int .i64 0, .int .i64 0]) ?_ 1 _ rfl;refine Yx (cs:= #[.int .i64 0, .int .i64 0, .int .i64 0, .int .i64 0]) ?_ 0 _ rfl;exact B8.out⟩;have m1_:Aside0 (Below wr.heap.size wr w11):=⟨by rw[hw];exact Yh (Yh (Yh (Yh HB8.out GE8.out) GE8.out) GE8.out) GE8.out⟩;clear hw B8 HB8 y0 y1 y2 y3 q0 q1 q2 q3 x2 x3 z0 z1 z2 z3;have B8:=m0_;have HB8:=m1_;clear m0_ m1_;have y0:w11.cell? ⟨g8,0,none⟩=some (.int .i64 f0):=(Yc B8.out 0).trans rfl;have y1:w11.cell? ⟨g8,1,none⟩=some (.int .i64 f1):=(Yc B8.out 1).trans rfl;have y2:w11.cell? ⟨g8,2,none⟩=some (.int .i64 c):=(Yc B8.out 2).trans rfl)|fail)
    have y0a:(w11.alloc (.cells #[] 3)).cell? ⟨g8,0,none⟩=some (.int .i64 f0):=pw_cell_below (Ye (Yo _ _) _) y0;have y1a:(w11.alloc (.cells #[] 3)).cell? ⟨g8,1,none⟩=some (.int .i64 f1):=pw_cell_below (Ye (Yo _ _) _) y1;go_region;have HBC:Aside0 (Below wr.heap.size wr (w11.alloc (.cells #[] 3)).drew):=⟨below_drew (Ye HB8.out _)⟩;have HE6:Aside0 (Kd.C (Kd.int .i64) (w11.alloc (.cells #[] 3)).drew (some ⟨w11.heap.size,0,none⟩) 0 []):=⟨isI_C (X:=[]) (IsI.below (w:=w11.alloc (.cells #[] 3)) (heap_alloc_new w11 _) (below_drew (Yo _ _))) (by simp)⟩;have yb0:(w11.alloc (.cells #[] 3)).drew.cell? ⟨g8,0,none⟩=some (.int .i64 f0):=pw_cell_below (below_drew (Yo _ _)) y0a;have yb1:(w11.alloc (.cells #[] 3)).drew.cell? ⟨g8,1,none⟩=some (.int .i64 f1):=pw_cell_below (below_drew (Yo _ _)) y1a;clear y0a y1a y0 y1 y2 B8 HB8;generalize (w11.alloc (.cells #[] 3)).drew=w12 at *;generalize w11.heap.size=g6 at *;go_step;go_step;go_step;try simp only[Act.put,List.setIfInBounds_toArray,List.set_cons_zero,List.set_cons_succ]
    go_cut [6,7] (fun v6 v7 wx=> ∃ (b:Bool) (BK:List Int) (A6:Option Addr) (c6:Nat),v6= .slice A6 BK.length c6∧v7= .bool b∧Aside0 (b=true→cycA l G n0 i=some ((i:Int)::BK))∧Aside0 (b=false→cycA l G n0 i=none)∧Aside0 (Kd.C (Kd.int .i64) wx A6 BK.length BK)∧Aside0 (BK.length≤200)∧Aside0 (Below wr.heap.size wr wx))
    case first=>
     have hends:=HRG.out.ends i hlt;have hcz: ¬ G.getD i 0=0:=by rw[← HC.out];exact HC0.out
     have hF0:eFrom (rd_T50 l i)=f0:=HF0.out.symm;have hF1:eTo (rd_T50 l i)=f1:=HF1.out.symm;by_cases h01:f0=f1
     ·have e34:(f0 == f1)=true:=beq_iff_eq.2 h01
      have hcy:cycA l G n0 i=some [(i:Int)]:=by unfold cycA;rw[Yv hcz,Yu (by rw[hF0,hF1];exact h01)]
      have HCY:=Ya hcy;clear hends hcz hF0 hF1 h01 hcy;go_wp2_with fail;go_meet;exact⟨true,[],some ⟨g6,0,none⟩,0,rfl,by rw[e34],⟨fun _=>HCY.out⟩,⟨fun h=>by cases h⟩,HE6,⟨by simp⟩,HBC⟩
     ·have e34:(f0 == f1)=false:=beq_eq_false_iff_ne.2 h01
      obtain⟨u,hu⟩: ∃ u:Nat,f1=u:=⟨f1.toNat,by rw[← hF1];omega⟩;obtain⟨v,hv⟩: ∃ v:Nat,f0=v:=⟨f0.toNat,by rw[← hF0];omega⟩;have hun:u<n0:=by rw[hF1,hu] at hends;omega
      have hvn:v<n0:=by rw[hF0,hv] at hends;omega
      have huv:u≠v:=by rw[hu,hv] at h01;omega
      have hcy:cycA l G n0 i=if v∈reach l G n0 u then some ((i:Int)::arcsOf (wayA l G n0 u v)) else none:=by
       unfold cycA;rw[Yv hcz,Yv (by rw[hF0,hF1];exact h01),hF0,hF1,hu,hv,Int.toNat_natCast,Int.toNat_natCast]
      have kW:=sway_calls n0 Zc l gx gz gA (some ⟨gA,0,none⟩) cA base G u v w12 HRG.out hun hvn huv (HSG.out.below HBC.out);have KW:=Ya kW;have HCY:=Ya hcy;have HWL:=Ya (wayA_le HRG.out hun huv);subst hu;subst hv;clear hends hcz hF0 hF1 h01 hcy kW;go_wp2_with (first|(go_at_call 49;refine KW.out.mono ?_;rintro e_ w13 ⟨vv,rfl,hvv,hb13⟩;obtain⟨A6,c6,ev⟩:=Kd.R_slice hvv;subst ev)|fail);go_meet;refine⟨decide (v∈reach l G n0 u),arcsOf (wayA l G n0 u v),A6,c6,rfl,rfl,⟨fun h=> ?_⟩,⟨fun h=> ?_⟩,⟨(Kd.R_reads' hvv).2.2⟩,⟨by unfold arcsOf;rw[List.length_map];exact HWL.out⟩,⟨Yk HBC.out hb13⟩⟩
      ·rw[HCY.out,Yu (Yr h)]
      ·rw[HCY.out,Yv (of_decide_eq_false h)]
    case rest=>
     clear HE6 HBC yb0 yb1;obtain⟨b,BK,A6,c6,rfl,rfl,HT,HN,HC6,HBL,HBC⟩:=hcut;cases b with
     |false=>
      have hcy:=HN.out rfl;have HCY:=Ya hcy;clear hcy;go_wp2_with fail;have h:=CyR.skip HRG.out hlt HKK.out HLN.out HRES.out HO.out HSG.out HKG.out HCY.out HBC.out;exact⟨⟨k,h⟩,least_lt h (by rw[← HLE.out];exact Nat.lt_succ_self k)⟩
     |true=>
      obtain⟨ax,hax⟩: ∃ ax,ax=(i:Int)::BK:=⟨_,rfl⟩;have hcy:cycA l G n0 i=some ax:=by rw[hax];exact HT.out rfl
      have HAX:Aside0 ([(i:Int)] ++ BK=ax):=⟨hax.symm⟩;have HCY:=Ya hcy;have hbl:=HBL.out;have hlw:gx<w.heap.size∧gz<w.heap.size∧gA<w.heap.size:=⟨HLW.out.1,HLW.out.2.1,HLW.out.2.2 (by omega)⟩;have HLW2:=Ya hlw;have hsz:=HBC.out.size;have hwz:=HKG.out.size;have HSZ:Aside0 (wr.heap.size≤wc.heap.size∧w.heap.size≤wr.heap.size):=⟨hsz,hwz⟩;have HO2:Aside0 (Kd.S k47 47 wc w.heap.size (fun k=>w.heap.size≤k∧k<wr.heap.size) u3 O):=⟨Kd.S_old HO.out HBC.out⟩;clear HT HN hax hcy hlw hsz hwz;go_wp2_with (first|((with_reducible refine gate_builtin (b:= .append) (xs:= #[.tmp 53, .tmp 54]) rfl ?_);at_builtin;refine Kd.R_append_rows (Kd.int .i64) (Rr:=(Kd.int .i64).K (wc.alloc (.cells #[.int .i64 (i:Int)] 3))) (w0:=wc) wc.heap.size rfl (.tmp 53) (.tmp 54) 31 3 (.int .i64 0) 8 rfl Try.underlying31 info3 rfl (by decide) (by omega) (.slice (some ⟨wc.heap.size,0,none⟩) 1 1) [(i:Int)] BK A6 BK.length c6 (fun k=>wc.heap.size≤k) (fun _=>False) rfl rfl ?aO ?aR (fun _ _ h=>h) (fun _ h=>h.elim) ?aF ?aB ?aS ?aL ?_;(case aO=>exact IsI.R (D:=[(i:Int)]) (heap_alloc_new wc _) (by simp) (Nat.le_refl _) (Nat.le_refl _));(case aR=>exact Yq HC6.out (Ye (Yo _ _) _));(case aF=>exact(fun k hk=>Nat.le_trans (by simp) hk));(case aB=>exact Ye (Yo _ _) _);(case aS=>simp);(case aL=>show (1+BK.length) * 8≤_;omega);intro v1 w13 ho hb hg_ hat_;rw[HAX.out] at ho;obtain⟨A1,c1,ev⟩:=Kd.R_slice ho;subst ev;have HR1:=Ya ho;have HB13:=Ya (Yk HBC.out hb);have HB13c:=Ya hb;clear ho hb hg_ hat_ HC6 HBC)|(go_at_call 50;refine(take_calls n0 Zc l gx gz gA (some ⟨gA,0,none⟩) cA base G _ _ ax A1 c1 _ HRG.out (cycA_some HRG.out hlt HCY.out).1 (HSG.out.below HB13.out) (Kd.R_reads' HR1.out).2.1 (Kd.F_mono (Kd.R_F (Kd.R_bound HR1.out)) (fun k hk=>⟨hk.2.2.1,by have:=hk.1;have:=HLW2.out;have:=HSZ.out;omega⟩))).mono ?_;rintro e_ w14 ⟨rfl,hsp,hks⟩;have HSP:=Ya hsp;have HKS:=Ya hks;have HR2:Aside0 (Kd.R (Kd.int .i64) 3 w14 w.heap.size (fun k=>wr.heap.size≤k) (.slice A1 ax.length c1) ax):=⟨Kd.R_mono (Kd.R_lower (Kd.R_step HR1.out (fun k hk hlt2=>hks.block k hlt2 (fun e=>by have e:k=gA:=e;have:=HLW2.out;have:=HSZ.out;omega))) (by have:=HSZ.out;omega)) (fun k hk=>Nat.le_trans HSZ.out.1 hk)⟩;have HO4:Aside0 (Kd.S k47 47 w14 w.heap.size (fun k=>w.heap.size≤k∧ ¬ wr.heap.size≤k) u3 O):=⟨Kd.S_mono (Kd.S_step (Kd.S_below HO2.out HB13c.out) (fun k hk hlt2=>hks.block k hlt2 (fun e=>by have e:k=gA:=e;have:=HLW2.out;omega))) (fun k hk=>⟨hk.1,by omega⟩)⟩;have HKG1:=Ya ((HKG.out.below HB13.out).trans hks (fun b hb _=>hb));have HSZ4:Aside0 (w.heap.size≤w14.heap.size):=⟨HKG1.out.size⟩;clear hsp hks HR1 HO2 HKS HB13 HB13c)|((with_reducible refine gate_builtin (b:= .append) (xs:= #[.tmp 50, .tmp 57]) rfl ?_);at_builtin;refine Kd.S_append k47 (w0:=w14) w.heap.size rfl (.tmp 50) (.tmp 57) 42 47 (.agg #[(.slice none 0 0),(.int .i64 0)]) 32 rfl Try.underlying42 info47 rfl (by decide) (by omega) u3 O ⟨ax,amt G ax⟩ [.slice A1 ax.length c1, .int .i64 (amt G ax)] (fun k=>w.heap.size≤k) (fun k=>wr.heap.size≤k) rfl rfl ?aP ?aQ ?aF ?aO ?aB ?aS ?aL ?_;(case aP=>exact k47_mkM _ _ _ _ HR2.out);(case aQ=>exact(fun k hk=>⟨Nat.le_trans HSZ.out.2 hk,fun e=>by have:=Kd.S_lt HO.out k e.symm;omega⟩));(case aF=>exact(fun k hk=>Nat.le_trans HSZ4.out hk));(case aO=>exact HO4.out);(case aB=>exact Yo _ _);(case aS=>exact HSZ4.out);(case aL=>have:=HLN.out;omega);intro v3 w15 ho hb hg_ hat_;have HO3:=Ya ho;have HSG2:=Ya (HSP.out.keep hb HLW2.out);have HKG2:=Ya (ks_b HKG1.out hb);clear ho hb hg_ hat_)|fail);have h:=CyR.take HRG.out hlt HKK.out HLN.out HRES.out HCY.out HO3.out HSG2.out HKG2.out;exact⟨⟨k,h⟩,least_lt h (by rw[← HLE.out];exact Nat.lt_succ_self k)⟩
  ·have ei:i=l.length:=by omega
   subst ei;have c15:decide ((l.length:Int)<(l.length:Int))=false:=Yt (by omega);have hR2:(O,G)=R:=by
    have h_:=HRES.out;rw[cycF,Yv hlt,List.append_nil] at h_;exact h_
   have HR2:=Ya hR2;clear hR2;go_wp2_with fail;go_ret;rw[← HR2.out];exact⟨_,rfl,HO.out,HSG.out,HKG.out⟩
end H
namespace H
open P
def capsOf (l:List S50):List Int:=l.map fun a=>a.f2
theorem left_caps (l:List S50):leftA l (capsOf l)=l:=by
 unfold leftA capsOf;apply List.ext_getElem?;intro j;rw[List.getElem?_zipWith,List.getElem?_map];cases l[j]? <;>rfl
theorem clone_arcs {l:List S50} (h:l.length≤200):api_Arc.f l=some l:=by
 show (if 0+l.length<4398046511104 then some ([] ++ l) else none)=some l;rw[Yu (by omega)];rfl
theorem set_take_app {i n:Nat} {X Y:List Int} (hi:i<n) (hx:X.length=n) (hy:Y.length=n):(X.take i ++ Y.drop i).set i (X.getD i 0)=X.take (i+1) ++ Y.drop (i+1):=by
 have hd:=Q.drop_getD Y i 0 (by omega);rw[hd,List.set_append_right _ _ (by rw[List.length_take];omega),List.length_take,show i - min i X.length=0 by omega,List.set_cons_zero,List.take_add_one,List.getElem?_eq_getElem (by omega),List.getD_eq_getElem?_getD,List.getElem?_eq_getElem (by omega),List.append_assoc];rfl
set_option maxHeartbeats 4000000 in
set_option maxRecDepth 100000 in
theorem begun_calls (n0:Nat) (Zc:Bool) (A2:Option Addr) (c2:Nat) (l:List S50) (A1:Option Addr) (c1:Nat) (F:List Int) (w:World)
  (hR:Right l F n0) (h2:Kd.C k50 w A2 l.length l) (hc2:l.length≤c2) (h1:Kd.C (Kd.int .i64) w A1 F.length F) (hc1:F.length≤c1):
  Calls Try.prog 47 #[.agg #[.int .i64 (n0:Int), .bool Zc, .slice A2 l.length c2], .slice A1 F.length c1] w fun e w'=> ∃ (gx gz gA:Nat) (A:Option Addr) (cA:Nat),e= .returned (.pointer (some ⟨gx,0,none⟩))∧Sp n0 Zc l gx gz gA A cA w.heap.size F w'∧Below w.heap.size w w'∧w.heap.size≤gA∧gA<w'.heap.size:=by
 have hu171:=Try.underlying114;have hu24:=Try.underlying24;have hu74:=Try.underlying50;have hAr:=hR.arcs;have hlF:=hR.len;have hmk:=made_ints l.length (by omega);rw[hlF] at h1 hc1 ⊢;have HC2:=Ya hc2;have HC1:=Ya hc1;have H2:=Ya h2;have H1:=Ya h1;have HLF:=Ya hlF;clear hR h2 h1 hc1 hc2 hlF;go_enter Try.func47,Try.ntmps47;go_upto_region 1 with (first|((with_reducible refine gate_dst (N:=2) rfl ?_);refine Yw ?hg (N:=2) ?hd (cs:= #[.int .i64 (n0:Int), .bool Zc, .slice A2 l.length c2]) (t:=24) ?hr ?_;(case hd=>rfl);(case hg=>rfl);(case hr=>first|(go_simp;done)|(go_simp;rfl));intro g2 hg2 w5 Zg hb;have B2:=Ya Zg;have HB:=Ya hb;have HG2:Aside0 (w.heap.size≤g2):=⟨Nat.le_of_eq hg2.symm⟩;clear hg2 Zg hb)|fail)
 have x0:w5.cell? ⟨g2,0,none⟩=some (.int .i64 (n0:Int)):=(Yc B2.out 0).trans rfl;have x1:w5.cell? ⟨g2,1,none⟩=some (.bool Zc):=(Yc B2.out 1).trans rfl;have x2:w5.cell? ⟨g2,2,none⟩=some (.slice A2 l.length c2):=(Yc B2.out 2).trans rfl;have x0a:(w5.alloc (.cells (nums .i64 (List.replicate l.length 0)).toArray 3)).cell? ⟨g2,0,none⟩=some (.int .i64 (n0:Int)):=pw_cell_below (Ye (Yo _ _) _) x0;have x1a:(w5.alloc (.cells (nums .i64 (List.replicate l.length 0)).toArray 3)).cell? ⟨g2,1,none⟩=some (.bool Zc):=pw_cell_below (Ye (Yo _ _) _) x1;have x2a:(w5.alloc (.cells (nums .i64 (List.replicate l.length 0)).toArray 3)).cell? ⟨g2,2,none⟩=some (.slice A2 l.length c2):=pw_cell_below (Ye (Yo _ _) _) x2;try simp only[Act.put,List.setIfInBounds_toArray,List.set_cons_zero,List.set_cons_succ]
 go_region;have HZ:Aside0 (IsI ((w5.alloc (.cells (nums .i64 (List.replicate l.length 0)).toArray 3)).alloc (.cells #[.int .i64 (n0:Int), .bool Zc, .slice A2 l.length c2, .slice (some ⟨w5.heap.size,0,none⟩) l.length l.length] 114)).drew w5.heap.size (zer l)):=⟨IsI.below (w:=w5.alloc (.cells (nums .i64 (List.replicate l.length 0)).toArray 3)) (heap_alloc_new w5 _) (below_drew (Ye (Yo _ _) _))⟩;have HX:Aside0 (((w5.alloc (.cells (nums .i64 (List.replicate l.length 0)).toArray 3)).alloc (.cells #[.int .i64 (n0:Int), .bool Zc, .slice A2 l.length c2, .slice (some ⟨w5.heap.size,0,none⟩) l.length l.length] 114)).drew.heap[w5.heap.size+1]? =some (.cells #[.int .i64 (n0:Int), .bool Zc, .slice A2 l.length c2, .slice (some ⟨w5.heap.size,0,none⟩) l.length l.length] 114 (0,0))):=⟨by
  have h_:=heap_alloc_new (w5.alloc (.cells (nums .i64 (List.replicate l.length 0)).toArray 3)) (.cells #[.int .i64 (n0:Int), .bool Zc, .slice A2 l.length c2, .slice (some ⟨w5.heap.size,0,none⟩) l.length l.length] 114);rw[show (w5.alloc (.cells (nums .i64 (List.replicate l.length 0)).toArray 3)).heap.size=w5.heap.size+1 by simp] at h_;exact h_⟩
 have HB6:Aside0 (Below w.heap.size w ((w5.alloc (.cells (nums .i64 (List.replicate l.length 0)).toArray 3)).alloc (.cells #[.int .i64 (n0:Int), .bool Zc, .slice A2 l.length c2, .slice (some ⟨w5.heap.size,0,none⟩) l.length l.length] 114)).drew):=⟨below_drew (Ye (Ye HB.out _) _)⟩;have B6:=Ya (Yn B2.out (below_drew (Ye (Ye (Yo w5.heap.size w5) (.cells (nums .i64 (List.replicate l.length 0)).toArray 3)) (.cells #[.int .i64 (n0:Int), .bool Zc, .slice A2 l.length c2, .slice (some ⟨w5.heap.size,0,none⟩) l.length l.length] 114))));have HGZ:Aside0 (w.heap.size≤w5.heap.size):=⟨HB.out.size⟩;have HG22:Aside0 (g2<w5.heap.size):=⟨blk_lt B2.out⟩;obtain⟨gx,hgx⟩: ∃ gx,gx=w5.heap.size+1:=⟨_,rfl⟩;rw[← hgx] at HX ⊢;have HGX:=Ya hgx;clear x0 x1 x2 x0a x1a x2a B2 HB hmk hgx;generalize ((w5.alloc (.cells (nums .i64 (List.replicate l.length 0)).toArray 3)).alloc (.cells #[.int .i64 (n0:Int), .bool Zc, .slice A2 l.length c2, .slice (some ⟨w5.heap.size,0,none⟩) l.length l.length] 114)).drew=w6 at *;generalize w5.heap.size=gz at *;have x2:w6.cell? ⟨g2,2,none⟩=some (.slice A2 l.length c2):=(Yc B6.out 2).trans rfl;have hcl:=api_Arc.calls A2 c2 l l w6 (Yq H2.out HB6.out) HC2.out (clone_arcs hAr);have HCL:=Ya hcl;clear hcl;go_upto_region 3 with (first|(go_at_call 74;refine HCL.out.mono ?_;rintro e_ w7 ⟨vl,rfl,hv,hb⟩;obtain⟨A,cA,ev⟩:=Kd.R_slice hv;subst ev;have HV:=Ya hv;have HX7:=Ya (Yn HX.out hb);have HZ7:=Ya (HZ.out.below hb);have HB7:=Ya (Yk HB6.out hb);have HS67:Aside0 (w6.heap.size≤w7.heap.size):=⟨hb.size⟩;have HSZ:Aside0 (gx<w6.heap.size∧gz<w6.heap.size):=⟨blk_lt HX.out,HZ.out.lt⟩;clear hv hb HX HZ HB6 B6 x2;have y2:w7.cell? ⟨gx,2,none⟩=some (.slice A2 l.length c2):=(Yc HX7.out 2).trans rfl;have q2:=Yf HX7.out 2)|fail)
 obtain⟨gA,hgA⟩: ∃ gA,gA=((Value.slice A l.length cA).ownBlock).getD g2:=⟨_,rfl⟩;have hown: ∀ k,some k=(Value.slice A l.length cA).ownBlock→k=gA:=fun k hk=>by rw[hgA, ← hk];rfl
 have hgA2:(gx≠gA∧gz≠gA)∧w.heap.size≤gA∧gA<w7.heap.size:=by
  have h1:=HG22.out;have h2:=HGX.out;have h3:=HSZ.out;have h4:=HG2.out;have h5:=HB7.out.size;have h6:=HGZ.out;have h7:=HS67.out;cases ho:(Value.slice A l.length cA).ownBlock with
  |none=>rw[hgA,ho];show (gx≠g2∧gz≠g2)∧w.heap.size≤g2∧g2<w7.heap.size;omega
  |some b=>
   have h_:=Kd.R_base HV.out b ho;have:=Kd.R_lt HV.out b ho;rw[hgA,ho];show (gx≠b∧gz≠b)∧w.heap.size≤b∧b<w7.heap.size;omega
 have HSP:Aside0 (Sp n0 Zc l gx gz gA A cA w.heap.size (capsOf l) (w7.setCell ⟨gx,2,none⟩ (.slice A l.length cA))):=⟨⟨(blk_set HX7.out 2 _).trans rfl,by
  rw[left_caps];refine Kd.R_far (p:=⟨gx,2,none⟩) ?_ (fun k hk=>by have hk:k=gA:=hk;rw[hk];exact Ne.symm hgA2.1.1) _;exact Kd.R_lower (Kd.R_mono (Kd.R_tight rfl HV.out) hown) (by have:=HSZ.out;have:=HB7.out.size;have:=HGZ.out;have:=HGX.out;omega),HZ7.out.far (p:=⟨gx,2,none⟩) (by have:=HGX.out;show gz≠gx;omega) _,⟨hgA2.1.1,hgA2.1.2,by have:=HGX.out;omega⟩,⟨by have:=HGX.out;have:=HGZ.out;omega,HGZ.out⟩⟩⟩
 have HB8:Aside0 (Below w.heap.size w (w7.setCell ⟨gx,2,none⟩ (.slice A l.length cA))):=⟨Yh HB7.out (by have:=HGX.out;have:=HGZ.out;omega)⟩;have HGA2:Aside0 (w.heap.size≤gA∧gA<(w7.setCell ⟨gx,2,none⟩ (.slice A l.length cA)).heap.size):=⟨⟨hgA2.2.1,by simpa [World.setCell] using hgA2.2.2⟩⟩;clear HX7 HZ7 HB7 HV y2 q2 hown hgA2 hgA;generalize w7.setCell ⟨gx,2,none⟩ (.slice A l.length cA)=w8 at *;go_wp2_with fail;go_loopw [23] (fun v23 w'=> ∃ i:Nat,v23= .int .i64 (i:Int)∧i≤l.length∧Aside0 (Sp n0 Zc l gx gz gA A cA w.heap.size (F.take i ++ (capsOf l).drop i) w')∧Aside0 (Below w.heap.size w w')∧Aside0 (w8.heap.size≤w'.heap.size)) (fun v23 _=>l.length - (intOf v23).toNat)
 case atStart=>exact⟨0,rfl,Nat.zero_le _,HSP,HB8,⟨Nat.le_refl _⟩⟩
 case round=>
  clear HSP HB8;obtain⟨i,rfl,hi,HSJ,HBJ,HWZ⟩:=hrel;by_cases hlt:i<l.length
  ·have c24:decide ((i:Int)<(l.length:Int))=true:=Ys (by omega)
   have pj:(0:Int)≤(i:Int):=by omega
   have qj:(i:Int)<(l.length:Int):=by omega
   obtain⟨ad,e,y0⟩:=Kd.at_int (Yq H1.out HBJ.out) (i:Int) pj qj;subst e;rw[Q.rd_nat,Int.toNat_natCast] at y0;have hcl:(capsOf l).length=l.length:=by unfold capsOf;rw[List.length_map]
   have hlX:(F.take i ++ (capsOf l).drop i).length=l.length:=by rw[List.length_append,List.length_take,List.length_drop];have:=HLF.out;omega
   obtain rfl:=HSJ.out.head hlX (by omega);obtain⟨_,_,z0,_,zf⟩:=HSJ.out.cells hlX hlt;have hput:=HSJ.out.put hlX hlt (F.getD i 0);rw[set_take_app (n:=l.length) hlt HLF.out hcl] at hput;obtain⟨c,hc⟩: ∃ c,c=F.getD i 0:=⟨_,rfl⟩;obtain⟨d,hd⟩: ∃ d,d=(F.take i ++ (capsOf l).drop i).getD i 0:=⟨_,rfl⟩;rw[← hc] at y0 hput;rw[← hd] at z0;have HPUT:=Ya hput;have hbg:=Kd.R_base HSJ.out.arcs gA rfl;have m1_:Aside0 (Below w.heap.size w (wr.setCell ⟨gA,i * 4+2,none⟩ (.int .i64 c))):=⟨Yh HBJ.out hbg⟩;have x2:wr.cell? ⟨gx,2,none⟩=some (.slice (some ⟨gA,0,none⟩) l.length cA):=(Yc HSJ.out.x 2).trans rfl;clear hput hc hd hcl hlX hbg;go_wp2_with fail;go_roundw
   case rel=>exact⟨i+1,by go_num,hlt,HPUT,m1_,⟨by simpa [World.setCell] using HWZ.out⟩⟩
   case measure=>simp[intOf]<;>omega
  ·have ej:i=l.length:=by omega
   subst ej;have c24:decide ((l.length:Int)<(l.length:Int))=false:=Yt (by omega);go_wp2_with fail;go_ret;have h_:=HSJ.out;rw[List.take_of_length_le (by rw[HLF.out];exact Nat.le_refl _),List.drop_of_length_le (by unfold capsOf;rw[List.length_map];exact Nat.le_refl _),List.append_nil] at h_;exact⟨gx,gz,gA,A,cA,rfl,h_,HBJ.out,HGA2.out.1,Nat.lt_of_lt_of_le HGA2.out.2 HWZ.out⟩
end H
namespace Q
open P
open H (endsErr Right right_of StepOf stRoom IsFlow stRoom_in)
theorem endsE_ok {n:Int} {l:List S50} {s t:Int} (h:endsErr n l s t=0):NetOk n l∧0≤s∧s<n∧0≤t∧t<n∧s≠t:=by
 unfold endsErr at h;by_cases hn:netErr n l=0
 ·rw[Yu hn] at h
  split at h
  ·rename_i he
   exact⟨netErr_ok hn,he⟩
  ·cases h
 ·rw[Yv hn] at h;exact absurd h hn
def evenB (s t:Int):List Int→Int→Bool
 |[],_=>true
 |x::l,i=>if i=s then evenB s t l (i+1) else if i=t then evenB s t l (i+1) else if x=0 then evenB s t l (i+1) else false
def valRes (n:Int) (l:List S50) (s t:Int) (f:List Int):Int × Int:=
 if endsErr n l s t=0 then(if askErr n l f=0 then(if evenB s t (balOf n l f) 0=true then(bal l f s,0) else(0,71)) else(0,askErr n l f)) else(0,endsErr n l s t)
theorem evenB_iff (s t:Int) (X:List Int): ∀ i:Int,evenB s t X i=true↔ ∀ j:Nat,j<X.length→i+j≠s→i+j≠t→X.getD j 0=0:=by
 induction X with
 |nil=>intro i;simp[evenB]
 |cons x X ih=>
  intro i;have key:evenB s t X (i+1)=true↔ ∀ j:Nat,j+1<(x::X).length→i+(j+1:Nat)≠s→i+(j+1:Nat)≠t→(x::X).getD (j+1) 0=0:=by
   rw[ih (i+1)];constructor
   ·intro h j h1 h2 h3
    rw[List.getD_cons_succ];exact h j (by simpa using h1) (by omega) (by omega)
   ·intro h j h1 h2 h3
    have:=h j (by simpa using h1) (by omega) (by omega)
    rwa [List.getD_cons_succ] at this
  have all:(i≠s→i≠t→x=0)→(evenB s t X (i+1)=true↔ ∀ j:Nat,j<(x::X).length→i+j≠s→i+j≠t→(x::X).getD j 0=0):=by
   intro hx;rw[key];constructor
   ·intro h j h1 h2 h3
    cases j with
    |zero=>exact hx (by simpa using h2) (by simpa using h3)
    |succ j=>exact h j h1 h2 h3
   ·intro h j h1 h2 h3
    exact h (j+1) h1 h2 h3
  unfold evenB;by_cases h1:i=s
  ·rw[Yu h1];exact all (fun h=>absurd h1 h)
  rw[Yv h1];by_cases h2:i=t
  ·rw[Yu h2];exact all (fun _ h=>absurd h2 h)
  rw[Yv h2];by_cases h3:x=0
  ·rw[Yu h3];exact all (fun _ _=>h3)
  ·rw[Yv h3]
   constructor
   ·intro h;cases h
   ·intro h
    exact absurd (h 0 (by simp) (by simpa using h1) (by simpa using h2)) h3
theorem even_flow {n:Nat} {l:List S50} {F:List Int} {s t:Int} (hr:Right l F n):evenB s t (balOf n l F) 0=true↔IsFlow l F n s t:=by
 rw[evenB_iff];have hlen:=balOf_len (n:Int) l F;rw[Int.toNat_natCast] at hlen;have hg: ∀ v:Nat,v<n→(balOf n l F).getD v 0=bal l F v:=fun v hv=>by
  have h_:=rd_balOf (n:=(n:Int)) (l:=l) (f:=F) (v:=(v:Int)) (by omega) (by omega);rw[rd_nat] at h_;exact h_
 constructor
 ·intro h
  refine⟨hr,fun v h0 h1 h2 h3=> ?_⟩;obtain⟨v,rfl⟩: ∃ v':Nat,v=v':=⟨v.toNat,by omega⟩;rw[← hg v (by omega)];exact h v (by omega) (by omega) (by omega)
 ·intro h v hv h2 h3
  rw[hg v (by omega)];exact h.keeps v (by omega) (by omega) (by omega) (by omega)
theorem flow_val {n:Int} {l:List S50} {F:List Int} {s t:Int} (h:(valRes n l s t F).2=0):endsErr n l s t=0∧askErr n l F=0∧ ∃ n0:Nat,n=n0∧IsFlow l F n0 s t∧valRes n l s t F=(bal l F s,0):=by
 unfold valRes at h ⊢;by_cases h1:endsErr n l s t=0
 ·rw[Yu h1] at h ⊢
  by_cases h2:askErr n l F=0
  ·rw[Yu h2] at h ⊢
   obtain⟨n0,rfl,hr⟩:=right_of h2;by_cases h3:evenB s t (balOf n0 l F) 0=true
   ·rw[Yu h3]
    exact⟨h1,h2,n0,rfl,(even_flow hr).1 h3,rfl⟩
   ·rw[Yv h3] at h;cases h
  ·rw[Yv h2] at h;exact absurd h h2
 ·rw[Yv h1] at h;exact absurd h h1
end Q
namespace H
open P Q
def splitR (n:Int) (l:List S50) (s t:Int) (f:List Int):List S47 × List S47 × Int:=
 if (valRes n l s t f).2=0 then(if (valRes n l s t f).1<0 then([],[],71) else((chF l n.toNat s.toNat t.toNat 1000 (cycF l n.toNat 1000 0 f).2).1,(cycF l n.toNat 1000 0 f).1,0)) else([],[],(valRes n l s t f).2)
def cleanR (n:Int) (l:List S50) (s t:Int) (f:List Int):List Int × Int:=
 if (splitR n l s t f).2.2=0 then((cycF l n.toNat 1000 0 f).2,0) else([],(splitR n l s t f).2.2)
structure SplitOk (l:List S50) (f:List Int) (n s t:Nat) (ch cy:List S47) (F1 Z:List Int):Prop where
 flow:IsFlow l f n s t
 val:0≤bal l f s
 cyc:Parts l f n (IsCyc l) (cy,F1)
 ac:Acyc l F1
 bal: ∀ v,bal l F1 v=bal l f v
 chn:Parts l F1 n (IsCh l s t) (ch,Z)
 zero: ∀ j:Nat,Z.getD j 0=0
 sum:ch.foldr (fun c x=>c.f1+x) 0=Q.bal l F1 s
theorem split_parts {l:List S50} {f:List Int} {n s t:Nat} (hs:s<n) (ht:t<n) (hst:s≠t) (hf:IsFlow l f n s t) (hv:0≤bal l f s):
  SplitOk l f n s t (chF l n s t 1000 (cycF l n 1000 0 f).2).1 (cycF l n 1000 0 f).1 (cycF l n 1000 0 f).2 (chF l n s t 1000 (cycF l n 1000 0 f).2).2:=by
 have h1:=posN_len f;have h2:=hf.right.len;have h3:=hf.right.arcs;obtain⟨c1,c2,c3⟩:=cycF_parts 1000 (i:=0) hf.right (by omega) (fun j hj=>by omega);have h4:=posN_len (cycF l n 1000 0 f).2;have h5:=c1.right.len;have hf1:IsFlow l (cycF l n 1000 0 f).2 n s t:=⟨c1.right,fun v a b c d=>by rw[c3];exact hf.keeps v a b c d⟩;obtain⟨d1,d2,d3⟩:=chF_parts hs ht hst 1000 hf1 c2 (by rw[c3];exact hv) (by omega);exact⟨hf,hv,c1,c2,c3,d1,d2,d3⟩
theorem split_ok {n:Int} {l:List S50} {s t:Int} {f:List Int} (h:(splitR n l s t f).2.2=0): ∃ n0 s0 t0:Nat,n=n0∧s=s0∧t=t0∧s0<n0∧t0<n0∧s0≠t0∧NetOk n0 l∧IsFlow l f n0 s0 t0∧0≤bal l f s0∧valRes n l s t f=(bal l f s0,0)∧
  splitR n l s t f=((chF l n0 s0 t0 1000 (cycF l n0 1000 0 f).2).1,(cycF l n0 1000 0 f).1,0)∧cleanR n l s t f=((cycF l n0 1000 0 f).2,0):=by
 have hc:cleanR n l s t f=((cycF l n.toNat 1000 0 f).2,0):=by unfold cleanR;rw[Yu h]
 have hS:(valRes n l s t f).2=0∧ ¬ (valRes n l s t f).1<0:=by
  unfold splitR at h;split at h
  ·rename_i h1
   split at h
   ·cases h
   ·rename_i h2;exact⟨h1,h2⟩
  ·rename_i h1;exact absurd h h1
 have hE:splitR n l s t f=((chF l n.toNat s.toNat t.toNat 1000 (cycF l n.toNat 1000 0 f).2).1,(cycF l n.toNat 1000 0 f).1,0):=by
  unfold splitR;rw[Yu hS.1,Yv hS.2]
 obtain⟨g1,g2,n0,rfl,g3,g4⟩:=flow_val hS.1;obtain⟨hn,e1,e2,e3,e4,e5⟩:=endsE_ok g1;obtain⟨s0,rfl⟩: ∃ s0:Nat,s=s0:=⟨s.toNat,by omega⟩;obtain⟨t0,rfl⟩: ∃ t0:Nat,t=t0:=⟨t.toNat,by omega⟩;rw[Int.toNat_natCast] at hc;rw[Int.toNat_natCast,Int.toNat_natCast,Int.toNat_natCast] at hE;have hb:=hS.2;rw[g4] at hb;exact⟨n0,s0,t0,rfl,rfl,rfl,by omega,by omega,by omega,hn,g3,by simpa using hb,g4,hE,hc⟩
theorem split_no {n:Int} {l:List S50} {s t:Int} {f:List Int} (h: ¬ (splitR n l s t f).2.2=0):(splitR n l s t f).1=[]∧(splitR n l s t f).2.1=[]∧(((valRes n l s t f).2≠0∧(splitR n l s t f).2.2=(valRes n l s t f).2)∨((valRes n l s t f).2=0∧(valRes n l s t f).1<0)):=by
 unfold splitR at h ⊢;by_cases h1:(valRes n l s t f).2=0
 ·by_cases h2:(valRes n l s t f).1<0
  ·rw[Yu h1,Yu h2];exact⟨rfl,rfl,Or.inr ⟨h1,h2⟩⟩
  ·rw[Yu h1,Yv h2] at h;exact absurd rfl h
 ·rw[Yv h1];exact⟨rfl,rfl,Or.inl ⟨h1,rfl⟩⟩
end H
namespace H
structure Two where
 a:Nat
 b:Nat
 t:Int
 f:Int
 g:Int
end H
namespace H
open Go.RowKit Go.Proofs.YtoedkglggapggaaW.PrintWords Go.Proofs.YtoedkglggapggaaW.PrintLast Go.Proofs.YtoedkglggapggaaW.PrintMore P
def startR (n s:Nat):Rch:=⟨List.replicate n 0,(List.replicate n false).set s true,List.replicate n z79,false⟩
theorem startR_ok (n s:Nat):(startR n s).Ok n:=⟨by simp[startR],by simp[startR],by simp[startR]⟩
end H
namespace H
open P Q
theorem stTo_lt {l:List S50} {F:List Int} {n:Nat} (hr:Right l F n): ∀ (v:Nat) (s:S79),s∈stL l v l.length→(stTo l s).toNat<n:=by
 intro v s hs;have:=stTo_in hr (stL_of hs);omega
theorem start_abs (n s:Nat) (hs:s<n) (v:Nat):absR (startR n s) v=if v=s then some 0 else none:=by
 unfold absR startR;simp only;by_cases e:v=s
 ·subst e
  rw[getD_set_eq _ _ _ _ (by rw[List.length_replicate];exact hs),Yu rfl,Yu rfl,List.getD_eq_getElem?_getD,List.getElem?_replicate,Yu hs];rfl
 ·rw[getD_set_ne _ _ _ _ _ (Ne.symm e),Yv e,List.getD_eq_getElem?_getD,List.getElem?_replicate]
  split<;>simp
end H
namespace H
open P Q
structure Par (l:List S50) (F:List Int) (n s:Nat) (x:Rch) (rk:Nat→Nat) (T:Nat):Prop where
 lt: ∀ v,rk v<T
 is_: ∀ v,v<n→x.I.getD v false=true→v≠s→StepOf l (x.B.getD v z79)∧0<stRoom l F (x.B.getD v z79)∧toP l (x.B.getD v z79)=v∧x.I.getD (frP l (x.B.getD v z79)) false=true∧
  (x.D.getD (frP l (x.B.getD v z79)) 0+stTime l (x.B.getD v z79)<x.D.getD v 0∨(x.D.getD v 0=x.D.getD (frP l (x.B.getD v z79)) 0+stTime l (x.B.getD v z79)∧rk (frP l (x.B.getD v z79))<rk v))
theorem getD_set_if {β:Type} (L:List β) (i j:Nat) (x d:β) (h:i<L.length):(L.set i x).getD j d=if j=i then x else L.getD j d:=by
 by_cases e:j=i
 ·subst e;rw[Yu rfl,getD_set_eq _ _ _ _ h]
 ·rw[Yv e,getD_set_ne _ _ _ _ _ (Ne.symm e)]
theorem par_vis {l:List S50} {F:List Int} {n s v:Nat} {x:Rch} {rk:Nat→Nat} {T:Nat} (h:Par l F n s x rk T) (hk:x.Ok n) (hI:x.I.getD v false=true) {e:S79} (he:e∈stL l v l.length) (hw:toP l e<n):
  ∃ rk' T',Par l F n s (visR l F v x e) rk' T':=by
 unfold visR;by_cases hc:visC l F v x e=true
 ·rw[Yu hc]
  unfold visC at hc;rw[Bool.and_eq_true,decide_eq_true_eq] at hc;obtain⟨hroom,hcond⟩:=hc;have hfr:frP l e=v:=frP_of he;obtain⟨w,hwd⟩: ∃ w,w=toP l e:=⟨_,rfl⟩;have hwt:(stTo l e).toNat=w:=by rw[hwd];rfl
  rw[hwt] at hcond ⊢;rw[← hwd] at hw;have hwD:w<x.D.length:=by rw[hk.hD];exact hw
  have hwI:w<x.I.length:=by rw[hk.hI];exact hw
  have hwB:w<x.B.length:=by rw[hk.hB];exact hw
  have hless:x.I.getD w false=true→x.D.getD v 0+stTime l e<x.D.getD w 0:=by
   intro hi;rw[hi] at hcond
   simpa using hcond
  refine⟨fun u=>if u=w then T else rk u,T+1,⟨fun u=> ?_,fun u hu hIu hne=> ?_⟩⟩
  ·show (if u=w then T else rk u)<T+1
   split
   ·omega
   ·have:=h.lt u;omega
  ·simp only[getD_set_if _ _ _ _ _ hwB,getD_set_if _ _ _ _ _ hwD,getD_set_if _ _ _ _ _ hwI] at hIu ⊢
   by_cases huw:u=w
   ·subst huw
    simp only[if_true];rw[hfr];refine⟨stL_of he,hroom,hwd.symm,?_,?_⟩
    ·by_cases hvw:v=u
     ·rw[Yu hvw]
     ·rw[Yv hvw];exact hI
    ·by_cases hvw:v=u
     ·subst hvw
      left;simp only[if_true];have:=hless hI;omega
     ·right
      simp only[Yv hvw];exact⟨trivial,h.lt v⟩
   ·simp only[Yv huw] at hIu ⊢
    obtain⟨g1,g2,g3,g4,g5⟩:=h.is_ u hu hIu hne;refine⟨g1,g2,g3,?_,?_⟩
    ·split
     ·rfl
     ·exact g4
    ·by_cases hfw:frP l (x.B.getD u z79)=w
     ·left
      rw[Yu hfw];rw[hfw] at g4 g5;have:=hless g4;rcases g5 with g5|⟨g5,_⟩<;>omega
     ·rw[Yv hfw]
      rcases g5 with g5|⟨g5,g6⟩
      ·exact .inl g5
      ·exact .inr ⟨g5,by rw[Yv hfw];exact g6⟩
 ·rw[Yv hc];exact⟨rk,T,h⟩
theorem visR_keeps {l:List S50} {F:List Int} {n v:Nat} {x:Rch} (hk:x.Ok n) (e:S79) (hw:toP l e<n) {u:Nat} (hI:x.I.getD u false=true):(visR l F v x e).I.getD u false=true:=by
 unfold visR;split
 ·show (x.I.set (toP l e) true).getD u false=true
  rw[getD_set_if _ _ _ _ _ (by rw[hk.hI];exact hw)];split
  ·rfl
  ·exact hI
 ·exact hI
theorem par_fold {l:List S50} {F:List Int} {n s v:Nat} (r:List S79): ∀ {x:Rch} {rk:Nat→Nat} {T:Nat},(∀ e,e∈r→e∈stL l v l.length∧toP l e<n)→Par l F n s x rk T→x.Ok n→x.I.getD v false=true→
  ∃ rk' T',Par l F n s (r.foldl (visR l F v) x) rk' T':=by
 induction r with
 |nil=>intro x rk T _ h _ _;exact⟨rk,T,h⟩
 |cons e r ih=>
  intro x rk T hr h hk hI;obtain⟨h1,h2⟩:=hr e List.mem_cons_self;obtain⟨rk',T',h3⟩:=par_vis h hk hI h1 h2;exact ih (fun e he=>hr e (List.mem_cons_of_mem _ he)) h3 (visR_ok hk e) (visR_keeps hk e h2 hI)
theorem par_row {l:List S50} {F:List Int} {n s v:Nat} {x:Rch} {rk:Nat→Nat} {T:Nat} (hw: ∀ e,e∈stL l v l.length→toP l e<n) (h:Par l F n s x rk T) (hk:x.Ok n): ∃ rk' T',Par l F n s (rowR l F x v) rk' T':=by
 unfold rowR;by_cases hI:x.I.getD v false=true
 ·rw[Yu hI];exact par_fold _ (fun e he=>⟨he,hw e he⟩) h hk hI
 ·rw[Yv hI];exact⟨rk,T,h⟩
theorem par_rows {l:List S50} {F:List Int} {n s:Nat} (hw: ∀ (v:Nat) (e:S79),e∈stL l v l.length→toP l e<n) (vs:List Nat): ∀ {x:Rch} {rk:Nat→Nat} {T:Nat},Par l F n s x rk T→x.Ok n→ ∃ rk' T',Par l F n s (vs.foldl (rowR l F) x) rk' T':=by
 induction vs with
 |nil=>intro x rk T h _;exact⟨rk,T,h⟩
 |cons v vs ih=>
  intro x rk T h hk;obtain⟨rk',T',h1⟩:=par_row (hw v) h hk;exact ih h1 (rowR_ok hk)
theorem par_round {l:List S50} {F:List Int} {n s:Nat} (hw: ∀ (v:Nat) (e:S79),e∈stL l v l.length→toP l e<n) {x:Rch} {rk:Nat→Nat} {T:Nat} (h:Par l F n s x rk T) (hk:x.Ok n): ∃ rk' T',Par l F n s (roundR l F n x) rk' T':=
 par_rows hw _ (x:= { x with still:=true }) ⟨h.lt,h.is_⟩ ⟨hk.hD,hk.hI,hk.hB⟩
theorem par_goes {l:List S50} {F:List Int} {n s:Nat} (hr:Right l F n) (k:Nat): ∀ {x:Rch} {rk:Nat→Nat} {T:Nat},Par l F n s x rk T→x.Ok n→ ∃ rk' T',Par l F n s (goesR l F n k x).1 rk' T':=by
 have hw: ∀ v e,e∈stL l (v:Nat) l.length→toP l e<n:=fun v e he=>toP_lt hr (stL_of he)
 induction k with
 |zero=>intro x rk T h _;exact⟨rk,T,h⟩
 |succ k ih=>
  intro x rk T h hk;obtain⟨rk',T',h1⟩:=par_round hw h hk;have hk1:=(roundR_abs (F:=F) (stTo_lt hr) hk).1;unfold goesR;split
  ·exact⟨rk',T',h1⟩
  ·exact ih h1 hk1
theorem startR_I {n s v:Nat} (hs:s<n):(startR n s).I.getD v false=decide (v=s):=by
 have h:=start_abs n s hs v;unfold absR at h;by_cases e:v=s
 ·rw[Yu e] at h
  rw[Ys e];cases hI:(startR n s).I.getD v false with
  |true=>rfl
  |false=>rw[hI] at h;cases h
 ·rw[Yv e] at h
  rw[Yt e];cases hI:(startR n s).I.getD v false with
  |false=>rfl
  |true=>rw[hI,Yu rfl] at h;cases h
theorem par_start (l:List S50) (F:List Int) {n s:Nat} (hs:s<n):Par l F n s (startR n s) (fun _=>0) 1:=
 ⟨fun _=>Nat.lt_succ_self _,fun v hv hI hne=>by rw[startR_I hs,decide_eq_true_eq] at hI;exact absurd hI hne⟩
def reachS (l:List S50) (F:List Int) (n s:Nat):Rch:=(goesR l F n (n+1) (startR n s)).1
structure ByOk (l:List S50) (F:List Int) (n s:Nat) (x:Rch) (rk:Nat→Nat):Prop where
 is_: ∀ v,v<n→x.I.getD v false=true→v≠s→StepOf l (x.B.getD v z79)∧0<stRoom l F (x.B.getD v z79)∧toP l (x.B.getD v z79)=v∧x.I.getD (frP l (x.B.getD v z79)) false=true∧x.D.getD v 0=x.D.getD (frP l (x.B.getD v z79)) 0+stTime l (x.B.getD v z79)∧rk (frP l (x.B.getD v z79))<rk v
theorem by_ok {l:List S50} {F:List Int} {n s:Nat} (hr:Right l F n) (hs:s<n) (h2:(goesR l F n (n+1) (startR n s)).2=true): ∃ rk,ByOk l F n s (reachS l F n s) rk:=by
 obtain⟨rk,T,h⟩:=par_goes hr (n+1) (par_start l F hs) (startR_ok n s);obtain⟨_,_,g3,_⟩:=goesR_spec (F:=F) (stTo_lt hr) (n+1) (startR_ok n s);have hq:=g3 h2;refine⟨rk,⟨fun v hv hI hne=> ?_⟩⟩;have h:Par l F n s (reachS l F n s) rk T:=h;obtain⟨a1,a2,a3,a4,a5⟩:=h.is_ v hv hI hne;have hfl:=frP_lt hr a1;have hmem:=(mem_esP.1 (esP_of hr a1 a2)).1;have he:edgeS l (frP l ((reachS l F n s).B.getD v z79)) ((reachS l F n s).B.getD v z79)∈liveE l F n:=by
  unfold liveE;refine List.mem_flatMap.2 ⟨_,List.mem_range.2 hfl,?_⟩;unfold liveS;exact List.mem_map.2 ⟨_,List.mem_filter.2 ⟨hmem,Ys a2⟩,rfl⟩
 have ht:=hq _ he;have hx:absR (reachS l F n s) (frP l ((reachS l F n s).B.getD v z79))=some ((reachS l F n s).D.getD (frP l ((reachS l F n s).B.getD v z79)) 0):=by unfold absR;rw[Yu a4]
 obtain⟨y,hy,hle⟩:=trig_off ht hx;have hv2:absR (reachS l F n s) v=some ((reachS l F n s).D.getD v 0):=by unfold absR;rw[Yu hI]
 have hy2:absR (reachS l F n s) (toP l ((reachS l F n s).B.getD v z79))=some y:=hy;rw[show toP l ((reachS l F n s).B.getD v z79)=v from a3,hv2] at hy2;injection hy2 with hy2
 have hle:y≤(reachS l F n s).D.getD (frP l ((reachS l F n s).B.getD v z79)) 0+stTime l ((reachS l F n s).B.getD v z79):=hle;refine⟨a1,a2,a3,a4,?_,?_⟩
 ·rcases a5 with a5|⟨a5,_⟩
  ·have a5:(reachS l F n s).D.getD (frP l ((reachS l F n s).B.getD v z79)) 0+stTime l ((reachS l F n s).B.getD v z79)<(reachS l F n s).D.getD v 0:=a5
   omega
  ·exact a5
 ·rcases a5 with a5|⟨_,a6⟩
  ·have a5:(reachS l F n s).D.getD (frP l ((reachS l F n s).B.getD v z79)) 0+stTime l ((reachS l F n s).B.getD v z79)<(reachS l F n s).D.getD v 0:=a5
   omega
  ·exact a6
end H
namespace H
open P Q
def nearS (l:List S50) (F:List Int) (n s t:Nat) (H:Int):Prop:=(reachS l F n s).I.getD t false=true∧(reachS l F n s).D.getD t 0≤H
instance (l:List S50) (F:List Int) (n s t:Nat) (H:Int):Decidable (nearS l F n s t H):=by unfold nearS;exact inferInstance
end H
namespace Q
open P
open H (endsErr Right right_of IsFlow)
theorem balance_l0 (n:Int) (l:List S50) (f:List Int) (hn:NetOk n l) (hf:FlowOk l f) (d:Nat): ∀ (i:Nat) (x:List Int),i+d=l.length→x.length=n.toNat→(∀ v:Nat,v<x.length→ -(i * 2097152)≤rd x v∧rd x v≤i * 2097152)→
  ∃ r,Ev (fun k=>static_Balance.l0 k f x l (l.length:Int) (i:Int)) (r,0)∧r.length=x.length∧ ∀ v:Nat,v<x.length→rd r v=rd x v+bal (l.drop i) (f.drop i) v:=by
 have hlen:=hf.len;have hl:=hn.len
 induction d with
 |zero=>
  intro i x hi hx hb;refine⟨x,?_,rfl,fun v hv=> ?_⟩
  ·refine Ev.succ ?_;simp only[static_Balance.l0]
   repeat(first|exact Ev.now _|with_reducible refine Ev.pos (by first|assumption|omega) ?_|with_reducible refine Ev.neg (by first|assumption|omega) ?_|with_reducible refine Ev.let_ ?_)
  ·rw[List.drop_of_length_le (by omega)]
   simp[bal]
 |succ d ih=>
  intro i x hi hx hb;have ha:=hn.at_ (i:=(i:Int)) (by omega) (by omega);have hs:=hf.small hn (i:=(i:Int)) (by omega) (by omega);have h1:=ha.f0;have h2:=ha.f1;have h3:=ha.h0;have h4:=ha.h1;have hb1:=hb (rd_T50 l (i:Int)).f0.toNat (by omega);have e1:(((rd_T50 l (i:Int)).f0.toNat:Nat):Int)=(rd_T50 l (i:Int)).f0:=by omega
  have e2:(((rd_T50 l (i:Int)).f1.toNat:Nat):Int)=(rd_T50 l (i:Int)).f1:=by omega
  rw[e1] at hb1;have hb2:=hb (rd_T50 l (i:Int)).f1.toNat (by omega);rw[e2] at hb2;obtain⟨r,hr,hrl,hrv⟩:=ih (i+1) ((x.set (rd_T50 l (i:Int)).f0.toNat (wrap64 (rd x (rd_T50 l (i:Int)).f0+rd f (i:Int)))).set (rd_T50 l (i:Int)).f1.toNat
    (wrap64 (rd (x.set (rd_T50 l (i:Int)).f0.toNat (wrap64 (rd x (rd_T50 l (i:Int)).f0+rd f (i:Int)))) (rd_T50 l (i:Int)).f1 - rd f (i:Int)))) (by omega) (by simpa using hx) (by
   intro v hv;have hv':v<x.length:=by simpa using hv
   have hbv:=hb v hv';rw[rd_set _ _ _ _ h2 (by simp;omega) (by omega),rd_set _ _ _ _ h1 (by omega) h2,rd_set _ _ _ _ h1 (by omega) (by omega)];have w1:wrap64 (rd x (rd_T50 l (i:Int)).f0+rd f (i:Int))=rd x (rd_T50 l (i:Int)).f0+rd f (i:Int):=wrap_id (by omega) (by omega);rw[w1];split
   ·split
    ·rename_i h5 h6
     rw[wrap_id (by omega) (by omega)];omega
    ·rename_i h5 h6
     rw[wrap_id (by omega) (by omega)];omega
   ·split
    ·omega
    ·omega)
  refine⟨r,?_,by simpa using hrl,fun v hv=> ?_⟩
  ·refine Ev.succ ?_;simp only[static_Balance.l0]
   repeat(first|exact Ev.now _|with_reducible refine Ev.pos (by first|assumption|omega) ?_|with_reducible refine Ev.neg (by first|assumption|omega) ?_|with_reducible refine Ev.let_ ?_)
   rw[wrap_succ (n:=l.length) (by omega) (by omega)];exact hr
  ·rw[hrv v (by simpa using hv),rd_set _ _ _ _ h2 (by simp;omega) (by omega),rd_set _ _ _ _ h1 (by omega) h2,rd_set _ _ _ _ h1 (by omega) (by omega)]
   have w1:wrap64 (rd x (rd_T50 l (i:Int)).f0+rd f (i:Int))=rd x (rd_T50 l (i:Int)).f0+rd f (i:Int):=wrap_id (by omega) (by omega);rw[w1,drop_getD l i z50 (by omega),drop_getD f i 0 (by omega), ← rdArc_nat, ← rd_nat,bal_cons];by_cases h5:(rd_T50 l (i:Int)).f1=(v:Int)
   ·rw[Yu h5,Yu h5]
    by_cases h6:(rd_T50 l (i:Int)).f0=(v:Int)
    ·rw[Yu (by omega),Yu h6,wrap_id (by omega) (by omega),h6]
     omega
    ·rw[Yv (by omega),Yv h6,wrap_id (by omega) (by omega),h5]
     omega
   ·rw[Yv h5,Yv h5]
    by_cases h6:(rd_T50 l (i:Int)).f0=(v:Int)
    ·rw[Yu h6,Yu h6,h6]
     omega
    ·rw[Yv h6,Yv h6]
     omega
theorem rd_zeros (m:Nat) (v:Int):rd (List.replicate m 0) v=0:=by
 unfold rd;rw[List.getD_eq_getElem?_getD,List.getElem?_replicate];split<;>rfl
theorem balance_ev (n:Int) (b:Bool) (l:List S50) (f:List Int):Ev (fun k=>static_Balance.f k n b l f) (balRes n l f):=by
 unfold static_Balance.f balRes;refine Ev.bind (asked_ev n b l f) ?_;refine Ev.ite (fun h=> ?_) (fun h=> ?_)
 ·rw[Yu h]
  obtain⟨hn,hf⟩:=askErr_ok h;have:=hn.lo;have:=hn.hi;repeat(first|exact Ev.now _|with_reducible refine Ev.pos (by first|assumption|omega) ?_|with_reducible refine Ev.neg (by first|assumption|omega) ?_|with_reducible refine Ev.let_ ?_)
  obtain⟨r,hr,hrl,hrv⟩:=balance_l0 n l f hn hf l.length 0 (List.replicate n.toNat 0) (by omega) (by simp) (fun v hv=>by rw[rd_zeros];omega);refine Ev.eq hr ?_;rw[List.length_replicate] at hrl hrv;congr 1;refine ext_rd (by rw[hrl,balOf_len]) fun v hv=> ?_
  rw[hrv v (by omega),rd_zeros,rd_balOf (by omega) (by omega),List.drop_zero,List.drop_zero];omega
 ·rw[Yv h]
  exact Ev.now _
theorem check2_l0 (s t:Int) (b:List Int) (hb:b.length≤50) (hs:0≤s) (hsn:s<b.length) (d:Nat): ∀ i:Nat,i+d=b.length→
  Ev (fun k=>static_Check.l0 k s t b b (b.length:Int) (i:Int)) (if evenB s t (b.drop i) i=true then(rd b s,0) else(0,71)):=by
 induction d with
 |zero=>
  intro i hi;refine Ev.succ ?_;simp only[static_Check.l0];repeat(first|exact Ev.now _|with_reducible refine Ev.pos (by first|assumption|omega) ?_|with_reducible refine Ev.neg (by first|assumption|omega) ?_|with_reducible refine Ev.let_ ?_)
  rw[List.drop_of_length_le (by omega)];exact Ev.now _
 |succ d ih=>
  intro i hi;refine Ev.succ ?_;simp only[static_Check.l0];repeat(first|exact Ev.now _|with_reducible refine Ev.pos (by first|assumption|omega) ?_|with_reducible refine Ev.neg (by first|assumption|omega) ?_|with_reducible refine Ev.let_ ?_)
  rw[drop_getD b i 0 (by omega),rd_nat,wrap_succ (n:=b.length) (by omega) (by omega)];unfold evenB;have:=ih (i+1) (by omega);rw[show ((i+1:Nat):Int)=(i:Int)+1 by omega] at this ⊢;refine Ev.ite (fun g=> ?_) (fun g=> ?_)
  ·rw[Yu g,ite_self,ite_self];exact this
  refine Ev.ite (fun g2=> ?_) (fun g2=> ?_)
  ·rw[Yu g2];exact this
  rw[Yv g2];refine Ev.ite (fun g3=> ?_) (fun g3=> ?_)
  ·rw[Yu g3];exact this
  rw[Yv g3,Yv g];exact Ev.now _
theorem stat_value_ev (n:Int) (b:Bool) (l:List S50) (s t:Int) (f:List Int):Ev (fun k=>static_Check.f k n b l s t f) (valRes n l s t f):=by
 unfold static_Check.f valRes;refine Ev.bind (ends_ev n b l s t) ?_;refine Ev.ite (fun h=> ?_) (fun h=> ?_)
 ·rw[Yu h]
  obtain⟨hn,he1,he2,he3,he4,he5⟩:=endsE_ok h;have:=hn.lo;have:=hn.hi;refine Ev.bind (balance_ev n b l f) ?_;by_cases g:askErr n l f=0
  ·rw[Yu g,balRes_ok g]
   refine Ev.pos rfl ?_;refine Ev.eq (check2_l0 s t (balOf n l f) (by rw[balOf_len];omega) (by omega) (by rw[balOf_len];omega) _ 0 (Nat.zero_add _)) ?_;rw[rd_balOf (by omega) (by omega),List.drop_zero];rfl
  ·rw[Yv g,balRes_no g]
   exact Ev.neg g (Ev.now _)
 ·rw[Yv h]
  exact Ev.now _
end Q
namespace H
open P
open Q (valRes stat_value_ev)
def ChR (n0:Nat) (Zc:Bool) (l:List S50) (gx gz gA:Nat) (A:Option Addr) (cA base s t:Nat) (R:List S47) (w:World) (v8:Value) (w':World) (k:Nat):Prop:=
 ∃ (G:List Int) (O:List S47),Right l G n0∧posN G<k∧O.length+posN G≤200∧O ++ (chF l n0 s t k G).1=R∧Kd.S k47 47 w' w.heap.size (fun k=>w.heap.size≤k) v8 O∧Sp n0 Zc l gx gz gA A cA base G w'∧Ks (fun b=>b=gA) w w'
set_option maxHeartbeats 20000000 in
set_option maxRecDepth 100000 in
theorem decomp_Split_calls (Zb:Int) (Zc:Bool) (Zf:Option Addr) (Ze:Nat) (l:List S50) (a1:Int) (a2:Int) (A3:Option Addr) (c3:Nat) (f:List Int) (r1:List S47) (r2:List S47) (r3:Int) (w:World) (Zq:Kd.C k50 w Zf l.length l) (Zr:l.length≤Ze) (hr3:Kd.C (Kd.int .i64) w A3 f.length f) (hc3:f.length≤c3) (h:some (splitR Zb l a1 a2 f)=some (r1,r2,r3)):
  Calls Try.prog 19 #[.agg #[.int .i64 Zb, .bool Zc, .slice Zf l.length Ze], .int .i64 a1, .int .i64 a2, .slice A3 f.length c3] w fun e w'=> ∃ v0_ v1_:Value,e= .returned (.tuple #[v0_,v1_, .int .i64 r3])∧Kd.S k47 47 w' w.heap.size (fun k_=>some k_≠(v1_:Value).ownBlock) v0_ r1∧Kd.S k47 47 w' w.heap.size (fun k_=>some k_≠(v0_:Value).ownBlock) v1_ r2∧Below w.heap.size w w':=by
 have hu24:=Try.underlying24;injection h with h
 obtain⟨K,hK⟩:=stat_value_ev Zb Zc l a1 a2 f;have hA:=hK K (Nat.le_refl _);obtain⟨k,hk⟩: ∃ k_,k_=K:=⟨_,rfl⟩;rw[← hk] at hA;clear hK hk K;have H2:=Ya Zq;have H3:=Ya hr3;have HC2:=Ya Zr;have HC3:=Ya hc3;clear Zq hr3 Zr hc3;by_cases he:(splitR Zb l a1 a2 f).2.2=0
 ·obtain⟨n0,s0,t0,rfl,rfl,rfl,hs,ht,hst,hn,hfl,hv0,hval,hsp,_⟩:=split_ok he
  have hok:=split_parts hs ht hst hfl hv0;rw[hsp] at h;injection h with q1 q2
  injection q2 with q2 q3
  subst q3;rw[hval] at hA;obtain⟨vv,hvv⟩: ∃ v,v=Q.bal l f s0:=⟨_,rfl⟩;rw[← hvv] at hA hv0;obtain⟨ee,hee⟩: ∃ e:Int,e=0:=⟨0,rfl⟩;rw[← hee] at hA;have HA:=Ya hA;have hR:=hfl.right;have HRT:=Ya hR;have Q1:=Ya q1;have Q2:=Ya q2;have HOK:=Ya hok;have e1:decide (vv<0)=false:=Yt (by omega);have hp0:posN (cycF l n0 1000 0 f).2≤200:=by have h_:=posN_len (cycF l n0 1000 0 f).2;have h2:=hok.cyc.right.len;have h3:=hok.cyc.right.arcs;have h4:(cycF l n0 1000 0 f).2.length=l.length:=h2;omega
  have HP0:=Ya hp0;subst hee;clear he hn hfl hval hsp hok q1 q2 hA hvv hR hp0;go_enter Try.func19,Try.ntmps19;go_upto_region 6 with (first|((with_reducible refine gate_dst (N:=4) rfl ?_);refine Yw ?hg (N:=4) ?hd (cs:= #[.int .i64 (n0:Int), .bool Zc, .slice Zf l.length Ze]) (t:=24) ?hr ?_;(case hd=>rfl);(case hg=>rfl);(case hr=>first|(go_simp;done)|(go_simp;rfl));intro g4 hg w5 Zg hb;have B4:=Ya Zg;have HB:=Ya hb;clear hg Zg hb;have x0:w5.cell? ⟨g4,0,none⟩=some (.int .i64 (n0:Int)):=(Yc B4.out 0).trans rfl;have x1:w5.cell? ⟨g4,1,none⟩=some (.bool Zc):=(Yc B4.out 1).trans rfl;have x2:w5.cell? ⟨g4,2,none⟩=some (.slice Zf l.length Ze):=(Yc B4.out 2).trans rfl)|(go_at_call 46;refine(static_Check.calls k (n0:Int) Zc Zf Ze l (s0:Int) (t0:Int) A3 c3 f vv 0 _ (Yq H2.out HB.out) HC2.out (Yq H3.out HB.out) HC3.out HA.out).mono ?_;rintro e_ w6 ⟨rfl,hb⟩;have m0_:=Ya (Yk HB.out hb);have m1_:=Ya (Yn B4.out hb);clear HB B4 hb x0 x1 x2;have HB:=m0_;have B4:=m1_;clear m0_ m1_;have x0:w6.cell? ⟨g4,0,none⟩=some (.int .i64 (n0:Int)):=(Yc B4.out 0).trans rfl;have x1:w6.cell? ⟨g4,1,none⟩=some (.bool Zc):=(Yc B4.out 1).trans rfl;have x2:w6.cell? ⟨g4,2,none⟩=some (.slice Zf l.length Ze):=(Yc B4.out 2).trans rfl)|fail)
  have HBG:=Ya (begun_calls n0 Zc Zf Ze l A3 c3 f w6 HRT.out (Yq H2.out HB.out) HC2.out (Yq H3.out HB.out) HC3.out);go_upto_region 8 with (first|(go_at_call 47;refine HBG.out.mono ?_;rintro e_ w7 ⟨gx,gz,gA,A,cA,rfl,hsp,hb7,hg1,hg2⟩;have HSP:=Ya hsp;have HB7:=Ya hb7;have HGA:Aside0 (w6.heap.size≤gA∧gA<w7.heap.size):=⟨⟨hg1,hg2⟩⟩;clear hsp hb7 hg1 hg2 x0 x1 x2)|(go_at_call 48;refine(cycles_calls n0 Zc l gx gz gA A cA _ f _ HRT.out HSP.out).mono ?_;rintro e_ w8 ⟨v9,rfl,hcs,hsp,hks⟩;have HCS:=Ya hcs;have HSP8:=Ya hsp;have HKS:=Ya hks;clear hcs hsp hks)|fail)
  have HLW2:Aside0 (gx<w8.heap.size∧gz<w8.heap.size∧gA<w8.heap.size):=⟨⟨blk_lt HSP8.out.x,HSP8.out.zero.lt,by have:=HGA.out.2;have:=HKS.out.size;omega⟩⟩;obtain⟨F1,hF1⟩: ∃ F,F=(cycF l n0 1000 0 f).2:=⟨_,rfl⟩;obtain⟨CY,hCY⟩: ∃ C,C=(cycF l n0 1000 0 f).1:=⟨_,rfl⟩;have HR1:Aside0 (Right l F1 n0):=⟨by rw[hF1];exact HOK.out.cyc.right⟩;rw[← hF1] at HSP8 Q1 HP0;rw[← hCY] at HCS Q2;clear hF1 hCY HOK;go_loopw [8,9] (fun v8 v9' w'=>v9'=v9∧ ∃ k,ChR n0 Zc l gx gz gA A cA w6.heap.size s0 t0 r1 w8 v8 w' k) (fun v8 _ w'=>least (ChR n0 Zc l gx gz gA A cA w6.heap.size s0 t0 r1 w8 v8 w'))
  case atStart=>exact⟨rfl,1000,F1,[],HR1.out,by have:=HP0.out;omega,by have:=HP0.out;show 0+_≤200;omega,by rw[List.nil_append];exact Q1.out,Kd.S_nil _ _ _ _ _,HSP8.out,Ks.refl _ _⟩
  case round=>
   clear HP0 HR1 Q1;obtain⟨rfl,hrel⟩:=hrel;have hsp:=least_spec hrel;obtain⟨K,hK⟩: ∃ K,K=least (ChR n0 Zc l gx gz gA A cA w6.heap.size s0 t0 r1 w8 u8 wr):=⟨_,rfl⟩;rw[← hK] at hsp;have HLE:=Ya hK;clear hK hrel;obtain⟨G,O,hRG,hk,hlen,hres,hO,hSG,hKG⟩:=hsp;obtain⟨kk,rfl⟩: ∃ k,K=k+1:=⟨K - 1,by omega⟩;have HRG:=Ya hRG;have HO:=Ya hO;have HSG:=Ya hSG;have HKG:=Ya hKG;have HLN:=Ya hlen;have HKK:=Ya hk;have HRES:=Ya hres;have HKW:=Ya (sway_calls n0 Zc l gx gz gA A cA w6.heap.size G s0 t0 wr HRG.out hs ht hst HSG.out);clear hRG hO hSG hKG hlen hk hres;have HWZ:Aside0 (w8.heap.size≤wr.heap.size):=⟨HKG.out.size⟩;by_cases hr:t0∈reach l G n0 s0
   ·have HLK:=Ya (chain_link HRG.out hs hst hr)
    have HR:=Ya hr;obtain⟨b,hb⟩: ∃ b,b=decide (t0∈reach l G n0 s0):=⟨_,rfl⟩;have hbt:b=true:=by rw[hb];exact Ys hr
    rw[← hb] at HKW;obtain⟨ax,hax⟩: ∃ ax,ax=arcsOf (wayA l G n0 s0 t0):=⟨_,rfl⟩;have HAX:=Ya hax;rw[← hax] at HKW HLK;have HBT:=Ya hbt;clear hr hb hax;subst hbt;go_wp2_with (first|(go_at_call 49;refine HKW.out.mono ?_;rintro e_ w9 ⟨vw,rfl,hv,hb⟩;obtain⟨A1,c1,ev⟩:=Kd.R_slice hv;subst ev;have HRW:=Ya hv;have HB9:=Ya hb;have HWZ9:Aside0 (wr.heap.size≤w9.heap.size):=⟨hb.size⟩;clear hv hb)|(go_at_call 50;refine(take_calls n0 Zc l gx gz gA A cA w6.heap.size G _ _ ax A1 c1 _ HRG.out HLK.out (HSG.out.below HB9.out) (Kd.R_reads' HRW.out).2.1 (Kd.F_mono (Kd.R_F (Kd.R_bound HRW.out)) (fun k hk=>⟨hk.2.2.1,by have:=hk.2.1;have:=HLW2.out;have:=HWZ.out;omega⟩))).mono ?_;rintro e_ w14 ⟨rfl,hsp,hks⟩;have HSP4:=Ya hsp;have HR2:Aside0 (Kd.R (Kd.int .i64) 3 w14 w8.heap.size (fun k=>wr.heap.size≤k) (.slice A1 ax.length c1) ax):=⟨Kd.R_mono (Kd.R_lower (Kd.R_step (Kd.R_bound HRW.out) (fun k hk hlt2=>hks.block k hlt2 (fun e=>by have e:k=gA:=e;have:=hk.2.1;have:=HLW2.out;have:=HWZ.out;omega))) HWZ.out) (fun k hk=>hk.2.1)⟩;have HO4:Aside0 (Kd.S k47 47 w14 w8.heap.size (fun k=>w8.heap.size≤k∧ ¬ wr.heap.size≤k) u8 O):=⟨Kd.S_mono (Kd.S_step (Kd.S_old HO.out HB9.out) (fun k hk hlt2=>hks.block k hlt2 (fun e=>by have e:k=gA:=e;have:=HLW2.out;omega))) (fun k hk=>⟨hk.1,by omega⟩)⟩;have HKG1:=Ya ((HKG.out.below HB9.out).trans hks (fun b hb _=>hb));have HSZ4:Aside0 (w8.heap.size≤w14.heap.size):=⟨HKG1.out.size⟩;clear hsp hks HRW HB9)|((with_reducible refine gate_builtin (b:= .append) (xs:= #[.tmp 46, .tmp 50]) rfl ?_);at_builtin;refine Kd.S_append k47 (w0:=w14) w8.heap.size rfl (.tmp 46) (.tmp 50) 42 47 (.agg #[(.slice none 0 0),(.int .i64 0)]) 32 rfl Try.underlying42 info47 rfl (by decide) (by omega) u8 O ⟨ax,amt G ax⟩ [.slice A1 ax.length c1, .int .i64 (amt G ax)] (fun k=>w8.heap.size≤k) (fun k=>wr.heap.size≤k) rfl rfl ?aP ?aQ ?aF ?aO ?aB ?aS ?aL ?_;(case aP=>exact k47_mkM _ _ _ _ HR2.out);(case aQ=>exact(fun k hk=>⟨Nat.le_trans HWZ.out hk,fun e=>by have:=Kd.S_lt HO.out k e.symm;omega⟩));(case aF=>exact(fun k hk=>Nat.le_trans HSZ4.out hk));(case aO=>exact HO4.out);(case aB=>exact Yo _ _);(case aS=>exact HSZ4.out);(case aL=>have:=HLN.out;omega);intro v3 w15 ho hb hg_ hat_;have HO3:=Ya ho;have HSG2:=Ya (HSP4.out.keep hb HLW2.out);have HKG2:=Ya (ks_b HKG1.out hb);clear ho hb hg_ hat_)|fail);have h:ChR n0 Zc l gx gz gA A cA w6.heap.size s0 t0 r1 w8 v3 w15 kk:=by
     have htk:=HLK.out.taken HRG.out;have hfw:=htk.fewer;have h1:=HKK.out;have h2:=HLN.out;have e:chF l n0 s0 t0 (kk+1) G=(⟨ax,amt G ax⟩::(chF l n0 s0 t0 kk (lessA G (amt G ax) ax)).1,(chF l n0 s0 t0 kk (lessA G (amt G ax) ax)).2):=by rw[chF,Yu HR.out, ← HAX.out]
     have h3:=HRES.out;rw[e] at h3;exact⟨_,_,htk.right,by omega,by rw[List.length_append,List.length_singleton];omega,by rw[List.append_assoc];exact h3,HO3.out,HSG2.out,HKG2.out⟩
    go_roundw
    case rel=>exact⟨rfl,kk,h⟩
    case measure=>exact least_lt h (by rw[← HLE.out];exact Nat.lt_succ_self kk)
   ·obtain⟨b,hb⟩: ∃ b,b=decide (t0∈reach l G n0 s0):=⟨_,rfl⟩
    have hbf:b=false:=by rw[hb];exact Yt hr
    rw[← hb] at HKW;have hO2:O=r1:=by
     have h_:=HRES.out;rw[chF,Yv hr,List.append_nil] at h_;exact h_
    have HO2:=Ya hO2;clear hr hb hO2;subst hbf;go_wp2_with (first|(go_at_call 49;refine HKW.out.mono ?_;rintro e_ w9 ⟨vw,rfl,hv,hb⟩;have HB9:=Ya hb;clear hv hb)|fail);go_ret3;have s1:=HB.out.size;have s2:=HB7.out.size;have s3:=HKS.out.size;have s4:=HWZ.out;have s5:=HGA.out;have b1:=Yk HB.out HB7.out;have b2:=HKS.out.toBelow b1 b1.size (fun b hb=>by have hb:b=gA:=hb;omega);have b3:=HKG.out.toBelow b2 b2.size (fun b hb=>by have hb:b=gA:=hb;omega);refine⟨_,_,rfl,?_,?_,Yk b3 HB9.out⟩
    ·rw[← HO2.out]
     exact Kd.S_mono (Kd.S_lower (Kd.S_below HO.out HB9.out) (by omega)) (fun k hk e=>by have:=Kd.S_lt HCS.out k e.symm;omega)
    ·rw[← Q2.out]
     exact Kd.S_mono (Kd.S_lower (Kd.S_below (Kd.S_step (Kd.S_bound HCS.out) (fun k hk hlt2=>HKG.out.block k hk.2.2.1 (fun e=>by have e:k=gA:=e;have:=hk.2.1;omega))) HB9.out) (by omega)) (fun k hk e=>by have:=Kd.S_base HO.out k e.symm;have:=hk.2.2.1;omega)
 ·obtain⟨q1,q2,q3⟩:=split_no he
  have hr:splitR Zb l a1 a2 f=([],[],r3):=by
   rw[h] at q1 q2 ⊢;have q1:r1=[]:=q1;have q2:r2=[]:=q2;rw[q1,q2]
  rw[hr] at h;injection h with h1 h2
  injection h2 with h2 h3
  subst h1;subst h2;rw[hr] at he q3;have he: ¬ r3=0:=he;obtain⟨⟨vv,ee⟩,hv⟩: ∃ v,v=valRes Zb l a1 a2 f:=⟨_,rfl⟩;rw[← hv] at hA q3;have HA:=Ya hA;rcases q3 with ⟨q4,q5⟩|⟨q4,q5⟩
  ·have q5:r3=ee:=q5
   subst q5;have e1:(r3 != 0)=true:=by rw[bne_iff_ne];exact he
   clear hv hA q4 he hr h3;go_enter Try.func19,Try.ntmps19;go_wp2_with (first|((with_reducible refine gate_dst (N:=4) rfl ?_);refine Yw ?hg (N:=4) ?hd (cs:= #[.int .i64 Zb, .bool Zc, .slice Zf l.length Ze]) (t:=24) ?hr ?_;(case hd=>rfl);(case hg=>rfl);(case hr=>first|(go_simp;done)|(go_simp;rfl));intro g4 hg w5 Zg hb;have B4:=Ya Zg;have HB:=Ya hb;clear hg Zg hb;have x0:w5.cell? ⟨g4,0,none⟩=some (.int .i64 Zb):=(Yc B4.out 0).trans rfl;have x1:w5.cell? ⟨g4,1,none⟩=some (.bool Zc):=(Yc B4.out 1).trans rfl;have x2:w5.cell? ⟨g4,2,none⟩=some (.slice Zf l.length Ze):=(Yc B4.out 2).trans rfl)|(go_at_call 46;refine(static_Check.calls k Zb Zc Zf Ze l a1 a2 A3 c3 f vv r3 _ (Yq H2.out HB.out) HC2.out (Yq H3.out HB.out) HC3.out HA.out).mono ?_;rintro e_ w6 ⟨rfl,hb⟩;have m0_:=Ya (Yk HB.out hb);have m1_:=Ya (Yn B4.out hb);clear HB B4 hb x0 x1 x2;have HB:=m0_;have B4:=m1_;clear m0_ m1_;have x0:w6.cell? ⟨g4,0,none⟩=some (.int .i64 Zb):=(Yc B4.out 0).trans rfl;have x1:w6.cell? ⟨g4,1,none⟩=some (.bool Zc):=(Yc B4.out 1).trans rfl;have x2:w6.cell? ⟨g4,2,none⟩=some (.slice Zf l.length Ze):=(Yc B4.out 2).trans rfl)|fail);go_ret3;exact⟨_,_,rfl,Kd.S_nil _ _ _ _ _,Kd.S_nil _ _ _ _ _,HB.out⟩
  ·have q4:ee=0:=q4
   have q5:vv<0:=q5;subst q4;have hr3:r3=71:=by
    have h_:=congrArg (fun x=>x.2.2) hr;unfold splitR at h_;rw[← hv] at h_;simp only[Yu,q5] at h_;exact h_.symm
   subst hr3;have e1:decide (vv<0)=true:=Ys q5;clear hv hA q5 he hr h3;go_enter Try.func19,Try.ntmps19;go_wp2_with (first|((with_reducible refine gate_dst (N:=4) rfl ?_);refine Yw ?hg (N:=4) ?hd (cs:= #[.int .i64 Zb, .bool Zc, .slice Zf l.length Ze]) (t:=24) ?hr ?_;(case hd=>rfl);(case hg=>rfl);(case hr=>first|(go_simp;done)|(go_simp;rfl));intro g4 hg w5 Zg hb;have B4:=Ya Zg;have HB:=Ya hb;clear hg Zg hb;have x0:w5.cell? ⟨g4,0,none⟩=some (.int .i64 Zb):=(Yc B4.out 0).trans rfl;have x1:w5.cell? ⟨g4,1,none⟩=some (.bool Zc):=(Yc B4.out 1).trans rfl;have x2:w5.cell? ⟨g4,2,none⟩=some (.slice Zf l.length Ze):=(Yc B4.out 2).trans rfl)|(go_at_call 46;refine(static_Check.calls k Zb Zc Zf Ze l a1 a2 A3 c3 f vv 0 _ (Yq H2.out HB.out) HC2.out (Yq H3.out HB.out) HC3.out HA.out).mono ?_;rintro e_ w6 ⟨rfl,hb⟩;have m0_:=Ya (Yk HB.out hb);have m1_:=Ya (Yn B4.out hb);clear HB B4 hb x0 x1 x2;have HB:=m0_;have B4:=m1_;clear m0_ m1_;have x0:w6.cell? ⟨g4,0,none⟩=some (.int .i64 Zb):=(Yc B4.out 0).trans rfl;have x1:w6.cell? ⟨g4,1,none⟩=some (.bool Zc):=(Yc B4.out 1).trans rfl;have x2:w6.cell? ⟨g4,2,none⟩=some (.slice Zf l.length Ze):=(Yc B4.out 2).trans rfl)|fail);go_ret3;exact⟨_,_,rfl,Kd.S_nil _ _ _ _ _,Kd.S_nil _ _ _ _ _,HB.out⟩
end H
namespace P
attribute [local go_sem] max2_int min2_int max_two min_two max_three min_three max_four min_four
def decomp_Split.f (Zb:Int) (Zc:Bool) (Za:List (S50)) (a1:Int) (a2:Int) (l3:List Int):Option ((List (S47)) × (List (S47)) × Int):=some (H.splitR Zb Za a1 a2 l3)
theorem decomp_Split.calls (Zb:Int) (Zc:Bool) (Zf:Option Addr) (Ze:Nat) (Za:List (S50)) (a1:Int) (a2:Int) (A3:Option Addr) (c3:Nat) (l3:List Int) (r1:List (S47)) (r2:List (S47)) (r3:Int) (w:World) (Zq:Kd.C k50 w Zf Za.length Za) (Zr:Za.length≤Ze) (hr3:Kd.C (Kd.int .i64) w A3 l3.length l3) (hc3:l3.length≤c3) (h:decomp_Split.f Zb Zc Za a1 a2 l3=some (r1,r2,r3)):
  Calls Try.prog 19 #[.agg #[.int .i64 Zb, .bool Zc, .slice Zf Za.length Ze], .int .i64 a1, .int .i64 a2, .slice A3 l3.length c3] w fun e w'=> ∃ v0_ v1_:Value,e= .returned (.tuple #[v0_,v1_, .int .i64 r3])∧Kd.S k47 47 w' w.heap.size (fun k_=>some k_≠(v1_:Value).ownBlock) v0_ r1∧Kd.S k47 47 w' w.heap.size (fun k_=>some k_≠(v0_:Value).ownBlock) v1_ r2∧Below w.heap.size w w':=H.decomp_Split_calls Zb Zc Zf Ze Za a1 a2 A3 c3 l3 r1 r2 r3 w Zq Zr hr3 hc3 h
end P
namespace P
attribute [local go_sem] max2_int min2_int max_two min_two max_three min_three max_four min_four
mutual
def ebbtideref13_Same.l0:Nat→List (S47)→List (S47)→Int→Option (Bool)
 |0,_,_,_=>none
 |k+1,x0,x1,x5=>if x5<(x0.length:Int) then(if 0≤x5 then(if x5<(x1.length:Int) then(if ((rd_T47 x0 x5).f1)=((rd_T47 x1 x5).f1) then(ebbtideref13_Same.j1 k x0 x1 x5 ((((rd_T47 x0 x5).f0).length:Int) != (((rd_T47 x1 x5).f0).length:Int))) else(ebbtideref13_Same.j1 k x0 x1 x5 true)) else(none)) else(none)) else(some true)
def ebbtideref13_Same.j1:Nat→List (S47)→List (S47)→Int→Bool→Option (Bool)
 |0,_,_,_,_=>none
 |k+1,x0,x1,x5,x43=>if x43=true then(some false) else(ebbtideref13_Same.l1 k x0 x1 x5 0)
def ebbtideref13_Same.l1:Nat→List (S47)→List (S47)→Int→Int→Option (Bool)
 |0,_,_,_,_=>none
 |k+1,x0,x1,x5,x6=>if 0≤x5 then(if x5<(x0.length:Int) then(if x6<(((rd_T47 x0 x5).f0).length:Int) then(if 0≤x6 then(if x5<(x1.length:Int) then(if x6<(((rd_T47 x1 x5).f0).length:Int) then(if (rd ((rd_T47 x0 x5).f0) x6)=(rd ((rd_T47 x1 x5).f0) x6) then(ebbtideref13_Same.l1 k x0 x1 x5 (wrap64 (x6+1))) else(some false)) else(none)) else(none)) else(none)) else(ebbtideref13_Same.l0 k x0 x1 (wrap64 (x5+1)))) else(none)) else(none)
end
def ebbtideref13_Same.f (k:Nat) (l0:List (S47)) (l1:List (S47)):Option (Bool):=if (l0.length:Int)=(l1.length:Int) then(ebbtideref13_Same.l0 k l0 l1 0) else(some false)
theorem ebbtideref13_Same.mono_l: ∀ k,(∀ y0 y1 y2,LeO (ebbtideref13_Same.l0 k y0 y1 y2) (ebbtideref13_Same.l0 (k+1) y0 y1 y2))∧(∀ y0 y1 y2 y3,LeO (ebbtideref13_Same.j1 k y0 y1 y2 y3) (ebbtideref13_Same.j1 (k+1) y0 y1 y2 y3))∧(∀ y0 y1 y2 y3,LeO (ebbtideref13_Same.l1 k y0 y1 y2 y3) (ebbtideref13_Same.l1 (k+1) y0 y1 y2 y3))
 |0=>⟨fun _ _ _ r h=>by simp[ebbtideref13_Same.l0] at h,fun _ _ _ _ r h=>by simp[ebbtideref13_Same.j1] at h,fun _ _ _ _ r h=>by simp[ebbtideref13_Same.l1] at h⟩
 |k+1=>by
  obtain⟨ih0,ih1,ih2⟩:=ebbtideref13_Same.mono_l k;refine⟨?_,?_,?_⟩
  ·intro y0 y1 y2
   unfold ebbtideref13_Same.l0;repeat' first
   |(with_reducible exact ih0 _ _ _)
   |(with_reducible exact ih1 _ _ _ _)
   |(with_reducible exact ih2 _ _ _ _)
   |(with_reducible exact LeO.refl _)
   |(with_reducible exact LeO.none _)
   |(with_reducible refine LeO.ite ?_ ?_)
   |(with_reducible refine LeO.bind ?_ (fun _=> ?_))
   |refine LeO.ite ?_ ?_
   |refine LeO.bind ?_ (fun _=> ?_)
  ·intro y0 y1 y2 y3
   unfold ebbtideref13_Same.j1;repeat' first
   |(with_reducible exact ih0 _ _ _)
   |(with_reducible exact ih1 _ _ _ _)
   |(with_reducible exact ih2 _ _ _ _)
   |(with_reducible exact LeO.refl _)
   |(with_reducible exact LeO.none _)
   |(with_reducible refine LeO.ite ?_ ?_)
   |(with_reducible refine LeO.bind ?_ (fun _=> ?_))
   |refine LeO.ite ?_ ?_
   |refine LeO.bind ?_ (fun _=> ?_)
  ·intro y0 y1 y2 y3
   unfold ebbtideref13_Same.l1;repeat' first
   |(with_reducible exact ih0 _ _ _)
   |(with_reducible exact ih1 _ _ _ _)
   |(with_reducible exact ih2 _ _ _ _)
   |(with_reducible exact LeO.refl _)
   |(with_reducible exact LeO.none _)
   |(with_reducible refine LeO.ite ?_ ?_)
   |(with_reducible refine LeO.bind ?_ (fun _=> ?_))
   |refine LeO.ite ?_ ?_
   |refine LeO.bind ?_ (fun _=> ?_)
theorem ebbtideref13_Same.mono: ∀ a0 a1 k,LeO (ebbtideref13_Same.f k a0 a1) (ebbtideref13_Same.f (k+1) a0 a1):=by
 intro a0 a1 k;obtain⟨ih0,ih1,ih2⟩:=ebbtideref13_Same.mono_l k;unfold ebbtideref13_Same.f;repeat' first
   |(with_reducible exact ih0 _ _ _)
   |(with_reducible exact ih1 _ _ _ _)
   |(with_reducible exact ih2 _ _ _ _)
   |(with_reducible exact LeO.refl _)
   |(with_reducible exact LeO.none _)
   |(with_reducible refine LeO.ite ?_ ?_)
   |(with_reducible refine LeO.bind ?_ (fun _=> ?_))
   |refine LeO.ite ?_ ?_
   |refine LeO.bind ?_ (fun _=> ?_)
set_option maxHeartbeats 8000000 in
set_option maxRecDepth 100000 in
theorem ebbtideref13_Same.calls (k:Nat) (A0:Option Addr) (c0:Nat) (l0:List (S47)) (A1:Option Addr) (c1:Nat) (l1:List (S47)) (r:Bool) (w:World) (hr0:Kd.C k47 w A0 l0.length l0) (hc0:l0.length≤c0) (hr1:Kd.C k47 w A1 l1.length l1) (hc1:l1.length≤c1) (h:ebbtideref13_Same.f k l0 l1=some r):
  Calls Try.prog 26 #[.slice A0 l0.length c0, .slice A1 l1.length c1] w fun e w'=>e= .returned (.bool r)∧Drawn0 w w':=by
 have HR0:=Ya hr0;have HC0:=Ya hc0;clear hr0 hc0;have HR1:=Ya hr1;have HC1:=Ya hc1;clear hr1 hc1;have H:=h;unfold ebbtideref13_Same.f at H;clear h;by_cases c3:(l0.length:Int)=(l1.length:Int)
 rotate_left
 ·rw[Yv c3] at H
  have c3b0:((l0.length:Int) == (l1.length:Int))=false:=beq_eq_false_iff_ne.mpr c3;have c3b1:((l0.length:Int) != (l1.length:Int))=true:=bne_iff_ne.mpr c3;have c3b2:(l0.length == l1.length)=false:=by first|simpa using c3|(simp at c3 ⊢;omega)
  obtain rfl:=Option.some.inj H;go_enter Try.func26,Try.ntmps26;go_wp2;repeat(go_quiet (fail);try go_wp2)
  go_ret;exact⟨by first|rfl|(simp;done)|(simp[*];done),by repeat(first|exact Drawn0.refl _|apply Drawn0.step)⟩
 rw[Yu c3] at H;have c3b0:((l0.length:Int) == (l1.length:Int))=true:=beq_iff_eq.mpr c3;have c3b1:((l0.length:Int) != (l1.length:Int))=false:=bne_eq_false_iff_eq.mpr c3;have c3b2:(l0.length == l1.length)=true:=by first|simpa using c3|(simp at c3 ⊢;omega)
 clear c3;have H':=Ya H;clear H;go_enter Try.func26,Try.ntmps26;go_wp2;repeat(go_quiet (fail);try go_wp2)
 go_loopg [5] k (fun kq v5 w'=> ∃ (Zj:Int),v5= .int .i64 Zj∧Aside0 (ebbtideref13_Same.l0 kq l0 l1 Zj=some r)∧Aside0 (kq≤k)∧Drawn0 w w')
 case atStart=>exact⟨(0),(by first|rfl|(simp;done)|(simp[*];done)),H',⟨Nat.le_refl _⟩,by repeat(first|exact Drawn0.refl _|apply Drawn0.step)⟩
 case round=>
  clear H';try clear c1
  try clear c3
  try clear c3b0
  try clear c3b1
  try clear c3b2
  obtain⟨Zj,rfl,HA,HK1,⟨m1,rfl⟩⟩:=hrel;cases gk with
  |zero=>exact absurd HA.out (by simp[ebbtideref13_Same.l0])
  |succ k1=>
   have H:=HA.out;clear HA;simp only[ebbtideref13_Same.l0] at H;by_cases c4:Zj<(l0.length:Int)
   rotate_left
   ·rw[Yv c4] at H
    have c4b0:decide (Zj<(l0.length:Int))=false:=Yt c4;clear c4;obtain rfl:=Option.some.inj H;go_wp2;repeat(go_quiet (fail);try go_wp2)
    go_ret;exact⟨by first|rfl|(simp;done)|(simp[*];done),by repeat(first|exact Drawn0.refl _|apply Drawn0.step)⟩
   rw[Yu c4] at H;have c4b0:decide (Zj<(l0.length:Int))=true:=Ys c4;clear c4;have HC5:=Ya H;clear H;go_upto_region 6 with (fail)
   repeat(go_quiet (fail);go_upto_region 6 with (fail))
   go_cut [43] (fun v43 wc=> ∃ (kq:Nat) (x43_4:Bool),v43= .bool x43_4∧Aside0 (ebbtideref13_Same.j1 kq l0 l1 Zj x43_4=some r)∧Aside0 (kq≤k1)∧Drawn0 w wc)
   case first=>
    have H:=HC5.out;clear HC5;by_cases c6:0≤Zj
    rotate_left
    ·rw[Yv c6] at H
     exact absurd H (by simp)
    rw[Yu c6] at H;have c6b0:decide (0≤Zj)=true:=Ys c6;clear c6
    (first|rw[c6b0]|(simp only[i64_w,i32_w];rw[c6b0])|skip)
    by_cases c7:Zj<(l1.length:Int)
    rotate_left
    ·rw[Yv c7] at H
     exact absurd H (by simp)
    rw[Yu c7] at H;have c7b0:decide (Zj<(l1.length:Int))=true:=Ys c7;clear c7;by_cases c8:((rd_T47 l0 Zj).f1)=((rd_T47 l1 Zj).f1)
    rotate_left
    ·rw[Yv c8] at H
     have c8b0:(((rd_T47 l0 Zj).f1) == ((rd_T47 l1 Zj).f1))=false:=beq_eq_false_iff_ne.mpr c8;have c8b1:(((rd_T47 l0 Zj).f1) != ((rd_T47 l1 Zj).f1))=true:=bne_iff_ne.mpr c8;have H':=Ya H;clear H;have p495:0≤(Zj:Int):=od;have q495:Zj<(l0.length:Int):=od;obtain⟨ad495,A495_0,c495_0,e495,hx495_0,hx495_1,hl495_0,hi495_0⟩:=at_T47 HR0.out Zj p495 q495;cases e495;have HR495_0:=Ya hi495_0;have HC495_0:=Ya hl495_0;clear hi495_0 hl495_0;replace p495:=eq_true p495;replace q495:=eq_true q495;have p496:0≤(Zj:Int):=od;have q496:Zj<(l1.length:Int):=od;obtain⟨ad496,A496_0,c496_0,e496,hx496_0,hx496_1,hl496_0,hi496_0⟩:=at_T47 HR1.out Zj p496 q496;cases e496;have HR496_0:=Ya hi496_0;have HC496_0:=Ya hl496_0;clear hi496_0 hl496_0;replace p496:=eq_true p496;replace q496:=eq_true q496;go_wp2;repeat(go_quiet (fail);try go_wp2)
     go_meet
     case rel=>exact⟨_,(true),(by first|rfl|(simp;done)|(simp[*];done)),H',⟨by have:=HK1.out;first|omega|exact Nat.le_refl _⟩,by repeat(first|exact Drawn0.refl _|apply Drawn0.step)⟩
    rw[Yu c8] at H;have c8b0:(((rd_T47 l0 Zj).f1) == ((rd_T47 l1 Zj).f1))=true:=beq_iff_eq.mpr c8;have c8b1:(((rd_T47 l0 Zj).f1) != ((rd_T47 l1 Zj).f1))=false:=bne_eq_false_iff_eq.mpr c8;clear c8;have H':=Ya H;clear H;have p495:0≤(Zj:Int):=od;have q495:Zj<(l0.length:Int):=od;obtain⟨ad495,A495_0,c495_0,e495,hx495_0,hx495_1,hl495_0,hi495_0⟩:=at_T47 HR0.out Zj p495 q495;cases e495;have HR495_0:=Ya hi495_0;have HC495_0:=Ya hl495_0;clear hi495_0 hl495_0;replace p495:=eq_true p495;replace q495:=eq_true q495;have p496:0≤(Zj:Int):=od;have q496:Zj<(l1.length:Int):=od;obtain⟨ad496,A496_0,c496_0,e496,hx496_0,hx496_1,hl496_0,hi496_0⟩:=at_T47 HR1.out Zj p496 q496;cases e496;have HR496_0:=Ya hi496_0;have HC496_0:=Ya hl496_0;clear hi496_0 hl496_0;replace p496:=eq_true p496;replace q496:=eq_true q496;have p497:0≤(Zj:Int):=od;have q497:Zj<(l0.length:Int):=od;obtain⟨ad497,A497_0,c497_0,e497,hx497_0,hx497_1,hl497_0,hi497_0⟩:=at_T47 HR0.out Zj p497 q497;obtain rfl:ad495=ad497:=(by injection e497);have HR497_0:=Ya hi497_0;have HC497_0:=Ya hl497_0;clear hi497_0 hl497_0;replace p497:=eq_true p497;replace q497:=eq_true q497;have ea_:=Option.some.inj (hx495_0.symm.trans hx497_0);injection ea_ with ea_ en_ ec_
    subst ea_;subst ec_;clear en_;have p498:0≤(Zj:Int):=od;have q498:Zj<(l1.length:Int):=od;obtain⟨ad498,A498_0,c498_0,e498,hx498_0,hx498_1,hl498_0,hi498_0⟩:=at_T47 HR1.out Zj p498 q498;obtain rfl:ad496=ad498:=(by injection e498);have HR498_0:=Ya hi498_0;have HC498_0:=Ya hl498_0;clear hi498_0 hl498_0;replace p498:=eq_true p498;replace q498:=eq_true q498;have ea_:=Option.some.inj (hx496_0.symm.trans hx498_0);injection ea_ with ea_ en_ ec_
    subst ea_;subst ec_;clear en_;go_wp2;repeat(go_quiet (fail);try go_wp2)
    go_meet
    case rel=>exact⟨_,(((((rd_T47 l0 Zj).f0).length:Int) != (((rd_T47 l1 Zj).f0).length:Int))),(by first|rfl|(simp;done)|(simp[*];done)),H',⟨by have:=HK1.out;first|omega|exact Nat.le_refl _⟩,by repeat(first|exact Drawn0.refl _|apply Drawn0.step)⟩
   case rest=>
    clear HC5;try clear c1
    try clear c3
    try clear c3b0
    try clear c3b1
    try clear c3b2
    try clear c4
    try clear c4b0
    try clear c6
    try clear c6b0
    try clear c7
    try clear c7b0
    try clear c8
    try clear c8b0
    try clear c8b1
    try clear hx495_0
    try clear hx495_1
    try clear hx496_0
    try clear hx496_1
    try clear hx497_0
    try clear hx497_1
    try clear hx498_0
    try clear hx498_1
    try clear p495
    try clear p496
    try clear p497
    try clear p498
    try clear q495
    try clear q496
    try clear q497
    try clear q498
    obtain⟨kq,x43_4,rfl,HA,HJ4,⟨mc4,rfl⟩⟩:=hcut;cases kq with
    |zero=>exact absurd HA.out (by simp[ebbtideref13_Same.j1])
    |succ kj4=>
     have H:=HA.out;clear HA;simp only[ebbtideref13_Same.j1] at H;by_cases c9:x43_4=true
     ·subst c9
      first|rw[Yu rfl] at H|rw[Yu trivial] at H
      obtain rfl:=Option.some.inj H;go_wp2;repeat(go_quiet (fail);try go_wp2)
      go_ret;exact⟨by first|rfl|(simp;done)|(simp[*];done),by repeat(first|exact Drawn0.refl _|apply Drawn0.step)⟩
     replace c9:=Bool.eq_false_iff.mpr c9;subst c9;rw[Yv (show ¬ (false=true) by decide)] at H;have H':=Ya H;clear H;go_wp2;repeat(go_quiet (fail);try go_wp2)
     go_loopg [6] kj4 (fun kq v6 w'=> ∃ (Wo:Int),v6= .int .i64 Wo∧Aside0 (ebbtideref13_Same.l1 kq l0 l1 Zj Wo=some r)∧Aside0 (kq≤kj4)∧Drawn0 w w')
     case atStart=>exact⟨(0),(by first|rfl|(simp;done)|(simp[*];done)),H',⟨Nat.le_refl _⟩,by repeat(first|exact Drawn0.refl _|apply Drawn0.step)⟩
     case round=>
      clear H';try clear c1
      try clear c3
      try clear c3b0
      try clear c3b1
      try clear c3b2
      try clear c4
      try clear c4b0
      try clear c6
      try clear c6b0
      try clear c7
      try clear c7b0
      try clear c8
      try clear c8b0
      try clear c8b1
      try clear c9
      try clear hx495_0
      try clear hx495_1
      try clear hx496_0
      try clear hx496_1
      try clear hx497_0
      try clear hx497_1
      try clear hx498_0
      try clear hx498_1
      try clear p495
      try clear p496
      try clear p497
      try clear p498
      try clear q495
      try clear q496
      try clear q497
      try clear q498
      obtain⟨Wo,rfl,HA,HK3,⟨m3,rfl⟩⟩:=hrel;cases gk with
      |zero=>exact absurd HA.out (by simp[ebbtideref13_Same.l1])
      |succ k3=>
       have H:=HA.out;clear HA;simp only[ebbtideref13_Same.l1] at H;by_cases c10:0≤Zj
       rotate_left
       ·rw[Yv c10] at H
        exact absurd H (by simp)
       rw[Yu c10] at H;have c10b0:decide (0≤Zj)=true:=Ys c10;clear c10;by_cases c11:Zj<(l0.length:Int)
       rotate_left
       ·rw[Yv c11] at H
        exact absurd H (by simp)
       rw[Yu c11] at H;have c11b0:decide (Zj<(l0.length:Int))=true:=Ys c11;clear c11;by_cases c12:Wo<(((rd_T47 l0 Zj).f0).length:Int)
       rotate_left
       ·rw[Yv c12] at H
        have c12b0:decide (Wo<(((rd_T47 l0 Zj).f0).length:Int))=false:=Yt c12;clear c12;have H':=Ya H;clear H;have p499:0≤(Zj:Int):=od;have q499:Zj<(l0.length:Int):=od;obtain⟨ad499,A499_0,c499_0,e499,hx499_0,hx499_1,hl499_0,hi499_0⟩:=at_T47 HR0.out Zj p499 q499;cases e499;have HR499_0:=Ya hi499_0;have HC499_0:=Ya hl499_0;clear hi499_0 hl499_0;replace p499:=eq_true p499;replace q499:=eq_true q499;go_wp2;repeat(go_quiet (fail);try go_wp2)
        go_roundg k3
        case measure=>have:=HK1.out;have:=HJ4.out;have:=HK3.out;omega
        case rel=>exact⟨(wrap64 (Zj+1)),(by first|rfl|(simp;done)|(simp[*];done)),H',⟨by have:=HK1.out;have:=HJ4.out;have:=HK3.out;omega⟩,by repeat(first|exact Drawn0.refl _|apply Drawn0.step)⟩
       rw[Yu c12] at H;have c12b0:decide (Wo<(((rd_T47 l0 Zj).f0).length:Int))=true:=Ys c12;clear c12;by_cases c13:0≤Wo
       rotate_left
       ·rw[Yv c13] at H
        exact absurd H (by simp)
       rw[Yu c13] at H;have c13b0:decide (0≤Wo)=true:=Ys c13;clear c13;by_cases c14:Zj<(l1.length:Int)
       rotate_left
       ·rw[Yv c14] at H
        exact absurd H (by simp)
       rw[Yu c14] at H;have c14b0:decide (Zj<(l1.length:Int))=true:=Ys c14;clear c14;by_cases c15:Wo<(((rd_T47 l1 Zj).f0).length:Int)
       rotate_left
       ·rw[Yv c15] at H
        exact absurd H (by simp)
       rw[Yu c15] at H;have c15b0:decide (Wo<(((rd_T47 l1 Zj).f0).length:Int))=true:=Ys c15;clear c15;by_cases c16:(rd ((rd_T47 l0 Zj).f0) Wo)=(rd ((rd_T47 l1 Zj).f0) Wo)
       rotate_left
       ·rw[Yv c16] at H
        have c16b0:((rd ((rd_T47 l0 Zj).f0) Wo) == (rd ((rd_T47 l1 Zj).f0) Wo))=false:=beq_eq_false_iff_ne.mpr c16;have c16b1:((rd ((rd_T47 l0 Zj).f0) Wo) != (rd ((rd_T47 l1 Zj).f0) Wo))=true:=bne_iff_ne.mpr c16;obtain rfl:=Option.some.inj H;have p499:0≤(Zj:Int):=od;have q499:Zj<(l0.length:Int):=od;obtain⟨ad499,A499_0,c499_0,e499,hx499_0,hx499_1,hl499_0,hi499_0⟩:=at_T47 HR0.out Zj p499 q499;cases e499;have HR499_0:=Ya hi499_0;have HC499_0:=Ya hl499_0;clear hi499_0 hl499_0;replace p499:=eq_true p499;replace q499:=eq_true q499;have p500:0≤(Zj:Int):=od;have q500:Zj<(l0.length:Int):=od;obtain⟨ad500,A500_0,c500_0,e500,hx500_0,hx500_1,hl500_0,hi500_0⟩:=at_T47 HR0.out Zj p500 q500;obtain rfl:ad499=ad500:=(by injection e500);have HR500_0:=Ya hi500_0;have HC500_0:=Ya hl500_0;clear hi500_0 hl500_0;replace p500:=eq_true p500;replace q500:=eq_true q500;have ea_:=Option.some.inj (hx499_0.symm.trans hx500_0);injection ea_ with ea_ en_ ec_
        subst ea_;subst ec_;clear en_;have p501:0≤(Wo:Int):=od;have q501:Wo<(((rd_T47 l0 Zj).f0).length:Int):=od;obtain⟨ad501,e501,hx501_0⟩:=Kd.at_int HR500_0.out Wo p501 q501;cases e501;replace p501:=eq_true p501;replace q501:=eq_true q501;have p502:0≤(Zj:Int):=od;have q502:Zj<(l1.length:Int):=od;obtain⟨ad502,A502_0,c502_0,e502,hx502_0,hx502_1,hl502_0,hi502_0⟩:=at_T47 HR1.out Zj p502 q502;cases e502;have HR502_0:=Ya hi502_0;have HC502_0:=Ya hl502_0;clear hi502_0 hl502_0;replace p502:=eq_true p502;replace q502:=eq_true q502;have p503:0≤(Wo:Int):=od;have q503:Wo<(((rd_T47 l1 Zj).f0).length:Int):=od;obtain⟨ad503,e503,hx503_0⟩:=Kd.at_int HR502_0.out Wo p503 q503;cases e503;replace p503:=eq_true p503;replace q503:=eq_true q503;go_wp2;repeat(go_quiet (fail);try go_wp2)
        go_ret;exact⟨by first|rfl|(simp;done)|(simp[*];done),by repeat(first|exact Drawn0.refl _|apply Drawn0.step)⟩
       rw[Yu c16] at H;have c16b0:((rd ((rd_T47 l0 Zj).f0) Wo) == (rd ((rd_T47 l1 Zj).f0) Wo))=true:=beq_iff_eq.mpr c16;have c16b1:((rd ((rd_T47 l0 Zj).f0) Wo) != (rd ((rd_T47 l1 Zj).f0) Wo))=false:=bne_eq_false_iff_eq.mpr c16;clear c16;have H':=Ya H;clear H;have p499:0≤(Zj:Int):=od;have q499:Zj<(l0.length:Int):=od;obtain⟨ad499,A499_0,c499_0,e499,hx499_0,hx499_1,hl499_0,hi499_0⟩:=at_T47 HR0.out Zj p499 q499;cases e499;have HR499_0:=Ya hi499_0;have HC499_0:=Ya hl499_0;clear hi499_0 hl499_0;replace p499:=eq_true p499;replace q499:=eq_true q499;have p500:0≤(Zj:Int):=od;have q500:Zj<(l0.length:Int):=od;obtain⟨ad500,A500_0,c500_0,e500,hx500_0,hx500_1,hl500_0,hi500_0⟩:=at_T47 HR0.out Zj p500 q500;obtain rfl:ad499=ad500:=(by injection e500);have HR500_0:=Ya hi500_0;have HC500_0:=Ya hl500_0;clear hi500_0 hl500_0;replace p500:=eq_true p500;replace q500:=eq_true q500;have ea_:=Option.some.inj (hx499_0.symm.trans hx500_0);injection ea_ with ea_ en_ ec_
       subst ea_;subst ec_;clear en_;have p501:0≤(Wo:Int):=od;have q501:Wo<(((rd_T47 l0 Zj).f0).length:Int):=od;obtain⟨ad501,e501,hx501_0⟩:=Kd.at_int HR500_0.out Wo p501 q501;cases e501;replace p501:=eq_true p501;replace q501:=eq_true q501;have p502:0≤(Zj:Int):=od;have q502:Zj<(l1.length:Int):=od;obtain⟨ad502,A502_0,c502_0,e502,hx502_0,hx502_1,hl502_0,hi502_0⟩:=at_T47 HR1.out Zj p502 q502;cases e502;have HR502_0:=Ya hi502_0;have HC502_0:=Ya hl502_0;clear hi502_0 hl502_0;replace p502:=eq_true p502;replace q502:=eq_true q502;have p503:0≤(Wo:Int):=od;have q503:Wo<(((rd_T47 l1 Zj).f0).length:Int):=od;obtain⟨ad503,e503,hx503_0⟩:=Kd.at_int HR502_0.out Wo p503 q503;cases e503;replace p503:=eq_true p503;replace q503:=eq_true q503;go_wp2;repeat(go_quiet (fail);try go_wp2)
       go_roundg k3
       case measure=>have:=HK1.out;have:=HJ4.out;have:=HK3.out;omega
       case rel=>exact⟨(wrap64 (Wo+1)),(by first|rfl|(simp;done)|(simp[*];done)),H',⟨by have:=HK1.out;have:=HJ4.out;have:=HK3.out;omega⟩,by repeat(first|exact Drawn0.refl _|apply Drawn0.step)⟩
end P
namespace P
attribute [local go_sem] max2_int min2_int max_two min_two max_three min_three max_four min_four
mutual
def decomp_Lengths.l0:Nat→List Int→List (S47)→Int→Int→Int→Bool→List (S50)→Option (List Int × Int)
 |0,_,_,_,_,_,_,_=>none
 |k+1,x7,x20,x21,x22,x505000,x505001,Ui=>if x22<x21 then(if 0≤x22 then(if x22<(x20.length:Int) then(decomp_Lengths.l1 k x7 x22 x20 x21 x22 ((rd_T47 x20 x22).f0) (((rd_T47 x20 x22).f0).length:Int) 0 x505000 x505001 Ui) else(none)) else(none)) else(some (x7,0))
def decomp_Lengths.l1:Nat→List Int→Int→List (S47)→Int→Int→List Int→Int→Int→Int→Bool→List (S50)→Option (List Int × Int)
 |0,_,_,_,_,_,_,_,_,_,_,_=>none
 |k+1,x7,x8,x20,x21,x22,x28,x29,x30,x505000,x505001,Ui=>if x30<x29 then(if 0≤x30 then(if x30<(x28.length:Int) then(if (rd x28 x30)<0 then(some (([]:List Int),1)) else(if (rd x28 x30)≥(Ui.length:Int) then(some (([]:List Int),1)) else(if 0≤x8 then(if x8<(x7.length:Int) then(if 0≤(rd x28 x30) then(if (rd x28 x30)<(Ui.length:Int) then(decomp_Lengths.l1 k (x7.set (x8:Int).toNat (wrap64 ((rd x7 x8)+((rd_T50 Ui (rd x28 x30)).f3)))) x8 x20 x21 x22 x28 x29 (wrap64 (x30+1)) x505000 x505001 Ui) else(none)) else(none)) else(none)) else(none)))) else(none)) else(none)) else(decomp_Lengths.l0 k x7 x20 x21 (wrap64 (x22+1)) x505000 x505001 Ui)
end
def decomp_Lengths.f (k:Nat) (Zb:Int) (Zc:Bool) (Za:List (S50)) (l1:List (S47)):Option (List Int × Int):=(netfmt_Check.f k Zb Zc Za).bind fun t505=>(if t505=0 then(if 0≤(l1.length:Int) then(if ((l1.length:Int):Int).toNat≤35184372088832 then(decomp_Lengths.l0 k (List.replicate ((l1.length:Int):Int).toNat 0) l1 (l1.length:Int) 0 Zb Zc Za) else(none)) else(none)) else(some (([]:List Int),t505)))
theorem decomp_Lengths.mono_l: ∀ k,(∀ y0 y1 y2 y3 y4 y5 y6,LeO (decomp_Lengths.l0 k y0 y1 y2 y3 y4 y5 y6) (decomp_Lengths.l0 (k+1) y0 y1 y2 y3 y4 y5 y6))∧(∀ y0 y1 y2 y3 y4 y5 y6 y7 y8 y9 y10,LeO (decomp_Lengths.l1 k y0 y1 y2 y3 y4 y5 y6 y7 y8 y9 y10) (decomp_Lengths.l1 (k+1) y0 y1 y2 y3 y4 y5 y6 y7 y8 y9 y10))
 |0=>⟨fun _ _ _ _ _ _ _ r h=>by simp[decomp_Lengths.l0] at h,fun _ _ _ _ _ _ _ _ _ _ _ r h=>by simp[decomp_Lengths.l1] at h⟩
 |k+1=>by
  obtain⟨ih0,ih1⟩:=decomp_Lengths.mono_l k;refine⟨?_,?_⟩
  ·intro y0 y1 y2 y3 y4 y5 y6
   unfold decomp_Lengths.l0;repeat' first
   |(with_reducible exact ih0 _ _ _ _ _ _ _)
   |(with_reducible exact ih1 _ _ _ _ _ _ _ _ _ _ _)
   |(with_reducible exact netfmt_Check.mono _ _ _ _)
   |(with_reducible exact LeO.refl _)
   |(with_reducible exact LeO.none _)
   |(with_reducible refine LeO.ite ?_ ?_)
   |(with_reducible refine LeO.bind ?_ (fun _=> ?_))
   |refine LeO.ite ?_ ?_
   |refine LeO.bind ?_ (fun _=> ?_)
  ·intro y0 y1 y2 y3 y4 y5 y6 y7 y8 y9 y10
   unfold decomp_Lengths.l1;repeat' first
   |(with_reducible exact ih0 _ _ _ _ _ _ _)
   |(with_reducible exact ih1 _ _ _ _ _ _ _ _ _ _ _)
   |(with_reducible exact netfmt_Check.mono _ _ _ _)
   |(with_reducible exact LeO.refl _)
   |(with_reducible exact LeO.none _)
   |(with_reducible refine LeO.ite ?_ ?_)
   |(with_reducible refine LeO.bind ?_ (fun _=> ?_))
   |refine LeO.ite ?_ ?_
   |refine LeO.bind ?_ (fun _=> ?_)
theorem decomp_Lengths.mono: ∀ a0 a1 a2 a3 k,LeO (decomp_Lengths.f k a0 a1 a2 a3) (decomp_Lengths.f (k+1) a0 a1 a2 a3):=by
 intro a0 a1 a2 a3 k;obtain⟨ih0,ih1⟩:=decomp_Lengths.mono_l k;unfold decomp_Lengths.f;repeat' first
   |(with_reducible exact ih0 _ _ _ _ _ _ _)
   |(with_reducible exact ih1 _ _ _ _ _ _ _ _ _ _ _)
   |(with_reducible exact netfmt_Check.mono _ _ _ _)
   |(with_reducible exact LeO.refl _)
   |(with_reducible exact LeO.none _)
   |(with_reducible refine LeO.ite ?_ ?_)
   |(with_reducible refine LeO.bind ?_ (fun _=> ?_))
   |refine LeO.ite ?_ ?_
   |refine LeO.bind ?_ (fun _=> ?_)
def decomp_Lengths.T13:Bool × List (List Nat × List Nat):=(true,[([],[]),([],[]),([0,1],[0,1]),([2],[2]),([],[]),([4],[4]),([],[]),([5,6],[5,6]),([7],[7]),([8],[8]),([3,9],[3,9]),([0,1,0,1,2,3,4,5,6,7,8,9,10],[0,1]),([11,10,0,1,2,3,4,5,6,7,8,9,10],[10,11])])
def decomp_Lengths.B13:List Nat:=[0,0,3,7,0,16,0,112,240,496,1023,2047,4095]
theorem decomp_Lengths.tab13:rtab .any (opsOf Try.f29 13)=decomp_Lengths.T13:=by kernel_rfl
theorem decomp_Lengths.bits13:waitsOk decomp_Lengths.T13.2 decomp_Lengths.B13=true:=by kernel_rfl
set_option maxHeartbeats 8000000 in
set_option maxRecDepth 100000 in
theorem decomp_Lengths.calls (k:Nat) (Zb:Int) (Zc:Bool) (Zf:Option Addr) (Ze:Nat) (Za:List (S50)) (A1:Option Addr) (c1:Nat) (l1:List (S47)) (r1:List Int) (r2:Int) (w:World) (Zq:Kd.C k50 w Zf Za.length Za) (Zr:Za.length≤Ze) (hr1:Kd.C k47 w A1 l1.length l1) (hc1:l1.length≤c1) (h:decomp_Lengths.f k Zb Zc Za l1=some (r1,r2)):
  Calls Try.prog 29 #[.agg #[.int .i64 Zb, .bool Zc, .slice Zf Za.length Ze], .slice A1 l1.length c1] w fun e w'=> ∃ v0_:Value,e= .returned (.tuple #[v0_, .int .i64 r2])∧Kd.R (Kd.int .i64) 3 w' w.heap.size (fun _=>True) v0_ r1∧Below w.heap.size w w':=by
 have hu24:=Try.underlying24;have hu47:=Try.underlying47;have Zo:=Ya Zq;have Xo:=Ya Zr;clear Zq Zr;have HR1:=Ya hr1;have HC1:=Ya hc1;clear hr1 hc1;have HB:=Ya (Yo w.heap.size w);have H:=h;unfold decomp_Lengths.f at H;clear h;replace H:=Option.bind_eq_some_iff.mp H;obtain⟨t505,A30,H⟩:=H;try dsimp only at H
 have A3:=Ya A30;clear A30;by_cases c4:t505=0
 rotate_left
 ·rw[Yv c4] at H
  have c4b0:(t505 == 0)=false:=beq_eq_false_iff_ne.mpr c4;have c4b1:(t505 != 0)=true:=bne_iff_ne.mpr c4;simp only[Option.some.injEq,Prod.mk.injEq] at H;obtain⟨rfl,rfl⟩:=H;go_enter Try.func29,Try.ntmps29;go_wp2_with (first|((with_reducible refine gate_dst (N:=2) rfl ?_);(try (refine gate_guard (by rfl) ?_;dsimp only));refine Yw ?hg (N:=2) ?hd (cs:= #[.int .i64 Zb, .bool Zc, .slice Zf Za.length Ze]) (t:=24) ?hr ?_;(case hd=>rfl);(case hg=>rfl);(case hr=>first|(go_simp;done)|(go_simp;rfl));intro Wd hg w35 Zg hb;have Zw:=Ya (Zg);have GW504:=Ya (by rw[hg];exact(Yi HB.out):w.heap.size≤Wd);have GE504:=Ya (by rw[hg];exact(Yi HB.out):w.heap.size≤Wd);replace HB:=Ya (Yk HB.out hb);clear hb Zg hg;have hcz36_0:w35.cell? ⟨Wd,0,none⟩=some (.int .i64 Zb):=bc Zw 0;have hcz36_1:w35.cell? ⟨Wd,1,none⟩=some (.bool Zc):=bc Zw 1;have hcz36_2:w35.cell? ⟨Wd,2,none⟩=some (.slice Zf Za.length Ze):=bc Zw 2;have hfz36_0:=Yf Zw.out 0;have hfz36_1:=Yf Zw.out 1;have hfz36_2:=Yf Zw.out 2)|((with_reducible refine gate_callee (f:=61) rfl ?_);refine gl (some 13) Try.func61 #[.agg #[.int .i64 Zb, .bool Zc, .slice Zf Za.length Ze]] ?_;(with_reducible refine(netfmt_Check.calls k Zb Zc _ _ Za t505 _ ?side1 ?side2 A3.out).mono ?_);(case side1=>exact kC (Yq Zo.out HB.out));(case side2=>exact Xo.out);rintro e w37 ⟨rfl,hb⟩;refine⟨_,rfl,?_⟩;replace Zw:=Ya (Yn Zw.out hb);replace HB:=Ya (Yk HB.out hb);(try clear hb)));go_ret2;exact⟨_,by first|rfl|(simp[errW_none,errW_some]<;>rfl)|(simp[*,errW_none,errW_some]<;>rfl),by first|exact Kd.R_nil _ _ _ _ _|exact Kd.N_nil _ _ _ _ _|exact Kd.V_nil _ _ _ _ _|exact Kd.Q_nil _ _ _ _ _|exact Kd.S_nil _ _ _ _ _,HB.out⟩
 rw[Yu c4] at H;have c4b0:(t505 == 0)=true:=beq_iff_eq.mpr c4;have c4b1:(t505 != 0)=false:=bne_eq_false_iff_eq.mpr c4;clear c4;by_cases c5:0≤(l1.length:Int)
 rotate_left
 ·rw[Yv c5] at H
  exact absurd H (by simp)
 rw[Yu c5] at H;have c5b0:=eq_true c5;have c5b1:decide (0≤(l1.length:Int))=true:=Ys c5;clear c5;by_cases c6:((l1.length:Int):Int).toNat≤35184372088832
 rotate_left
 ·rw[Yv c6] at H
  exact absurd H (by simp)
 rw[Yu c6] at H;have c6b0:=eq_true c6;have c6b1:decide (((l1.length:Int):Int).toNat≤35184372088832)=true:=Ys c6;clear c6;obtain⟨y506,hy506⟩: ∃ y_:List Int,y_=(List.replicate ((l1.length:Int):Int).toNat 0):=⟨_,rfl⟩;rw[← hy506] at H;have Ny506:=Ya hy506;clear hy506;have H':=Ya H;clear H;go_enter Try.func29,Try.ntmps29;go_wp2_with (first|((with_reducible refine gate_dst (N:=2) rfl ?_);(try (refine gate_guard (by rfl) ?_;dsimp only));refine Yw ?hg (N:=2) ?hd (cs:= #[.int .i64 Zb, .bool Zc, .slice Zf Za.length Ze]) (t:=24) ?hr ?_;(case hd=>rfl);(case hg=>rfl);(case hr=>first|(go_simp;done)|(go_simp;rfl));intro Wd hg w7 Zg hb;have Zw:=Ya (Zg);have GW504:=Ya (by rw[hg];exact(Yi HB.out):w.heap.size≤Wd);have GE504:=Ya (by rw[hg];exact(Yi HB.out):w.heap.size≤Wd);replace HB:=Ya (Yk HB.out hb);clear hb Zg hg;have Wi:w7.cell? ⟨Wd,0,none⟩=some (.int .i64 Zb):=bc Zw 0;have Wj:w7.cell? ⟨Wd,1,none⟩=some (.bool Zc):=bc Zw 1;have Wk:w7.cell? ⟨Wd,2,none⟩=some (.slice Zf Za.length Ze):=bc Zw 2;have Wl:=Yf Zw.out 0;have Wm:=Yf Zw.out 1;have Wn:=Yf Zw.out 2)|((with_reducible refine gate_callee (f:=61) rfl ?_);refine gl (some 13) Try.func61 #[.agg #[.int .i64 Zb, .bool Zc, .slice Zf Za.length Ze]] ?_;(with_reducible refine(netfmt_Check.calls k Zb Zc _ _ Za t505 _ ?side1 ?side2 A3.out).mono ?_);(case side1=>exact kC (Yq Zo.out HB.out));(case side2=>exact Xo.out);rintro e w9 ⟨rfl,hb⟩;refine⟨_,rfl,?_⟩;replace Zw:=Ya (Yn Zw.out hb);replace HB:=Ya (Yk HB.out hb);(try clear hb))|((with_reducible refine gate_dst (N:=19) rfl ?_);(try (refine gate_guard (by rfl) ?_;dsimp only));refine Kd.R_make (Kd.int .i64) _ 3 rfl (N:=19) rfl 31 _ _ rfl (l1.length:Int) rfl rfl Try.underlying31 (.int .i64 0) 8 info3 rfl (by decide) (by omega) 0 (ok:=fun _=>True) (okp:=fun _=>True) rfl (fun _ hk=>hk) trivial (Yr (by first|(with_reducible assumption)|assumption)) (Nat.le_trans (Nat.mul_le_mul_right _ (Yr (by first|(with_reducible assumption)|assumption):(l1.length:Int).toNat≤35184372088832)) (by omega)) (Yo _ _) (Nat.le_refl _) ?_;intro v507 w10 ho11 hb hg_ hnew_;clear hg_ hnew_;(first|rw[← Ny506.out] at ho11|(simp only[Int.reduceToNat] at ho11;rw[← Ny506.out] at ho11));have HO508:=Ya (Kd.R_lower ho11 (Yi HB.out));replace Zw:=Ya (Yn Zw.out hb);replace HB:=Ya (Yk HB.out hb);clear hb ho11));go_loopg [22] k (fun kq v22 w'=> ∃ (Wr:List Int) (Zd:Int),v22= .int .i64 Zd∧Aside0 (decomp_Lengths.l0 kq Wr l1 (l1.length:Int) Zd Zb Zc Za=some (r1,r2))∧Aside0 (kq≤k)∧Aside0 (Kd.R (Kd.int .i64) 3 w' w.heap.size (fun _=>True) v507 Wr)∧Aside0 (w'.heap[Wd]? =some (.cells #[.int .i64 Zb, .bool Zc,(.slice Zf Za.length Ze)] 24 (0,0)))∧Aside0 (Below w.heap.size w w'))
 case atStart=>exact⟨(y506),(0),(by first|rfl|(simp;done)|(simp[*];done)),H',⟨Nat.le_refl _⟩,⟨HO508.out⟩,⟨Zw.out⟩,⟨HB.out⟩⟩
 case round=>
  clear H';try clear c1
  try clear c4
  try clear c4b0
  try clear c4b1
  try clear c5
  try clear c5b0
  try clear c5b1
  try clear c6
  try clear c6b0
  try clear c6b1
  try clear Wi
  try clear Wj
  try clear Wk
  try clear Wl
  try clear Wm
  try clear Wn
  obtain⟨Wr,Zd,rfl,HA,HK1,HO_7,Zw,HB⟩:=hrel;cases gk with
  |zero=>exact absurd HA.out (by simp[decomp_Lengths.l0])
  |succ k1=>
   have H:=HA.out;clear HA;simp only[decomp_Lengths.l0] at H;by_cases c12:Zd<(l1.length:Int)
   rotate_left
   ·rw[Yv c12] at H
    have c12b0:decide (Zd<(l1.length:Int))=false:=Yt c12;clear c12;simp only[Option.some.injEq,Prod.mk.injEq] at H;obtain⟨rfl,rfl⟩:=H;go_wp2;go_ret2;exact⟨_,by first|rfl|(simp[errW_none,errW_some]<;>rfl)|(simp[*,errW_none,errW_some]<;>rfl),by(with_reducible repeat(first|apply Kd.R_alloc|apply Kd.R_drewN|apply Kd.R_drew));exact HO_7.out,HB.out⟩
   rw[Yu c12] at H;have c12b0:decide (Zd<(l1.length:Int))=true:=Ys c12;clear c12;by_cases c13:0≤Zd
   rotate_left
   ·rw[Yv c13] at H
    exact absurd H (by simp)
   rw[Yu c13] at H;have c13b0:decide (0≤Zd)=true:=Ys c13;clear c13;by_cases c14:Zd<(l1.length:Int)
   rotate_left
   ·rw[Yv c14] at H
    exact absurd H (by simp)
   rw[Yu c14] at H;have c14b0:decide (Zd<(l1.length:Int))=true:=Ys c14;clear c14;have H':=Ya H;clear H;have p509:0≤(Zd:Int):=od;have q509:Zd<(l1.length:Int):=od;obtain⟨ad509,A509_0,c509_0,e509,hx509_0,hx509_1,hl509_0,hi509_0⟩:=at_T47 HR1.out Zd p509 q509;cases e509;replace hx509_0:=hc HB hx509_0;replace hx509_1:=hc HB hx509_1;have HR509_0:=Ya hi509_0;have HC509_0:=Ya hl509_0;clear hi509_0 hl509_0;replace p509:=eq_true p509;replace q509:=eq_true q509;go_wp2_with (first|((with_reducible refine gate_dst (N:=9) rfl ?_);(try (refine gate_guard (by rfl) ?_;dsimp only));refine Yw ?hg (N:=9) ?hd (cs:= #[.slice none 0 0, .int .i64 0]) (t:=47) ?hr ?_;(case hd=>rfl);(case hg=>rfl);(case hr=>first|(go_simp;done)|(go_simp;rfl));intro Jv hg w15 Zg hb;replace HO_7:=Ya (Yp HO_7.out hb);have Uj:=Ya (Zg);have GW510:=Ya (by rw[hg];exact(Yi HB.out):w.heap.size≤Jv);have GE510:=Ya (by rw[hg];exact(Yi HB.out):w.heap.size≤Jv);replace HB:=Ya (Yk HB.out hb);have Ub:=Ya (by rw[hg];exact Nat.ne_of_lt (blk_lt Zw.out):Wd≠Jv);have NB510_504:=Ya (by rw[hg];exact Nat.ne_of_gt (blk_lt Zw.out):Jv≠Wd);replace Zw:=Ya (Yn Zw.out hb);clear hb Zg hg;have hnb16:=NB510_504.out;have hnc16:=Ub.out;have Vm:w15.cell? ⟨Jv,0,none⟩=some (.slice none 0 0):=bc Uj 0;have Vn:w15.cell? ⟨Jv,1,none⟩=some (.int .i64 0):=bc Uj 1;have Vo:=Yf Uj.out 0;have Vp:=Yf Uj.out 1));go_loopg [30] k1 (fun kq v30 w'=> ∃ (x7_2:List Int) (Zz:Int),v30= .int .i64 Zz∧Aside0 (decomp_Lengths.l1 kq x7_2 Zd l1 (l1.length:Int) Zd ((rd_T47 l1 Zd).f0) (((rd_T47 l1 Zd).f0).length:Int) Zz Zb Zc Za=some (r1,r2))∧Aside0 (kq≤k1)∧Aside0 (Kd.R (Kd.int .i64) 3 w' w.heap.size (fun _=>True) v507 x7_2)∧Aside0 (w'.heap[Wd]? =some (.cells #[.int .i64 Zb, .bool Zc,(.slice Zf Za.length Ze)] 24 (0,0)))∧Aside0 (w'.heap[Jv]? =some (.cells #[(.slice A509_0 ((rd_T47 l1 Zd).f0).length c509_0), .int .i64 ((rd_T47 l1 Zd).f1)] 47 (0,0)))∧Aside0 (Below w.heap.size w w'))
   case atStart=>exact⟨(Wr),(0),(by first|rfl|(simp;done)|(simp[*];done)),H',⟨Nat.le_refl _⟩,⟨by(with_reducible repeat(first|apply Kd.R_alloc|apply Kd.R_drewN|apply Kd.R_drew));exact Kd.R_mono (Kd.R_far (p:=⟨Jv,1,none⟩) (Kd.R_far (p:=⟨Jv,0,none⟩) (Kd.R_types HO_7.out Uj.out (by decide)) (fun _ hk=>hk.2) (.slice A509_0 ((rd_T47 l1 Zd).f0).length c509_0)) (fun _ hk=>hk.2) (.int .i64 ((rd_T47 l1 Zd).f1))) (fun _ hk=>trivial)⟩,⟨by(with_reducible repeat(first|refine Yl ?_ _|refine Ym ?_|refine Yj ?_ _));refine blk_far ?_ Ub.out _;(with_reducible repeat(first|refine Yl ?_ _|refine Ym ?_|refine Yj ?_ _));refine blk_far ?_ Ub.out _;(with_reducible repeat(first|refine Yl ?_ _|refine Ym ?_|refine Yj ?_ _));exact Zw.out⟩,⟨by(with_reducible repeat(first|refine Yl ?_ _|refine Ym ?_|refine Yj ?_ _));refine Yx (cs:= #[.slice A509_0 ((rd_T47 l1 Zd).f0).length c509_0, .int .i64 0]) ?_ 1 _ rfl;(with_reducible repeat(first|refine Yl ?_ _|refine Ym ?_|refine Yj ?_ _));refine Yx (cs:= #[.slice none 0 0, .int .i64 0]) ?_ 0 _ rfl;(with_reducible repeat(first|refine Yl ?_ _|refine Ym ?_|refine Yj ?_ _));exact Uj.out⟩,⟨bl⟩⟩
   case round=>
    clear H';try clear c1
    try clear c4
    try clear c4b0
    try clear c4b1
    try clear c5
    try clear c5b0
    try clear c5b1
    try clear c6
    try clear c6b0
    try clear c6b1
    try clear c12
    try clear c12b0
    try clear c13
    try clear c13b0
    try clear c14
    try clear c14b0
    try clear Vm
    try clear Vn
    try clear Wi
    try clear Wj
    try clear Wk
    try clear Vo
    try clear Vp
    try clear Wl
    try clear Wm
    try clear Wn
    try clear hx509_0
    try clear hx509_1
    try clear p509
    try clear q509
    obtain⟨x7_2,Zz,rfl,HA,HK2,HO_7,Zw,Uj,HB⟩:=hrel;cases gk with
    |zero=>exact absurd HA.out (by simp[decomp_Lengths.l1])
    |succ k2=>
     have H:=HA.out;clear HA;simp only[decomp_Lengths.l1] at H;by_cases c18:Zz<(((rd_T47 l1 Zd).f0).length:Int)
     rotate_left
     ·rw[Yv c18] at H
      have c18b0:decide (Zz<(((rd_T47 l1 Zd).f0).length:Int))=false:=Yt c18;clear c18;have H':=Ya H;clear H;go_wp2;go_roundg k2
      case measure=>have:=HK1.out;have:=HK2.out;omega
      case rel=>exact⟨(x7_2),(wrap64 (Zd+1)),(by first|rfl|(simp;done)|(simp[*];done)),H',⟨by have:=HK1.out;have:=HK2.out;omega⟩,⟨HO_7.out⟩,⟨Zw.out⟩,⟨HB.out⟩⟩
     rw[Yu c18] at H;have c18b0:decide (Zz<(((rd_T47 l1 Zd).f0).length:Int))=true:=Ys c18;clear c18;by_cases c19:0≤Zz
     rotate_left
     ·rw[Yv c19] at H
      exact absurd H (by simp)
     rw[Yu c19] at H;have c19b0:decide (0≤Zz)=true:=Ys c19;clear c19;by_cases c20:Zz<(((rd_T47 l1 Zd).f0).length:Int)
     rotate_left
     ·rw[Yv c20] at H
      exact absurd H (by simp)
     rw[Yu c20] at H;have c20b0:decide (Zz<(((rd_T47 l1 Zd).f0).length:Int))=true:=Ys c20;clear c20;by_cases c21:(rd ((rd_T47 l1 Zd).f0) Zz)<0
     ·rw[Yu c21] at H
      have c21b0:decide ((rd ((rd_T47 l1 Zd).f0) Zz)<0)=true:=Ys c21;clear c21;simp only[Option.some.injEq,Prod.mk.injEq] at H;obtain⟨rfl,rfl⟩:=H;have p511:0≤(Zz:Int):=od;have q511:Zz<(((rd_T47 l1 Zd).f0).length:Int):=od;obtain⟨ad511,e511,Vy⟩:=Kd.at_int HR509_0.out Zz p511 q511;cases e511;replace Vy:=hc HB Vy;replace p511:=eq_true p511;replace q511:=eq_true q511;go_wp2;go_ret2;exact⟨_,by first|rfl|(simp[errW_none,errW_some]<;>rfl)|(simp[*,errW_none,errW_some]<;>rfl),by first|exact Kd.R_nil _ _ _ _ _|exact Kd.N_nil _ _ _ _ _|exact Kd.V_nil _ _ _ _ _|exact Kd.Q_nil _ _ _ _ _|exact Kd.S_nil _ _ _ _ _,HB.out⟩
     rw[Yv c21] at H;have c21b0:decide ((rd ((rd_T47 l1 Zd).f0) Zz)<0)=false:=Yt c21;clear c21;by_cases c22:(rd ((rd_T47 l1 Zd).f0) Zz)≥(Za.length:Int)
     ·rw[Yu c22] at H
      have c22b0:decide ((Za.length:Int)≤(rd ((rd_T47 l1 Zd).f0) Zz))=true:=Ys c22;clear c22;simp only[Option.some.injEq,Prod.mk.injEq] at H;obtain⟨rfl,rfl⟩:=H;have p511:0≤(Zz:Int):=od;have q511:Zz<(((rd_T47 l1 Zd).f0).length:Int):=od;obtain⟨ad511,e511,Vy⟩:=Kd.at_int HR509_0.out Zz p511 q511;cases e511;replace Vy:=hc HB Vy;replace p511:=eq_true p511;replace q511:=eq_true q511;have hnb23:=Ub.out;have hnc23:=NB510_504.out;have hcz24_0:wr.cell? ⟨Wd,0,none⟩=some (.int .i64 Zb):=bc Zw 0;have hcz24_1:wr.cell? ⟨Wd,1,none⟩=some (.bool Zc):=bc Zw 1;have hcz24_2:wr.cell? ⟨Wd,2,none⟩=some (.slice Zf Za.length Ze):=bc Zw 2;have hfz24_0:=Yf Zw.out 0;have hfz24_1:=Yf Zw.out 1;have hfz24_2:=Yf Zw.out 2;go_wp2;go_ret2;exact⟨_,by first|rfl|(simp[errW_none,errW_some]<;>rfl)|(simp[*,errW_none,errW_some]<;>rfl),by first|exact Kd.R_nil _ _ _ _ _|exact Kd.N_nil _ _ _ _ _|exact Kd.V_nil _ _ _ _ _|exact Kd.Q_nil _ _ _ _ _|exact Kd.S_nil _ _ _ _ _,HB.out⟩
     rw[Yv c22] at H;have c22b0:decide ((Za.length:Int)≤(rd ((rd_T47 l1 Zd).f0) Zz))=false:=Yt c22;clear c22;by_cases c25:0≤Zd
     rotate_left
     ·rw[Yv c25] at H
      exact absurd H (by simp)
     rw[Yu c25] at H;have c25b0:decide (0≤Zd)=true:=Ys c25;clear c25;by_cases c26:Zd<(x7_2.length:Int)
     rotate_left
     ·rw[Yv c26] at H
      exact absurd H (by simp)
     rw[Yu c26] at H;have c26b0:decide (Zd<(x7_2.length:Int))=true:=Ys c26;clear c26;by_cases c27:0≤(rd ((rd_T47 l1 Zd).f0) Zz)
     rotate_left
     ·rw[Yv c27] at H
      exact absurd H (by simp)
     rw[Yu c27] at H;have c27b0:decide (0≤(rd ((rd_T47 l1 Zd).f0) Zz))=true:=Ys c27;clear c27;by_cases c28:(rd ((rd_T47 l1 Zd).f0) Zz)<(Za.length:Int)
     rotate_left
     ·rw[Yv c28] at H
      exact absurd H (by simp)
     rw[Yu c28] at H;have c28b0:decide ((rd ((rd_T47 l1 Zd).f0) Zz)<(Za.length:Int))=true:=Ys c28;clear c28;obtain⟨y514,hy514⟩: ∃ y_:List Int,y_=(x7_2.set (Zd:Int).toNat (wrap64 ((rd x7_2 Zd)+((rd_T50 Za (rd ((rd_T47 l1 Zd).f0) Zz)).f3)))):=⟨_,rfl⟩;rw[← hy514] at H;have Ny514:=Ya hy514;clear hy514;have H':=Ya H;clear H;have p511:0≤(Zz:Int):=od;have q511:Zz<(((rd_T47 l1 Zd).f0).length:Int):=od;obtain⟨ad511,e511,Vy⟩:=Kd.at_int HR509_0.out Zz p511 q511;cases e511;replace Vy:=hc HB Vy;replace p511:=eq_true p511;replace q511:=eq_true q511;have hnb30:=Ub.out;have hnc30:=NB510_504.out;have hcz31_0:wr.cell? ⟨Wd,0,none⟩=some (.int .i64 Zb):=bc Zw 0;have hcz31_1:wr.cell? ⟨Wd,1,none⟩=some (.bool Zc):=bc Zw 1;have hcz31_2:wr.cell? ⟨Wd,2,none⟩=some (.slice Zf Za.length Ze):=bc Zw 2;have hfz31_0:=Yf Zw.out 0;have hfz31_1:=Yf Zw.out 1;have hfz31_2:=Yf Zw.out 2;try go_wp2
     replace HO_7:=Ya (Kd.R_drew HO_7.out);replace Zw:=Ya (Ym Zw.out);replace Uj:=Ya (Ym Uj.out);replace HB:=Ya (Yg HB.out);obtain⟨Ao33,co33,eo33⟩:=Kd.R_slice HO_7.out
     (first|subst eo33|(injection eo33 with f1_ f2_ f3_;have f4_:=f1_.symm;have f5_:=f3_.symm;clear f1_ f2_ f3_;subst f4_;subst f5_))
     have p512:0≤(Zd:Int):=od;have q512:Zd<(x7_2.length:Int):=od;obtain⟨ad512,e512,hx512_0⟩:=Kd.at_int (Kd.R_reads' HO_7.out).2.2 Zd p512 q512;cases e512;replace p512:=eq_true p512;replace q512:=eq_true q512;have p513:0≤((rd ((rd_T47 l1 Zd).f0) Zz):Int):=od;have q513:(rd ((rd_T47 l1 Zd).f0) Zz)<(Za.length:Int):=od;obtain⟨ad513,e513,hx513_0,hx513_1,hx513_2,hx513_3⟩:=at_T50 Zo.out (rd ((rd_T47 l1 Zd).f0) Zz) p513 q513;have hw513_3:=hx513_3;have hw513_2:=hx513_2;have hw513_1:=hx513_1;have hw513_0:=hx513_0;cases e513;replace hx513_0:=hc HB hx513_0;replace hx513_1:=hc HB hx513_1;replace hx513_2:=hc HB hx513_2;replace hx513_3:=hc HB hx513_3;replace p513:=eq_true p513;replace q513:=eq_true q513;have p29:0≤(Zd:Int):=od;have q29:(Zd:Int)<((x7_2.length:Int):Int):=od;obtain⟨go29,co29,eo29,gb29,gl29,cl29,HG29⟩:=Kd.R_form HO_7.out (by omega)
     (first|cases eo29|(injection eo29 with ea_ en_ ec_;(first|subst ea_|(injection ea_ with ea_;subst ea_));subst ec_;clear en_))
     have GB29:=Ya gb29;have GG29:=Ya HG29;clear gb29 gl29 HG29
     (first|simp only[add_plain] at hx512_0|skip)
     obtain⟨hx29_0,hf29_0⟩:=Kd.R_celln 0 HO_7.out (Zd:Int) p29 q29;replace p29:=eq_true p29;replace q29:=eq_true q29;have HP34:=Kd.R_putn HO_7.out (Zd:Int) (wrap64 ((rd x7_2 Zd)+((rd_T50 Za (rd ((rd_T47 l1 Zd).f0) Zz)).f3)));rw[← Ny514.out] at HP34;have HQ34:=Ya HP34;clear HP34;refine start_ (n:=13) (S:=fun w'=>w'.cell? ⟨Wd,0,none⟩=some (.int .i64 Zb)∧w'.cell? ⟨Wd,1,none⟩=some (.bool Zc)∧w'.cell? ⟨Wd,2,none⟩=some (.slice (some ad513) Za.length Ze)∧w'.cell? ⟨go29,(Zd).toNat,none⟩=some (.int .i64 (rd x7_2 Zd))∧w'.cell? (ad513.add (((rd ((rd_T47 l1 Zd).f0) Zz)).toNat * 4))=some (.int .i64 ((rd_T50 Za (rd ((rd_T47 l1 Zd).f0) Zz)).f0))∧w'.cell? ⟨(ad513.add (((rd ((rd_T47 l1 Zd).f0) Zz)).toNat * 4)).block,(ad513.add (((rd ((rd_T47 l1 Zd).f0) Zz)).toNat * 4)).off+1,none⟩=some (.int .i64 ((rd_T50 Za (rd ((rd_T47 l1 Zd).f0) Zz)).f1))∧w'.cell? ⟨(ad513.add (((rd ((rd_T47 l1 Zd).f0) Zz)).toNat * 4)).block,(ad513.add (((rd ((rd_T47 l1 Zd).f0) Zz)).toNat * 4)).off+2,none⟩=some (.int .i64 ((rd_T50 Za (rd ((rd_T47 l1 Zd).f0) Zz)).f2))∧w'.cell? ⟨(ad513.add (((rd ((rd_T47 l1 Zd).f0) Zz)).toNat * 4)).block,(ad513.add (((rd ((rd_T47 l1 Zd).f0) Zz)).toNat * 4)).off+3,none⟩=some (.int .i64 ((rd_T50 Za (rd ((rd_T47 l1 Zd).f0) Zz)).f3))) (ds:=[12]) #[false,false,false,false,false,false,false,false,false,false,false,false,false] (by kernel_rfl) rfl rfl ⟨(Yc Zw.out 0).trans rfl,(Yc Zw.out 1).trans rfl,(Yc Zw.out 2).trans rfl,hx512_0,((HB.out.cell (Yb w _ hw513_0)).trans hw513_0),((HB.out.cell (Yb w _ hw513_1)).trans hw513_1),((HB.out.cell (Yb w _ hw513_2)).trans hw513_2),((HB.out.cell (Yb w _ hw513_3)).trans hw513_3)⟩ (fun hHeld=> ?_);refine with_tabW decomp_Lengths.tab13 decomp_Lengths.bits13 (fun HT_ HW_=> ?_);generalize wr.drew=w32 at HO_7 Zw Uj HB GG29 HQ34 hf29_0 hx29_0 hx512_0 hx513_0 hx513_1 hx513_2 hx513_3 hHeld ⊢;refine pu 0 43 (bm 13 1) ?_;refine pu 1 44 (bm 13 3) ?_;refine pu 2 45 (bm 13 7) ?_;refine pu 4 47 (bm 13 23) ?_;refine pu 6 49 (bm 13 87) ?_;refine ta 3 46 (bm 13 95) hHeld ?_;refine ta 5 48 (bm 13 127) hHeld ?_;refine pu 7 50 (bm 13 255) ?_;refine pu 8 51 (bm 13 511) ?_;refine ta 9 52 (bm 13 1023) hHeld ?_;refine pu 10 53 (bm 13 2047) ?_;refine pu 11 54 (bm 13 4095) ?_;refine last_ (i:=12) (N:=none) #[true,true,true,true,true,true,true,true,true,true,true,true,true] rfl rfl (one_of HT_.out (by kernel_rfl)) (by decide) (fun K hK=> ?_);refine skip_ (w1:= ?_) (by rfl) rfl ?_ ?_
     rotate_left
     ·go_simp
      rfl
     refine hK.out _ _ ?_;clear hK K;refine done_ (done_of HT_.out (by kernel_rfl)) ?_;try go_wp2
     go_roundg k2
     case measure=>have:=HK1.out;have:=HK2.out;omega
     case rel=>exact⟨(y514),(wrap64 (Zz+1)),(by first|rfl|(simp;done)|(simp[*];done)),H',⟨by have:=HK1.out;have:=HK2.out;omega⟩,⟨kR HQ34⟩,⟨by(with_reducible repeat(first|refine Yl ?_ _|refine Ym ?_|refine Yj ?_ _));refine blk_far ?_ (by have h_:=Kd.R_ne HO_7.out Zw.out (by decide);intro e_;exact h_ (by rw[e_];rfl)) _;(with_reducible repeat(first|refine Yl ?_ _|refine Ym ?_|refine Yj ?_ _));exact Zw.out⟩,⟨by(with_reducible repeat(first|refine Yl ?_ _|refine Ym ?_|refine Yj ?_ _));refine blk_far ?_ (by have h_:=Kd.R_ne HO_7.out Uj.out (by decide);intro e_;exact h_ (by rw[e_];rfl)) _;(with_reducible repeat(first|refine Yl ?_ _|refine Ym ?_|refine Yj ?_ _));exact Uj.out⟩,⟨bl⟩⟩
end P
namespace P
attribute [local go_sem] max2_int min2_int max_two min_two max_three min_three max_four min_four
def ebbtidelaw13_loop.f  :Option (Int × Bool × (List (S50))):=some (3,false,(([(⟨0,1,3,1⟩:S50),(⟨1,2,3,1⟩:S50),(⟨2,1,3,1⟩:S50)]:List (S50))))
set_option maxHeartbeats 8000000 in
set_option maxRecDepth 100000 in
theorem ebbtidelaw13_loop.calls  (r1:Int) (r2:Bool) (r3:List (S50)) (w:World) (h:ebbtidelaw13_loop.f  =some (r1,r2,r3)):
  Calls Try.prog 45 #[] w fun e w'=> ∃ v2_:Value,e= .returned (.agg #[.int .i64 r1, .bool r2,v2_])∧Kd.R k50 50 w' w.heap.size (fun _=>True) v2_ r3∧Below w.heap.size w w':=by
 have hu24:=Try.underlying24;have hu50:=Try.underlying50;have HB:=Ya (Yo w.heap.size w);have H:=h;unfold ebbtidelaw13_loop.f at H;clear h;obtain⟨y516,hy516⟩: ∃ y_:List (S50),y_=(([(⟨0,1,3,1⟩:S50),(⟨1,2,3,1⟩:S50),(⟨2,1,3,1⟩:S50)]:List (S50))):=⟨_,rfl⟩;rw[← hy516] at H;have Ny516:=Ya hy516;clear hy516;simp only[Option.some.injEq,Prod.mk.injEq] at H;obtain⟨rfl,rfl,rfl⟩:=H;go_enter Try.func45,Try.ntmps45;go_wp2_with (first|(refine bx 0 24 #[.int .i64 0, .bool false, .slice none 0 0] ?_;intro gb515 hg w1 Zg hb;have Uu:=Ya (Zg);have GW515:=Ya ((sz hg));have GE515:=Ya ((sz hg));replace HB:=Ya (Yk bl hb);clear hb Zg hg)|((with_reducible refine gate_dst (N:=4) rfl ?_);refine Kd.R_lit k50 _ 50 ?hg (N:=4) ?hd (xs:=([(⟨0,1,3,1⟩:S50),(⟨1,2,3,1⟩:S50),(⟨2,1,3,1⟩:S50)]:List (S50))) (inner:=[.int .i64 0, .int .i64 1, .int .i64 3, .int .i64 1, .int .i64 1, .int .i64 2, .int .i64 3, .int .i64 1, .int .i64 2, .int .i64 1, .int .i64 3, .int .i64 1]) (ok:=fun _=>True) (okp:=fun _=>True) ?hr ?hp (fun _ hk=>hk) trivial (Yo _ _) (Nat.le_refl _) (by simp) ?_;(case hd=>rfl);(case hg=>rfl);(case hr=>first|(go_simp;done)|(go_simp;rfl));(case hp=>exact(Reps.c4 (show Kd.M k50 _ _ _ (⟨0,1,3,1⟩:S50) [.int .i64 0, .int .i64 1, .int .i64 3, .int .i64 1] from(k50_mkM _ _ _ (⟨0,1,3,1⟩:S50) )) (Reps.c4 (show Kd.M k50 _ _ _ (⟨1,2,3,1⟩:S50) [.int .i64 1, .int .i64 2, .int .i64 3, .int .i64 1] from(k50_mkM _ _ _ (⟨1,2,3,1⟩:S50) )) (Reps.c4 (show Kd.M k50 _ _ _ (⟨2,1,3,1⟩:S50) [.int .i64 2, .int .i64 1, .int .i64 3, .int .i64 1] from(k50_mkM _ _ _ (⟨2,1,3,1⟩:S50) )) (Reps.none _ _)))));intro v517 w2 ho3 hb hg_ hnew_;clear hg_ hnew_;(first|rw[← Ny516.out] at ho3|(simp only[Int.reduceToNat] at ho3;rw[← Ny516.out] at ho3));have HO518:=Ya (Kd.R_lower ho3 (Yi bl));replace Uu:=Ya (Yn (bk Uu) hb);replace HB:=Ya (Yk bl hb);clear hb ho3;obtain⟨Ao4,co4,eo4⟩:=Kd.R_slice HO518.out;subst eo4;have Up:w2.cell? ⟨gb515,0,none⟩=some (.int .i64 0):=bc Uu 0;have Uq:w2.cell? ⟨gb515,1,none⟩=some (.bool false):=bc Uu 1;have Ur:w2.cell? ⟨gb515,2,none⟩=some (.slice none 0 0):=bc Uu 2;have hfz5_0:=Yf Uu.out 0;have hfz5_1:=Yf Uu.out 1;have hfz5_2:=Yf Uu.out 2));refine bodyPost_ret (results_cell_row rfl _ _ gb515 24 #[.int .i64 3, .bool false, .slice Ao4 y516.length co4] (0,0) _ rfl (by(with_reducible repeat(first|refine Yl ?_ _|refine Ym ?_|refine Yj ?_ _));refine Yx (cs:= #[.int .i64 3, .bool false, .slice none 0 0]) ?_ 2 _ rfl;(with_reducible repeat(first|refine Yl ?_ _|refine Ym ?_|refine Yj ?_ _));refine Yx (cs:= #[.int .i64 3, .bool false, .slice none 0 0]) ?_ 1 _ rfl;(with_reducible repeat(first|refine Yl ?_ _|refine Ym ?_|refine Yj ?_ _));refine Yx (cs:= #[.int .i64 0, .bool false, .slice none 0 0]) ?_ 0 _ rfl;(with_reducible repeat(first|refine Yl ?_ _|refine Ym ?_|refine Yj ?_ _));exact Uu.out) Try.underlying24 rfl (by kernel_rfl)) rfl ?_;exact⟨_,by first|rfl|(simp[errW_none,errW_some]<;>rfl)|(simp[*,errW_none,errW_some]<;>rfl),by(with_reducible repeat(first|apply Kd.R_alloc|apply Kd.R_drewN|apply Kd.R_drew));exact Kd.R_mono (Kd.R_far (p:=⟨gb515,2,none⟩) (Kd.R_far (p:=⟨gb515,1,none⟩) (Kd.R_far (p:=⟨gb515,0,none⟩) (Kd.R_types HO518.out Uu.out (by decide)) (fun _ hk=>hk.2) (.int .i64 3)) (fun _ hk=>hk.2) (.bool false)) (fun _ hk=>hk.2) (.slice Ao4 y516.length co4)) (fun _ hk=>trivial),bl⟩
end P
end Go.Proofs.Ytoedkglggapggaa
