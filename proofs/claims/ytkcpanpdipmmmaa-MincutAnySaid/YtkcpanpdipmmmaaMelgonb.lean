/- What the law's row needs of these texts, taken out of them by wip/tool/mini.py: QAt QEndsLaw QRightOf QEndsRight QMaxLaw QFillWalk P119 P120 QBehindDef P131 QReachedLaw QBehindWalk P132 P133 P134 P138 P139 QLevelWalk P66. -/
import Derived.Test.YtkcpanpdipmmmaaMcdaine
import Derived.Test.YtkcpanpdipmmmaaMcnngcc
import Derived.Test.YtkcpanpdipmmmaaMimgbgd
import Derived.Deep.RegionHeld3
import Derived.Deep.DeepCutAuto
set_option linter.unusedVariables false
set_option linter.unusedSimpArgs false
namespace Go.Proofs.Ytkcpanpdipmmmaa.H
open Go.RowKit Go.Proofs.YtkcpanpdipmmmaaW.PrintWords Go.Proofs.YtkcpanpdipmmmaaW.PrintLast Go.Proofs.YtkcpanpdipmmmaaW.PrintMore Go.Proofs.Ytkcpanpdipmmmaa.P
theorem infoRowS : (Try.prog.info? 34).map (fun i => (i.zero, i.size, i.bytes)) = some (some (.slice none 0 0), 1, 24) := by kernel_rfl
set_option maxHeartbeats 2000000 in
set_option maxRecDepth 100000 in
theorem at_calls (n0 : Nat) (a0_1 : Bool) (A0_2 : Option Addr) (c0_2 : Nat) (l0_2 : List S74) (A1 : Option Addr) (c1 n1 : Nat) (w : World) (hr0_2 : Kd.C k74 w A0_2 l0_2.length l0_2) (hc0_2 : l0_2.length ≤ c0_2) (h0 : 0 ≤ (n0 : Int)) (h1 : (n0 : Int) ≤ 1000000) (hl : l0_2.length ≤ 500000) (hE0 : ∀ k : Nat, k < l0_2.length → 0 ≤ eFrom (rd_T74 l0_2 k) ∧ eFrom (rd_T74 l0_2 k) < (n0 : Int)) (hE1 : ∀ k : Nat, k < l0_2.length → 0 ≤ eTo (rd_T74 l0_2 k) ∧ eTo (rd_T74 l0_2 k) < (n0 : Int)) :
  Calls Try.prog 101 #[.agg #[.int .i64 (n0 : Int), .bool a0_1, .slice A0_2 l0_2.length c0_2], .slice A1 n1 c1] w fun e w' => ∃ v0_ : Value, e = .returned (.agg #[.int .i64 (n0 : Int), .bool a0_1, .slice A0_2 l0_2.length c0_2, .slice A1 n1 c1, v0_]) ∧ Kd.S (Kd.slice 38 k38) 34 w' w.heap.size (fun _ => True) v0_ (rowsAt l0_2 n0 n0) ∧ Below w.heap.size w w' := by
 have hu24 := Try.underlying24
 have hu118 := Try.underlying118
 have HR0_2 := Aside0.mk hr0_2
 have HC0_2 := Aside0.mk hc0_2
 have HH0 := Aside0.mk h0
 have HH1 := Aside0.mk h1
 have HE0 := Aside0.mk hE0
 have HE1 := Aside0.mk hE1
 have HR0 := Aside0.mk hr0_2
 clear hr0_2 hc0_2 h0 h1 hE0 hE1
 have HB := Aside0.mk (Below.refl w.heap.size w)
 go_enter Try.func101, Try.ntmps101
 go_wp2_with (first | ((with_reducible refine gate_dst (N := 2) rfl ?_); refine box_event ?hg (N := 2) ?hd (cs := #[.int .i64 (n0 : Int), .bool a0_1, .slice A0_2 l0_2.length c0_2]) (t := 24) ?hr ?_; (case hd => rfl); (case hg => rfl); (case hr => first | (go_simp; done) | (go_simp; rfl)); intro gb111 hg w4 hbox hb; have n0_ := Aside0.mk (below_step (by repeat (first | (with_reducible first | exact HB.out | apply below_alloc | apply pw_below_drewN | apply below_drew1) | exact HB.out)) hb); have n1_ := Aside0.mk (hbox); have n2_ := Aside0.mk (Kd.C_below HR0_2.out hb); clear HB HR0_2; have HB := n0_; have BK111 := n1_; have HR0_2 := n2_; clear n0_ n1_ n2_; clear hb hbox hg) | ((with_reducible refine gate_dst (N := 4) rfl ?_); refine box_event ?hg (N := 4) ?hd (cs := #[.int .i64 0, .bool false, .slice none 0 0, .slice none 0 0, .slice none 0 0]) (t := 118) ?hr ?_; (case hd => rfl); (case hg => rfl); (case hr => first | (go_simp; done) | (go_simp; rfl)); intro gb4 hg w5 hbox hb; have GE4 : Aside0 (w.heap.size ≤ gb4) := ⟨by rw [hg]; exact HB.out.size⟩; have n0_ := Aside0.mk (below_step (by repeat (first | (with_reducible first | exact HB.out | apply below_alloc | apply pw_below_drewN | apply below_drew1) | exact HB.out)) hb); have n1_ := Aside0.mk (hbox); have n2_ := Aside0.mk (Kd.C_below HR0_2.out hb); have n3_ := Aside0.mk (blk_below BK111.out hb); clear HB HR0_2 BK111; have HB := n0_; have BK4 := n1_; have HR0_2 := n2_; have BK111 := n3_; clear n0_ n1_ n2_ n3_; clear hb hbox hg) | fail)
 obtain ⟨R0, hR0⟩ : ∃ y_ : List (List S38), y_ = List.replicate (n0 : Int).toNat [] := ⟨_, rfl⟩
 have NR0 := Aside0.mk hR0
 clear hR0
 refine start_ (n := 9) (S := (fun w' => w'.cell? ⟨gb111, 0, none⟩ = some (.int .i64 (n0 : Int)) ∧ w'.cell? ⟨gb111, 1, none⟩ = some (.bool a0_1) ∧ w'.cell? ⟨gb111, 2, none⟩ = some (.slice A0_2 l0_2.length c0_2))) (ds := []) #[false, false, false, false, false, false, false, false, false] (by kernel_rfl) rfl rfl ⟨(blk_cell BK111.out 0).trans rfl, (blk_cell BK111.out 1).trans rfl, (blk_cell BK111.out 2).trans rfl⟩ (fun hHeld => ?_)
 have n0_ := Aside0.mk (below_drew HB.out)
 have n1_ : Aside0 (w5.drew.heap[gb111]? = some (.cells #[.int .i64 (n0 : Int), .bool a0_1, .slice A0_2 l0_2.length c0_2] 24 (0, 0))) := ⟨BK111.out⟩
 have n2_ : Aside0 (w5.drew.heap[gb4]? = some (.cells #[.int .i64 0, .bool false, .slice none 0 0, .slice none 0 0, .slice none 0 0] 118 (0, 0))) := ⟨BK4.out⟩
 clear HB BK111 BK4
 have HB := n0_
 have BK111 := n1_
 have BK4 := n2_
 clear n0_ n1_ n2_
 generalize w5.drew = w6 at BK111 HB BK4 hHeld ⊢
 refine pure_ (i := 1) (N := some 14) (v := ?_) (a' := ?_) #[false, true, false, false, false, false, false, false, false] rfl rfl (by kernel_rfl) (fun _ _ _ h => h) (Or.inl ⟨by rfl, ?_⟩) ?_ ?_
 rotate_left
 ·intro w'
  go_simp
  with_reducible rfl
 rotate_left
 ·simp only [Act.put, List.setIfInBounds_toArray, List.set_cons_zero, List.set_cons_succ, i64_w, i32_w]
  rfl
 refine pure_ (i := 3) (N := some 16) (v := ?_) (a' := ?_) #[false, true, false, true, false, false, false, false, false] rfl rfl (by kernel_rfl) (fun _ _ _ h => h) (Or.inl ⟨by rfl, ?_⟩) ?_ ?_
 rotate_left
 ·intro w'
  go_simp
  with_reducible rfl
 rotate_left
 ·simp only [Act.put, List.setIfInBounds_toArray, List.set_cons_zero, List.set_cons_succ, i64_w, i32_w]
  rfl
 refine take_ (i := 0) (N := some 13) (v := ?_) (a' := ?_) #[true, true, false, true, false, false, false, false, false] rfl rfl (by kernel_rfl) (fun _ _ _ h => h) (Or.inl ⟨by rfl, ?_⟩) hHeld ?_ ?_
 rotate_left
 ·rintro w' ⟨s0, s1, s2⟩
  go_simp
  with_reducible rfl
 rotate_left
 ·simp only [Act.put, List.setIfInBounds_toArray, List.set_cons_zero, List.set_cons_succ, i64_w, i32_w]
  rfl
 refine take_ (i := 4) (N := some 17) (v := ?_) (a' := ?_) #[true, true, false, true, true, false, false, false, false] rfl rfl (by kernel_rfl) (fun _ _ _ h => h) (Or.inl ⟨by rfl, ?_⟩) hHeld ?_ ?_
 rotate_left
 ·rintro w' ⟨s0, s1, s2⟩
  go_simp
  with_reducible rfl
 rotate_left
 ·simp only [Act.put, List.setIfInBounds_toArray, List.set_cons_zero, List.set_cons_succ, i64_w, i32_w]
  rfl
 refine pure_ (i := 2) (N := some 15) (v := ?_) (a' := ?_) #[true, true, true, true, true, false, false, false, false] rfl rfl (by kernel_rfl) (fun _ _ _ h => h) (Or.inl ⟨by rfl, ?_⟩) ?_ ?_
 rotate_left
 ·intro w'
  go_simp
  with_reducible rfl
 rotate_left
 ·simp only [Act.put, List.setIfInBounds_toArray, List.set_cons_zero, List.set_cons_succ, i64_w, i32_w]
  rfl
 refine join_ (σ := Value × Nat) 1 #[true, true, true, true, true, true, true, true, false] (fun s_ => [(18, s_.1), (19, .agg #[.int .i64 (n0 : Int), .bool a0_1, .slice A0_2 l0_2.length c0_2, .slice A1 n1 c1, s_.1]), (5, .pointer (some ⟨s_.2, 0, none⟩))]) (fun s_ w' => (w'.cell? ⟨gb111, 0, none⟩ = some (.int .i64 (n0 : Int)) ∧ w'.cell? ⟨gb111, 1, none⟩ = some (.bool a0_1) ∧ w'.cell? ⟨gb111, 2, none⟩ = some (.slice A0_2 l0_2.length c0_2)) ∧ Kd.S (Kd.slice 38 k38) 34 w' w.heap.size (fun _ => True) s_.1 R0 ∧ w'.heap[gb111]? = some (.cells #[.int .i64 (n0 : Int), .bool a0_1, .slice A0_2 l0_2.length c0_2] 24 (0, 0)) ∧ w'.heap[s_.2]? = some (.cells #[.int .i64 0, .bool false, .slice none 0 0, .slice none 0 0, .slice none 0 0] 118 (0, 0)) ∧ w'.heap[gb4]? = some (.cells #[.int .i64 0, .bool false, .slice none 0 0, .slice none 0 0, .slice none 0 0] 118 (0, 0)) ∧ w.heap.size ≤ s_.2 ∧ gb111 ≠ s_.2 ∧ gb4 ≠ s_.2 ∧ Below w.heap.size w w') ?_ ?_
 rotate_left
 ·intro hCont
  refine two_ (i := 5) (j := 7) (Ni := some 18) (Nj := some 5) #[true, true, true, true, true, true, false, false, false] #[true, true, true, true, true, false, false, true, false] rfl rfl rfl rfl (by kernel_rfl) (by decide) (by decide) (fun K hK => ?_) (fun K hK => ?_)
  ·skip
   refine Kd.S_make_step (Kd.slice 38 k38) _ 34 (by rfl) (N := 18) rfl 116 _ _ rfl (n0 : Int) rfl rfl Try.underlying116 (.slice none 0 0) 24 infoRowS rfl (by decide) (by omega) [] (ok := fun _ => True) (okp := fun _ => True) ⟨_, rfl, Kd.R_nil _ _ _ _ _⟩ (fun _ hk => hk) trivial HH0.out (by have := HH1.out; omega) (Below.refl _ _) (Nat.le_refl _) ?_
   intro v18 w7 ho hb _ _
   rw [← NR0.out] at ho
   obtain ⟨Ao, co, eo⟩ := Kd.S_slice ho
   subst eo
   have n0_ := Aside0.mk (Kd.S_lower ho HB.out.size)
   have n1_ := Aside0.mk (blk_below BK111.out hb)
   have n2_ := Aside0.mk (blk_below BK4.out hb)
   have n3_ := Aside0.mk (below_step HB.out hb)
   clear BK111 BK4 HB ho hb
   have HO := n0_
   have BK111 := n1_
   have BK4 := n2_
   have HB := n3_
   clear n0_ n1_ n2_ n3_
   refine hK.out _ _ ⟨(blk_cell BK111.out 0).trans rfl, (blk_cell BK111.out 1).trans rfl, (blk_cell BK111.out 2).trans rfl⟩ (fun hHeld => ?_)
   clear hK K
   refine norm_ (a' := ?_) ?_ ?_
   rotate_left
   ·show Act.put _ (some 18) _ = _
    simp only [Act.put, List.setIfInBounds_toArray, List.set_cons_zero, List.set_cons_succ, i64_w, i32_w]
    rfl
   refine pure_ (i := 6) (N := some 19) (v := ?_) (a' := ?_) #[true, true, true, true, true, true, true, false, false] rfl rfl (by kernel_rfl) (fun _ _ _ h => h) (Or.inl ⟨by rfl, ?_⟩) ?_ ?_
   rotate_left
   ·intro w'
    go_simp
    with_reducible rfl
   rotate_left
   ·simp only [Act.put, List.setIfInBounds_toArray, List.set_cons_zero, List.set_cons_succ, i64_w, i32_w]
    rfl
   refine one_ (i := 7) (N := some 5) #[true, true, true, true, true, true, true, true, false] rfl rfl (by kernel_rfl) (by decide) (fun K hK => ?_)
   refine box_step ?hg (N := 5) ?hd (cs := #[.int .i64 0, .bool false, .slice none 0 0, .slice none 0 0, .slice none 0 0]) (t := 118) ?hr ?_; (case hd => rfl); (case hg => rfl); (case hr => first | (go_simp; done) | (go_simp; rfl))
   intro gb5 hg w8 hbox hb
   have n0_ := Aside0.mk hbox
   have n1_ := Aside0.mk (blk_below BK111.out hb)
   have n2_ := Aside0.mk (blk_below BK4.out hb)
   have n3_ := Aside0.mk (below_step HB.out hb)
   have n5_ : Aside0 (w.heap.size ≤ gb5) := ⟨by rw [hg]; exact HB.out.size⟩
   have n6_ : Aside0 (gb111 ≠ gb5) := ⟨by rw [hg]; exact Nat.ne_of_lt (blk_lt BK111.out)⟩
   have n7_ : Aside0 (gb4 ≠ gb5) := ⟨by rw [hg]; exact Nat.ne_of_lt (blk_lt BK4.out)⟩
   have n4_ := Aside0.mk (Kd.S_below HO.out hb)
   clear HO
   have HO := n4_
   clear n4_
   clear BK111 BK4 HB hbox hb hg
   have BK5 := n0_
   have BK111 := n1_
   have BK4 := n2_
   have HB := n3_
   have GE5 := n5_
   have NB111 := n6_
   have NB4 := n7_
   clear n0_ n1_ n2_ n3_ n5_ n6_ n7_
   refine hK.out _ _ ⟨(blk_cell BK111.out 0).trans rfl, (blk_cell BK111.out 1).trans rfl, (blk_cell BK111.out 2).trans rfl⟩ (fun hHeld => ?_)
   clear hK K
   refine norm_ (a' := ?_) ?_ ?_
   rotate_left
   ·show Act.put _ (some 5) _ = _
    simp only [Act.put, List.setIfInBounds_toArray, List.set_cons_zero, List.set_cons_succ, i64_w, i32_w]
    rfl
   exact norm_ (by (simp only [putAll, Act.put, List.setIfInBounds_toArray, List.set_cons_zero, List.set_cons_succ]) <;> rfl) (hCont (.slice Ao R0.length co, gb5) _ ⟨hHeld, HO.out, BK111.out, BK5.out, BK4.out, GE5.out, NB111.out, NB4.out, HB.out⟩)
  ·skip
   refine box_step ?hg (N := 5) ?hd (cs := #[.int .i64 0, .bool false, .slice none 0 0, .slice none 0 0, .slice none 0 0]) (t := 118) ?hr ?_; (case hd => rfl); (case hg => rfl); (case hr => first | (go_simp; done) | (go_simp; rfl))
   intro gb5 hg w7 hbox hb
   have n0_ := Aside0.mk hbox
   have n1_ := Aside0.mk (blk_below BK111.out hb)
   have n2_ := Aside0.mk (blk_below BK4.out hb)
   have n3_ := Aside0.mk (below_step HB.out hb)
   have n5_ : Aside0 (w.heap.size ≤ gb5) := ⟨by rw [hg]; exact HB.out.size⟩
   have n6_ : Aside0 (gb111 ≠ gb5) := ⟨by rw [hg]; exact Nat.ne_of_lt (blk_lt BK111.out)⟩
   have n7_ : Aside0 (gb4 ≠ gb5) := ⟨by rw [hg]; exact Nat.ne_of_lt (blk_lt BK4.out)⟩
   clear BK111 BK4 HB hbox hb hg
   have BK5 := n0_
   have BK111 := n1_
   have BK4 := n2_
   have HB := n3_
   have GE5 := n5_
   have NB111 := n6_
   have NB4 := n7_
   clear n0_ n1_ n2_ n3_ n5_ n6_ n7_
   refine hK.out _ _ ⟨(blk_cell BK111.out 0).trans rfl, (blk_cell BK111.out 1).trans rfl, (blk_cell BK111.out 2).trans rfl⟩ (fun hHeld => ?_)
   clear hK K
   refine norm_ (a' := ?_) ?_ ?_
   rotate_left
   ·show Act.put _ (some 5) _ = _
    simp only [Act.put, List.setIfInBounds_toArray, List.set_cons_zero, List.set_cons_succ, i64_w, i32_w]
    rfl
   refine one_ (i := 5) (N := some 18) #[true, true, true, true, true, true, false, true, false] rfl rfl (by kernel_rfl) (by decide) (fun K hK => ?_)
   refine Kd.S_make_step (Kd.slice 38 k38) _ 34 (by rfl) (N := 18) rfl 116 _ _ rfl (n0 : Int) rfl rfl Try.underlying116 (.slice none 0 0) 24 infoRowS rfl (by decide) (by omega) [] (ok := fun _ => True) (okp := fun _ => True) ⟨_, rfl, Kd.R_nil _ _ _ _ _⟩ (fun _ hk => hk) trivial HH0.out (by have := HH1.out; omega) (Below.refl _ _) (Nat.le_refl _) ?_
   intro v18 w8 ho hb _ _
   rw [← NR0.out] at ho
   obtain ⟨Ao, co, eo⟩ := Kd.S_slice ho
   subst eo
   have n0_ := Aside0.mk (Kd.S_lower ho HB.out.size)
   have n1_ := Aside0.mk (blk_below BK111.out hb)
   have n2_ := Aside0.mk (blk_below BK4.out hb)
   have n3_ := Aside0.mk (below_step HB.out hb)
   have n4_ := Aside0.mk (blk_below BK5.out hb)
   clear BK5
   have BK5 := n4_
   clear n4_
   clear BK111 BK4 HB ho hb
   have HO := n0_
   have BK111 := n1_
   have BK4 := n2_
   have HB := n3_
   clear n0_ n1_ n2_ n3_
   refine hK.out _ _ ⟨(blk_cell BK111.out 0).trans rfl, (blk_cell BK111.out 1).trans rfl, (blk_cell BK111.out 2).trans rfl⟩ (fun hHeld => ?_)
   clear hK K
   refine norm_ (a' := ?_) ?_ ?_
   rotate_left
   ·show Act.put _ (some 18) _ = _
    simp only [Act.put, List.setIfInBounds_toArray, List.set_cons_zero, List.set_cons_succ, i64_w, i32_w]
    rfl
   refine pure_ (i := 6) (N := some 19) (v := ?_) (a' := ?_) #[true, true, true, true, true, true, true, true, false] rfl rfl (by kernel_rfl) (fun _ _ _ h => h) (Or.inl ⟨by rfl, ?_⟩) ?_ ?_
   rotate_left
   ·intro w'
    go_simp
    with_reducible rfl
   rotate_left
   ·simp only [Act.put, List.setIfInBounds_toArray, List.set_cons_zero, List.set_cons_succ, i64_w, i32_w]
    rfl
   exact norm_ (by (simp only [putAll, Act.put, List.setIfInBounds_toArray, List.set_cons_zero, List.set_cons_succ]) <;> rfl) (hCont (.slice Ao R0.length co, gb5) _ ⟨hHeld, HO.out, BK111.out, BK5.out, BK4.out, GE5.out, NB111.out, NB4.out, HB.out⟩)
 rintro ⟨v18, gb5⟩ w9 ⟨hHeld, h0_, h1_, h2_, h3_, h4_, h5_, h6_, h7_⟩
 clear BK111 BK4 HB
 have HO := Aside0.mk h0_
 clear h0_
 have BK111 := Aside0.mk h1_
 clear h1_
 have BK5 := Aside0.mk h2_
 clear h2_
 have BK4 := Aside0.mk h3_
 clear h3_
 have GE5 := Aside0.mk h4_
 clear h4_
 have NB111 := Aside0.mk h5_
 clear h5_
 have NB4 := Aside0.mk h6_
 clear h6_
 have HB := Aside0.mk h7_
 clear h7_
 obtain ⟨Ao, co, eo⟩ := Kd.S_slice HO.out
 dsimp only at eo HO BK5 GE5 NB111 NB4
 subst eo
 refine norm_ (a' := ?_) ?_ ?_
 rotate_left
 ·simp only [putAll, Act.put, List.setIfInBounds_toArray, List.set_cons_zero, List.set_cons_succ]
  rfl
 refine one_ (i := 8) (N := none) #[true, true, true, true, true, true, true, true, true] rfl rfl (by kernel_rfl) (by decide) (fun K hK => ?_)
 have hs0 : w9.cell? ⟨gb5, 0, none⟩ = some (.int .i64 0) := (blk_cell BK5.out 0).trans rfl
 have hfs0 := blk_frozen BK5.out 0
 have hs1 : w9.cell? ⟨gb5, 1, none⟩ = some (.bool false) := (blk_cell BK5.out 1).trans rfl
 have hfs1 := blk_frozen BK5.out 1
 have hs2 : w9.cell? ⟨gb5, 2, none⟩ = some (.slice none 0 0) := (blk_cell BK5.out 2).trans rfl
 have hfs2 := blk_frozen BK5.out 2
 have hs3 : w9.cell? ⟨gb5, 3, none⟩ = some (.slice none 0 0) := (blk_cell BK5.out 3).trans rfl
 have hfs3 := blk_frozen BK5.out 3
 have hs4 : w9.cell? ⟨gb5, 4, none⟩ = some (.slice none 0 0) := (blk_cell BK5.out 4).trans rfl
 have hfs4 := blk_frozen BK5.out 4
 have n0_ : Aside0 ((((((w9.setCell ⟨gb5, 0, none⟩ (.int .i64 (n0 : Int))).setCell ⟨gb5, 1, none⟩ (.bool a0_1)).setCell ⟨gb5, 2, none⟩ (.slice A0_2 l0_2.length c0_2)).setCell ⟨gb5, 3, none⟩ (.slice A1 n1 c1)).setCell ⟨gb5, 4, none⟩ (.slice Ao R0.length co)).heap[gb5]? = some (.cells #[.int .i64 (n0 : Int), .bool a0_1, .slice A0_2 l0_2.length c0_2, .slice A1 n1 c1, .slice Ao R0.length co] 118 (0, 0))) := ⟨by
  refine blk_put (cs := #[.int .i64 (n0 : Int), .bool a0_1, .slice A0_2 l0_2.length c0_2, .slice A1 n1 c1, .slice none 0 0]) ?_ 4 _ rfl
  refine blk_put (cs := #[.int .i64 (n0 : Int), .bool a0_1, .slice A0_2 l0_2.length c0_2, .slice none 0 0, .slice none 0 0]) ?_ 3 _ rfl
  refine blk_put (cs := #[.int .i64 (n0 : Int), .bool a0_1, .slice none 0 0, .slice none 0 0, .slice none 0 0]) ?_ 2 _ rfl
  refine blk_put (cs := #[.int .i64 (n0 : Int), .bool false, .slice none 0 0, .slice none 0 0, .slice none 0 0]) ?_ 1 _ rfl
  refine blk_put (cs := #[.int .i64 0, .bool false, .slice none 0 0, .slice none 0 0, .slice none 0 0]) ?_ 0 _ rfl
  exact BK5.out⟩
 have n1_ : Aside0 ((((((w9.setCell ⟨gb5, 0, none⟩ (.int .i64 (n0 : Int))).setCell ⟨gb5, 1, none⟩ (.bool a0_1)).setCell ⟨gb5, 2, none⟩ (.slice A0_2 l0_2.length c0_2)).setCell ⟨gb5, 3, none⟩ (.slice A1 n1 c1)).setCell ⟨gb5, 4, none⟩ (.slice Ao R0.length co)).heap[gb111]? = some (.cells #[.int .i64 (n0 : Int), .bool a0_1, .slice A0_2 l0_2.length c0_2] 24 (0, 0))) := ⟨by
  refine blk_far ?_ NB111.out _
  refine blk_far ?_ NB111.out _
  refine blk_far ?_ NB111.out _
  refine blk_far ?_ NB111.out _
  refine blk_far ?_ NB111.out _
  exact BK111.out⟩
 have n2_ : Aside0 ((((((w9.setCell ⟨gb5, 0, none⟩ (.int .i64 (n0 : Int))).setCell ⟨gb5, 1, none⟩ (.bool a0_1)).setCell ⟨gb5, 2, none⟩ (.slice A0_2 l0_2.length c0_2)).setCell ⟨gb5, 3, none⟩ (.slice A1 n1 c1)).setCell ⟨gb5, 4, none⟩ (.slice Ao R0.length co)).heap[gb4]? = some (.cells #[.int .i64 0, .bool false, .slice none 0 0, .slice none 0 0, .slice none 0 0] 118 (0, 0))) := ⟨by
  refine blk_far ?_ NB4.out _
  refine blk_far ?_ NB4.out _
  refine blk_far ?_ NB4.out _
  refine blk_far ?_ NB4.out _
  refine blk_far ?_ NB4.out _
  exact BK4.out⟩
 have n3_ : Aside0 (Kd.S (Kd.slice 38 k38) 34 (((((w9.setCell ⟨gb5, 0, none⟩ (.int .i64 (n0 : Int))).setCell ⟨gb5, 1, none⟩ (.bool a0_1)).setCell ⟨gb5, 2, none⟩ (.slice A0_2 l0_2.length c0_2)).setCell ⟨gb5, 3, none⟩ (.slice A1 n1 c1)).setCell ⟨gb5, 4, none⟩ (.slice Ao R0.length co)) w.heap.size (fun _ => True) (.slice Ao R0.length co) R0) := ⟨Kd.S_mono (Kd.S_far (p := ⟨gb5, 4, none⟩) (Kd.S_far (p := ⟨gb5, 3, none⟩) (Kd.S_far (p := ⟨gb5, 2, none⟩) (Kd.S_far (p := ⟨gb5, 1, none⟩) (Kd.S_far (p := ⟨gb5, 0, none⟩) (Kd.S_types HO.out BK5.out (by decide)) (fun _ hk => hk.2) (.int .i64 (n0 : Int))) (fun _ hk => hk.2) (.bool a0_1)) (fun _ hk => hk.2) (.slice A0_2 l0_2.length c0_2)) (fun _ hk => hk.2) (.slice A1 n1 c1)) (fun _ hk => hk.2) (.slice Ao R0.length co)) (fun _ _ => trivial)⟩
 have n4_ : Aside0 (Below w.heap.size w (((((w9.setCell ⟨gb5, 0, none⟩ (.int .i64 (n0 : Int))).setCell ⟨gb5, 1, none⟩ (.bool a0_1)).setCell ⟨gb5, 2, none⟩ (.slice A0_2 l0_2.length c0_2)).setCell ⟨gb5, 3, none⟩ (.slice A1 n1 c1)).setCell ⟨gb5, 4, none⟩ (.slice Ao R0.length co))) := ⟨by repeat (first | exact HB.out | refine below_set ?_ GE5.out)⟩
 refine skip_ (w1 := (((((w9.setCell ⟨gb5, 0, none⟩ (.int .i64 (n0 : Int))).setCell ⟨gb5, 1, none⟩ (.bool a0_1)).setCell ⟨gb5, 2, none⟩ (.slice A0_2 l0_2.length c0_2)).setCell ⟨gb5, 3, none⟩ (.slice A1 n1 c1)).setCell ⟨gb5, 4, none⟩ (.slice Ao R0.length co))) (by rfl) rfl ?_ ?_
 ·go_simp
 clear hs0 hfs0 hs1 hfs1 hs2 hfs2 hs3 hfs3 hs4 hfs4
 refine hK.out _ _ ⟨(blk_cell n1_.out 0).trans rfl, (blk_cell n1_.out 1).trans rfl, (blk_cell n1_.out 2).trans rfl⟩ (fun hHeld => ?_)
 clear hK K BK5 BK111 BK4 HO HB hHeld
 have BK5 := n0_
 have BK111 := n1_
 have BK4 := n2_
 have HO := n3_
 have HB := n4_
 clear n0_ n1_ n2_ n3_ n4_
 refine done_ (by kernel_rfl) ?_
 generalize (((((w9.setCell ⟨gb5, 0, none⟩ (.int .i64 (n0 : Int))).setCell ⟨gb5, 1, none⟩ (.bool a0_1)).setCell ⟨gb5, 2, none⟩ (.slice A0_2 l0_2.length c0_2)).setCell ⟨gb5, 3, none⟩ (.slice A1 n1 c1)).setCell ⟨gb5, 4, none⟩ (.slice Ao R0.length co)) = w10 at BK5 BK111 BK4 HO HB ⊢
 go_wp2_with fail
 refine start_ (n := 6) (S := (fun w' => w'.cell? ⟨gb111, 0, none⟩ = some (.int .i64 (n0 : Int)) ∧ w'.cell? ⟨gb111, 1, none⟩ = some (.bool a0_1) ∧ w'.cell? ⟨gb111, 2, none⟩ = some (.slice A0_2 l0_2.length c0_2))) (ds := []) #[false, false, false, false, false, false] (by kernel_rfl) rfl rfl ⟨(blk_cell BK111.out 0).trans rfl, (blk_cell BK111.out 1).trans rfl, (blk_cell BK111.out 2).trans rfl⟩ (fun hHeld => ?_)
 have n0_ := Aside0.mk (below_drew HB.out)
 have n1_ : Aside0 (w10.drew.heap[gb111]? = some (.cells #[.int .i64 (n0 : Int), .bool a0_1, .slice A0_2 l0_2.length c0_2] 24 (0, 0))) := ⟨BK111.out⟩
 have n2_ : Aside0 (w10.drew.heap[gb4]? = some (.cells #[.int .i64 0, .bool false, .slice none 0 0, .slice none 0 0, .slice none 0 0] 118 (0, 0))) := ⟨BK4.out⟩
 have n3_ : Aside0 (w10.drew.heap[gb5]? = some (.cells #[.int .i64 (n0 : Int), .bool a0_1, .slice A0_2 l0_2.length c0_2, .slice A1 n1 c1, .slice Ao R0.length co] 118 (0, 0))) := ⟨BK5.out⟩
 have n4_ := Aside0.mk (Kd.S_drew HO.out)
 clear HB BK111 BK4 BK5 HO
 have HB := n0_
 have BK111 := n1_
 have BK4 := n2_
 have BK5 := n3_
 have HO := n4_
 clear n0_ n1_ n2_ n3_ n4_
 generalize w10.drew = w11 at BK111 HB BK4 BK5 HO hHeld ⊢
 refine take_ (i := 0) (N := some 20) (v := ?_) (a' := ?_) #[true, false, false, false, false, false] rfl rfl (by kernel_rfl) (fun _ _ _ h => h) (Or.inl ⟨by rfl, ?_⟩) hHeld ?_ ?_
 rotate_left
 ·rintro w' ⟨s0, s1, s2⟩
  go_simp
  with_reducible rfl
 rotate_left
 ·simp only [Act.put, List.setIfInBounds_toArray, List.set_cons_zero, List.set_cons_succ, i64_w, i32_w]
  rfl
 refine take_ (i := 2) (N := some 22) (v := ?_) (a' := ?_) #[true, false, true, false, false, false] rfl rfl (by kernel_rfl) (fun _ _ _ h => h) (Or.inl ⟨by rfl, ?_⟩) hHeld ?_ ?_
 rotate_left
 ·rintro w' ⟨s0, s1, s2⟩
  go_simp
  with_reducible rfl
 rotate_left
 ·simp only [Act.put, List.setIfInBounds_toArray, List.set_cons_zero, List.set_cons_succ, i64_w, i32_w]
  rfl
 refine one_ (i := 1) (N := some 21) #[true, true, true, false, false, false] rfl rfl (by kernel_rfl) (by decide) (fun K hK => ?_)
 refine goes_ Try.func141 (by kernel_rfl) rfl #[.agg #[.int .i64 (n0 : Int), .bool a0_1, .slice A0_2 l0_2.length c0_2]] (by rfl) rfl rfl (by (try simp only [List.map_toArray, List.map_cons, List.map_nil]); first | done | rfl) ?_
 refine (leaving_calls (n0 : Int) a0_1 A0_2 c0_2 l0_2 _ (Kd.C_below HR0.out HB.out) HC0_2.out HH0.out HH1.out (by omega) HE0.out).mono ?_
 rintro e w12 ⟨v21, rfl, hS, hb⟩
 refine ⟨_, rfl, ?_⟩
 have n0_ := Aside0.mk (below_step HB.out hb)
 have n1_ := Aside0.mk (blk_below BK111.out hb)
 have n2_ := Aside0.mk (blk_below BK4.out hb)
 have n3_ := Aside0.mk (blk_below BK5.out hb)
 have n4_ := Aside0.mk (Kd.S_below HO.out hb)
 have n5_ := Aside0.mk (Kd.S_lower hS HB.out.size)
 clear HB BK111 BK4 BK5 HO hS hb
 have HB := n0_
 have BK111 := n1_
 have BK4 := n2_
 have BK5 := n3_
 have HO := n4_
 have Hv21 := n5_
 clear n0_ n1_ n2_ n3_ n4_ n5_
 obtain ⟨Av21, cv21, ev21⟩ := Kd.S_slice Hv21.out
 subst ev21
 refine hK.out _ _ ⟨(blk_cell BK111.out 0).trans rfl, (blk_cell BK111.out 1).trans rfl, (blk_cell BK111.out 2).trans rfl⟩ (fun hHeld => ?_)
 clear hK K
 refine norm_ (a' := ?_) ?_ ?_
 rotate_left
 ·show Act.put _ (some 21) _ = _
  simp only [Act.put, List.setIfInBounds_toArray, List.set_cons_zero, List.set_cons_succ, i64_w, i32_w]
  rfl
 refine one_ (i := 3) (N := some 23) #[true, true, true, true, false, false] rfl rfl (by kernel_rfl) (by decide) (fun K hK => ?_)
 refine goes_ Try.func142 (by kernel_rfl) rfl #[.agg #[.int .i64 (n0 : Int), .bool a0_1, .slice A0_2 l0_2.length c0_2]] (by rfl) rfl rfl (by (try simp only [List.map_toArray, List.map_cons, List.map_nil]); first | done | rfl) ?_
 refine (coming_calls (n0 : Int) a0_1 A0_2 c0_2 l0_2 _ (Kd.C_below HR0.out HB.out) HC0_2.out HH0.out HH1.out (by omega) HE1.out).mono ?_
 rintro e w13 ⟨v23, rfl, hS, hb⟩
 refine ⟨_, rfl, ?_⟩
 have n0_ := Aside0.mk (below_step HB.out hb)
 have n1_ := Aside0.mk (blk_below BK111.out hb)
 have n2_ := Aside0.mk (blk_below BK4.out hb)
 have n3_ := Aside0.mk (blk_below BK5.out hb)
 have n4_ := Aside0.mk (Kd.S_below HO.out hb)
 have n5_ := Aside0.mk (Kd.S_lower hS HB.out.size)
 have m_ := Aside0.mk (Kd.S_below Hv21.out hb)
 clear Hv21
 have Hv21 := m_
 clear m_
 clear HB BK111 BK4 BK5 HO hS hb
 have HB := n0_
 have BK111 := n1_
 have BK4 := n2_
 have BK5 := n3_
 have HO := n4_
 have Hv23 := n5_
 clear n0_ n1_ n2_ n3_ n4_ n5_
 obtain ⟨Av23, cv23, ev23⟩ := Kd.S_slice Hv23.out
 subst ev23
 refine hK.out _ _ ⟨(blk_cell BK111.out 0).trans rfl, (blk_cell BK111.out 1).trans rfl, (blk_cell BK111.out 2).trans rfl⟩ (fun hHeld => ?_)
 clear hK K
 refine norm_ (a' := ?_) ?_ ?_
 rotate_left
 ·show Act.put _ (some 23) _ = _
  simp only [Act.put, List.setIfInBounds_toArray, List.set_cons_zero, List.set_cons_succ, i64_w, i32_w]
  rfl
 refine pure_ (i := 4) (N := some 6) (v := ?_) (a' := ?_) #[true, true, true, true, true, false] rfl rfl (by kernel_rfl) (fun _ _ _ h => h) (Or.inl ⟨by rfl, ?_⟩) ?_ ?_
 rotate_left
 ·intro w'
  go_simp
  with_reducible rfl
 rotate_left
 ·simp only [Act.put, List.setIfInBounds_toArray, List.set_cons_zero, List.set_cons_succ, i64_w, i32_w]
  rfl
 refine pure_ (i := 5) (N := some 7) (v := ?_) (a' := ?_) #[true, true, true, true, true, true] rfl rfl (by kernel_rfl) (fun _ _ _ h => h) (Or.inl ⟨by rfl, ?_⟩) ?_ ?_
 rotate_left
 ·intro w'
  go_simp
  with_reducible rfl
 rotate_left
 ·simp only [Act.put, List.setIfInBounds_toArray, List.set_cons_zero, List.set_cons_succ, i64_w, i32_w]
  rfl
 refine done_ (by kernel_rfl) ?_
 go_wp2_with fail
 have HR0' : Aside0 (R0 = rowsAt l0_2 n0 0) := ⟨by rw [NR0.out, rowsAt_zero, Int.toNat_natCast]⟩
 have hlR : R0.length = n0 := by rw [HR0'.out, rowsAt_len]
 rw [hlR] at HO BK5 ⊢
 rw [HR0'.out] at HO
 simp only [Int.toNat_natCast] at Hv21 Hv23 ⊢
 clear hHeld
 obtain ⟨L0, hL0⟩ : ∃ L, L = lsAt eFrom l0_2 n0 l0_2.length := ⟨_, rfl⟩
 obtain ⟨L1, hL1⟩ : ∃ L, L = lsAt eTo l0_2 n0 l0_2.length := ⟨_, rfl⟩
 have hn0 : L0.length = n0 := by rw [hL0, lsAt_len]
 have hn1 : L1.length = n0 := by rw [hL1, lsAt_len]
 rw [← hL0, hn0] at Hv21 ⊢
 rw [← hL1, hn1] at Hv23 ⊢
 have HL0 := Aside0.mk hL0
 have HL1 := Aside0.mk hL1
 clear hL0 hL1
 clear HR0' hlR HR0_2
 have hn6 : n0 ≤ 1000000 := by have := HH1.out; omega
 go_loopw [26] (fun v26 w' => ∃ k : Nat, k ≤ n0 ∧ v26 = .int .i64 k ∧ Aside0 (Kd.S (Kd.slice 38 k38) 34 w' w.heap.size (fun _ => True) (.slice Ao n0 co) (rowsAt l0_2 n0 k)) ∧ Aside0 (w'.heap[gb111]? = some (.cells #[.int .i64 (n0 : Int), .bool a0_1, .slice A0_2 l0_2.length c0_2] 24 (0, 0))) ∧ Aside0 (w'.heap[gb4]? = some (.cells #[.int .i64 0, .bool false, .slice none 0 0, .slice none 0 0, .slice none 0 0] 118 (0, 0))) ∧ Aside0 (w'.heap[gb5]? = some (.cells #[.int .i64 (n0 : Int), .bool a0_1, .slice A0_2 l0_2.length c0_2, .slice A1 n1 c1, .slice Ao n0 co] 118 (0, 0))) ∧ Aside0 (Kd.S (Kd.slice 3 (Kd.int .i64)) 25 w' w.heap.size (fun _ => True) (.slice Av21 n0 cv21) L0) ∧ Aside0 (Kd.S (Kd.slice 3 (Kd.int .i64)) 25 w' w.heap.size (fun _ => True) (.slice Av23 n0 cv23) L1) ∧ Aside0 (Below w.heap.size w w')) (fun v26 _ => n0 - (intOf v26).toNat)
 case atStart => exact ⟨0, Nat.zero_le _, rfl, HO, BK111, BK4, BK5, Hv21, Hv23, HB⟩
 case round =>
  clear HO BK111 BK4 BK5 Hv21 Hv23 HB
  obtain ⟨k, hk, rfl, HO, BK111, BK4, BK5, Hv21, Hv23, HB⟩ := hrel
  by_cases hlt : k < n0
  ·have pk : 0 ≤ ((k : Nat) : Int) := by omega
   have qk : ((k : Nat) : Int) < (n0 : Int) := by omega
   have c27 : decide ((k : Int) < (n0 : Int)) = true := decide_eq_true qk
   obtain ⟨ad0, AA0, cc0, e_, hx_, hl_, _⟩ := at_L7 (Kd.S_reads' Hv21.out).2.2 (k : Int) pk (by rw [hn0]; omega)
   cases e_
   obtain ⟨ce_, hce_, hM_, hcc_⟩ := Kd.S_get Hv21.out [] (k : Int) pk qk
   obtain ⟨ve_, rfl, ge_⟩ := hM_
   have hv_ := hcc_ 0 _ rfl
   rw [Nat.add_zero, show ((Kd.slice 3 (Kd.int .i64))).sz = 1 from rfl, Nat.mul_one] at hv_
   replace hv_ := Option.some.inj (hv_.symm.trans hx_)
   rw [hv_] at ge_
   obtain ⟨LL0, hLL0⟩ : ∃ L, L = rd_L7 L0 (k : Int) := ⟨_, rfl⟩
   have HLL0 : Aside0 (Kd.R (Kd.int .i64) 3 wr w.heap.size (fun _ => True) (.slice AA0 LL0.length cc0) LL0) := ⟨by rw [hLL0]; exact Kd.R_mono ge_ (fun _ _ => trivial)⟩
   rw [← hLL0] at hx_
   simp only [Int.toNat_natCast] at hx_
   have HELL0 := Aside0.mk hLL0
   clear ge_ hv_ hcc_ hce_ hl_ hLL0
   have hxLL0 := hx_
   clear hx_
   obtain ⟨go, co2, eo, gbase, glt, cl, HG⟩ := Kd.S_form HO.out (by rw [rowsAt_len]; omega)
   rw [rowsAt_len] at eo
   injection eo with ea _ ec
   subst ea
   subst ec
   have GBO := Aside0.mk gbase
   clear gbase glt HG
   have HLE0 : Aside0 (LL0.length ≤ 500000) := ⟨by rw [HELL0.out, HL0.out]; exact Nat.le_trans (lsAt_row _ _ _ _ _) hl⟩
   go_wp2_with fail
   have hLL0 := HLE0.out
   obtain ⟨wo1, hwo1⟩ : ∃ x_ : World, x_ = wr := ⟨_, rfl⟩
   subst hwo1
   go_loopw [34] (fun v_ w' => ∃ j : Nat, j ≤ LL0.length ∧ v_ = .int .i64 j ∧ Aside0 (Kd.S (Kd.slice 38 k38) 34 w' w.heap.size (fun _ => True) (.slice (some ⟨go, 0, none⟩) n0 co) ((rowsAt l0_2 n0 k).set k (([] : List S38) ++ (LL0.take j).map (fun i => (⟨i, false⟩ : S38))))) ∧ Aside0 (w'.heap[gb111]? = some (.cells #[.int .i64 (n0 : Int), .bool a0_1, .slice A0_2 l0_2.length c0_2] 24 (0, 0))) ∧ Aside0 (w'.heap[gb4]? = some (.cells #[.int .i64 0, .bool false, .slice none 0 0, .slice none 0 0, .slice none 0 0] 118 (0, 0))) ∧ Aside0 (w'.heap[gb5]? = some (.cells #[.int .i64 (n0 : Int), .bool a0_1, .slice A0_2 l0_2.length c0_2, .slice A1 n1 c1, .slice (some ⟨go, 0, none⟩) n0 co] 118 (0, 0))) ∧ Aside0 (Kd.S (Kd.slice 3 (Kd.int .i64)) 25 w' w.heap.size (fun _ => True) (.slice (some ad0) n0 cv21) L0) ∧ Aside0 (Kd.S (Kd.slice 3 (Kd.int .i64)) 25 w' w.heap.size (fun _ => True) (.slice Av23 n0 cv23) L1) ∧ Aside0 (Kd.R (Kd.int .i64) 3 w' w.heap.size (fun _ => True) (.slice AA0 LL0.length cc0) LL0) ∧ Aside0 (Below w.heap.size w w')) (fun v_ _ => LL0.length - (intOf v_).toNat)
   case atStart => exact ⟨0, Nat.zero_le _, rfl, ⟨by rw [List.take_zero, List.map_nil, List.append_nil, rowsAt_self l0_2 n0 k hlt]; exact HO.out⟩, BK111, BK4, BK5, Hv21, Hv23, HLL0, HB⟩
   case round =>
    clear HO BK111 BK4 BK5 Hv21 Hv23 HLL0 HB
    obtain ⟨j, hj, rfl, HO, BK111, BK4, BK5, Hv21, Hv23, HLL0, HB⟩ := hrel
    by_cases hltj : j < LL0.length
    ·have pj : 0 ≤ ((j : Nat) : Int) := by omega
     have qj : ((j : Nat) : Int) < (LL0.length : Int) := by omega
     have cj : decide ((j : Int) < (LL0.length : Int)) = true := decide_eq_true qj
     obtain ⟨adj, eadj, hxj⟩ := Kd.at_int (Kd.R_reads' HLL0.out).2.2 (j : Int) pj qj
     cases eadj
     simp only [Int.toNat_natCast] at hxj
     have HST := Aside0.mk (row_step ([] : List S38) LL0 false j hltj)
     obtain ⟨xj, hxv⟩ : ∃ x_, x_ = rd LL0 (j : Int) := ⟨_, rfl⟩
     obtain ⟨RW, hRW⟩ : ∃ r_, r_ = (([] : List S38) ++ (LL0.take j).map (fun i => (⟨i, false⟩ : S38))) := ⟨_, rfl⟩
     have HRL : Aside0 (RW.length ≤ 1000000) := ⟨by rw [hRW]; simp; have := HLE0.out; omega⟩
     rw [← hRW, ← hxv] at HST
     obtain ⟨RW2, hRW2⟩ : ∃ r_, r_ = (([] : List S38) ++ (LL0.take (j + 1)).map (fun i => (⟨i, false⟩ : S38))) := ⟨_, rfl⟩
     rw [← hRW2] at HST
     have HRW2 := Aside0.mk hRW2
     clear hRW2
     rw [← hxv] at hxj
     rw [← hRW] at HO
     have HRW := Aside0.mk hRW
     have HXV := Aside0.mk hxv
     clear hRW hxv
     obtain ⟨oki, c_, _, hM_, hcc_, _, _, hH_⟩ := Kd.S_elem HO.out [] (k : Int) pk qk
     obtain ⟨vr, rfl, hR_⟩ := hM_
     rw [show ((rowsAt l0_2 n0 k).set k RW).getD (k : Int).toNat [] = RW from rd_set (rowsAt l0_2 n0 k) k RW (by rw [rowsAt_len]; exact hlt)] at hR_
     obtain ⟨Ar, cr, er⟩ := Kd.R_slice hR_
     subst er
     have hx4 := hcc_ 0 _ rfl
     rw [show ((Kd.slice 38 k38)).sz = 1 from rfl, Nat.mul_one, Nat.add_zero, Int.toNat_natCast] at hx4
     have UU := Aside0.mk hR_
     have HH := Aside0.mk hH_
     clear hcc_ hR_ hH_
     have hx5 : wr.cell? ⟨gb5, 4, none⟩ = some (.slice (some ⟨go, 0, none⟩) n0 co) := (blk_cell BK5.out 4).trans rfl
     go_wp2_with fail
     refine start_ (n := 14) (S := fun w' => w'.cell? ⟨gb5, 4, none⟩ = some (.slice (some ⟨go, 0, none⟩) n0 co) ∧ w'.cell? ⟨go, k, none⟩ = some (.slice Ar RW.length cr)) (ds := [13]) #[false, false, false, false, false, false, false, false, false, false, false, false, false, false] (by kernel_rfl) rfl rfl ⟨hx5, hx4⟩ (fun hHeld => ?_)
     have m0_ := Aside0.mk (below_drew HB.out)
     have m1_ := Aside0.mk ((show wr.drew.heap[gb111]? = _ from BK111.out))
     have m2_ := Aside0.mk ((show wr.drew.heap[gb4]? = _ from BK4.out))
     have m3_ := Aside0.mk ((show wr.drew.heap[gb5]? = _ from BK5.out))
     have m4_ := Aside0.mk (Kd.S_drew Hv21.out)
     have m5_ := Aside0.mk (Kd.S_drew Hv23.out)
     have m6_ := Aside0.mk (Kd.R_drew HLL0.out)
     have m7_ := Aside0.mk (Kd.R_drew UU.out)
     have m8_ := Aside0.mk (Kd.H_drew HH.out)
     clear HB BK111 BK4 BK5 Hv21 Hv23 HLL0 UU HH
     have HB := m0_
     clear m0_
     have BK111 := m1_
     clear m1_
     have BK4 := m2_
     clear m2_
     have BK5 := m3_
     clear m3_
     have Hv21 := m4_
     clear m4_
     have Hv23 := m5_
     clear m5_
     have HLL0 := m6_
     clear m6_
     have UU := m7_
     clear m7_
     have HH := m8_
     clear m8_
     clear HO hxj hx5 hx4
     generalize wr.drew = w14 at HB BK111 BK4 BK5 Hv21 Hv23 HLL0 UU HH hHeld ⊢
     refine pure_ (i := 0) (N := some 38) (v := ?_) (a' := ?_) #[true, false, false, false, false, false, false, false, false, false, false, false, false, false] rfl rfl (by kernel_rfl) (fun _ _ _ h => h) (Or.inl ⟨by rfl, ?_⟩) ?_ ?_
     rotate_left
     ·intro w'
      go_simp
      with_reducible rfl
     rotate_left
     ·simp only [Act.put, List.setIfInBounds_toArray, List.set_cons_zero, List.set_cons_succ, i64_w, i32_w]
      rfl
     refine pure_ (i := 2) (N := some 40) (v := ?_) (a' := ?_) #[true, false, true, false, false, false, false, false, false, false, false, false, false, false] rfl rfl (by kernel_rfl) (fun _ _ _ h => h) (Or.inl ⟨by rfl, ?_⟩) ?_ ?_
     rotate_left
     ·intro w'
      go_simp
      with_reducible rfl
     rotate_left
     ·simp only [Act.put, List.setIfInBounds_toArray, List.set_cons_zero, List.set_cons_succ, i64_w, i32_w]
      rfl
     refine pure_ (i := 3) (N := some 41) (v := ?_) (a' := ?_) #[true, false, true, true, false, false, false, false, false, false, false, false, false, false] rfl rfl (by kernel_rfl) (fun _ _ _ h => h) (Or.inl ⟨by rfl, ?_⟩) ?_ ?_
     rotate_left
     ·intro w'
      go_simp
      with_reducible rfl
     rotate_left
     ·simp only [Act.put, List.setIfInBounds_toArray, List.set_cons_zero, List.set_cons_succ, i64_w, i32_w]
      rfl
     refine pure_ (i := 5) (N := some 43) (v := ?_) (a' := ?_) #[true, false, true, true, false, true, false, false, false, false, false, false, false, false] rfl rfl (by kernel_rfl) (fun _ _ _ h => h) (Or.inl ⟨by rfl, ?_⟩) ?_ ?_
     rotate_left
     ·intro w'
      go_simp
      with_reducible rfl
     rotate_left
     ·simp only [Act.put, List.setIfInBounds_toArray, List.set_cons_zero, List.set_cons_succ, i64_w, i32_w]
      rfl
     refine pure_ (i := 8) (N := some 46) (v := ?_) (a' := ?_) #[true, false, true, true, false, true, false, false, true, false, false, false, false, false] rfl rfl (by kernel_rfl) (fun _ _ _ h => h) (Or.inl ⟨by rfl, ?_⟩) ?_ ?_
     rotate_left
     ·intro w'
      go_simp
      with_reducible rfl
     rotate_left
     ·simp only [Act.put, List.setIfInBounds_toArray, List.set_cons_zero, List.set_cons_succ, i64_w, i32_w]
      rfl
     refine pure_ (i := 9) (N := some 47) (v := ?_) (a' := ?_) #[true, false, true, true, false, true, false, false, true, true, false, false, false, false] rfl rfl (by kernel_rfl) (fun _ _ _ h => h) (Or.inl ⟨by rfl, ?_⟩) ?_ ?_
     rotate_left
     ·intro w'
      go_simp
      with_reducible rfl
     rotate_left
     ·simp only [Act.put, List.setIfInBounds_toArray, List.set_cons_zero, List.set_cons_succ, i64_w, i32_w]
      rfl
     refine take_ (i := 1) (N := some 39) (v := ?_) (a' := ?_) #[true, true, true, true, false, true, false, false, true, true, false, false, false, false] rfl rfl (by kernel_rfl) (fun _ _ _ h => h) (Or.inl ⟨by rfl, ?_⟩) hHeld ?_ ?_
     rotate_left
     ·rintro w' ⟨s0, s1⟩
      go_simp
      with_reducible rfl
     rotate_left
     ·simp only [Act.put, List.setIfInBounds_toArray, List.set_cons_zero, List.set_cons_succ, i64_w, i32_w]
      rfl
     refine take_ (i := 4) (N := some 42) (v := ?_) (a' := ?_) #[true, true, true, true, true, true, false, false, true, true, false, false, false, false] rfl rfl (by kernel_rfl) (fun _ _ _ h => h) (Or.inl ⟨by rfl, ?_⟩) hHeld ?_ ?_
     rotate_left
     ·rintro w' ⟨s0, s1⟩
      go_simp
      with_reducible rfl
     rotate_left
     ·simp only [Act.put, List.setIfInBounds_toArray, List.set_cons_zero, List.set_cons_succ, i64_w, i32_w]
      rfl
     refine pure_ (i := 6) (N := some 44) (v := ?_) (a' := ?_) #[true, true, true, true, true, true, true, false, true, true, false, false, false, false] rfl rfl (by kernel_rfl) (fun _ _ _ h => h) (Or.inl ⟨by rfl, ?_⟩) ?_ ?_
     rotate_left
     ·intro w'
      go_simp
      with_reducible rfl
     rotate_left
     ·simp only [Act.put, List.setIfInBounds_toArray, List.set_cons_zero, List.set_cons_succ, i64_w, i32_w]
      rfl
     refine take_ (i := 7) (N := some 45) (v := ?_) (a' := ?_) #[true, true, true, true, true, true, true, true, true, true, false, false, false, false] rfl rfl (by kernel_rfl) (fun _ _ _ h => h) (Or.inl ⟨by rfl, ?_⟩) hHeld ?_ ?_
     rotate_left
     ·rintro w' ⟨s0, s1⟩
      go_simp
      with_reducible rfl
     rotate_left
     ·simp only [Act.put, List.setIfInBounds_toArray, List.set_cons_zero, List.set_cons_succ, i64_w, i32_w]
      rfl
     refine one_ (i := 10) (N := some 48) #[true, true, true, true, true, true, true, true, true, true, true, false, false, false] rfl rfl (by kernel_rfl) (by decide) (fun K hK => ?_)
     refine value_ (w1 := ?_) (v := ?_) (by rfl) rfl ?_ ?_
     rotate_left 2
     ·go_simp
      constructor
      ·rfl
      ·rfl
     refine hK.out _ _ ⟨(blk_cell (blk_alloc BK5.out _) 4).trans rfl, (World.cell?_alloc_lt _ _ _ (World.block_lt_of_cell? _ _ hHeld.2)).trans hHeld.2⟩ (fun hHeld2 => ?_)
     clear hK K hHeld2
     refine norm_ (a' := ?_) ?_ ?_
     rotate_left
     ·show Act.put _ (some 48) _ = _
      simp only [Act.put, List.setIfInBounds_toArray, List.set_cons_zero, List.set_cons_succ, i64_w, i32_w]
      rfl
     refine one_ (i := 11) (N := some 49) #[true, true, true, true, true, true, true, true, true, true, true, true, false, false] rfl rfl (by kernel_rfl) (by decide) (fun K hK => ?_)
     refine Kd.R_append_step k38 (w0 := w) w.heap.size (by rfl) (.tmp 45) (.tmp 48) 34 38 (.agg #[(.int .i64 0), (.bool false)]) 16 rfl Try.underlying34 info38 rfl (by decide) (by omega) (.slice Ar RW.length cr) RW (⟨xj, false⟩ : S38) [.int .i64 xj, .bool false] (fun k_ => oki k_ ∨ ((fun _ => True)) k_ ∧ w14.heap.size ≤ k_) (fun _ => False) rfl rfl ?aP (fun _ hk => hk.elim) ?aF ?aO ?aB ?aS ?aL ?_
     (case aP => exact k38_mkM _ _ _ (⟨xj, false⟩ : S38))
     (case aF => exact fun k_ hk => .inr ⟨trivial, hk⟩)
     (case aO => exact Kd.R_mono UU.out (fun _ hk => .inl hk))
     (case aB => exact HB.out)
     (case aS => exact HB.out.size)
     (case aL => have := HRL.out; omega)
     intro v_ w16 ho hb hg hat
     clear hat
     have m0_ := Aside0.mk (blk_grown BK111.out hg (Kd.R_ne UU.out BK111.out (by decide)))
     have m1_ := Aside0.mk (blk_grown BK4.out hg (Kd.R_ne UU.out BK4.out (by decide)))
     have m2_ := Aside0.mk (blk_grown BK5.out hg (Kd.R_ne UU.out BK5.out (by decide)))
     have m3_ := Aside0.mk (Kd.S_over' Hv21.out (Kd.R_typed UU.out) (by decide) hg)
     have m4_ := Aside0.mk (Kd.S_over' Hv23.out (Kd.R_typed UU.out) (by decide) hg)
     have m5_ := Aside0.mk (Kd.R_over' HLL0.out (Kd.R_typed UU.out) (by decide) hg)
     have m6_ := Aside0.mk (Kd.H_grown (Kd.H_widen HH.out) hg (fun k_ e_ => .inl (UU.out.1 k_ e_)))
     have m7_ := Aside0.mk (hb)
     have m8_ := Aside0.mk (ho)
     clear BK111 BK4 BK5 Hv21 Hv23 HLL0 HH HB UU
     have BK111 := m0_
     clear m0_
     have BK4 := m1_
     clear m1_
     have BK5 := m2_
     clear m2_
     have Hv21 := m3_
     clear m3_
     have Hv23 := m4_
     clear m4_
     have HLL0 := m5_
     clear m5_
     have HH := m6_
     clear m6_
     have HB := m7_
     clear m7_
     have UU := m8_
     clear m8_
     rw [← HST.out] at UU
     obtain ⟨A2, c2, e2⟩ := Kd.R_slice UU.out
     subst e2
     obtain ⟨_, _, hraw, _, _, hcc_, _⟩ := Kd.H_raw HH.out pk qk
     obtain ⟨_, hfr_⟩ := Kd.H_at HH.out pk qk
     have hx4 := hcc_ 0 _ rfl
     have hf4 := hfr_ 0
     rw [show ((Kd.slice 38 k38)).sz = 1 from rfl, Nat.mul_one, Nat.add_zero, Int.toNat_natCast] at hx4 hf4
     have HRAW := Aside0.mk hraw
     clear hcc_ hfr_ hraw ho hb hg
     refine hK.out _ _ ⟨(blk_cell BK5.out 4).trans rfl, hx4⟩ (fun hHeld => ?_)
     clear hK K
     refine norm_ (a' := ?_) ?_ ?_
     rotate_left
     ·show Act.put _ (some 49) _ = _
      simp only [Act.put, List.setIfInBounds_toArray, List.set_cons_zero, List.set_cons_succ, i64_w, i32_w]
      rfl
     refine pure_ (i := 12) (N := some 50) (v := ?_) (a' := ?_) #[true, true, true, true, true, true, true, true, true, true, true, true, true, false] rfl rfl (by kernel_rfl) (fun _ _ _ h => h) (Or.inl ⟨by rfl, ?_⟩) ?_ ?_
     rotate_left
     ·intro w'
      go_simp
      with_reducible rfl
     rotate_left
     ·simp only [Act.put, List.setIfInBounds_toArray, List.set_cons_zero, List.set_cons_succ, i64_w, i32_w]
      rfl
     have HP := Kd.S_seg0 HH.out pk qk (seg := [.slice A2 RW2.length c2]) (j := 0) (show 1 ≤ 1 from by decide) (x' := RW2) (Kd.M_row UU.out) (fun _ hk => hk)
     rw [show ((Kd.slice 38 k38)).sz = 1 from rfl, Nat.mul_one, Nat.add_zero, Int.toNat_natCast, List.set_set] at HP
     have HG2 : w16.grownBy (w16.setCell ⟨go, k, none⟩ (.slice A2 RW2.length c2)) (some go) := HP.2
     have HO := Aside0.mk (show Kd.S (Kd.slice 38 k38) 34 (w16.setCell ⟨go, k, none⟩ (.slice A2 RW2.length c2)) w.heap.size (fun _ => True) (.slice (some ⟨go, 0, none⟩) n0 co) ((rowsAt l0_2 n0 k).set k RW2) from HP.1)
     refine last_ (i := 13) (N := none) #[true, true, true, true, true, true, true, true, true, true, true, true, true, true] rfl rfl (by kernel_rfl) (by decide) (fun K hK => ?_)
     refine skip_ (w1 := w16.setCell ⟨go, k, none⟩ (.slice A2 RW2.length c2)) (by rfl) rfl ?_ ?_
     ·go_simp
     refine hK.out _ _ ?_
     clear hK K
     have m0_ := Aside0.mk (blk_grown BK111.out HG2 (Kd.R_ne HRAW.out BK111.out (by decide)))
     have m1_ := Aside0.mk (blk_grown BK4.out HG2 (Kd.R_ne HRAW.out BK4.out (by decide)))
     have m2_ := Aside0.mk (blk_grown BK5.out HG2 (Kd.R_ne HRAW.out BK5.out (by decide)))
     have m3_ := Aside0.mk (Kd.S_over' Hv21.out (Kd.R_typed HRAW.out) (by decide) HG2)
     have m4_ := Aside0.mk (Kd.S_over' Hv23.out (Kd.R_typed HRAW.out) (by decide) HG2)
     have m5_ := Aside0.mk (Kd.R_over' HLL0.out (Kd.R_typed HRAW.out) (by decide) HG2)
     have m6_ := Aside0.mk ((below_set HB.out GBO.out : Below w.heap.size w (w16.setCell ⟨go, k, none⟩ (.slice A2 RW2.length c2))))
     clear BK111 BK4 BK5 Hv21 Hv23 HLL0 HB
     have BK111 := m0_
     clear m0_
     have BK4 := m1_
     clear m1_
     have BK5 := m2_
     clear m2_
     have Hv21 := m3_
     clear m3_
     have Hv23 := m4_
     clear m4_
     have HLL0 := m5_
     clear m5_
     have HB := m6_
     clear m6_
     clear HP HG2 HRAW UU HH hHeld hx4 hf4
     refine done_ (by kernel_rfl) ?_
     generalize w16.setCell ⟨go, k, none⟩ (.slice A2 RW2.length c2) = w17 at HO BK111 BK4 BK5 Hv21 Hv23 HLL0 HB ⊢
     rw [HRW2.out] at HO
     clear HRW2 HST HRW
     go_wp2_with fail
     go_roundw
     case rel => exact ⟨j + 1, by omega, by first | rfl | go_num, HO, BK111, BK4, BK5, Hv21, Hv23, HLL0, HB⟩
     case measure => simp [intOf] <;> omega
    ·have ej : j = LL0.length := by omega
     subst ej
     rw [List.take_length] at HO
     have cj : decide ((LL0.length : Int) < (LL0.length : Int)) = false := decide_eq_false (by omega)
     have hlenx : True := trivial
     obtain ⟨ad1, AA1, cc1, e_, hx_, hl_, _⟩ := at_L7 (Kd.S_reads' Hv23.out).2.2 (k : Int) pk (by rw [hn1]; omega)
     cases e_
     obtain ⟨ce_, hce_, hM_, hcc_⟩ := Kd.S_get Hv23.out [] (k : Int) pk qk
     obtain ⟨ve_, rfl, ge_⟩ := hM_
     have hv_ := hcc_ 0 _ rfl
     rw [Nat.add_zero, show ((Kd.slice 3 (Kd.int .i64))).sz = 1 from rfl, Nat.mul_one] at hv_
     replace hv_ := Option.some.inj (hv_.symm.trans hx_)
     rw [hv_] at ge_
     obtain ⟨LL1, hLL1⟩ : ∃ L, L = rd_L7 L1 (k : Int) := ⟨_, rfl⟩
     have HLL1 : Aside0 (Kd.R (Kd.int .i64) 3 wr w.heap.size (fun _ => True) (.slice AA1 LL1.length cc1) LL1) := ⟨by rw [hLL1]; exact Kd.R_mono ge_ (fun _ _ => trivial)⟩
     rw [← hLL1] at hx_
     simp only [Int.toNat_natCast] at hx_
     have HELL1 := Aside0.mk hLL1
     clear ge_ hv_ hcc_ hce_ hl_ hLL1
     have hxLL1 := hx_
     clear hx_
     have HLE1 : Aside0 (LL1.length ≤ 500000) := ⟨by rw [HELL1.out, HL1.out]; exact Nat.le_trans (lsAt_row _ _ _ _ _) hl⟩
     go_wp2_with fail
     have hLL1 := HLE1.out
     obtain ⟨wo2, hwo2⟩ : ∃ x_ : World, x_ = wr := ⟨_, rfl⟩
     subst hwo2
     go_loopw [57] (fun v_ w' => ∃ j : Nat, j ≤ LL1.length ∧ v_ = .int .i64 j ∧ Aside0 (Kd.S (Kd.slice 38 k38) 34 w' w.heap.size (fun _ => True) (.slice (some ⟨go, 0, none⟩) n0 co) ((rowsAt l0_2 n0 k).set k ((([] : List S38) ++ LL0.map (fun i => (⟨i, false⟩ : S38))) ++ (LL1.take j).map (fun i => (⟨i, true⟩ : S38))))) ∧ Aside0 (w'.heap[gb111]? = some (.cells #[.int .i64 (n0 : Int), .bool a0_1, .slice A0_2 l0_2.length c0_2] 24 (0, 0))) ∧ Aside0 (w'.heap[gb4]? = some (.cells #[.int .i64 0, .bool false, .slice none 0 0, .slice none 0 0, .slice none 0 0] 118 (0, 0))) ∧ Aside0 (w'.heap[gb5]? = some (.cells #[.int .i64 (n0 : Int), .bool a0_1, .slice A0_2 l0_2.length c0_2, .slice A1 n1 c1, .slice (some ⟨go, 0, none⟩) n0 co] 118 (0, 0))) ∧ Aside0 (Kd.S (Kd.slice 3 (Kd.int .i64)) 25 w' w.heap.size (fun _ => True) (.slice (some ad0) n0 cv21) L0) ∧ Aside0 (Kd.S (Kd.slice 3 (Kd.int .i64)) 25 w' w.heap.size (fun _ => True) (.slice (some ad1) n0 cv23) L1) ∧ Aside0 (Kd.R (Kd.int .i64) 3 w' w.heap.size (fun _ => True) (.slice AA1 LL1.length cc1) LL1) ∧ Aside0 (Below w.heap.size w w')) (fun v_ _ => LL1.length - (intOf v_).toNat)
     case atStart => exact ⟨0, Nat.zero_le _, rfl, ⟨by rw [List.take_zero, List.map_nil, List.append_nil]; exact HO.out⟩, BK111, BK4, BK5, Hv21, Hv23, HLL1, HB⟩
     case round =>
      clear HO BK111 BK4 BK5 Hv21 Hv23 HLL1 HB
      obtain ⟨j, hj, rfl, HO, BK111, BK4, BK5, Hv21, Hv23, HLL1, HB⟩ := hrel
      by_cases hltj : j < LL1.length
      ·have pj : 0 ≤ ((j : Nat) : Int) := by omega
       have qj : ((j : Nat) : Int) < (LL1.length : Int) := by omega
       have cj : decide ((j : Int) < (LL1.length : Int)) = true := decide_eq_true qj
       obtain ⟨adj, eadj, hxj⟩ := Kd.at_int (Kd.R_reads' HLL1.out).2.2 (j : Int) pj qj
       cases eadj
       simp only [Int.toNat_natCast] at hxj
       have HST := Aside0.mk (row_step (([] : List S38) ++ LL0.map (fun i => (⟨i, false⟩ : S38))) LL1 true j hltj)
       obtain ⟨xj, hxv⟩ : ∃ x_, x_ = rd LL1 (j : Int) := ⟨_, rfl⟩
       obtain ⟨RW, hRW⟩ : ∃ r_, r_ = ((([] : List S38) ++ LL0.map (fun i => (⟨i, false⟩ : S38))) ++ (LL1.take j).map (fun i => (⟨i, true⟩ : S38))) := ⟨_, rfl⟩
       have HRL : Aside0 (RW.length ≤ 1000000) := ⟨by rw [hRW]; simp; have := HLE0.out; have := HLE1.out; omega⟩
       rw [← hRW, ← hxv] at HST
       obtain ⟨RW2, hRW2⟩ : ∃ r_, r_ = ((([] : List S38) ++ LL0.map (fun i => (⟨i, false⟩ : S38))) ++ (LL1.take (j + 1)).map (fun i => (⟨i, true⟩ : S38))) := ⟨_, rfl⟩
       rw [← hRW2] at HST
       have HRW2 := Aside0.mk hRW2
       clear hRW2
       rw [← hxv] at hxj
       rw [← hRW] at HO
       have HRW := Aside0.mk hRW
       have HXV := Aside0.mk hxv
       clear hRW hxv
       obtain ⟨oki, c_, _, hM_, hcc_, _, _, hH_⟩ := Kd.S_elem HO.out [] (k : Int) pk qk
       obtain ⟨vr, rfl, hR_⟩ := hM_
       rw [show ((rowsAt l0_2 n0 k).set k RW).getD (k : Int).toNat [] = RW from rd_set (rowsAt l0_2 n0 k) k RW (by rw [rowsAt_len]; exact hlt)] at hR_
       obtain ⟨Ar, cr, er⟩ := Kd.R_slice hR_
       subst er
       have hx4 := hcc_ 0 _ rfl
       rw [show ((Kd.slice 38 k38)).sz = 1 from rfl, Nat.mul_one, Nat.add_zero, Int.toNat_natCast] at hx4
       have UU := Aside0.mk hR_
       have HH := Aside0.mk hH_
       clear hcc_ hR_ hH_
       have hx5 : wr.cell? ⟨gb5, 4, none⟩ = some (.slice (some ⟨go, 0, none⟩) n0 co) := (blk_cell BK5.out 4).trans rfl
       go_wp2_with fail
       refine start_ (n := 14) (S := fun w' => w'.cell? ⟨gb5, 4, none⟩ = some (.slice (some ⟨go, 0, none⟩) n0 co) ∧ w'.cell? ⟨go, k, none⟩ = some (.slice Ar RW.length cr)) (ds := [13]) #[false, false, false, false, false, false, false, false, false, false, false, false, false, false] (by kernel_rfl) rfl rfl ⟨hx5, hx4⟩ (fun hHeld => ?_)
       have m0_ := Aside0.mk (below_drew HB.out)
       have m1_ := Aside0.mk ((show wr.drew.heap[gb111]? = _ from BK111.out))
       have m2_ := Aside0.mk ((show wr.drew.heap[gb4]? = _ from BK4.out))
       have m3_ := Aside0.mk ((show wr.drew.heap[gb5]? = _ from BK5.out))
       have m4_ := Aside0.mk (Kd.S_drew Hv21.out)
       have m5_ := Aside0.mk (Kd.S_drew Hv23.out)
       have m6_ := Aside0.mk (Kd.R_drew HLL1.out)
       have m7_ := Aside0.mk (Kd.R_drew UU.out)
       have m8_ := Aside0.mk (Kd.H_drew HH.out)
       clear HB BK111 BK4 BK5 Hv21 Hv23 HLL1 UU HH
       have HB := m0_
       clear m0_
       have BK111 := m1_
       clear m1_
       have BK4 := m2_
       clear m2_
       have BK5 := m3_
       clear m3_
       have Hv21 := m4_
       clear m4_
       have Hv23 := m5_
       clear m5_
       have HLL1 := m6_
       clear m6_
       have UU := m7_
       clear m7_
       have HH := m8_
       clear m8_
       clear HO hxj hx5 hx4
       generalize wr.drew = w14 at HB BK111 BK4 BK5 Hv21 Hv23 HLL1 UU HH hHeld ⊢
       refine pure_ (i := 0) (N := some 61) (v := ?_) (a' := ?_) #[true, false, false, false, false, false, false, false, false, false, false, false, false, false] rfl rfl (by kernel_rfl) (fun _ _ _ h => h) (Or.inl ⟨by rfl, ?_⟩) ?_ ?_
       rotate_left
       ·intro w'
        go_simp
        with_reducible rfl
       rotate_left
       ·simp only [Act.put, List.setIfInBounds_toArray, List.set_cons_zero, List.set_cons_succ, i64_w, i32_w]
        rfl
       refine pure_ (i := 2) (N := some 63) (v := ?_) (a' := ?_) #[true, false, true, false, false, false, false, false, false, false, false, false, false, false] rfl rfl (by kernel_rfl) (fun _ _ _ h => h) (Or.inl ⟨by rfl, ?_⟩) ?_ ?_
       rotate_left
       ·intro w'
        go_simp
        with_reducible rfl
       rotate_left
       ·simp only [Act.put, List.setIfInBounds_toArray, List.set_cons_zero, List.set_cons_succ, i64_w, i32_w]
        rfl
       refine pure_ (i := 3) (N := some 64) (v := ?_) (a' := ?_) #[true, false, true, true, false, false, false, false, false, false, false, false, false, false] rfl rfl (by kernel_rfl) (fun _ _ _ h => h) (Or.inl ⟨by rfl, ?_⟩) ?_ ?_
       rotate_left
       ·intro w'
        go_simp
        with_reducible rfl
       rotate_left
       ·simp only [Act.put, List.setIfInBounds_toArray, List.set_cons_zero, List.set_cons_succ, i64_w, i32_w]
        rfl
       refine pure_ (i := 5) (N := some 66) (v := ?_) (a' := ?_) #[true, false, true, true, false, true, false, false, false, false, false, false, false, false] rfl rfl (by kernel_rfl) (fun _ _ _ h => h) (Or.inl ⟨by rfl, ?_⟩) ?_ ?_
       rotate_left
       ·intro w'
        go_simp
        with_reducible rfl
       rotate_left
       ·simp only [Act.put, List.setIfInBounds_toArray, List.set_cons_zero, List.set_cons_succ, i64_w, i32_w]
        rfl
       refine pure_ (i := 8) (N := some 69) (v := ?_) (a' := ?_) #[true, false, true, true, false, true, false, false, true, false, false, false, false, false] rfl rfl (by kernel_rfl) (fun _ _ _ h => h) (Or.inl ⟨by rfl, ?_⟩) ?_ ?_
       rotate_left
       ·intro w'
        go_simp
        with_reducible rfl
       rotate_left
       ·simp only [Act.put, List.setIfInBounds_toArray, List.set_cons_zero, List.set_cons_succ, i64_w, i32_w]
        rfl
       refine pure_ (i := 9) (N := some 70) (v := ?_) (a' := ?_) #[true, false, true, true, false, true, false, false, true, true, false, false, false, false] rfl rfl (by kernel_rfl) (fun _ _ _ h => h) (Or.inl ⟨by rfl, ?_⟩) ?_ ?_
       rotate_left
       ·intro w'
        go_simp
        with_reducible rfl
       rotate_left
       ·simp only [Act.put, List.setIfInBounds_toArray, List.set_cons_zero, List.set_cons_succ, i64_w, i32_w]
        rfl
       refine take_ (i := 1) (N := some 62) (v := ?_) (a' := ?_) #[true, true, true, true, false, true, false, false, true, true, false, false, false, false] rfl rfl (by kernel_rfl) (fun _ _ _ h => h) (Or.inl ⟨by rfl, ?_⟩) hHeld ?_ ?_
       rotate_left
       ·rintro w' ⟨s0, s1⟩
        go_simp
        with_reducible rfl
       rotate_left
       ·simp only [Act.put, List.setIfInBounds_toArray, List.set_cons_zero, List.set_cons_succ, i64_w, i32_w]
        rfl
       refine take_ (i := 4) (N := some 65) (v := ?_) (a' := ?_) #[true, true, true, true, true, true, false, false, true, true, false, false, false, false] rfl rfl (by kernel_rfl) (fun _ _ _ h => h) (Or.inl ⟨by rfl, ?_⟩) hHeld ?_ ?_
       rotate_left
       ·rintro w' ⟨s0, s1⟩
        go_simp
        with_reducible rfl
       rotate_left
       ·simp only [Act.put, List.setIfInBounds_toArray, List.set_cons_zero, List.set_cons_succ, i64_w, i32_w]
        rfl
       refine pure_ (i := 6) (N := some 67) (v := ?_) (a' := ?_) #[true, true, true, true, true, true, true, false, true, true, false, false, false, false] rfl rfl (by kernel_rfl) (fun _ _ _ h => h) (Or.inl ⟨by rfl, ?_⟩) ?_ ?_
       rotate_left
       ·intro w'
        go_simp
        with_reducible rfl
       rotate_left
       ·simp only [Act.put, List.setIfInBounds_toArray, List.set_cons_zero, List.set_cons_succ, i64_w, i32_w]
        rfl
       refine take_ (i := 7) (N := some 68) (v := ?_) (a' := ?_) #[true, true, true, true, true, true, true, true, true, true, false, false, false, false] rfl rfl (by kernel_rfl) (fun _ _ _ h => h) (Or.inl ⟨by rfl, ?_⟩) hHeld ?_ ?_
       rotate_left
       ·rintro w' ⟨s0, s1⟩
        go_simp
        with_reducible rfl
       rotate_left
       ·simp only [Act.put, List.setIfInBounds_toArray, List.set_cons_zero, List.set_cons_succ, i64_w, i32_w]
        rfl
       refine one_ (i := 10) (N := some 71) #[true, true, true, true, true, true, true, true, true, true, true, false, false, false] rfl rfl (by kernel_rfl) (by decide) (fun K hK => ?_)
       refine value_ (w1 := ?_) (v := ?_) (by rfl) rfl ?_ ?_
       rotate_left 2
       ·go_simp
        constructor
        ·rfl
        ·rfl
       refine hK.out _ _ ⟨(blk_cell (blk_alloc BK5.out _) 4).trans rfl, (World.cell?_alloc_lt _ _ _ (World.block_lt_of_cell? _ _ hHeld.2)).trans hHeld.2⟩ (fun hHeld2 => ?_)
       clear hK K hHeld2
       refine norm_ (a' := ?_) ?_ ?_
       rotate_left
       ·show Act.put _ (some 71) _ = _
        simp only [Act.put, List.setIfInBounds_toArray, List.set_cons_zero, List.set_cons_succ, i64_w, i32_w]
        rfl
       refine one_ (i := 11) (N := some 72) #[true, true, true, true, true, true, true, true, true, true, true, true, false, false] rfl rfl (by kernel_rfl) (by decide) (fun K hK => ?_)
       refine Kd.R_append_step k38 (w0 := w) w.heap.size (by rfl) (.tmp 68) (.tmp 71) 34 38 (.agg #[(.int .i64 0), (.bool false)]) 16 rfl Try.underlying34 info38 rfl (by decide) (by omega) (.slice Ar RW.length cr) RW (⟨xj, true⟩ : S38) [.int .i64 xj, .bool true] (fun k_ => oki k_ ∨ ((fun _ => True)) k_ ∧ w14.heap.size ≤ k_) (fun _ => False) rfl rfl ?aP (fun _ hk => hk.elim) ?aF ?aO ?aB ?aS ?aL ?_
       (case aP => exact k38_mkM _ _ _ (⟨xj, true⟩ : S38))
       (case aF => exact fun k_ hk => .inr ⟨trivial, hk⟩)
       (case aO => exact Kd.R_mono UU.out (fun _ hk => .inl hk))
       (case aB => exact HB.out)
       (case aS => exact HB.out.size)
       (case aL => have := HRL.out; omega)
       intro v_ w16 ho hb hg hat
       clear hat
       have m0_ := Aside0.mk (blk_grown BK111.out hg (Kd.R_ne UU.out BK111.out (by decide)))
       have m1_ := Aside0.mk (blk_grown BK4.out hg (Kd.R_ne UU.out BK4.out (by decide)))
       have m2_ := Aside0.mk (blk_grown BK5.out hg (Kd.R_ne UU.out BK5.out (by decide)))
       have m3_ := Aside0.mk (Kd.S_over' Hv21.out (Kd.R_typed UU.out) (by decide) hg)
       have m4_ := Aside0.mk (Kd.S_over' Hv23.out (Kd.R_typed UU.out) (by decide) hg)
       have m5_ := Aside0.mk (Kd.R_over' HLL1.out (Kd.R_typed UU.out) (by decide) hg)
       have m6_ := Aside0.mk (Kd.H_grown (Kd.H_widen HH.out) hg (fun k_ e_ => .inl (UU.out.1 k_ e_)))
       have m7_ := Aside0.mk (hb)
       have m8_ := Aside0.mk (ho)
       clear BK111 BK4 BK5 Hv21 Hv23 HLL1 HH HB UU
       have BK111 := m0_
       clear m0_
       have BK4 := m1_
       clear m1_
       have BK5 := m2_
       clear m2_
       have Hv21 := m3_
       clear m3_
       have Hv23 := m4_
       clear m4_
       have HLL1 := m5_
       clear m5_
       have HH := m6_
       clear m6_
       have HB := m7_
       clear m7_
       have UU := m8_
       clear m8_
       rw [← HST.out] at UU
       obtain ⟨A2, c2, e2⟩ := Kd.R_slice UU.out
       subst e2
       obtain ⟨_, _, hraw, _, _, hcc_, _⟩ := Kd.H_raw HH.out pk qk
       obtain ⟨_, hfr_⟩ := Kd.H_at HH.out pk qk
       have hx4 := hcc_ 0 _ rfl
       have hf4 := hfr_ 0
       rw [show ((Kd.slice 38 k38)).sz = 1 from rfl, Nat.mul_one, Nat.add_zero, Int.toNat_natCast] at hx4 hf4
       have HRAW := Aside0.mk hraw
       clear hcc_ hfr_ hraw ho hb hg
       refine hK.out _ _ ⟨(blk_cell BK5.out 4).trans rfl, hx4⟩ (fun hHeld => ?_)
       clear hK K
       refine norm_ (a' := ?_) ?_ ?_
       rotate_left
       ·show Act.put _ (some 72) _ = _
        simp only [Act.put, List.setIfInBounds_toArray, List.set_cons_zero, List.set_cons_succ, i64_w, i32_w]
        rfl
       refine pure_ (i := 12) (N := some 73) (v := ?_) (a' := ?_) #[true, true, true, true, true, true, true, true, true, true, true, true, true, false] rfl rfl (by kernel_rfl) (fun _ _ _ h => h) (Or.inl ⟨by rfl, ?_⟩) ?_ ?_
       rotate_left
       ·intro w'
        go_simp
        with_reducible rfl
       rotate_left
       ·simp only [Act.put, List.setIfInBounds_toArray, List.set_cons_zero, List.set_cons_succ, i64_w, i32_w]
        rfl
       have HP := Kd.S_seg0 HH.out pk qk (seg := [.slice A2 RW2.length c2]) (j := 0) (show 1 ≤ 1 from by decide) (x' := RW2) (Kd.M_row UU.out) (fun _ hk => hk)
       rw [show ((Kd.slice 38 k38)).sz = 1 from rfl, Nat.mul_one, Nat.add_zero, Int.toNat_natCast, List.set_set] at HP
       have HG2 : w16.grownBy (w16.setCell ⟨go, k, none⟩ (.slice A2 RW2.length c2)) (some go) := HP.2
       have HO := Aside0.mk (show Kd.S (Kd.slice 38 k38) 34 (w16.setCell ⟨go, k, none⟩ (.slice A2 RW2.length c2)) w.heap.size (fun _ => True) (.slice (some ⟨go, 0, none⟩) n0 co) ((rowsAt l0_2 n0 k).set k RW2) from HP.1)
       refine last_ (i := 13) (N := none) #[true, true, true, true, true, true, true, true, true, true, true, true, true, true] rfl rfl (by kernel_rfl) (by decide) (fun K hK => ?_)
       refine skip_ (w1 := w16.setCell ⟨go, k, none⟩ (.slice A2 RW2.length c2)) (by rfl) rfl ?_ ?_
       ·go_simp
       refine hK.out _ _ ?_
       clear hK K
       have m0_ := Aside0.mk (blk_grown BK111.out HG2 (Kd.R_ne HRAW.out BK111.out (by decide)))
       have m1_ := Aside0.mk (blk_grown BK4.out HG2 (Kd.R_ne HRAW.out BK4.out (by decide)))
       have m2_ := Aside0.mk (blk_grown BK5.out HG2 (Kd.R_ne HRAW.out BK5.out (by decide)))
       have m3_ := Aside0.mk (Kd.S_over' Hv21.out (Kd.R_typed HRAW.out) (by decide) HG2)
       have m4_ := Aside0.mk (Kd.S_over' Hv23.out (Kd.R_typed HRAW.out) (by decide) HG2)
       have m5_ := Aside0.mk (Kd.R_over' HLL1.out (Kd.R_typed HRAW.out) (by decide) HG2)
       have m6_ := Aside0.mk ((below_set HB.out GBO.out : Below w.heap.size w (w16.setCell ⟨go, k, none⟩ (.slice A2 RW2.length c2))))
       clear BK111 BK4 BK5 Hv21 Hv23 HLL1 HB
       have BK111 := m0_
       clear m0_
       have BK4 := m1_
       clear m1_
       have BK5 := m2_
       clear m2_
       have Hv21 := m3_
       clear m3_
       have Hv23 := m4_
       clear m4_
       have HLL1 := m5_
       clear m5_
       have HB := m6_
       clear m6_
       clear HP HG2 HRAW UU HH hHeld hx4 hf4
       refine done_ (by kernel_rfl) ?_
       generalize w16.setCell ⟨go, k, none⟩ (.slice A2 RW2.length c2) = w17 at HO BK111 BK4 BK5 Hv21 Hv23 HLL1 HB ⊢
       rw [HRW2.out] at HO
       clear HRW2 HST HRW
       go_wp2_with fail
       go_roundw
       case rel => exact ⟨j + 1, by omega, by first | rfl | go_num, HO, BK111, BK4, BK5, Hv21, Hv23, HLL1, HB⟩
       case measure => simp [intOf] <;> omega
      ·have ej : j = LL1.length := by omega
       subst ej
       rw [List.take_length] at HO
       have cj : decide ((LL1.length : Int) < (LL1.length : Int)) = false := decide_eq_false (by omega)
       obtain ⟨RW, hRW⟩ : ∃ r_, r_ = ((([] : List S38) ++ LL0.map (fun i => (⟨i, false⟩ : S38))) ++ LL1.map (fun i => (⟨i, true⟩ : S38))) := ⟨_, rfl⟩
       have HRU : Aside0 (RW = stepsU l0_2 n0 (k : Int)) := ⟨by rw [hRW, HELL0.out, HELL1.out, HL0.out, HL1.out]; rfl⟩
       have HRL : Aside0 (RW.length ≤ 1000000) := ⟨by rw [hRW]; simp; have := HLE0.out; have := HLE1.out; omega⟩
       rw [← hRW] at HO
       clear hRW
       obtain ⟨oki, c_, _, hM_, hcc_, _, _, hH_⟩ := Kd.S_elem HO.out [] (k : Int) pk qk
       obtain ⟨vr, rfl, hR_⟩ := hM_
       rw [show ((rowsAt l0_2 n0 k).set k RW).getD (k : Int).toNat [] = RW from rd_set (rowsAt l0_2 n0 k) k RW (by rw [rowsAt_len]; exact hlt)] at hR_
       obtain ⟨Ar, cr, er⟩ := Kd.R_slice hR_
       subst er
       have hx4 := hcc_ 0 _ rfl
       rw [show ((Kd.slice 38 k38)).sz = 1 from rfl, Nat.mul_one, Nat.add_zero, Int.toNat_natCast] at hx4
       have UU := Aside0.mk hR_
       have HH := Aside0.mk hH_
       clear hcc_ hR_ hH_
       have hx5 : wr.cell? ⟨gb5, 4, none⟩ = some (.slice (some ⟨go, 0, none⟩) n0 co) := (blk_cell BK5.out 4).trans rfl
       have HEN : Aside0 (ends l0_2 n0) := ⟨fun i hi => ⟨HE0.out i hi, HE1.out i hi⟩⟩
       go_wp2_with (first | (go_at_call 143; refine (sort_row HH.out UU.out HRU.out hlt HEN.out (by omega) HRL.out).mono ?_; rintro e_ w20 ⟨rfl, vv, hg, hty, hS⟩; rw [List.set_set, rowsAt_set l0_2 n0 k hlt] at hS; have m0_ := Aside0.mk (blk_grown BK111.out hg (fun he => by obtain ⟨_, cells_, hc_⟩ := hty _ he.symm; have t_ := BK111.out.symm.trans hc_; simp at t_)); have m1_ := Aside0.mk (blk_grown BK4.out hg (fun he => by obtain ⟨_, cells_, hc_⟩ := hty _ he.symm; have t_ := BK4.out.symm.trans hc_; simp at t_)); have m2_ := Aside0.mk (blk_grown BK5.out hg (fun he => by obtain ⟨_, cells_, hc_⟩ := hty _ he.symm; have t_ := BK5.out.symm.trans hc_; simp at t_)); have m3_ := Aside0.mk (Kd.S_over' (v := vv) Hv21.out (fun k_ hk_ => (hty k_ hk_).2) (by decide) hg); have m4_ := Aside0.mk (Kd.S_over' (v := vv) Hv23.out (fun k_ hk_ => (hty k_ hk_).2) (by decide) hg); have m5_ := Aside0.mk (HB.out.grown hg HB.out.size (fun k_ hk_ => (hty k_ hk_).1)); have m6_ := Aside0.mk hS; clear hg hty hS HO BK111 BK4 BK5 Hv21 Hv23 HLL1 HB UU HH hx4 hx5; have HO := m6_; have BK111 := m0_; have BK4 := m1_; have BK5 := m2_; have Hv21 := m3_; have Hv23 := m4_; have HB := m5_; clear m0_ m1_ m2_ m3_ m4_ m5_ m6_) | fail)
       go_roundw
       case rel => exact ⟨k + 1, by omega, by first | rfl | go_num, HO, BK111, BK4, BK5, Hv21, Hv23, HB⟩
       case measure => simp [intOf] <;> omega
  ·have ek : n0 = k := by omega
   subst ek
   have hx0 : wr.cell? ⟨gb5, 0, none⟩ = some (.int .i64 (n0 : Int)) := (blk_cell BK5.out 0).trans rfl
   have hx1 : wr.cell? ⟨gb5, 1, none⟩ = some (.bool a0_1) := (blk_cell BK5.out 1).trans rfl
   have hx2 : wr.cell? ⟨gb5, 2, none⟩ = some (.slice A0_2 l0_2.length c0_2) := (blk_cell BK5.out 2).trans rfl
   have hx3 : wr.cell? ⟨gb5, 3, none⟩ = some (.slice A1 n1 c1) := (blk_cell BK5.out 3).trans rfl
   have hx4 : wr.cell? ⟨gb5, 4, none⟩ = some (.slice Ao n0 co) := (blk_cell BK5.out 4).trans rfl
   have hy0 : wr.cell? ⟨gb4, 0, none⟩ = some (.int .i64 0) := (blk_cell BK4.out 0).trans rfl
   have hf0 := blk_frozen BK4.out 0
   have hy1 : wr.cell? ⟨gb4, 1, none⟩ = some (.bool false) := (blk_cell BK4.out 1).trans rfl
   have hf1 := blk_frozen BK4.out 1
   have hy2 : wr.cell? ⟨gb4, 2, none⟩ = some (.slice none 0 0) := (blk_cell BK4.out 2).trans rfl
   have hf2 := blk_frozen BK4.out 2
   have hy3 : wr.cell? ⟨gb4, 3, none⟩ = some (.slice none 0 0) := (blk_cell BK4.out 3).trans rfl
   have hf3 := blk_frozen BK4.out 3
   have hy4 : wr.cell? ⟨gb4, 4, none⟩ = some (.slice none 0 0) := (blk_cell BK4.out 4).trans rfl
   have hf4 := blk_frozen BK4.out 4
   have GE4' := GE4.out
   go_wp2
   refine bodyPost_ret (results_cell_row rfl _ _ gb4 118 #[.int .i64 (n0 : Int), .bool a0_1, .slice A0_2 l0_2.length c0_2, .slice A1 n1 c1, .slice Ao n0 co] (0, 0) _ rfl (by refine blk_put (cs := #[.int .i64 (n0 : Int), .bool a0_1, .slice A0_2 l0_2.length c0_2, .slice A1 n1 c1, .slice none 0 0]) ?_ 4 _ rfl; refine blk_put (cs := #[.int .i64 (n0 : Int), .bool a0_1, .slice A0_2 l0_2.length c0_2, .slice none 0 0, .slice none 0 0]) ?_ 3 _ rfl; refine blk_put (cs := #[.int .i64 (n0 : Int), .bool a0_1, .slice none 0 0, .slice none 0 0, .slice none 0 0]) ?_ 2 _ rfl; refine blk_put (cs := #[.int .i64 (n0 : Int), .bool false, .slice none 0 0, .slice none 0 0, .slice none 0 0]) ?_ 1 _ rfl; refine blk_put (cs := #[.int .i64 0, .bool false, .slice none 0 0, .slice none 0 0, .slice none 0 0]) ?_ 0 _ rfl; exact BK4.out) Try.underlying118 rfl (by kernel_rfl)) rfl ?_
   exact ⟨_, rfl, Kd.S_mono (Kd.S_far (p := ⟨gb4, 4, none⟩) (Kd.S_far (p := ⟨gb4, 3, none⟩) (Kd.S_far (p := ⟨gb4, 2, none⟩) (Kd.S_far (p := ⟨gb4, 1, none⟩) (Kd.S_far (p := ⟨gb4, 0, none⟩) (Kd.S_types HO.out BK4.out (by decide)) (fun _ hk => hk.2) (.int .i64 (n0 : Int))) (fun _ hk => hk.2) (.bool a0_1)) (fun _ hk => hk.2) (.slice A0_2 l0_2.length c0_2)) (fun _ hk => hk.2) (.slice A1 n1 c1)) (fun _ hk => hk.2) (.slice Ao n0 co)) (fun _ _ => trivial), by repeat (first | exact HB.out | refine below_set ?_ GE4.out)⟩
end Go.Proofs.Ytkcpanpdipmmmaa.H
namespace Go.Proofs.Ytkcpanpdipmmmaa.Q
open Go.RowKit Go.Proofs.YtkcpanpdipmmmaaW.PrintWords Go.Proofs.YtkcpanpdipmmmaaW.PrintLast Go.Proofs.YtkcpanpdipmmmaaW.PrintMore Go.Proofs.Ytkcpanpdipmmmaa.P
open Go.Proofs.Ytkcpanpdipmmmaa.H (endsErr)
theorem ends_ev (n : Int) (b : Bool) (l : List S74) (s t : Int) : Ev (fun k => static_Ends.f k n b l s t) (endsErr n l s t) := by
 unfold static_Ends.f endsErr
 refine Ev.bind (check_ev n b l) ?_
 refine Ev.ite (fun h => ?_) (fun h => ?_)
 ·rw [if_pos h]
  refine Ev.ite (fun g => ?_) (fun g => ?_)
  ·exact Ev.done (by unfold mn at g; rw [if_neg (by omega)])
  ·unfold mn at g
   refine Ev.ite (fun g2 => ?_) (fun g2 => ?_)
   ·exact Ev.done (by unfold mx at g2; rw [if_neg (by omega)])
   ·unfold mx at g2
    refine Ev.ite (fun g3 => ?_) (fun g3 => ?_)
    ·exact Ev.done (by rw [if_neg (by omega)])
    ·exact Ev.done (by rw [if_pos (by omega)])
 ·rw [if_neg h]
  exact Ev.now _
end Go.Proofs.Ytkcpanpdipmmmaa.Q
namespace Go.Proofs.Ytkcpanpdipmmmaa.H
open Go.RowKit Go.Proofs.YtkcpanpdipmmmaaW.PrintWords Go.Proofs.YtkcpanpdipmmmaaW.PrintLast Go.Proofs.YtkcpanpdipmmmaaW.PrintMore Go.Proofs.Ytkcpanpdipmmmaa.P Go.Proofs.Ytkcpanpdipmmmaa.Q
theorem right_of {n : Int} {l : List S74} {F : List Int} (h : askErr n l F = 0) : ∃ n0 : Nat, n = n0 ∧ Right l F n0 := by
 obtain ⟨hn, hf⟩ := askErr_ok h
 have h1 := hn.lo
 have h2 := hn.hi
 obtain ⟨n0, rfl⟩ : ∃ n0 : Nat, n = n0 := ⟨n.toNat, by omega⟩
 refine ⟨n0, rfl, ⟨by omega, by omega, hn.len, hf.len, fun i hi => ?_, fun i hi => ?_⟩⟩
 ·have ha := hn.at_ (i := (i : Int)) (by omega) (by omega)
  exact ⟨⟨ha.f0, ha.h0⟩, ⟨ha.f1, ha.h1⟩⟩
 ·have ha := hn.at_ (i := (i : Int)) (by omega) (by omega)
  have hb := hf.at_ i (by rw [hf.len]; exact hi)
  rw [rd_nat] at hb
  exact ⟨ha.f3, ha.h3, hb.1, hb.2, ha.h2⟩
end Go.Proofs.Ytkcpanpdipmmmaa.H
namespace Go.Proofs.Ytkcpanpdipmmmaa.Q
open Go.RowKit Go.Proofs.YtkcpanpdipmmmaaW.PrintWords Go.Proofs.YtkcpanpdipmmmaaW.PrintLast Go.Proofs.YtkcpanpdipmmmaaW.PrintMore Go.Proofs.Ytkcpanpdipmmmaa.P
open Go.Proofs.Ytkcpanpdipmmmaa.H (endsErr Right right_of)
theorem ends_zero {n : Int} {l : List S74} {s t : Int} (h : endsErr n l s t = 0) : ∃ n0 s0 t0 : Nat, n = n0 ∧ s = s0 ∧ t = t0 ∧ s0 < n0 ∧ t0 < n0 ∧ s0 ≠ t0 ∧ NetOk n0 l ∧ Right l (List.replicate l.length 0) n0 := by
 have hb : NetOk n l ∧ 0 ≤ s ∧ s < n ∧ 0 ≤ t ∧ t < n ∧ s ≠ t := by
  unfold endsErr at h
  by_cases hn : netErr n l = 0
  ·rw [if_pos hn] at h
   split at h
   ·rename_i he
    exact ⟨netErr_ok hn, he⟩
   ·cases h
  ·rw [if_neg hn] at h; exact absurd h hn
 obtain ⟨hn, h1, h2, h3, h4, h5⟩ := hb
 have hz : FlowOk l (List.replicate l.length 0) := by
  refine ⟨by simp, fun i hi => ?_⟩
  rw [List.length_replicate] at hi
  have ha := (hn.at_ (i := (i : Int)) (by omega) (by omega)).f2
  rw [rd_nat, List.getD_eq_getElem?_getD, List.getElem?_replicate, if_pos hi]
  exact ⟨Int.le_refl _, ha⟩
 obtain ⟨n0, rfl, hr⟩ := right_of (ask_of hn hz)
 exact ⟨n0, s.toNat, t.toNat, rfl, by omega, by omega, by omega, by omega, by omega, hn, hr⟩
end Go.Proofs.Ytkcpanpdipmmmaa.Q
namespace Go.Proofs.Ytkcpanpdipmmmaa.H
open Go.RowKit Go.Proofs.YtkcpanpdipmmmaaW.PrintWords Go.Proofs.YtkcpanpdipmmmaaW.PrintLast Go.Proofs.YtkcpanpdipmmmaaW.PrintMore Go.Proofs.Ytkcpanpdipmmmaa.P Go.Proofs.Ytkcpanpdipmmmaa.Q
theorem max_same {l : List S74} {F G : List Int} {n s t : Nat} (h : MaxF l F n s t) (g : MaxF l G n s t) (hs : s < n) (hst : s ≠ t) : bal l F s = bal l G s := by
 have h1 := max_top h hs hst g.flow
 have h2 := max_top g hs hst h.flow
 omega
theorem zeros_of {l : List S74} {F : List Int} {n s t : Nat} (h : Right l F n) : IsFlow l (List.replicate l.length 0) n s t ∧ bal l (List.replicate l.length 0) s = 0 :=
 zeros_flow h.pos h.fifty h.arcs h.ends (fun i hi => by have := h.nums i hi; exact ⟨this.1, this.2.1, by omega, by omega⟩)
theorem fill_max {l : List S74} {F : List Int} {n s t : Nat} (hr : Right l F n) (hs : s < n) (ht : t < n) (hst : s ≠ t) : MaxF l (fillF l n s t) n s t := by
 obtain ⟨h1, h2⟩ := zeros_of (s := s) (t := t) hr
 exact refill_max hs ht hst 300000000 h1 (by omega)
theorem reach_in {l : List S74} {F : List Int} {n s : Nat} (hr : Right l F n) (hs : s < n) (R : Int → Bool) (h0 : R s = true)
  (hR : ∀ e : S38, StepOf l e → 0 < stRoom l F e → R (stFrom l e) = true → R (stTo l e) = true) {v : Nat} (hv : v ∈ nodes (bfP l F n s)) : R v = true := by
 obtain ⟨x, hx, rfl⟩ := List.mem_map.1 hv
 have hu := (bfP_upto hr hs).fds
 have hl := (backL_spec hu esP_fr _ hx (Nat.le_refl _)).2
 have key : ∀ (L : List S38) (a b : Nat), Leads (toP l) (esP l F) a L b → R a = true → R b = true := by
  intro L
  induction L with
  | nil => intro a b h ha; have h : a = b := h; rw [← h]; exact ha
  | cons e L ih =>
   intro a b h ha
   obtain ⟨h1, h2⟩ := h
   obtain ⟨g1, g2⟩ := mem_esP.1 h1
   refine ih _ _ h2 ?_
   have hso := stL_of g1
   have hfr := stL_from g1
   have hto := stTo_in hr hso
   have := hR e hso g2 (by rw [hfr]; exact ha)
   unfold toP
   rw [Int.toNat_of_nonneg hto.1]
   exact this
 exact key _ _ _ hl h0
theorem tight_of (R : Int → Bool) : ∀ (l : List S74) (f : List Int), flowB l f = true → outR R l f = capR R l → Tightly R l f
 | [], [], _, _ => fun i hi => by simp at hi
 | [], _ :: _, h, _ => by simp [flowB] at h
 | _ :: _, [], h, _ => by simp [flowB] at h
 | a :: l, x :: f, h, he => by
  unfold flowB at h
  split at h
  ·cases h
  ·split at h
   ·cases h
   ·have h1 := outR_le R l f h
    rw [outR_cons, capR_cons] at he
    have ih := fun g => tight_of R l f h g
    intro i hi
    cases i with
    | zero =>
     have e : rd_T74 (a :: l) ((0 : Nat) : Int) = a := rfl
     rw [e]
     simp only [List.getD_cons_zero]
     cases h2 : R a.f0 <;> cases h3 : R a.f1 <;> rw [h2, h3] at he <;> simp at he ⊢ <;> omega
    | succ i =>
     have e : rd_T74 (a :: l) ((i + 1 : Nat) : Int) = rd_T74 l (i : Int) := by rw [rdArc_nat, rdArc_nat]; rfl
     rw [e, List.getD_cons_succ]
     refine ih ?_ i (by simpa using hi)
     cases h2 : R a.f0 <;> cases h3 : R a.f1 <;> rw [h2, h3] at he <;> simp at he <;> omega
theorem tight_closed {l : List S74} {F : List Int} {n : Nat} {s t : Int} (h : IsFlow l F n s t) (R : Int → Bool) (hs : R s = true) (ht : R t = false) (h0 : 0 ≤ s) (h1 : s < n) (he : bal l F s = capR R l) :
  ∀ e : S38, StepOf l e → 0 < stRoom l F e → R (stFrom l e) = true → R (stTo l e) = true := by
 rw [← sumR_ends n hs ht h0 h1 h.keeps, sum_bal R n l F (ends_arcs h.right.ends) h.right.len] at he
 have hT := tight_of R l F h.right.flowB he
 intro e hso hrm hf
 obtain ⟨i, hi, e2⟩ := hso
 have hi2 := hT i hi
 unfold stRoom at hrm
 unfold stFrom at hf
 unfold stTo
 rw [e2] at hrm hf ⊢
 rw [Int.toNat_natCast] at hrm
 unfold eFrom eTo at hf ⊢
 cases hb : e.f1 <;> rw [hb] at hrm hf <;> simp only [Bool.false_eq_true, if_false, if_true] at hrm hf ⊢
 ·cases hc : R (rd_T74 l i).f1
  ·have := hi2.1 hf hc; omega
  ·rfl
 ·cases hc : R (rd_T74 l i).f0
  ·have := hi2.2 hc hf; omega
  ·rfl
theorem least_side {l : List S74} {F : List Int} {n s : Nat} {t : Int} (h : IsFlow l F n s t) (hs : s < n) (R : Int → Bool) (h0 : R s = true) (ht : R t = false) (he : bal l F s = capR R l) {v : Nat} (hv : v ∈ nodes (bfP l F n s)) : R v = true :=
 reach_in h.right hs R h0 (tight_closed h R h0 ht (by omega) (by omega) he) hv
theorem sideP_iff {l : List S74} {F : List Int} {n s v : Nat} : sideP l F n s v = true ↔ v ∈ nodes (bfP l F n s) := by
 unfold sideP
 rw [decide_eq_true_eq, Int.toNat_natCast]
 exact ⟨fun h => h.2, fun h => ⟨by omega, h⟩⟩
theorem side_same {l : List S74} {F G : List Int} {n s t : Nat} (h : MaxF l F n s t) (g : MaxF l G n s t) (hs : s < n) (hst : s ≠ t) (v : Nat) : v ∈ nodes (bfP l F n s) ↔ v ∈ nodes (bfP l G n s) := by
 have e := max_same h g hs hst
 obtain ⟨h1, h2, h3⟩ := max_value h hs hst
 obtain ⟨g1, g2, g3⟩ := max_value g hs hst
 constructor
 ·intro hv; exact sideP_iff.1 (least_side h.flow hs (sideP l G n s) g2 g3 (by omega) hv)
 ·intro hv; exact sideP_iff.1 (least_side g.flow hs (sideP l F n s) h2 h3 (by omega) hv)
end Go.Proofs.Ytkcpanpdipmmmaa.H
namespace Go.Proofs.Ytkcpanpdipmmmaa.H
open Go.RowKit Go.Proofs.YtkcpanpdipmmmaaW.PrintWords Go.Proofs.YtkcpanpdipmmmaaW.PrintLast Go.Proofs.YtkcpanpdipmmmaaW.PrintMore Go.Proofs.Ytkcpanpdipmmmaa.P
open Go.Proofs.Ytkcpanpdipmmmaa.Q (bal ends_zero)
theorem heap_k74 : Kd.Heap k74 := Kd.heap_iso _ (Kd.heap_pair (Kd.heap_int _) (Kd.heap_pair (Kd.heap_int _) (Kd.heap_pair (Kd.heap_int _) (Kd.heap_int _))))
theorem made_ints (n : Nat) (hn : n ≤ 500) : ∀ W : World, (Instr.makeSlice 25 (.int .i64 (n : Int)) (.int .i64 (n : Int))).run Try.prog W = .ok (.slice (some ⟨W.heap.size, 0, none⟩) n n) (W.alloc (.cells (nums .i64 (List.replicate n 0)).toArray 3)) := by
 intro W
 rw [print_make 25 3 .i64 8 Try.underlying25 (by kernel_rfl) (by omega) n (by omega) W]
 have hl : (madeCells #[Value.int .i64 0] n) = (nums .i64 (List.replicate n 0)).toArray := by
  apply Array.ext'
  apply List.ext_getElem
  ·simp [nums, madeCells]
  ·intro i h1 h2
   simp [nums, madeCells, Nat.mod_one]
 rw [hl]
section
variable {n0 : Nat} {a0_1 : Bool} {A2 : Option Addr} {c2 : Nat} {l : List S74} {gF cF : Nat} {A4 : Option Addr} {c4 gx gn B B' : Nat} {vd : Value} {F : List Int} {nx : List Nat} {w w5 w7 wf : World}
theorem Fo.raise (h : Fo n0 a0_1 A2 c2 l gF cF A4 c4 gx gn B vd F nx w) (h1 : B ≤ B') (h2 : B' ≤ w.heap.size) : Fo n0 a0_1 A2 c2 l gF cF A4 c4 gx gn B' vd F nx w := by
 have hl := h.low
 exact ⟨h.x, h.nx, h.fl, Kd.F_mono h.arcs (fun k hk => ⟨by omega, hk.2⟩), Kd.F_mono h.rows (fun k hk => ⟨by omega, hk.2⟩), h2, ⟨by omega, by omega, by omega⟩, h.apart, h.ca, h.cf⟩
theorem Fo.made {base : Nat} {ok : Nat → Prop} (hb : Below w5.heap.size w5 wf) (hF : IsI w5 gF F) (ha : Kd.F k74 w5 (fun k => k < w5.heap.size ∧ k ≠ gF) A2 l.length l) (hS : Kd.S (Kd.slice 38 k38) 34 w7 base ok (.slice A4 n0 c4) (rowsAt l n0 n0)) (hb7 : Below w7.heap.size w7 wf) (hbase : w5.heap.size ≤ base)
  (hx : wf.heap[gx]? = some (.cells #[.int .i64 (n0 : Int), .bool a0_1, .slice A2 l.length c2, .slice (some ⟨gF, 0, none⟩) F.length cF, .slice A4 n0 c4, .slice none 0 0, .slice (some ⟨gn, 0, none⟩) n0 n0] 184 (0, 0)))
  (hn : IsI wf gn (List.replicate n0 0)) (h1 : w5.heap.size ≤ gn) (h2 : w7.heap.size ≤ gx) (h3 : gn ≠ gx) (h4 : gn < base ∨ w7.heap.size ≤ gn) (h57 : w5.heap.size ≤ w7.heap.size) (hca : l.length ≤ c2) (hcf : F.length ≤ cF) : Fo n0 a0_1 A2 c2 l gF cF A4 c4 gx gn wf.heap.size (.slice none 0 0) F (List.replicate n0 0) wf := by
 have hl5 := hF.lt
 have hn2 := hn.lt
 have hx2 := blk_lt hx
 have hr := Kd.F_below (Kd.S_F (Kd.S_bound hS)) hb7
 refine ⟨hx, by unfold nI; rw [List.map_replicate]; exact hn, hF.below hb, Kd.F_mono (Kd.F_below ha hb) (fun k hk => ?_), Kd.F_mono hr (fun k hk => ?_), Nat.le_refl _, ⟨hx2, hn2, ?_⟩, ⟨Ne.symm h3, by omega, by omega⟩, hca, hcf⟩
 ·have := hb.size; exact ⟨by omega, hk.2, by omega, by omega⟩
 ·have h5 := hk.2.1
  have h6 := hk.2.2.1
  exact ⟨by omega, by omega, by omega, by omega⟩
 ·have := hb.size; omega
end
theorem refill_stop {l : List S74} {n s t k : Nat} {F : List Int} (h : (dOf n (bfP l F n s)).getD t 0 < 0) : refillF l n s t (k + 1) F = F := by rw [refillF, if_pos h]
theorem refill_go {l : List S74} {n s t k : Nat} {F : List Int} (h : ¬ (dOf n (bfP l F n s)).getD t 0 < 0) : refillF l n s t (k + 1) F = refillF l n s t k (phaseF l (dOf n (bfP l F n s)) s t 300000000 F (List.replicate n 0)) := by rw [refillF, if_neg h]
def Rs (n0 : Nat) (a0_1 : Bool) (A2 : Option Addr) (c2 : Nat) (l : List S74) (gF cF : Nat) (A4 : Option Addr) (c4 gx gn : Nat) (s t : Nat) (R : List Int) (w w' : World) (k : Nat) : Prop :=
 ∃ (F : List Int) (nx : List Nat) (vd : Value) (B : Nat), IsFlow l F n0 s t ∧ 0 ≤ bal l F s ∧ nx.length = n0 ∧ 209715200 < (k : Int) + bal l F s ∧ refillF l n0 s t k F = R ∧ Fo n0 a0_1 A2 c2 l gF cF A4 c4 gx gn B vd F nx w' ∧ Ks (fun b => b = gx ∨ b = gF ∨ b = gn) w w'
set_option maxHeartbeats 20000000 in
set_option maxRecDepth 100000 in
theorem refill_calls (n0 : Nat) (a0_1 : Bool) (A2 : Option Addr) (c2 : Nat) (l : List S74) (gF cF : Nat) (F : List Int) (s t : Nat) (w : World)
  (hf : IsFlow l F n0 s t) (hb0 : 0 ≤ bal l F s) (hs : s < n0) (ht : t < n0) (hst : s ≠ t) (hF : IsI w gF F) (hcF : F.length ≤ cF) (ha : Kd.F k74 w (fun k => k < w.heap.size ∧ k ≠ gF) A2 l.length l) (hca : l.length ≤ c2) :
  Calls Try.prog 155 #[.agg #[.int .i64 (n0 : Int), .bool a0_1, .slice A2 l.length c2], .slice (some ⟨gF, 0, none⟩) F.length cF, .int .i64 (s : Int), .int .i64 (t : Int)] w fun e w' => e = .returned (.tuple #[]) ∧ IsI w' gF (refillF l n0 s t 300000000 F) ∧ Ks (fun b => b = gF) w w' := by
 have hu24 := Try.underlying24
 have hu184 := Try.underlying184
 have hn50 := hf.right.fifty
 have hmk := made_ints n0 (by omega)
 have HFL := Aside0.mk hf
 have HB0 := Aside0.mk hb0
 have HIF := Aside0.mk hF
 have HCF := Aside0.mk hcF
 have HAF := Aside0.mk ha
 have HCA := Aside0.mk hca
 have hgF := hF.lt
 obtain ⟨R, hR⟩ : ∃ R, R = refillF l n0 s t 300000000 F := ⟨_, rfl⟩
 rw [← hR]
 have HRR := Aside0.mk hR
 clear hf hb0 hF hcF ha hca hR
 go_enter Try.func155, Try.ntmps155
 go_upto_region 1 with (first | ((with_reducible refine gate_dst (N := 4) rfl ?_); refine box_event ?hg (N := 4) ?hd (cs := #[.int .i64 (n0 : Int), .bool a0_1, .slice A2 l.length c2]) (t := 24) ?hr ?_; (case hd => rfl); (case hg => rfl); (case hr => first | (go_simp; done) | (go_simp; rfl)); intro g4 hg4 w5 hbox hb; have B4 := Aside0.mk hbox; have HB := Aside0.mk hb; have HG4 := Aside0.mk hg4; clear hg4 hbox hb) | fail)
 have h0 : w5.cell? ⟨g4, 0, none⟩ = some (.int .i64 (n0 : Int)) := (blk_cell B4.out 0).trans rfl
 have h1 : w5.cell? ⟨g4, 1, none⟩ = some (.bool a0_1) := (blk_cell B4.out 1).trans rfl
 have h2 : w5.cell? ⟨g4, 2, none⟩ = some (.slice A2 l.length c2) := (blk_cell B4.out 2).trans rfl
 have hsz := HB.out.size
 have HIF5 := Aside0.mk (HIF.out.below HB.out)
 have HAF5 : Aside0 (Kd.F k74 w5 (fun k => k < w5.heap.size ∧ k ≠ gF) A2 l.length l) := ⟨Kd.F_mono (Kd.F_below HAF.out HB.out) (fun k hk => ⟨by omega, hk.2⟩)⟩
 have HC5 := Aside0.mk (Kd.F_now HAF5.out)
 simp only [Act.put, List.setIfInBounds_toArray, List.set_cons_zero, List.set_cons_succ]
 go_cut [8] (fun v8 wx => ∃ (gx gn : Nat) (A4 : Option Addr) (c4 : Nat), v8 = .pointer (some ⟨gx, 0, none⟩) ∧ Aside0 (Fo n0 a0_1 A2 c2 l gF cF A4 c4 gx gn wx.heap.size (.slice none 0 0) F (List.replicate n0 0) wx) ∧ Aside0 (Below w5.heap.size w5 wx) ∧ Aside0 (w5.heap.size ≤ gx ∧ w5.heap.size ≤ gn))
 case first =>
  go_region_held3 (fun w' => w'.cell? ⟨g4, 0, none⟩ = some (.int .i64 (n0 : Int)) ∧ w'.cell? ⟨g4, 1, none⟩ = some (.bool a0_1) ∧ w'.cell? ⟨g4, 2, none⟩ = some (.slice A2 l.length c2))
   (first | ((try dsimp only); (refine ⟨?_, ?_, ?_⟩) <;> first | (exact pw_cell_below (below_drew (Below.refl _ _)) (by assumption)) | (exact pw_cell_below (below_alloc (Below.refl _ _) _) (by assumption)) | (exact pw_cell_below hbr (by assumption)) | (exact pw_cell_below (below_alloc (below_step (below_drew (Below.refl w5.heap.size w5)) hbr) _) (by assumption)) | (exact pw_cell_below (below_step (below_drew (below_alloc (Below.refl w5.heap.size w5) _)) hbr) (by assumption)) | (exact pw_cell_below (below_step (below_drew (Below.refl w5.heap.size w5)) hbr) (by assumption))) | go_keep)
   (first | (go_at_call 101; refine (at_calls n0 a0_1 A2 c2 l (some ⟨gF, 0, none⟩) cF F.length _ ?hC HCA.out (by omega) (by omega) (by have := HFL.out.right.arcs; omega) (fun k hk => (HFL.out.right.ends k hk).1) (fun k hk => (HFL.out.right.ends k hk).2)).mono ?_; (case hC => first | exact HC5.out | exact Kd.C_below HC5.out (below_drew (Below.refl _ _)) | exact Kd.C_below HC5.out (below_drew (below_alloc (Below.refl _ _) _))); rintro e_ w7 ⟨vr, rfl, hS, hbr⟩; obtain ⟨A4, c4, ev⟩ := Kd.S_slice hS; subst ev; rw [rowsAt_len] at hS ⊢))
  ·go_wp2_with fail
   go_meet
   have hbb : Below w5.heap.size w5 w7 := below_step (below_drew (Below.refl w5.heap.size w5)) hbr
   have hsz7 := hbb.size
   refine ⟨w7.heap.size + 1, w7.heap.size, A4, c4, rfl, ⟨Fo.made (below_alloc (below_alloc hbb _) _) HIF5.out HAF5.out hS (below_alloc (below_alloc (Below.refl _ _) _) _) (by simp) ?_ (IsI.below (w := w7.alloc (.cells (nums .i64 (List.replicate n0 0)).toArray 3)) (heap_alloc_new w7 _) (below_alloc (Below.refl _ _) _)) (by omega) (by omega) (by omega) (.inr (Nat.le_refl _)) (by omega) HCA.out HCF.out⟩, ⟨below_alloc (below_alloc hbb _) _⟩, ⟨by omega, by omega⟩⟩
   have h_ := heap_alloc_new (w7.alloc (.cells (nums .i64 (List.replicate n0 0)).toArray 3)) (.cells #[.int .i64 (n0 : Int), .bool a0_1, .slice A2 l.length c2, .slice (some ⟨gF, 0, none⟩) F.length cF, .slice A4 n0 c4, .slice none 0 0, .slice (some ⟨w7.heap.size, 0, none⟩) n0 n0] 184)
   rw [show (w7.alloc (.cells (nums .i64 (List.replicate n0 0)).toArray 3)).heap.size = w7.heap.size + 1 by simp] at h_
   exact h_
  ·go_wp2_with fail
   go_meet
   have hbb : Below w5.heap.size w5 w7 := below_step (below_drew (below_alloc (Below.refl w5.heap.size w5) _)) hbr
   have hsz7 := hbr.size
   rw [show (w5.alloc (.cells (nums .i64 (List.replicate n0 0)).toArray 3)).drew.heap.size = w5.heap.size + 1 by simp] at hsz7
   refine ⟨w7.heap.size, w5.heap.size, A4, c4, rfl, ⟨Fo.made (below_alloc hbb _) HIF5.out HAF5.out hS (below_alloc (Below.refl _ _) _) (by simp) (heap_alloc_new w7 _) (IsI.below (w := w7) (IsI.below (w := (w5.alloc (.cells (nums .i64 (List.replicate n0 0)).toArray 3)).drew) (IsI.below (w := w5.alloc (.cells (nums .i64 (List.replicate n0 0)).toArray 3)) (heap_alloc_new w5 _) (below_drew (Below.refl _ _))) hbr) (below_alloc (Below.refl _ _) _)) (by omega) (by omega) (by omega) (.inl (by simp)) (by omega) HCA.out HCF.out⟩, ⟨below_alloc hbb _⟩, ⟨by omega, by omega⟩⟩
 case rest =>
  obtain ⟨gx, gn, A4, c4, rfl, HFO, HBC, HGX⟩ := hcut
  have HBW : Aside0 (Below w.heap.size w wc) := ⟨below_step HB.out HBC.out⟩
  have HGW : Aside0 (w.heap.size ≤ gx ∧ w.heap.size ≤ gn) := ⟨by have := HGX.out; omega⟩
  clear h0 h1 h2 hmk HIF5 HAF5 HC5 HIF HAF HB HBC B4 HGX HG4 hsz
  go_wp2_with fail
  go_loopw [] (fun w' => ∃ k, Rs n0 a0_1 A2 c2 l gF cF A4 c4 gx gn s t R wc w' k) (fun w' => least (fun k => Rs n0 a0_1 A2 c2 l gF cF A4 c4 gx gn s t R wc w' k))
  case atStart => exact ⟨300000000, F, List.replicate n0 0, .slice none 0 0, _, HFL.out, HB0.out, by simp, by have := HB0.out; omega, HRR.out.symm, HFO.out, Ks.refl _ _⟩
  case round =>
   clear HFO
   have hmin := least_spec hrel
   obtain ⟨kk, hkk⟩ : ∃ k_, k_ = least (fun k => Rs n0 a0_1 A2 c2 l gF cF A4 c4 gx gn s t R wc wr k) := ⟨_, rfl⟩
   rw [← hkk] at hmin
   have HLE := Aside0.mk hkk
   clear hrel hkk
   obtain ⟨G, nx, vd, B, hgf, hg0, hnl, hgk, hgp, hF, hK⟩ := hmin
   have hgt := flow_top hgf hs hst
   obtain ⟨k, rfl⟩ : ∃ k, kk = k + 1 := ⟨kk - 1, by omega⟩
   have HGF := Aside0.mk hgf
   have HG0 := Aside0.mk hg0
   have HGK := Aside0.mk hgk
   have HK := Aside0.mk hK
   have HFO := Aside0.mk (hF.raise hF.size (Nat.le_refl _))
   clear hgf hg0 hgk hF hK hgt
   by_cases hy : (dOf n0 (bfP l G n0 s)).getD t 0 < 0
   ·have hq : G = R := by rw [← hgp, refill_stop hy]
    have HQ := Aside0.mk hq
    have HY := Aside0.mk hy
    clear hq hgp
    obtain ⟨b, hb⟩ : ∃ b_, b_ = (!decide ((dOf n0 (bfP l G n0 s)).getD t 0 < 0)) := ⟨_, rfl⟩
    have hbf : b = false := by rw [hb, decide_eq_true hy]; rfl
    have HBE := Aside0.mk hb
    clear hy hb
    go_wp2_with (first | (go_at_call 168; refine (phase_calls n0 a0_1 A2 c2 l gF cF A4 c4 gx gn vd G s t nx _ HGF.out HG0.out hs ht hst hnl HFO.out).mono ?_; rintro e_ w8 ⟨vd', nx', rfl, hnl', hfo, hks⟩; rw [if_pos HY.out] at hfo; rw [← HBE.out]) | fail)
    refine bodyPost_end (results_none rfl _ _ _) rfl ⟨rfl, ?_, ?_⟩
    ·rw [← HQ.out]; exact hfo.fl
    ·refine ((Ks.of_below HBW.out (fun b => b = gF)).trans (HK.out.trans hks (fun b hb _ => hb)) (fun b hb hlt => ?_))
     have := HGW.out
     rcases hb with h_ | h_ | h_
     ·omega
     ·exact h_
     ·omega
   ·have hq : refillF l n0 s t k (phaseF l (dOf n0 (bfP l G n0 s)) s t 300000000 G (List.replicate n0 0)) = R := by rw [← hgp, refill_go hy]
    have HQ := Aside0.mk hq
    have HY := Aside0.mk hy
    obtain ⟨m1, m2⟩ := phase_grows HGF.out hs ht hst (by omega) 299999999
    have HM1 := Aside0.mk m1
    have HM2 := Aside0.mk m2
    clear hq hgp m1 m2
    obtain ⟨b, hb⟩ : ∃ b_, b_ = (!decide ((dOf n0 (bfP l G n0 s)).getD t 0 < 0)) := ⟨_, rfl⟩
    have hbf : b = true := by rw [hb, decide_eq_false hy]; rfl
    have HBE := Aside0.mk hb
    clear hy hb
    go_wp2_with (first | (go_at_call 168; refine (phase_calls n0 a0_1 A2 c2 l gF cF A4 c4 gx gn vd G s t nx _ HGF.out HG0.out hs ht hst hnl HFO.out).mono ?_; rintro e_ w8 ⟨vd', nx', rfl, hnl', hfo, hks⟩; rw [if_neg HY.out] at hfo; rw [← HBE.out]; have HFN := Aside0.mk hfo; have HKN := Aside0.mk hks; clear hfo hks) | fail)
    have hRs : Rs n0 a0_1 A2 c2 l gF cF A4 c4 gx gn s t R wc w8 k := by
     obtain ⟨H, hH⟩ : ∃ H_, H_ = phaseF l (dOf n0 (bfP l G n0 s)) s t 300000000 G (List.replicate n0 0) := ⟨_, rfl⟩
     have q1 := HM1.out
     have q2 := HM2.out
     rw [show 299999999 + 1 = 300000000 from rfl, ← hH] at q1 q2
     have q3 := HG0.out
     have q4 := HGK.out
     have q5 := HQ.out
     have q6 := HFN.out
     rw [← hH] at q5 q6
     exact ⟨H, nx', vd', _, q1, by omega, hnl', by omega, q5, q6, HK.out.trans HKN.out (fun b hb _ => hb)⟩
    go_roundw
    case rel => exact ⟨k, hRs⟩
    case measure => exact least_lt hRs (by rw [← HLE.out]; exact Nat.lt_succ_self k)
set_option maxHeartbeats 4000000 in
set_option maxRecDepth 100000 in
theorem maxflow_Fill_calls (a0_0 : Int) (a0_1 : Bool) (A0_2 : Option Addr) (c0_2 : Nat) (l0_2 : List S74) (a1 : Int) (a2 : Int) (r : List Int) (w : World) (hr0_2 : Kd.C k74 w A0_2 l0_2.length l0_2) (hc0_2 : l0_2.length ≤ c0_2) (h : (if endsErr a0_0 l0_2 a1 a2 = 0 then some (fillF l0_2 a0_0.toNat a1.toNat a2.toNat) else none) = some r) :
  Calls Try.prog 121 #[.agg #[.int .i64 a0_0, .bool a0_1, .slice A0_2 l0_2.length c0_2], .int .i64 a1, .int .i64 a2] w fun e w' => ∃ v0_ : Value, e = .returned (v0_) ∧ Kd.R (Kd.int .i64) 3 w' w.heap.size (fun _ => True) v0_ r ∧ Below w.heap.size w w' := by
 by_cases he : endsErr a0_0 l0_2 a1 a2 = 0
 ·rw [if_pos he] at h
  injection h with h
  obtain ⟨n0, s0, t0, rfl, rfl, rfl, hs, ht, hst, hn, hr⟩ := ends_zero he
  simp only [Int.toNat_natCast] at h
  have hM := fill_max hr hs ht hst
  have hlen : r.length = l0_2.length := by rw [← h]; exact hM.flow.right.len
  have HRE := Aside0.mk h
  have harc := hr.arcs
  have hmk := made_ints l0_2.length (by omega)
  obtain ⟨z1, z2⟩ := zeros_of (s := s0) (t := t0) hr
  have HZ1 := Aside0.mk z1
  have HZ2 := Aside0.mk z2
  have H2 := Aside0.mk hr0_2
  have HC2 := Aside0.mk hc0_2
  clear z1 z2 h he hn hr hM hr0_2 hc0_2
  go_enter Try.func121, Try.ntmps121
  go_upto_region 2 with (first | ((with_reducible refine gate_dst (N := 3) rfl ?_); refine box_event ?hg (N := 3) ?hd (cs := #[.int .i64 (n0 : Int), .bool a0_1, .slice A0_2 l0_2.length c0_2]) (t := 24) ?hr ?_; (case hd => rfl); (case hg => rfl); (case hr => first | (go_simp; done) | (go_simp; rfl)); intro g4 hg4 w5 hbox hb; have B4 := Aside0.mk hbox; have HB := Aside0.mk hb; clear hg4 hbox hb; have h2 : w5.cell? ⟨g4, 2, none⟩ = some (.slice A0_2 l0_2.length c0_2) := (blk_cell B4.out 2).trans rfl) | fail)
  have hIA : IsI (w5.alloc (.cells (nums .i64 (List.replicate l0_2.length 0)).toArray 3)) w5.heap.size (List.replicate l0_2.length 0) := heap_alloc_new w5 _
  have HB6 : Aside0 (Below w.heap.size w (w5.alloc (.cells (nums .i64 (List.replicate l0_2.length 0)).toArray 3))) := ⟨below_alloc HB.out _⟩
  have B6 : Aside0 ((w5.alloc (.cells (nums .i64 (List.replicate l0_2.length 0)).toArray 3)).heap[g4]? = _) := ⟨blk_below B4.out (below_alloc (Below.refl _ _) _)⟩
  have hgb : w.heap.size ≤ w5.heap.size := HB.out.size
  clear HB B4 h2 hmk
  generalize w5.alloc (.cells (nums .i64 (List.replicate l0_2.length 0)).toArray 3) = w6 at *
  generalize w5.heap.size = gF at *
  have HIA := Aside0.mk hIA
  clear hIA
  have h0 : w6.cell? ⟨g4, 0, none⟩ = some (.int .i64 (n0 : Int)) := (blk_cell B6.out 0).trans rfl
  have h1 : w6.cell? ⟨g4, 1, none⟩ = some (.bool a0_1) := (blk_cell B6.out 1).trans rfl
  have h2 : w6.cell? ⟨g4, 2, none⟩ = some (.slice A0_2 l0_2.length c0_2) := (blk_cell B6.out 2).trans rfl
  have key := refill_calls n0 a0_1 A0_2 c0_2 l0_2 gF l0_2.length (List.replicate l0_2.length 0) s0 t0 w6 HZ1.out (by rw [HZ2.out]; exact Int.le_refl _) hs ht hst HIA.out (by simp) (Kd.F_mono (Kd.F_below (Kd.C_F heap_k74 H2.out) (below_low (Nat.le_refl _) HB6.out)) (fun k hk => ⟨by have := HB6.out.size; omega, by omega⟩)) HC2.out
  rw [List.length_replicate] at key
  have HKEY := Aside0.mk key
  clear key
  go_wp2_with (first | (go_at_call 155; refine HKEY.out.mono ?_; rintro e_ w9 ⟨rfl, hI, hk⟩) | fail)
  go_ret
  have hI2 : IsI w9 gF r := by rw [← HRE.out]; exact hI
  have hR := hI2.R (base := w.heap.size) (ok := fun _ => True) (by omega) hgb trivial
  rw [hlen] at hR
  exact ⟨_, rfl, hR, hk.toBelow HB6.out HB6.out.size (fun b hb => by have hb : b = gF := hb; omega)⟩
 ·rw [if_neg he] at h; cases h
end Go.Proofs.Ytkcpanpdipmmmaa.H
namespace Go.Proofs.Ytkcpanpdipmmmaa.P
open Go.RowKit Go.Proofs.YtkcpanpdipmmmaaW.PrintWords Go.Proofs.YtkcpanpdipmmmaaW.PrintLast Go.Proofs.YtkcpanpdipmmmaaW.PrintMore
attribute [local go_sem] max2_int min2_int max_two min_two max_three min_three max_four min_four
def maxflow_Fill.f (a0_0 : Int) (a0_1 : Bool) (l0_2 : List (S74)) (a1 : Int) (a2 : Int) : Option (List Int) := (if H.endsErr a0_0 l0_2 a1 a2 = 0 then some (H.fillF l0_2 a0_0.toNat a1.toNat a2.toNat) else none)
theorem maxflow_Fill.calls (a0_0 : Int) (a0_1 : Bool) (A0_2 : Option Addr) (c0_2 : Nat) (l0_2 : List (S74)) (a1 : Int) (a2 : Int) (r : List Int) (w : World) (hr0_2 : Kd.C k74 w A0_2 l0_2.length l0_2) (hc0_2 : l0_2.length ≤ c0_2) (h : maxflow_Fill.f a0_0 a0_1 l0_2 a1 a2 = some r) :
  Calls Try.prog 121 #[.agg #[.int .i64 a0_0, .bool a0_1, .slice A0_2 l0_2.length c0_2], .int .i64 a1, .int .i64 a2] w fun e w' => ∃ v0_ : Value, e = .returned (v0_) ∧ Kd.R (Kd.int .i64) 3 w' w.heap.size (fun _ => True) v0_ r ∧ Below w.heap.size w w' := H.maxflow_Fill_calls a0_0 a0_1 A0_2 c0_2 l0_2 a1 a2 r w hr0_2 hc0_2 h
end Go.Proofs.Ytkcpanpdipmmmaa.P
namespace Go.Proofs.Ytkcpanpdipmmmaa.P
open Go.RowKit Go.Proofs.YtkcpanpdipmmmaaW.PrintWords Go.Proofs.YtkcpanpdipmmmaaW.PrintLast Go.Proofs.YtkcpanpdipmmmaaW.PrintMore
attribute [local go_sem] max2_int min2_int max_two min_two max_three min_three max_four min_four
def maxflow_Max.f (k : Nat) (a0_0 : Int) (a0_1 : Bool) (l0_2 : List (S74)) (a1 : Int) (a2 : Int) : Option (List Int × Int × Int) := (static_Ends.f k a0_0 a0_1 l0_2 a1 a2).bind fun t868 => (if t868 = 0 then ((maxflow_Fill.f a0_0 a0_1 l0_2 a1 a2).bind fun t869 => ((maxflow_Value.f k a0_0 a0_1 l0_2 a1 t869).bind fun t872 => (some (t869, t872, 0)))) else (some (([] : List Int), 0, t868)))
set_option maxHeartbeats 8000000 in
set_option maxRecDepth 100000 in
theorem maxflow_Max.calls (k : Nat) (a0_0 : Int) (a0_1 : Bool) (A0_2 : Option Addr) (c0_2 : Nat) (l0_2 : List (S74)) (a1 : Int) (a2 : Int) (r1 : List Int) (r2 : Int) (r3 : Int) (w : World) (hr0_2 : Kd.C k74 w A0_2 l0_2.length l0_2) (hc0_2 : l0_2.length ≤ c0_2) (h : maxflow_Max.f k a0_0 a0_1 l0_2 a1 a2 = some (r1, r2, r3)) :
  Calls Try.prog 76 #[.agg #[.int .i64 a0_0, .bool a0_1, .slice A0_2 l0_2.length c0_2], .int .i64 a1, .int .i64 a2] w fun e w' => ∃ v0_ : Value, e = .returned (.tuple #[v0_, .int .i64 r2, .int .i64 r3]) ∧ Kd.R (Kd.int .i64) 3 w' w.heap.size (fun _ => True) v0_ r1 ∧ Below w.heap.size w w' := by
 have hu24 := Try.underlying24
 have HR0_2 := Aside0.mk hr0_2
 have HC0_2 := Aside0.mk hc0_2
 clear hr0_2 hc0_2
 have HB := Aside0.mk (Below.refl w.heap.size w)
 have H : ((static_Ends.f k a0_0 a0_1 l0_2 a1 a2).bind fun t868 => (if t868 = 0 then ((maxflow_Fill.f a0_0 a0_1 l0_2 a1 a2).bind fun t869 => ((maxflow_Value.f k a0_0 a0_1 l0_2 a1 t869).bind fun t872 => (some (t869, t872, 0)))) else (some (([] : List Int), 0, t868)))) = some (r1, r2, r3) := h
 clear h
 replace H := Option.bind_eq_some_iff.mp H
 obtain ⟨t868, A40, H⟩ := H
 replace H : (if t868 = 0 then ((maxflow_Fill.f a0_0 a0_1 l0_2 a1 a2).bind fun t869 => ((maxflow_Value.f k a0_0 a0_1 l0_2 a1 t869).bind fun t872 => (some (t869, t872, 0)))) else (some (([] : List Int), 0, t868))) = some (r1, r2, r3) := H
 have A4 := Aside0.mk A40
 clear A40
 by_cases c5 : t868 = 0
 rotate_left
 ·rw [if_neg c5] at H
  have c5b0 : (t868 == 0) = false := beq_eq_false_iff_ne.mpr c5
  have c5b1 : (t868 != 0) = true := bne_iff_ne.mpr c5
  simp only [Option.some.injEq, Prod.mk.injEq] at H
  obtain ⟨rfl, rfl, rfl⟩ := H
  go_enter Try.func76, Try.ntmps76
  go_wp2_with (first | ((with_reducible refine gate_dst (N := 3) rfl ?_); refine box_event ?hg (N := 3) ?hd (cs := #[.int .i64 a0_0, .bool a0_1, .slice A0_2 l0_2.length c0_2]) (t := 24) ?hr ?_; (case hd => rfl); (case hg => rfl); (case hr => first | (go_simp; done) | (go_simp; rfl)); intro gb867 hg w16 hbox hb; have n0_ := Aside0.mk (below_step (by repeat (first | (with_reducible first | exact HB.out | apply below_alloc | apply pw_below_drewN | apply below_drew1) | exact HB.out)) hb); have n1_ := Aside0.mk (hbox); have n2_ := Aside0.mk ((by rw [hg]; exact (below_size (by repeat (first | (with_reducible first | exact HB.out | apply below_alloc | apply pw_below_drewN | apply below_drew1) | exact HB.out))) : w.heap.size ≤ gb867)); have n3_ := Aside0.mk ((by rw [hg]; exact (below_size (by repeat (first | (with_reducible first | exact HB.out | apply below_alloc | apply pw_below_drewN | apply below_drew1) | exact HB.out))) : w.heap.size ≤ gb867)); clear HB; have HB := n0_; have BK867 := n1_; have GW867 := n2_; have GE867 := n3_; clear n0_ n1_ n2_ n3_; clear hb hbox hg; have hcz17_0 : w16.cell? ⟨gb867, 0, none⟩ = some (.int .i64 a0_0) := (blk_cell BK867.out 0).trans rfl; have hcz17_1 : w16.cell? ⟨gb867, 1, none⟩ = some (.bool a0_1) := (blk_cell BK867.out 1).trans rfl; have hcz17_2 : w16.cell? ⟨gb867, 2, none⟩ = some (.slice A0_2 l0_2.length c0_2) := (blk_cell BK867.out 2).trans rfl; have hfz17_0 := blk_frozen BK867.out 0; have hfz17_1 := blk_frozen BK867.out 1; have hfz17_2 := blk_frozen BK867.out 2) | ((with_reducible refine gate_callee (f := 111) rfl ?_); refine goesL_ (some 12) rfl rfl Try.func111 (by kernel_rfl) rfl #[.agg #[.int .i64 a0_0, .bool a0_1, .slice A0_2 l0_2.length c0_2], .int .i64 a1, .int .i64 a2] rfl (by (try simp only [List.map_toArray, List.map_cons, List.map_nil]); first | done | rfl | (simp only [List.length_drop, List.length_take]; rfl)) ?_; (with_reducible refine (static_Ends.calls k a0_0 a0_1 _ _ l0_2 a1 a2 t868 _ ?side1 ?side2 A4.out).mono ?_); (case side1 => repeat (first | exact (Kd.C_below HR0_2.out HB.out) | (with_reducible refine Kd.C_alloc ?_ _) | (with_reducible refine Kd.C_drewN ?_ _) | (with_reducible refine Kd.C_drew ?_))); (case side2 => exact HC0_2.out); rintro e w18 ⟨rfl, hb⟩; refine ⟨_, rfl, ?_⟩; have n0_ := Aside0.mk (blk_below (g := gb867) (o := .cells #[.int .i64 a0_0, .bool a0_1, .slice A0_2 l0_2.length c0_2] 24 (0, 0)) (by (with_reducible repeat (first | refine blk_drewN ?_ _ | refine blk_drew ?_ | refine blk_alloc ?_ _)); exact BK867.out) hb); have n1_ := Aside0.mk (below_step (by repeat (first | (with_reducible first | exact HB.out | apply below_alloc | apply pw_below_drewN | apply below_drew1 | refine below_set ?_ GE867.out) | exact HB.out)) hb); clear BK867; clear HB; have BK867 := n0_; have HB := n1_; clear n0_ n1_; (try clear hb); (try clear hb2); (try clear hk); (try clear hi)))
  go_ret3
  exact ⟨_, by first | rfl | (simp [errW_none, errW_some] <;> rfl) | (simp [*, errW_none, errW_some] <;> rfl), by first | exact Kd.R_nil _ _ _ _ _ | exact Kd.N_nil _ _ _ _ _ | exact Kd.V_nil _ _ _ _ _ | exact Kd.Q_nil _ _ _ _ _ | exact Kd.S_nil _ _ _ _ _, by repeat (first | (with_reducible first | exact HB.out | apply below_alloc | apply pw_below_drewN | apply below_drew1 | refine below_set ?_ GE867.out) | exact HB.out)⟩
 rw [if_pos c5] at H
 have c5b0 : (t868 == 0) = true := beq_iff_eq.mpr c5
 have c5b1 : (t868 != 0) = false := bne_eq_false_iff_eq.mpr c5
 clear c5
 replace H := Option.bind_eq_some_iff.mp H
 obtain ⟨t869, A60, H⟩ := H
 replace H : ((maxflow_Value.f k a0_0 a0_1 l0_2 a1 t869).bind fun t872 => (some (t869, t872, 0))) = some (r1, r2, r3) := H
 have A6 := Aside0.mk A60
 clear A60
 replace H := Option.bind_eq_some_iff.mp H
 obtain ⟨t872, A70, H⟩ := H
 replace H : (some (t869, t872, 0)) = some (r1, r2, r3) := H
 have A7 := Aside0.mk A70
 clear A70
 simp only [Option.some.injEq, Prod.mk.injEq] at H
 obtain ⟨rfl, rfl, rfl⟩ := H
 go_enter Try.func76, Try.ntmps76
 go_wp2_with (first | ((with_reducible refine gate_dst (N := 3) rfl ?_); refine box_event ?hg (N := 3) ?hd (cs := #[.int .i64 a0_0, .bool a0_1, .slice A0_2 l0_2.length c0_2]) (t := 24) ?hr ?_; (case hd => rfl); (case hg => rfl); (case hr => first | (go_simp; done) | (go_simp; rfl)); intro gb867 hg w8 hbox hb; have n0_ := Aside0.mk (below_step (by repeat (first | (with_reducible first | exact HB.out | apply below_alloc | apply pw_below_drewN | apply below_drew1) | exact HB.out)) hb); have n1_ := Aside0.mk (hbox); have n2_ := Aside0.mk ((by rw [hg]; exact (below_size (by repeat (first | (with_reducible first | exact HB.out | apply below_alloc | apply pw_below_drewN | apply below_drew1) | exact HB.out))) : w.heap.size ≤ gb867)); have n3_ := Aside0.mk ((by rw [hg]; exact (below_size (by repeat (first | (with_reducible first | exact HB.out | apply below_alloc | apply pw_below_drewN | apply below_drew1) | exact HB.out))) : w.heap.size ≤ gb867)); clear HB; have HB := n0_; have BK867 := n1_; have GW867 := n2_; have GE867 := n3_; clear n0_ n1_ n2_ n3_; clear hb hbox hg; have hcz9_0 : w8.cell? ⟨gb867, 0, none⟩ = some (.int .i64 a0_0) := (blk_cell BK867.out 0).trans rfl; have hcz9_1 : w8.cell? ⟨gb867, 1, none⟩ = some (.bool a0_1) := (blk_cell BK867.out 1).trans rfl; have hcz9_2 : w8.cell? ⟨gb867, 2, none⟩ = some (.slice A0_2 l0_2.length c0_2) := (blk_cell BK867.out 2).trans rfl; have hfz9_0 := blk_frozen BK867.out 0; have hfz9_1 := blk_frozen BK867.out 1; have hfz9_2 := blk_frozen BK867.out 2) | ((with_reducible refine gate_callee (f := 111) rfl ?_); refine goesL_ (some 12) rfl rfl Try.func111 (by kernel_rfl) rfl #[.agg #[.int .i64 a0_0, .bool a0_1, .slice A0_2 l0_2.length c0_2], .int .i64 a1, .int .i64 a2] rfl (by (try simp only [List.map_toArray, List.map_cons, List.map_nil]); first | done | rfl | (simp only [List.length_drop, List.length_take]; rfl)) ?_; (with_reducible refine (static_Ends.calls k a0_0 a0_1 _ _ l0_2 a1 a2 t868 _ ?side1 ?side2 A4.out).mono ?_); (case side1 => repeat (first | exact (Kd.C_below HR0_2.out HB.out) | (with_reducible refine Kd.C_alloc ?_ _) | (with_reducible refine Kd.C_drewN ?_ _) | (with_reducible refine Kd.C_drew ?_))); (case side2 => exact HC0_2.out); rintro e w10 ⟨rfl, hb⟩; refine ⟨_, rfl, ?_⟩; have n0_ := Aside0.mk (blk_below (g := gb867) (o := .cells #[.int .i64 a0_0, .bool a0_1, .slice A0_2 l0_2.length c0_2] 24 (0, 0)) (by (with_reducible repeat (first | refine blk_drewN ?_ _ | refine blk_drew ?_ | refine blk_alloc ?_ _)); exact BK867.out) hb); have n1_ := Aside0.mk (below_step (by repeat (first | (with_reducible first | exact HB.out | apply below_alloc | apply pw_below_drewN | apply below_drew1 | refine below_set ?_ GE867.out) | exact HB.out)) hb); clear BK867; clear HB; have BK867 := n0_; have HB := n1_; clear n0_ n1_; (try clear hb); (try clear hb2); (try clear hk); (try clear hi); have hcz11_0 : w10.cell? ⟨gb867, 0, none⟩ = some (.int .i64 a0_0) := (blk_cell BK867.out 0).trans rfl; have hcz11_1 : w10.cell? ⟨gb867, 1, none⟩ = some (.bool a0_1) := (blk_cell BK867.out 1).trans rfl; have hcz11_2 : w10.cell? ⟨gb867, 2, none⟩ = some (.slice A0_2 l0_2.length c0_2) := (blk_cell BK867.out 2).trans rfl; have hfz11_0 := blk_frozen BK867.out 0; have hfz11_1 := blk_frozen BK867.out 1; have hfz11_2 := blk_frozen BK867.out 2) | ((with_reducible refine gate_callee (f := 121) rfl ?_); refine goesL_ (some 19) rfl rfl Try.func121 (by kernel_rfl) rfl #[.agg #[.int .i64 a0_0, .bool a0_1, .slice A0_2 l0_2.length c0_2], .int .i64 a1, .int .i64 a2] rfl (by (try simp only [List.map_toArray, List.map_cons, List.map_nil]); first | done | rfl | (simp only [List.length_drop, List.length_take]; rfl)) ?_; (with_reducible refine (maxflow_Fill.calls a0_0 a0_1 _ _ l0_2 a1 a2 t869 _ ?side1 ?side2 A6.out).mono ?_); (case side1 => repeat (first | exact (Kd.C_below HR0_2.out HB.out) | (with_reducible refine Kd.C_alloc ?_ _) | (with_reducible refine Kd.C_drewN ?_ _) | (with_reducible refine Kd.C_drew ?_))); (case side2 => exact HC0_2.out); rintro e w12 ⟨v870, rfl, ho0, hb⟩; refine ⟨_, rfl, ?_⟩; have n0_ := Aside0.mk (Kd.R_lower ho0 (below_size (by repeat (first | (with_reducible first | exact HB.out | apply below_alloc | apply pw_below_drewN | apply below_drew1 | refine below_set ?_ GE867.out) | exact HB.out)))); have n1_ := Aside0.mk (blk_below (g := gb867) (o := .cells #[.int .i64 a0_0, .bool a0_1, .slice A0_2 l0_2.length c0_2] 24 (0, 0)) (by (with_reducible repeat (first | refine blk_drewN ?_ _ | refine blk_drew ?_ | refine blk_alloc ?_ _)); exact BK867.out) hb); have n2_ := Aside0.mk (below_step (by repeat (first | (with_reducible first | exact HB.out | apply below_alloc | apply pw_below_drewN | apply below_drew1 | refine below_set ?_ GE867.out) | exact HB.out)) hb); clear BK867; clear HB; have HO871 := n0_; have BK867 := n1_; have HB := n2_; clear n0_ n1_ n2_; (try clear hb); (try clear hb2); (try clear hk); (try clear hi); (try clear ho0); have hcz13_0 : w12.cell? ⟨gb867, 0, none⟩ = some (.int .i64 a0_0) := (blk_cell BK867.out 0).trans rfl; have hcz13_1 : w12.cell? ⟨gb867, 1, none⟩ = some (.bool a0_1) := (blk_cell BK867.out 1).trans rfl; have hcz13_2 : w12.cell? ⟨gb867, 2, none⟩ = some (.slice A0_2 l0_2.length c0_2) := (blk_cell BK867.out 2).trans rfl; have hfz13_0 := blk_frozen BK867.out 0; have hfz13_1 := blk_frozen BK867.out 1; have hfz13_2 := blk_frozen BK867.out 2; obtain ⟨Ao14, co14, eo14⟩ := Kd.R_slice HO871.out; subst eo14) | ((with_reducible refine gate_callee (f := 119) rfl ?_); refine goesL_ (some 24) rfl rfl Try.func119 (by kernel_rfl) rfl #[.agg #[.int .i64 a0_0, .bool a0_1, .slice A0_2 l0_2.length c0_2], .int .i64 a1, .slice Ao14 t869.length co14] rfl (by (try simp only [List.map_toArray, List.map_cons, List.map_nil]); first | done | rfl | (simp only [List.length_drop, List.length_take]; rfl)) ?_; (with_reducible refine (maxflow_Value.calls k a0_0 a0_1 _ _ l0_2 a1 _ _ t869 t872 _ ?side1 ?side2 ?side3 ?side4 A7.out).mono ?_); (case side1 => repeat (first | exact (Kd.C_below HR0_2.out HB.out) | (with_reducible refine Kd.C_alloc ?_ _) | (with_reducible refine Kd.C_drewN ?_ _) | (with_reducible refine Kd.C_drew ?_))); (case side2 => exact HC0_2.out); (case side3 => repeat (first | exact (Kd.R_reads' HO871.out).2.2 | (with_reducible refine Kd.C_alloc ?_ _) | (with_reducible refine Kd.C_drewN ?_ _) | (with_reducible refine Kd.C_drew ?_))); (case side4 => exact (Kd.R_reads' HO871.out).2.1); rintro e w15 ⟨rfl, hb⟩; refine ⟨_, rfl, ?_⟩; have n0_ := Aside0.mk (Kd.R_below (by (with_reducible repeat (first | apply Kd.R_alloc | apply Kd.R_drewN | apply Kd.R_drew)); exact HO871.out) hb); have n1_ := Aside0.mk (blk_below (g := gb867) (o := .cells #[.int .i64 a0_0, .bool a0_1, .slice A0_2 l0_2.length c0_2] 24 (0, 0)) (by (with_reducible repeat (first | refine blk_drewN ?_ _ | refine blk_drew ?_ | refine blk_alloc ?_ _)); exact BK867.out) hb); have n2_ := Aside0.mk (below_step (by repeat (first | (with_reducible first | exact HB.out | apply below_alloc | apply pw_below_drewN | apply below_drew1 | refine below_set ?_ GE867.out) | exact HB.out)) hb); clear HO871; clear BK867; clear HB; have HO871 := n0_; have BK867 := n1_; have HB := n2_; clear n0_ n1_ n2_; (try clear hb); (try clear hb2); (try clear hk); (try clear hi)))
 go_ret3
 exact ⟨_, by first | rfl | (simp [errW_none, errW_some] <;> rfl) | (simp [*, errW_none, errW_some] <;> rfl), by (with_reducible repeat (first | apply Kd.R_alloc | apply Kd.R_drewN | apply Kd.R_drew)); exact HO871.out, by repeat (first | (with_reducible first | exact HB.out | apply below_alloc | apply pw_below_drewN | apply below_drew1 | refine below_set ?_ GE867.out) | exact HB.out)⟩
end Go.Proofs.Ytkcpanpdipmmmaa.P
namespace Go.Proofs.Ytkcpanpdipmmmaa.H
open Go.Proofs.Ytkcpanpdipmmmaa.P
def behindF (l : List S74) (F : List Int) (n s : Nat) : List Bool := (dOf n (bfP l F n s)).map fun k => decide (k ≥ 0)
end Go.Proofs.Ytkcpanpdipmmmaa.H
namespace Go.Proofs.Ytkcpanpdipmmmaa.P
open Go.RowKit Go.Proofs.YtkcpanpdipmmmaaW.PrintWords Go.Proofs.YtkcpanpdipmmmaaW.PrintLast Go.Proofs.YtkcpanpdipmmmaaW.PrintMore
attribute [local go_sem] max2_int min2_int max_two min_two max_three min_three max_four min_four
def mincut_reached.l0 : Nat → List Bool → List Int → Int → Int → Option (List Bool)
 | 0, _, _, _, _ => none
 | k + 1, x3, x9, x10, x11 => if x11 < x10 then (if 0 ≤ x11 then (if x11 < (x9.length : Int) then (if x11 < (x3.length : Int) then (mincut_reached.l0 k (x3.set (x11 : Int).toNat (decide ((rd x9 x11) ≥ 0))) x9 x10 (wrap64 (x11 + 1))) else (none)) else (none)) else (none)) else (some x3)
def mincut_reached.f (k : Nat) (l0 : List Int) : Option (List Bool) := if 0 ≤ (l0.length : Int) then (if ((l0.length : Int) : Int).toNat ≤ 281474976710656 then (mincut_reached.l0 k (List.replicate ((l0.length : Int) : Int).toNat false) l0 (l0.length : Int) 0) else (none)) else (none)
set_option maxHeartbeats 8000000 in
set_option maxRecDepth 100000 in
theorem mincut_reached.calls (k : Nat) (A0 : Option Addr) (c0 : Nat) (l0 : List Int) (r : List Bool) (w : World) (hr0 : Kd.C (Kd.int .i64) w A0 l0.length l0) (hc0 : l0.length ≤ c0) (h : mincut_reached.f k l0 = some r) :
  Calls Try.prog 128 #[.slice A0 l0.length c0] w fun e w' => ∃ v0_ : Value, e = .returned (v0_) ∧ Kd.R Kd.bool 4 w' w.heap.size (fun _ => True) v0_ r ∧ Below w.heap.size w w' := by
 have HR0 := Aside0.mk hr0
 have HC0 := Aside0.mk hc0
 clear hr0 hc0
 have HB := Aside0.mk (Below.refl w.heap.size w)
 have H : (if 0 ≤ (l0.length : Int) then (if ((l0.length : Int) : Int).toNat ≤ 281474976710656 then (mincut_reached.l0 k (List.replicate ((l0.length : Int) : Int).toNat false) l0 (l0.length : Int) 0) else (none)) else (none)) = some r := h
 clear h
 by_cases c2 : 0 ≤ (l0.length : Int)
 rotate_left
 ·rw [if_neg c2] at H
  exact absurd H (by simp)
 rw [if_pos c2] at H
 have c2b0 := eq_true c2
 have c2b1 : decide (0 ≤ (l0.length : Int)) = true := decide_eq_true c2
 clear c2
 by_cases c3 : ((l0.length : Int) : Int).toNat ≤ 281474976710656
 rotate_left
 ·rw [if_neg c3] at H
  exact absurd H (by simp)
 rw [if_pos c3] at H
 have c3b0 := eq_true c3
 have c3b1 : decide (((l0.length : Int) : Int).toNat ≤ 281474976710656) = true := decide_eq_true c3
 clear c3
 obtain ⟨y977, hy977⟩ : ∃ y_ : List Bool, y_ = (List.replicate ((l0.length : Int) : Int).toNat false) := ⟨_, rfl⟩
 replace H : (mincut_reached.l0 k y977 l0 (l0.length : Int) 0) = some r := by first | (rw [hy977]; with_reducible exact H) | (have H2_ := (Option.bind_some _ _).symm.trans H; rw [hy977]; with_reducible exact H2_) | (have H2_ := (Option.bind_some _ _).symm.trans H; with_reducible exact H2_) | with_reducible exact H | (rw [hy977]; exact H) | exact H
 have Ny977 := Aside0.mk hy977
 clear hy977
 have H' := Aside0.mk H
 clear H
 go_enter Try.func128, Try.ntmps128
 go_wp2_with (first | ((with_reducible refine gate_dst (N := 8) rfl ?_); refine Kd.R_make Kd.bool _ 4 rfl (N := 8) rfl 26 _ _ rfl (l0.length : Int) rfl rfl Try.underlying26 (.bool false) 1 info4 rfl (by decide) (by omega) false (ok := fun _ => True) (okp := fun _ => True) rfl (fun _ hk => hk) trivial (of_decide_eq_true (by first | (with_reducible assumption) | assumption)) (Nat.le_trans (Nat.mul_le_mul_right _ (of_decide_eq_true (by first | (with_reducible assumption) | assumption) : (l0.length : Int).toNat ≤ 281474976710656)) (by omega)) (Below.refl _ _) (Nat.le_refl _) ?_; intro v978 w4 ho5 hb hg_ hnew_; clear hg_ hnew_; (first | rw [← Ny977.out] at ho5 | (simp only [Int.reduceToNat] at ho5; rw [← Ny977.out] at ho5)); have n0_ := Aside0.mk (Kd.R_lower ho5 (below_size (by repeat (first | (with_reducible first | exact HB.out | apply below_alloc | apply pw_below_drewN | apply below_drew1) | exact HB.out)))); have n1_ := Aside0.mk (below_step (by repeat (first | (with_reducible first | exact HB.out | apply below_alloc | apply pw_below_drewN | apply below_drew1) | exact HB.out)) hb); clear HB; have HO979 := n0_; have HB := n1_; clear n0_ n1_; clear hb ho5))
 go_loopg [11] k (fun kq v11 w' => ∃ (x3_1 : List Bool) (x11_1 : Int), v11 = .int .i64 x11_1 ∧ Aside0 (mincut_reached.l0 kq x3_1 l0 (l0.length : Int) x11_1 = some r) ∧ Aside0 (kq ≤ k) ∧ Aside0 (Kd.R Kd.bool 4 w' w.heap.size (fun _ => True) v978 x3_1) ∧ Aside0 (Below w.heap.size w w'))
 case atStart => exact ⟨(y977), (0), (by first | rfl | (simp; done) | (simp [*]; done)), H', ⟨Nat.le_refl _⟩, ⟨by (with_reducible repeat (first | apply Kd.R_alloc | apply Kd.R_drewN | apply Kd.R_drew)); exact HO979.out⟩, ⟨by repeat (first | (with_reducible first | exact HB.out | apply below_alloc | apply pw_below_drewN | apply below_drew1) | exact HB.out)⟩⟩
 case round =>
  clear H'
  try clear c1
  try clear c2
  try clear c2b0
  try clear c2b1
  try clear p2
  try clear c3
  try clear c3b0
  try clear c3b1
  obtain ⟨x3_1, x11_1, rfl, HA, HK1, HO_3, HB⟩ := hrel
  cases gk with
  | zero => exact absurd HA.out (by simp [mincut_reached.l0])
  | succ k1 =>
   have H := HA.out
   clear HA
   simp only [mincut_reached.l0] at H
   by_cases c6 : x11_1 < (l0.length : Int)
   rotate_left
   ·rw [if_neg c6] at H
    have c6b0 : decide (x11_1 < (l0.length : Int)) = false := decide_eq_false c6
    clear c6
    obtain rfl := Option.some.inj H
    go_wp2
    go_ret
    exact ⟨_, by first | rfl | (simp [errW_none, errW_some] <;> rfl) | (simp [*, errW_none, errW_some] <;> rfl), by (with_reducible repeat (first | apply Kd.R_alloc | apply Kd.R_drewN | apply Kd.R_drew)); exact HO_3.out, by repeat (first | (with_reducible first | exact HB.out | apply below_alloc | apply pw_below_drewN | apply below_drew1) | exact HB.out)⟩
   rw [if_pos c6] at H
   have c6b0 : decide (x11_1 < (l0.length : Int)) = true := decide_eq_true c6
   clear c6
   by_cases c7 : 0 ≤ x11_1
   rotate_left
   ·rw [if_neg c7] at H
    exact absurd H (by simp)
   rw [if_pos c7] at H
   have c7b0 : decide (0 ≤ x11_1) = true := decide_eq_true c7
   clear c7
   by_cases c8 : x11_1 < (l0.length : Int)
   rotate_left
   ·rw [if_neg c8] at H
    exact absurd H (by simp)
   rw [if_pos c8] at H
   have c8b0 : decide (x11_1 < (l0.length : Int)) = true := decide_eq_true c8
   clear c8
   by_cases c9 : x11_1 < (x3_1.length : Int)
   rotate_left
   ·rw [if_neg c9] at H
    exact absurd H (by simp)
   rw [if_pos c9] at H
   have c9b0 : decide (x11_1 < (x3_1.length : Int)) = true := decide_eq_true c9
   clear c9
   obtain ⟨y981, hy981⟩ : ∃ y_ : List Bool, y_ = (x3_1.set (x11_1 : Int).toNat (decide ((rd l0 x11_1) ≥ 0))) := ⟨_, rfl⟩
   replace H : (mincut_reached.l0 k1 y981 l0 (l0.length : Int) (wrap64 (x11_1 + 1))) = some r := by first | (rw [hy981]; with_reducible exact H) | (have H2_ := (Option.bind_some _ _).symm.trans H; rw [hy981]; with_reducible exact H2_) | (have H2_ := (Option.bind_some _ _).symm.trans H; with_reducible exact H2_) | with_reducible exact H | (rw [hy981]; exact H) | exact H
   have Ny981 := Aside0.mk hy981
   clear hy981
   have H' := Aside0.mk H
   clear H
   have p980 : 0 ≤ (x11_1 : Int) := of_decide_eq_true (by first | (with_reducible assumption) | assumption)
   have q980 : x11_1 < (l0.length : Int) := of_decide_eq_true (by first | (with_reducible assumption) | assumption)
   obtain ⟨ad980, e980, hx980_0⟩ := Kd.at_int HR0.out x11_1 p980 q980
   cases e980
   replace hx980_0 := (HB.out.cell (World.block_lt_of_cell? w _ hx980_0)).trans hx980_0
   replace p980 := eq_true p980
   replace q980 := eq_true q980
   have p10 : 0 ≤ (x11_1 : Int) := of_decide_eq_true (by first | (with_reducible assumption) | assumption)
   have q10 : (x11_1 : Int) < ((x3_1.length : Int) : Int) := of_decide_eq_true (by first | (with_reducible assumption) | assumption)
   obtain ⟨go10, co10, eo10, gb10, gl10, cl10, HG10⟩ := Kd.R_form HO_3.out (by omega)
   (first | cases eo10 | (injection eo10 with ea_ en_ ec_; (first | subst ea_ | (injection ea_ with ea_; subst ea_)); subst ec_; clear en_))
   have GB10 := Aside0.mk gb10
   have GG10 := Aside0.mk HG10
   clear gb10 gl10 HG10
   obtain ⟨hx10_0, hf10_0⟩ := Kd.R_celln false HO_3.out (x11_1 : Int) p10 q10
   replace p10 := eq_true p10
   replace q10 := eq_true q10
   have HP11 := Kd.R_putg HO_3.out (x11_1 : Int) (decide ((rd l0 x11_1) ≥ 0))
   go_wp2_with (first | ((with_reducible refine gate_store (t := 4) (p := 20) rfl ?_); refine store_event (t := 4) (p := 20) (v := ?vo_w12) (w1 := (wr.setCell ⟨go10, (x11_1 : Int).toNat, none⟩ (.bool (decide ((rd l0 x11_1) ≥ 0))))) ?hg ?ho ?hn ?hr ?_; (case ho => rfl); (case hg => rfl); (case hn => rfl); (case hr => first | (go_simp; done) | (go_simp; rfl)); intro w12 hw; have hg : wr.grownBy w12 (some go10) := (by rw [hw]; exact HP11.2); have hp_ : Kd.R Kd.bool 4 w12 w.heap.size (fun _ => True) (.slice (some ⟨go10, 0, none⟩) x3_1.length co10) y981 := (by rw [hw, Ny981.out]; exact HP11.1); clear HP11; have n0_ := Aside0.mk (hp_); have n1_ := Aside0.mk ((by rw [hw]; exact below_set (HB.out) GB10.out : Below w.heap.size w w12)); clear HO_3; clear HB; have HO_3 := n0_; have HB := n1_; clear n0_ n1_; clear hg hw hp_))
   go_roundg k1
   case measure => have := HK1.out; omega
   case rel => exact ⟨(y981), (wrap64 (x11_1 + 1)), (by first | rfl | (simp; done) | (simp [*]; done)), H', ⟨by have := HK1.out; omega⟩, ⟨by (with_reducible repeat (first | apply Kd.R_alloc | apply Kd.R_drewN | apply Kd.R_drew)); exact HO_3.out⟩, ⟨by repeat (first | (with_reducible first | exact HB.out | apply below_alloc | apply pw_below_drewN | apply below_drew1) | exact HB.out)⟩⟩
end Go.Proofs.Ytkcpanpdipmmmaa.P
namespace Go.Proofs.Ytkcpanpdipmmmaa.Q
open Go.RowKit Go.Proofs.YtkcpanpdipmmmaaW.PrintWords Go.Proofs.YtkcpanpdipmmmaaW.PrintLast Go.Proofs.YtkcpanpdipmmmaaW.PrintMore Go.Proofs.Ytkcpanpdipmmmaa.P
def farB (d : List Int) : List Bool := d.map fun k => decide (k ≥ 0)
theorem reached_l0 (d : List Int) (hd : d.length ≤ 1000000) (m : Nat) : ∀ i : Nat, i + m = d.length →
  Ev (fun k => mincut_reached.l0 k (farB (d.take i) ++ List.replicate (d.length - i) false) d (d.length : Int) (i : Int)) (farB d) := by
 induction m with
 | zero =>
  intro i hi
  refine Ev.succ ?_; simp only [mincut_reached.l0]
  refine Ev.neg (by omega) ?_
  refine Ev.done ?_
  rw [List.take_of_length_le (by omega), show d.length - i = 0 by omega, List.replicate_zero, List.append_nil]
 | succ m ih =>
  intro i hi
  have hnx := ih (i + 1) (by omega)
  have e : (farB (d.take i) ++ List.replicate (d.length - i) false).set i (decide (rd d (i : Int) ≥ 0)) = farB (d.take (i + 1)) ++ List.replicate (d.length - (i + 1)) false := by
   rw [rd_nat, List.getD_eq_getElem?_getD, List.getElem?_eq_getElem (by omega)]
   rw [show d.length - i = (d.length - (i + 1)) + 1 by omega, List.replicate_succ]
   have hl : (farB (d.take i)).length = i := by unfold farB; rw [List.length_map, List.length_take]; omega
   rw [List.set_append, if_neg (by omega), hl, Nat.sub_self, List.set_cons_zero]
   rw [List.take_add_one, List.getElem?_eq_getElem (by omega)]
   unfold farB
   rw [List.map_append, List.append_assoc]
   rfl
  rw [← e] at hnx
  refine Ev.succ ?_; simp only [mincut_reached.l0]
  refine Ev.pos (by omega) ?_
  refine Ev.pos (by omega) ?_
  refine Ev.pos (by omega) ?_
  refine Ev.pos (by unfold farB; rw [List.length_append, List.length_map, List.length_take, List.length_replicate]; omega) ?_
  rw [wrap_succ (n := d.length) (by omega) (by omega), Int.toNat_natCast]
  exact hnx
theorem reached_ev (d : List Int) (hd : d.length ≤ 1000000) : Ev (fun k => mincut_reached.f k d) (farB d) := by
 unfold mincut_reached.f
 refine Ev.pos (by omega) ?_
 refine Ev.pos (by omega) ?_
 rw [Int.toNat_natCast]
 exact reached_l0 d hd d.length 0 (by omega)
end Go.Proofs.Ytkcpanpdipmmmaa.Q
namespace Go.Proofs.Ytkcpanpdipmmmaa.H
open Go.RowKit Go.Proofs.YtkcpanpdipmmmaaW.PrintWords Go.Proofs.YtkcpanpdipmmmaaW.PrintLast Go.Proofs.YtkcpanpdipmmmaaW.PrintMore Go.Proofs.Ytkcpanpdipmmmaa.P Go.Proofs.Ytkcpanpdipmmmaa.Q
set_option maxHeartbeats 4000000 in
set_option maxRecDepth 100000 in
theorem mincut_Behind_calls (a0_0 : Int) (a0_1 : Bool) (A0_2 : Option Addr) (c0_2 : Nat) (l0_2 : List S74) (A1 : Option Addr) (c1 : Nat) (l1 : List Int) (a2 : Int) (r : List Bool) (w : World) (hr0_2 : Kd.C k74 w A0_2 l0_2.length l0_2) (hc0_2 : l0_2.length ≤ c0_2) (hr1 : Kd.C (Kd.int .i64) w A1 l1.length l1) (hc1 : l1.length ≤ c1) (h : (if askErr a0_0 l0_2 l1 = 0 ∧ 0 ≤ a2 ∧ a2 < a0_0 then some (behindF l0_2 l1 a0_0.toNat a2.toNat) else none) = some r) :
  Calls Try.prog 124 #[.agg #[.int .i64 a0_0, .bool a0_1, .slice A0_2 l0_2.length c0_2], .slice A1 l1.length c1, .int .i64 a2] w fun e w' => ∃ v0_ : Value, e = .returned (v0_) ∧ Kd.R Kd.bool 4 w' w.heap.size (fun _ => True) v0_ r ∧ Below w.heap.size w w' := by
 by_cases he : askErr a0_0 l0_2 l1 = 0 ∧ 0 ≤ a2 ∧ a2 < a0_0
 ·rw [if_pos he] at h
  injection h with h
  obtain ⟨h0, h1, h2⟩ := he
  obtain ⟨n0, rfl, hR⟩ := right_of h0
  obtain ⟨s0, rfl⟩ : ∃ s0 : Nat, a2 = s0 := ⟨a2.toNat, by omega⟩
  rw [Int.toNat_natCast, Int.toNat_natCast] at h
  have hs0 : s0 < n0 := by omega
  have hn50 := hR.fifty
  have harc := hR.arcs
  obtain ⟨K, hK⟩ := reached_ev (dOf n0 (bfP l0_2 l1 n0 s0)) (by rw [dOf_len]; omega)
  have hr := hK K (Nat.le_refl _)
  have hb : farB (dOf n0 (bfP l0_2 l1 n0 s0)) = r := h
  rw [hb] at hr
  have HRC := Aside0.mk hr
  have HR := Aside0.mk hR
  have H2 := Aside0.mk hr0_2
  have H3 := Aside0.mk hr1
  have HC2 := Aside0.mk hc0_2
  have HC1 := Aside0.mk hc1
  clear h h0 h1 h2 hK hr hb hR hr0_2 hr1 hc0_2 hc1
  go_enter Try.func124, Try.ntmps124
  go_wp2_with (first | ((with_reducible refine gate_dst (N := 3) rfl ?_); refine box_event ?hg (N := 3) ?hd (cs := #[.int .i64 (n0 : Int), .bool a0_1, .slice A0_2 l0_2.length c0_2]) (t := 24) ?hr ?_; (case hd => rfl); (case hg => rfl); (case hr => first | (go_simp; done) | (go_simp; rfl)); intro g4 hg4 w5 hbox hb; have B4 := Aside0.mk hbox; have HB := Aside0.mk hb; clear hg4 hbox hb; have h0 : w5.cell? ⟨g4, 0, none⟩ = some (.int .i64 (n0 : Int)) := (blk_cell B4.out 0).trans rfl; have h1 : w5.cell? ⟨g4, 1, none⟩ = some (.bool a0_1) := (blk_cell B4.out 1).trans rfl; have h2 : w5.cell? ⟨g4, 2, none⟩ = some (.slice A0_2 l0_2.length c0_2) := (blk_cell B4.out 2).trans rfl) | (go_at_call 101; refine (at_calls n0 a0_1 A0_2 c0_2 l0_2 A1 c1 l1.length _ (Kd.C_below H2.out HB.out) HC2.out (by omega) (by omega) (by omega) (fun k hk => (HR.out.ends k hk).1) (fun k hk => (HR.out.ends k hk).2)).mono ?_; rintro e_ w7 ⟨vr, rfl, hS, hb⟩; obtain ⟨A4, c4, ev⟩ := Kd.S_slice hS; subst ev; have H4 := Aside0.mk (Kd.S_reads' hS).2.2; rw [rowsAt_len] at H4 ⊢; have n0_ := Aside0.mk (below_step HB.out hb); clear HB hb hS h0 h1 h2; have HB := n0_; clear n0_) | (go_at_call 108; refine (far_calls n0 a0_1 A0_2 c0_2 l0_2 A1 c1 l1 A4 c4 s0 _ HR.out hs0 HC2.out HC1.out (Kd.C_below H2.out HB.out) (Kd.C_below H3.out HB.out) H4.out).mono ?_; rintro e_ w8 ⟨gd, rfl, hge, hd, hb⟩; have HD := Aside0.mk hd; have n0_ := Aside0.mk (below_step HB.out hb); clear HB hb hd hge; have HB := n0_; clear n0_; have HCD : Aside0 (Kd.C (Kd.int .i64) w8 (some ⟨gd, 0, none⟩) n0 (dOf n0 (bfP l0_2 l1 n0 s0))) := ⟨by have h_ := (Kd.R_reads' (HD.out.R (by rw [dOf_len]; omega) (base := 0) (Nat.zero_le _) (ok := fun _ => True) trivial)).2.2; rw [dOf_len] at h_; exact h_⟩) | (go_at_call 128; have key := mincut_reached.calls K (some ⟨gd, 0, none⟩) n0 (dOf n0 (bfP l0_2 l1 n0 s0)) r w8 (by rw [dOf_len]; exact HCD.out) (by rw [dOf_len]; exact Nat.le_refl _) HRC.out; rw [dOf_len] at key; refine key.mono ?_; rintro e_ w9 ⟨v0, rfl, hr9, hb⟩; have HR9 := Aside0.mk (Kd.R_lower hr9 HB.out.size); have n0_ := Aside0.mk (below_step HB.out hb); clear HB hb hr9; have HB := n0_; clear n0_) | fail)
  go_ret
  exact ⟨_, rfl, HR9.out, HB.out⟩
 ·rw [if_neg he] at h; cases h
end Go.Proofs.Ytkcpanpdipmmmaa.H
namespace Go.Proofs.Ytkcpanpdipmmmaa.P
open Go.RowKit Go.Proofs.YtkcpanpdipmmmaaW.PrintWords Go.Proofs.YtkcpanpdipmmmaaW.PrintLast Go.Proofs.YtkcpanpdipmmmaaW.PrintMore
attribute [local go_sem] max2_int min2_int max_two min_two max_three min_three max_four min_four
def mincut_Behind.f (a0_0 : Int) (a0_1 : Bool) (l0_2 : List (S74)) (l1 : List Int) (a2 : Int) : Option (List Bool) := (if Q.askErr a0_0 l0_2 l1 = 0 ∧ 0 ≤ a2 ∧ a2 < a0_0 then some (H.behindF l0_2 l1 a0_0.toNat a2.toNat) else none)
theorem mincut_Behind.calls (a0_0 : Int) (a0_1 : Bool) (A0_2 : Option Addr) (c0_2 : Nat) (l0_2 : List (S74)) (A1 : Option Addr) (c1 : Nat) (l1 : List Int) (a2 : Int) (r : List Bool) (w : World) (hr0_2 : Kd.C k74 w A0_2 l0_2.length l0_2) (hc0_2 : l0_2.length ≤ c0_2) (hr1 : Kd.C (Kd.int .i64) w A1 l1.length l1) (hc1 : l1.length ≤ c1) (h : mincut_Behind.f a0_0 a0_1 l0_2 l1 a2 = some r) :
  Calls Try.prog 124 #[.agg #[.int .i64 a0_0, .bool a0_1, .slice A0_2 l0_2.length c0_2], .slice A1 l1.length c1, .int .i64 a2] w fun e w' => ∃ v0_ : Value, e = .returned (v0_) ∧ Kd.R Kd.bool 4 w' w.heap.size (fun _ => True) v0_ r ∧ Below w.heap.size w w' := H.mincut_Behind_calls a0_0 a0_1 A0_2 c0_2 l0_2 A1 c1 l1 a2 r w hr0_2 hc0_2 hr1 hc1 h
end Go.Proofs.Ytkcpanpdipmmmaa.P
namespace Go.Proofs.Ytkcpanpdipmmmaa.P
open Go.RowKit Go.Proofs.YtkcpanpdipmmmaaW.PrintWords Go.Proofs.YtkcpanpdipmmmaaW.PrintLast Go.Proofs.YtkcpanpdipmmmaaW.PrintMore
attribute [local go_sem] max2_int min2_int max_two min_two max_three min_three max_four min_four
def mincut_takes.l0 : Nat → List Bool → Int → List (S74) → Int → Int → Option (Int)
 | 0, _, _, _, _, _ => none
 | k + 1, x1, x5, x9, x10, x11 => if x11 < x10 then (if 0 ≤ x11 then (if x11 < (x9.length : Int) then (if 0 ≤ ((rd_T74 x9 x11).f0) then (if ((rd_T74 x9 x11).f0) < (x1.length : Int) then (if rdOf false x1 ((rd_T74 x9 x11).f0) = true then (if 0 ≤ ((rd_T74 x9 x11).f1) then (if ((rd_T74 x9 x11).f1) < (x1.length : Int) then (if (rdOf false x1 ((rd_T74 x9 x11).f1) = true) then (mincut_takes.l0 k x1 x5 x9 x10 (wrap64 (x11 + 1))) else (mincut_takes.l0 k x1 (wrap64 (x5 + ((rd_T74 x9 x11).f2))) x9 x10 (wrap64 (x11 + 1)))) else (none)) else (none)) else (mincut_takes.l0 k x1 x5 x9 x10 (wrap64 (x11 + 1)))) else (none)) else (none)) else (none)) else (none)) else (some x5)
def mincut_takes.f (k : Nat) (a0_0 : Int) (a0_1 : Bool) (l0_2 : List (S74)) (l1 : List Bool) : Option (Int) := mincut_takes.l0 k l1 0 l0_2 (l0_2.length : Int) 0
set_option maxHeartbeats 8000000 in
set_option maxRecDepth 100000 in
theorem mincut_takes.calls (k : Nat) (a0_0 : Int) (a0_1 : Bool) (A0_2 : Option Addr) (c0_2 : Nat) (l0_2 : List (S74)) (A1 : Option Addr) (c1 : Nat) (l1 : List Bool) (r : Int) (w : World) (hr0_2 : Kd.C k74 w A0_2 l0_2.length l0_2) (hc0_2 : l0_2.length ≤ c0_2) (hr1 : Kd.C Kd.bool w A1 l1.length l1) (hc1 : l1.length ≤ c1) (h : mincut_takes.f k a0_0 a0_1 l0_2 l1 = some r) :
  Calls Try.prog 125 #[.agg #[.int .i64 a0_0, .bool a0_1, .slice A0_2 l0_2.length c0_2], .slice A1 l1.length c1] w fun e w' => e = .returned (.int .i64 r) ∧ Below w.heap.size w w' := by
 have hu24 := Try.underlying24
 have hu74 := Try.underlying74
 have HR0_2 := Aside0.mk hr0_2
 have HC0_2 := Aside0.mk hc0_2
 clear hr0_2 hc0_2
 have HR1 := Aside0.mk hr1
 have HC1 := Aside0.mk hc1
 clear hr1 hc1
 have HB := Aside0.mk (Below.refl w.heap.size w)
 have H : (mincut_takes.l0 k l1 0 l0_2 (l0_2.length : Int) 0) = some r := h
 clear h
 have H' := Aside0.mk H
 clear H
 go_enter Try.func125, Try.ntmps125
 go_wp2_with (first | ((with_reducible refine gate_dst (N := 2) rfl ?_); refine box_event ?hg (N := 2) ?hd (cs := #[.int .i64 a0_0, .bool a0_1, .slice A0_2 l0_2.length c0_2]) (t := 24) ?hr ?_; (case hd => rfl); (case hg => rfl); (case hr => first | (go_simp; done) | (go_simp; rfl)); intro gb983 hg w3 hbox hb; have n0_ := Aside0.mk (below_step (by repeat (first | (with_reducible first | exact HB.out | apply below_alloc | apply pw_below_drewN | apply below_drew1) | exact HB.out)) hb); have n1_ := Aside0.mk (hbox); have n2_ := Aside0.mk ((by rw [hg]; exact (below_size (by repeat (first | (with_reducible first | exact HB.out | apply below_alloc | apply pw_below_drewN | apply below_drew1) | exact HB.out))) : w.heap.size ≤ gb983)); have n3_ := Aside0.mk ((by rw [hg]; exact (below_size (by repeat (first | (with_reducible first | exact HB.out | apply below_alloc | apply pw_below_drewN | apply below_drew1) | exact HB.out))) : w.heap.size ≤ gb983)); clear HB; have HB := n0_; have BK983 := n1_; have GW983 := n2_; have GE983 := n3_; clear n0_ n1_ n2_ n3_; clear hb hbox hg; have hcz4_0 : w3.cell? ⟨gb983, 0, none⟩ = some (.int .i64 a0_0) := (blk_cell BK983.out 0).trans rfl; have hcz4_1 : w3.cell? ⟨gb983, 1, none⟩ = some (.bool a0_1) := (blk_cell BK983.out 1).trans rfl; have hcz4_2 : w3.cell? ⟨gb983, 2, none⟩ = some (.slice A0_2 l0_2.length c0_2) := (blk_cell BK983.out 2).trans rfl; have hfz4_0 := blk_frozen BK983.out 0; have hfz4_1 := blk_frozen BK983.out 1; have hfz4_2 := blk_frozen BK983.out 2))
 go_loopg [5, 11] k (fun kq v5 v11 w' => ∃ (x5_1 : Int) (x11_1 : Int), v5 = .int .i64 x5_1 ∧ v11 = .int .i64 x11_1 ∧ Aside0 (mincut_takes.l0 kq l1 x5_1 l0_2 (l0_2.length : Int) x11_1 = some r) ∧ Aside0 (kq ≤ k) ∧ Aside0 (w'.heap[gb983]? = some (.cells #[.int .i64 a0_0, .bool a0_1, (.slice A0_2 l0_2.length c0_2)] 24 (0, 0))) ∧ Aside0 (Below w.heap.size w w'))
 case atStart => exact ⟨(0), (0), (by first | rfl | (simp; done) | (simp [*]; done)), (by first | rfl | (simp; done) | (simp [*]; done)), H', ⟨Nat.le_refl _⟩, ⟨by (with_reducible repeat (first | refine blk_drewN ?_ _ | refine blk_drew ?_ | refine blk_alloc ?_ _)); exact BK983.out⟩, ⟨by repeat (first | (with_reducible first | exact HB.out | apply below_alloc | apply pw_below_drewN | apply below_drew1 | refine below_set ?_ GE983.out) | exact HB.out)⟩⟩
 case round =>
  clear H'
  try clear c1
  try clear p2
  try clear hcz4_0
  try clear hcz4_1
  try clear hcz4_2
  try clear hfz4_0
  try clear hfz4_1
  try clear hfz4_2
  obtain ⟨x5_1, x11_1, rfl, rfl, HA, HK1, BK983, HB⟩ := hrel
  cases gk with
  | zero => exact absurd HA.out (by simp [mincut_takes.l0])
  | succ k1 =>
   have H := HA.out
   clear HA
   simp only [mincut_takes.l0] at H
   by_cases c5 : x11_1 < (l0_2.length : Int)
   rotate_left
   ·rw [if_neg c5] at H
    have c5b0 : decide (x11_1 < (l0_2.length : Int)) = false := decide_eq_false c5
    clear c5
    obtain rfl := Option.some.inj H
    go_wp2
    go_ret
    exact ⟨by first | rfl | (simp [errW_none, errW_some] <;> rfl) | (simp [*, errW_none, errW_some] <;> rfl), by repeat (first | (with_reducible first | exact HB.out | apply below_alloc | apply pw_below_drewN | apply below_drew1 | refine below_set ?_ GE983.out) | exact HB.out)⟩
   rw [if_pos c5] at H
   have c5b0 : decide (x11_1 < (l0_2.length : Int)) = true := decide_eq_true c5
   clear c5
   by_cases c6 : 0 ≤ x11_1
   rotate_left
   ·rw [if_neg c6] at H
    exact absurd H (by simp)
   rw [if_pos c6] at H
   have c6b0 : decide (0 ≤ x11_1) = true := decide_eq_true c6
   clear c6
   by_cases c7 : x11_1 < (l0_2.length : Int)
   rotate_left
   ·rw [if_neg c7] at H
    exact absurd H (by simp)
   rw [if_pos c7] at H
   have c7b0 : decide (x11_1 < (l0_2.length : Int)) = true := decide_eq_true c7
   clear c7
   by_cases c8 : 0 ≤ ((rd_T74 l0_2 x11_1).f0)
   rotate_left
   ·rw [if_neg c8] at H
    exact absurd H (by simp)
   rw [if_pos c8] at H
   have c8b0 : decide (0 ≤ ((rd_T74 l0_2 x11_1).f0)) = true := decide_eq_true c8
   clear c8
   by_cases c9 : ((rd_T74 l0_2 x11_1).f0) < (l1.length : Int)
   rotate_left
   ·rw [if_neg c9] at H
    exact absurd H (by simp)
   rw [if_pos c9] at H
   have c9b0 : decide (((rd_T74 l0_2 x11_1).f0) < (l1.length : Int)) = true := decide_eq_true c9
   clear c9
   obtain ⟨bq10, hbq10⟩ : ∃ b_ : Bool, b_ = (rdOf false l1 ((rd_T74 l0_2 x11_1).f0)) := ⟨_, rfl⟩
   replace H : (if bq10 = true then (if 0 ≤ ((rd_T74 l0_2 x11_1).f1) then (if ((rd_T74 l0_2 x11_1).f1) < (l1.length : Int) then (if (rdOf false l1 ((rd_T74 l0_2 x11_1).f1) = true) then (mincut_takes.l0 k1 l1 x5_1 l0_2 (l0_2.length : Int) (wrap64 (x11_1 + 1))) else (mincut_takes.l0 k1 l1 (wrap64 (x5_1 + ((rd_T74 l0_2 x11_1).f2))) l0_2 (l0_2.length : Int) (wrap64 (x11_1 + 1)))) else (none)) else (none)) else (mincut_takes.l0 k1 l1 x5_1 l0_2 (l0_2.length : Int) (wrap64 (x11_1 + 1)))) = some r := by rw [← hbq10] at H; exact H
   have Nbq10 := Aside0.mk hbq10
   clear hbq10
   by_cases c11 : bq10 = true
   rotate_left
   ·replace c11 := Bool.eq_false_iff.mpr c11
    subst c11
    have H1 : (mincut_takes.l0 k1 l1 x5_1 l0_2 (l0_2.length : Int) (wrap64 (x11_1 + 1))) = some r := by rw [if_neg (show ¬ (false = true) by decide)] at H; exact H
    clear H
    have H := H1
    clear H1
    have H' := Aside0.mk H
    clear H
    have p984 : 0 ≤ (x11_1 : Int) := of_decide_eq_true (by first | (with_reducible assumption) | assumption)
    have q984 : x11_1 < (l0_2.length : Int) := of_decide_eq_true (by first | (with_reducible assumption) | assumption)
    obtain ⟨ad984, e984, hx984_0, hx984_1, hx984_2, hx984_3⟩ := at_T74 HR0_2.out x11_1 p984 q984
    cases e984
    replace hx984_0 := (HB.out.cell (World.block_lt_of_cell? w _ hx984_0)).trans hx984_0
    replace hx984_1 := (HB.out.cell (World.block_lt_of_cell? w _ hx984_1)).trans hx984_1
    replace hx984_2 := (HB.out.cell (World.block_lt_of_cell? w _ hx984_2)).trans hx984_2
    replace hx984_3 := (HB.out.cell (World.block_lt_of_cell? w _ hx984_3)).trans hx984_3
    replace p984 := eq_true p984
    replace q984 := eq_true q984
    go_wp2_with (first | ((with_reducible refine gate_dst (N := 7) rfl ?_); refine box_event ?hg (N := 7) ?hd (cs := #[.int .i64 0, .int .i64 0, .int .i64 0, .int .i64 0]) (t := 74) ?hr ?_; (case hd => rfl); (case hg => rfl); (case hr => first | (go_simp; done) | (go_simp; rfl)); intro gb985 hg w22 hbox hb; have n0_ := Aside0.mk (blk_below (g := gb983) (o := .cells #[.int .i64 a0_0, .bool a0_1, .slice (some ad984) l0_2.length c0_2] 24 (0, 0)) (by (with_reducible repeat (first | refine blk_drewN ?_ _ | refine blk_drew ?_ | refine blk_alloc ?_ _)); exact BK983.out) hb); have n1_ := Aside0.mk (below_step (by repeat (first | (with_reducible first | exact HB.out | apply below_alloc | apply pw_below_drewN | apply below_drew1 | refine below_set ?_ GE983.out) | exact HB.out)) hb); have n2_ := Aside0.mk (hbox); have n3_ := Aside0.mk ((by rw [hg]; exact (below_size (by repeat (first | (with_reducible first | exact HB.out | apply below_alloc | apply pw_below_drewN | apply below_drew1 | refine below_set ?_ GE983.out) | exact HB.out))) : w.heap.size ≤ gb985)); have n4_ := Aside0.mk ((by rw [hg]; exact (below_size (by repeat (first | (with_reducible first | exact HB.out | apply below_alloc | apply pw_below_drewN | apply below_drew1 | refine below_set ?_ GE983.out) | exact HB.out))) : w.heap.size ≤ gb985)); have n5_ := Aside0.mk ((by rw [hg]; exact Nat.ne_of_lt (blk_lt (g := gb983) (o := .cells #[.int .i64 a0_0, .bool a0_1, .slice (some ad984) l0_2.length c0_2] 24 (0, 0)) (by (with_reducible repeat (first | refine blk_drewN ?_ _ | refine blk_drew ?_ | refine blk_alloc ?_ _)); exact BK983.out)) : gb983 ≠ gb985)); have n6_ := Aside0.mk ((by rw [hg]; exact Nat.ne_of_gt (blk_lt (g := gb983) (o := .cells #[.int .i64 a0_0, .bool a0_1, .slice (some ad984) l0_2.length c0_2] 24 (0, 0)) (by (with_reducible repeat (first | refine blk_drewN ?_ _ | refine blk_drew ?_ | refine blk_alloc ?_ _)); exact BK983.out)) : gb985 ≠ gb983)); clear BK983; clear HB; have BK983 := n0_; have HB := n1_; have BK985 := n2_; have GW985 := n3_; have GE985 := n4_; have NB983_985 := n5_; have NB985_983 := n6_; clear n0_ n1_ n2_ n3_ n4_ n5_ n6_; clear hb hbox hg; have hnb23 := NB985_983.out; have hnc23 := NB983_985.out; have hcz24_0 : w22.cell? ⟨gb985, 0, none⟩ = some (.int .i64 0) := (blk_cell BK985.out 0).trans rfl; have hcz24_1 : w22.cell? ⟨gb985, 1, none⟩ = some (.int .i64 0) := (blk_cell BK985.out 1).trans rfl; have hcz24_2 : w22.cell? ⟨gb985, 2, none⟩ = some (.int .i64 0) := (blk_cell BK985.out 2).trans rfl; have hcz24_3 : w22.cell? ⟨gb985, 3, none⟩ = some (.int .i64 0) := (blk_cell BK985.out 3).trans rfl; have hfz24_0 := blk_frozen BK985.out 0; have hfz24_1 := blk_frozen BK985.out 1; have hfz24_2 := blk_frozen BK985.out 2; have hfz24_3 := blk_frozen BK985.out 3; have p986 : 0 ≤ (((rd_T74 l0_2 x11_1).f0) : Int) := of_decide_eq_true (by first | (with_reducible assumption) | assumption); have q986 : ((rd_T74 l0_2 x11_1).f0) < (l1.length : Int) := of_decide_eq_true (by first | (with_reducible assumption) | assumption); obtain ⟨ad986, e986, hx986_0⟩ := Kd.at_bool HR1.out ((rd_T74 l0_2 x11_1).f0) p986 q986; (try rw [← Nbq10.out] at hx986_0); cases e986; have hn986_0 : ad986.block ≠ gb985 := Nat.ne_of_lt (Nat.lt_of_lt_of_le (by have := World.block_lt_of_cell? _ _ hx986_0; first | rwa [add_block] at this | exact this) GW985.out); have hn986_1 : ad986.block ≠ gb985 := Nat.ne_of_lt (Nat.lt_of_lt_of_le (by have := World.block_lt_of_cell? _ _ hx986_0; first | rwa [add_block] at this | exact this) GW985.out); have hn986_2 : ad986.block ≠ gb985 := Nat.ne_of_lt (Nat.lt_of_lt_of_le (by have := World.block_lt_of_cell? _ _ hx986_0; first | rwa [add_block] at this | exact this) GW985.out); have hn986_3 : ad986.block ≠ gb985 := Nat.ne_of_lt (Nat.lt_of_lt_of_le (by have := World.block_lt_of_cell? _ _ hx986_0; first | rwa [add_block] at this | exact this) GW985.out); replace hx986_0 := (HB.out.cell (World.block_lt_of_cell? w _ hx986_0)).trans hx986_0; replace hx986_0 := (cell_far (p := ⟨gb985, 0, none⟩) (by first | (rw [add_block]; exact hn986_0) | (show (Addr.add _ _).block ≠ _; rw [add_block]; exact hn986_0) | exact hn986_0) (.int .i64 ((rd_T74 l0_2 x11_1).f0))).trans hx986_0; replace hx986_0 := (cell_far (p := ⟨gb985, 1, none⟩) (by first | (rw [add_block]; exact hn986_1) | (show (Addr.add _ _).block ≠ _; rw [add_block]; exact hn986_1) | exact hn986_1) (.int .i64 ((rd_T74 l0_2 x11_1).f1))).trans hx986_0; replace hx986_0 := (cell_far (p := ⟨gb985, 2, none⟩) (by first | (rw [add_block]; exact hn986_2) | (show (Addr.add _ _).block ≠ _; rw [add_block]; exact hn986_2) | exact hn986_2) (.int .i64 ((rd_T74 l0_2 x11_1).f2))).trans hx986_0; replace hx986_0 := (cell_far (p := ⟨gb985, 3, none⟩) (by first | (rw [add_block]; exact hn986_3) | (show (Addr.add _ _).block ≠ _; rw [add_block]; exact hn986_3) | exact hn986_3) (.int .i64 ((rd_T74 l0_2 x11_1).f3))).trans hx986_0; clear hn986_0; clear hn986_1; clear hn986_2; clear hn986_3; replace p986 := eq_true p986; replace q986 := eq_true q986))
    go_roundg k1
    case measure => have := HK1.out; omega
    case rel => exact ⟨(x5_1), (wrap64 (x11_1 + 1)), (by first | rfl | (simp; done) | (simp [*]; done)), (by first | rfl | (simp; done) | (simp [*]; done)), H', ⟨by have := HK1.out; omega⟩, ⟨by (with_reducible repeat (first | refine blk_drewN ?_ _ | refine blk_drew ?_ | refine blk_alloc ?_ _)); refine blk_far ?_ NB983_985.out _; (with_reducible repeat (first | refine blk_drewN ?_ _ | refine blk_drew ?_ | refine blk_alloc ?_ _)); refine blk_far ?_ NB983_985.out _; (with_reducible repeat (first | refine blk_drewN ?_ _ | refine blk_drew ?_ | refine blk_alloc ?_ _)); refine blk_far ?_ NB983_985.out _; (with_reducible repeat (first | refine blk_drewN ?_ _ | refine blk_drew ?_ | refine blk_alloc ?_ _)); refine blk_far ?_ NB983_985.out _; (with_reducible repeat (first | refine blk_drewN ?_ _ | refine blk_drew ?_ | refine blk_alloc ?_ _)); exact BK983.out⟩, ⟨by repeat (first | (with_reducible first | exact HB.out | apply below_alloc | apply pw_below_drewN | apply below_drew1 | refine below_set ?_ GE983.out | refine below_set ?_ GE985.out) | exact HB.out)⟩⟩
   subst c11
   have H1 : (if 0 ≤ ((rd_T74 l0_2 x11_1).f1) then (if ((rd_T74 l0_2 x11_1).f1) < (l1.length : Int) then (if (rdOf false l1 ((rd_T74 l0_2 x11_1).f1) = true) then (mincut_takes.l0 k1 l1 x5_1 l0_2 (l0_2.length : Int) (wrap64 (x11_1 + 1))) else (mincut_takes.l0 k1 l1 (wrap64 (x5_1 + ((rd_T74 l0_2 x11_1).f2))) l0_2 (l0_2.length : Int) (wrap64 (x11_1 + 1)))) else (none)) else (none)) = some r := by first | (rw [if_pos rfl] at H; exact H) | (rw [if_pos trivial] at H; exact H)
   clear H
   have H := H1
   clear H1
   by_cases c12 : 0 ≤ ((rd_T74 l0_2 x11_1).f1)
   rotate_left
   ·rw [if_neg c12] at H
    exact absurd H (by simp)
   rw [if_pos c12] at H
   have c12b0 : decide (0 ≤ ((rd_T74 l0_2 x11_1).f1)) = true := decide_eq_true c12
   clear c12
   by_cases c13 : ((rd_T74 l0_2 x11_1).f1) < (l1.length : Int)
   rotate_left
   ·rw [if_neg c13] at H
    exact absurd H (by simp)
   rw [if_pos c13] at H
   have c13b0 : decide (((rd_T74 l0_2 x11_1).f1) < (l1.length : Int)) = true := decide_eq_true c13
   clear c13
   obtain ⟨bq14, hbq14⟩ : ∃ b_ : Bool, b_ = (rdOf false l1 ((rd_T74 l0_2 x11_1).f1)) := ⟨_, rfl⟩
   replace H : (if (bq14 = true) then (mincut_takes.l0 k1 l1 x5_1 l0_2 (l0_2.length : Int) (wrap64 (x11_1 + 1))) else (mincut_takes.l0 k1 l1 (wrap64 (x5_1 + ((rd_T74 l0_2 x11_1).f2))) l0_2 (l0_2.length : Int) (wrap64 (x11_1 + 1)))) = some r := by rw [← hbq14] at H; exact H
   have Nbq14 := Aside0.mk hbq14
   clear hbq14
   by_cases c15 : (bq14 = true)
   ·subst c15
    have H1 : (mincut_takes.l0 k1 l1 x5_1 l0_2 (l0_2.length : Int) (wrap64 (x11_1 + 1))) = some r := by first | (rw [if_pos rfl] at H; exact H) | (rw [if_pos trivial] at H; exact H)
    clear H
    have H := H1
    clear H1
    have H' := Aside0.mk H
    clear H
    have p984 : 0 ≤ (x11_1 : Int) := of_decide_eq_true (by first | (with_reducible assumption) | assumption)
    have q984 : x11_1 < (l0_2.length : Int) := of_decide_eq_true (by first | (with_reducible assumption) | assumption)
    obtain ⟨ad984, e984, hx984_0, hx984_1, hx984_2, hx984_3⟩ := at_T74 HR0_2.out x11_1 p984 q984
    cases e984
    replace hx984_0 := (HB.out.cell (World.block_lt_of_cell? w _ hx984_0)).trans hx984_0
    replace hx984_1 := (HB.out.cell (World.block_lt_of_cell? w _ hx984_1)).trans hx984_1
    replace hx984_2 := (HB.out.cell (World.block_lt_of_cell? w _ hx984_2)).trans hx984_2
    replace hx984_3 := (HB.out.cell (World.block_lt_of_cell? w _ hx984_3)).trans hx984_3
    replace p984 := eq_true p984
    replace q984 := eq_true q984
    go_wp2_with (first | ((with_reducible refine gate_dst (N := 7) rfl ?_); refine box_event ?hg (N := 7) ?hd (cs := #[.int .i64 0, .int .i64 0, .int .i64 0, .int .i64 0]) (t := 74) ?hr ?_; (case hd => rfl); (case hg => rfl); (case hr => first | (go_simp; done) | (go_simp; rfl)); intro gb985 hg w16 hbox hb; have n0_ := Aside0.mk (blk_below (g := gb983) (o := .cells #[.int .i64 a0_0, .bool a0_1, .slice (some ad984) l0_2.length c0_2] 24 (0, 0)) (by (with_reducible repeat (first | refine blk_drewN ?_ _ | refine blk_drew ?_ | refine blk_alloc ?_ _)); exact BK983.out) hb); have n1_ := Aside0.mk (below_step (by repeat (first | (with_reducible first | exact HB.out | apply below_alloc | apply pw_below_drewN | apply below_drew1 | refine below_set ?_ GE983.out) | exact HB.out)) hb); have n2_ := Aside0.mk (hbox); have n3_ := Aside0.mk ((by rw [hg]; exact (below_size (by repeat (first | (with_reducible first | exact HB.out | apply below_alloc | apply pw_below_drewN | apply below_drew1 | refine below_set ?_ GE983.out) | exact HB.out))) : w.heap.size ≤ gb985)); have n4_ := Aside0.mk ((by rw [hg]; exact (below_size (by repeat (first | (with_reducible first | exact HB.out | apply below_alloc | apply pw_below_drewN | apply below_drew1 | refine below_set ?_ GE983.out) | exact HB.out))) : w.heap.size ≤ gb985)); have n5_ := Aside0.mk ((by rw [hg]; exact Nat.ne_of_lt (blk_lt (g := gb983) (o := .cells #[.int .i64 a0_0, .bool a0_1, .slice (some ad984) l0_2.length c0_2] 24 (0, 0)) (by (with_reducible repeat (first | refine blk_drewN ?_ _ | refine blk_drew ?_ | refine blk_alloc ?_ _)); exact BK983.out)) : gb983 ≠ gb985)); have n6_ := Aside0.mk ((by rw [hg]; exact Nat.ne_of_gt (blk_lt (g := gb983) (o := .cells #[.int .i64 a0_0, .bool a0_1, .slice (some ad984) l0_2.length c0_2] 24 (0, 0)) (by (with_reducible repeat (first | refine blk_drewN ?_ _ | refine blk_drew ?_ | refine blk_alloc ?_ _)); exact BK983.out)) : gb985 ≠ gb983)); clear BK983; clear HB; have BK983 := n0_; have HB := n1_; have BK985 := n2_; have GW985 := n3_; have GE985 := n4_; have NB983_985 := n5_; have NB985_983 := n6_; clear n0_ n1_ n2_ n3_ n4_ n5_ n6_; clear hb hbox hg; have hnb17 := NB985_983.out; have hnc17 := NB983_985.out; have hcz18_0 : w16.cell? ⟨gb985, 0, none⟩ = some (.int .i64 0) := (blk_cell BK985.out 0).trans rfl; have hcz18_1 : w16.cell? ⟨gb985, 1, none⟩ = some (.int .i64 0) := (blk_cell BK985.out 1).trans rfl; have hcz18_2 : w16.cell? ⟨gb985, 2, none⟩ = some (.int .i64 0) := (blk_cell BK985.out 2).trans rfl; have hcz18_3 : w16.cell? ⟨gb985, 3, none⟩ = some (.int .i64 0) := (blk_cell BK985.out 3).trans rfl; have hfz18_0 := blk_frozen BK985.out 0; have hfz18_1 := blk_frozen BK985.out 1; have hfz18_2 := blk_frozen BK985.out 2; have hfz18_3 := blk_frozen BK985.out 3; have p986 : 0 ≤ (((rd_T74 l0_2 x11_1).f0) : Int) := of_decide_eq_true (by first | (with_reducible assumption) | assumption); have q986 : ((rd_T74 l0_2 x11_1).f0) < (l1.length : Int) := of_decide_eq_true (by first | (with_reducible assumption) | assumption); obtain ⟨ad986, e986, hx986_0⟩ := Kd.at_bool HR1.out ((rd_T74 l0_2 x11_1).f0) p986 q986; (try rw [← Nbq10.out] at hx986_0); (try rw [← Nbq14.out] at hx986_0); cases e986; have hn986_0 : ad986.block ≠ gb985 := Nat.ne_of_lt (Nat.lt_of_lt_of_le (by have := World.block_lt_of_cell? _ _ hx986_0; first | rwa [add_block] at this | exact this) GW985.out); have hn986_1 : ad986.block ≠ gb985 := Nat.ne_of_lt (Nat.lt_of_lt_of_le (by have := World.block_lt_of_cell? _ _ hx986_0; first | rwa [add_block] at this | exact this) GW985.out); have hn986_2 : ad986.block ≠ gb985 := Nat.ne_of_lt (Nat.lt_of_lt_of_le (by have := World.block_lt_of_cell? _ _ hx986_0; first | rwa [add_block] at this | exact this) GW985.out); have hn986_3 : ad986.block ≠ gb985 := Nat.ne_of_lt (Nat.lt_of_lt_of_le (by have := World.block_lt_of_cell? _ _ hx986_0; first | rwa [add_block] at this | exact this) GW985.out); replace hx986_0 := (HB.out.cell (World.block_lt_of_cell? w _ hx986_0)).trans hx986_0; replace hx986_0 := (cell_far (p := ⟨gb985, 0, none⟩) (by first | (rw [add_block]; exact hn986_0) | (show (Addr.add _ _).block ≠ _; rw [add_block]; exact hn986_0) | exact hn986_0) (.int .i64 ((rd_T74 l0_2 x11_1).f0))).trans hx986_0; replace hx986_0 := (cell_far (p := ⟨gb985, 1, none⟩) (by first | (rw [add_block]; exact hn986_1) | (show (Addr.add _ _).block ≠ _; rw [add_block]; exact hn986_1) | exact hn986_1) (.int .i64 ((rd_T74 l0_2 x11_1).f1))).trans hx986_0; replace hx986_0 := (cell_far (p := ⟨gb985, 2, none⟩) (by first | (rw [add_block]; exact hn986_2) | (show (Addr.add _ _).block ≠ _; rw [add_block]; exact hn986_2) | exact hn986_2) (.int .i64 ((rd_T74 l0_2 x11_1).f2))).trans hx986_0; replace hx986_0 := (cell_far (p := ⟨gb985, 3, none⟩) (by first | (rw [add_block]; exact hn986_3) | (show (Addr.add _ _).block ≠ _; rw [add_block]; exact hn986_3) | exact hn986_3) (.int .i64 ((rd_T74 l0_2 x11_1).f3))).trans hx986_0; clear hn986_0; clear hn986_1; clear hn986_2; clear hn986_3; replace p986 := eq_true p986; replace q986 := eq_true q986; have p987 : 0 ≤ (((rd_T74 l0_2 x11_1).f1) : Int) := of_decide_eq_true (by first | (with_reducible assumption) | assumption); have q987 : ((rd_T74 l0_2 x11_1).f1) < (l1.length : Int) := of_decide_eq_true (by first | (with_reducible assumption) | assumption); obtain ⟨ad987, e987, hx987_0⟩ := Kd.at_bool HR1.out ((rd_T74 l0_2 x11_1).f1) p987 q987; (try rw [← Nbq10.out] at hx987_0); (try rw [← Nbq14.out] at hx987_0); obtain rfl : ad986 = ad987 := (by injection e987); have hn987_0 : ad986.block ≠ gb985 := Nat.ne_of_lt (Nat.lt_of_lt_of_le (by have := World.block_lt_of_cell? _ _ hx987_0; first | rwa [add_block] at this | exact this) GW985.out); have hn987_1 : ad986.block ≠ gb985 := Nat.ne_of_lt (Nat.lt_of_lt_of_le (by have := World.block_lt_of_cell? _ _ hx987_0; first | rwa [add_block] at this | exact this) GW985.out); have hn987_2 : ad986.block ≠ gb985 := Nat.ne_of_lt (Nat.lt_of_lt_of_le (by have := World.block_lt_of_cell? _ _ hx987_0; first | rwa [add_block] at this | exact this) GW985.out); have hn987_3 : ad986.block ≠ gb985 := Nat.ne_of_lt (Nat.lt_of_lt_of_le (by have := World.block_lt_of_cell? _ _ hx987_0; first | rwa [add_block] at this | exact this) GW985.out); replace hx987_0 := (HB.out.cell (World.block_lt_of_cell? w _ hx987_0)).trans hx987_0; replace hx987_0 := (cell_far (p := ⟨gb985, 0, none⟩) (by first | (rw [add_block]; exact hn987_0) | (show (Addr.add _ _).block ≠ _; rw [add_block]; exact hn987_0) | exact hn987_0) (.int .i64 ((rd_T74 l0_2 x11_1).f0))).trans hx987_0; replace hx987_0 := (cell_far (p := ⟨gb985, 1, none⟩) (by first | (rw [add_block]; exact hn987_1) | (show (Addr.add _ _).block ≠ _; rw [add_block]; exact hn987_1) | exact hn987_1) (.int .i64 ((rd_T74 l0_2 x11_1).f1))).trans hx987_0; replace hx987_0 := (cell_far (p := ⟨gb985, 2, none⟩) (by first | (rw [add_block]; exact hn987_2) | (show (Addr.add _ _).block ≠ _; rw [add_block]; exact hn987_2) | exact hn987_2) (.int .i64 ((rd_T74 l0_2 x11_1).f2))).trans hx987_0; replace hx987_0 := (cell_far (p := ⟨gb985, 3, none⟩) (by first | (rw [add_block]; exact hn987_3) | (show (Addr.add _ _).block ≠ _; rw [add_block]; exact hn987_3) | exact hn987_3) (.int .i64 ((rd_T74 l0_2 x11_1).f3))).trans hx987_0; clear hn987_0; clear hn987_1; clear hn987_2; clear hn987_3; replace p987 := eq_true p987; replace q987 := eq_true q987))
    go_roundg k1
    case measure => have := HK1.out; omega
    case rel => exact ⟨(x5_1), (wrap64 (x11_1 + 1)), (by first | rfl | (simp; done) | (simp [*]; done)), (by first | rfl | (simp; done) | (simp [*]; done)), H', ⟨by have := HK1.out; omega⟩, ⟨by (with_reducible repeat (first | refine blk_drewN ?_ _ | refine blk_drew ?_ | refine blk_alloc ?_ _)); refine blk_far ?_ NB983_985.out _; (with_reducible repeat (first | refine blk_drewN ?_ _ | refine blk_drew ?_ | refine blk_alloc ?_ _)); refine blk_far ?_ NB983_985.out _; (with_reducible repeat (first | refine blk_drewN ?_ _ | refine blk_drew ?_ | refine blk_alloc ?_ _)); refine blk_far ?_ NB983_985.out _; (with_reducible repeat (first | refine blk_drewN ?_ _ | refine blk_drew ?_ | refine blk_alloc ?_ _)); refine blk_far ?_ NB983_985.out _; (with_reducible repeat (first | refine blk_drewN ?_ _ | refine blk_drew ?_ | refine blk_alloc ?_ _)); exact BK983.out⟩, ⟨by repeat (first | (with_reducible first | exact HB.out | apply below_alloc | apply pw_below_drewN | apply below_drew1 | refine below_set ?_ GE983.out | refine below_set ?_ GE985.out) | exact HB.out)⟩⟩
   replace c15 := Bool.eq_false_iff.mpr c15
   subst c15
   have H1 : (mincut_takes.l0 k1 l1 (wrap64 (x5_1 + ((rd_T74 l0_2 x11_1).f2))) l0_2 (l0_2.length : Int) (wrap64 (x11_1 + 1))) = some r := by rw [if_neg (show ¬ (false = true) by decide)] at H; exact H
   clear H
   have H := H1
   clear H1
   have H' := Aside0.mk H
   clear H
   have p984 : 0 ≤ (x11_1 : Int) := of_decide_eq_true (by first | (with_reducible assumption) | assumption)
   have q984 : x11_1 < (l0_2.length : Int) := of_decide_eq_true (by first | (with_reducible assumption) | assumption)
   obtain ⟨ad984, e984, hx984_0, hx984_1, hx984_2, hx984_3⟩ := at_T74 HR0_2.out x11_1 p984 q984
   cases e984
   replace hx984_0 := (HB.out.cell (World.block_lt_of_cell? w _ hx984_0)).trans hx984_0
   replace hx984_1 := (HB.out.cell (World.block_lt_of_cell? w _ hx984_1)).trans hx984_1
   replace hx984_2 := (HB.out.cell (World.block_lt_of_cell? w _ hx984_2)).trans hx984_2
   replace hx984_3 := (HB.out.cell (World.block_lt_of_cell? w _ hx984_3)).trans hx984_3
   replace p984 := eq_true p984
   replace q984 := eq_true q984
   go_wp2_with (first | ((with_reducible refine gate_dst (N := 7) rfl ?_); refine box_event ?hg (N := 7) ?hd (cs := #[.int .i64 0, .int .i64 0, .int .i64 0, .int .i64 0]) (t := 74) ?hr ?_; (case hd => rfl); (case hg => rfl); (case hr => first | (go_simp; done) | (go_simp; rfl)); intro gb985 hg w19 hbox hb; have n0_ := Aside0.mk (blk_below (g := gb983) (o := .cells #[.int .i64 a0_0, .bool a0_1, .slice (some ad984) l0_2.length c0_2] 24 (0, 0)) (by (with_reducible repeat (first | refine blk_drewN ?_ _ | refine blk_drew ?_ | refine blk_alloc ?_ _)); exact BK983.out) hb); have n1_ := Aside0.mk (below_step (by repeat (first | (with_reducible first | exact HB.out | apply below_alloc | apply pw_below_drewN | apply below_drew1 | refine below_set ?_ GE983.out) | exact HB.out)) hb); have n2_ := Aside0.mk (hbox); have n3_ := Aside0.mk ((by rw [hg]; exact (below_size (by repeat (first | (with_reducible first | exact HB.out | apply below_alloc | apply pw_below_drewN | apply below_drew1 | refine below_set ?_ GE983.out) | exact HB.out))) : w.heap.size ≤ gb985)); have n4_ := Aside0.mk ((by rw [hg]; exact (below_size (by repeat (first | (with_reducible first | exact HB.out | apply below_alloc | apply pw_below_drewN | apply below_drew1 | refine below_set ?_ GE983.out) | exact HB.out))) : w.heap.size ≤ gb985)); have n5_ := Aside0.mk ((by rw [hg]; exact Nat.ne_of_lt (blk_lt (g := gb983) (o := .cells #[.int .i64 a0_0, .bool a0_1, .slice (some ad984) l0_2.length c0_2] 24 (0, 0)) (by (with_reducible repeat (first | refine blk_drewN ?_ _ | refine blk_drew ?_ | refine blk_alloc ?_ _)); exact BK983.out)) : gb983 ≠ gb985)); have n6_ := Aside0.mk ((by rw [hg]; exact Nat.ne_of_gt (blk_lt (g := gb983) (o := .cells #[.int .i64 a0_0, .bool a0_1, .slice (some ad984) l0_2.length c0_2] 24 (0, 0)) (by (with_reducible repeat (first | refine blk_drewN ?_ _ | refine blk_drew ?_ | refine blk_alloc ?_ _)); exact BK983.out)) : gb985 ≠ gb983)); clear BK983; clear HB; have BK983 := n0_; have HB := n1_; have BK985 := n2_; have GW985 := n3_; have GE985 := n4_; have NB983_985 := n5_; have NB985_983 := n6_; clear n0_ n1_ n2_ n3_ n4_ n5_ n6_; clear hb hbox hg; have hnb20 := NB985_983.out; have hnc20 := NB983_985.out; have hcz21_0 : w19.cell? ⟨gb985, 0, none⟩ = some (.int .i64 0) := (blk_cell BK985.out 0).trans rfl; have hcz21_1 : w19.cell? ⟨gb985, 1, none⟩ = some (.int .i64 0) := (blk_cell BK985.out 1).trans rfl; have hcz21_2 : w19.cell? ⟨gb985, 2, none⟩ = some (.int .i64 0) := (blk_cell BK985.out 2).trans rfl; have hcz21_3 : w19.cell? ⟨gb985, 3, none⟩ = some (.int .i64 0) := (blk_cell BK985.out 3).trans rfl; have hfz21_0 := blk_frozen BK985.out 0; have hfz21_1 := blk_frozen BK985.out 1; have hfz21_2 := blk_frozen BK985.out 2; have hfz21_3 := blk_frozen BK985.out 3; have p986 : 0 ≤ (((rd_T74 l0_2 x11_1).f0) : Int) := of_decide_eq_true (by first | (with_reducible assumption) | assumption); have q986 : ((rd_T74 l0_2 x11_1).f0) < (l1.length : Int) := of_decide_eq_true (by first | (with_reducible assumption) | assumption); obtain ⟨ad986, e986, hx986_0⟩ := Kd.at_bool HR1.out ((rd_T74 l0_2 x11_1).f0) p986 q986; (try rw [← Nbq10.out] at hx986_0); (try rw [← Nbq14.out] at hx986_0); cases e986; have hn986_0 : ad986.block ≠ gb985 := Nat.ne_of_lt (Nat.lt_of_lt_of_le (by have := World.block_lt_of_cell? _ _ hx986_0; first | rwa [add_block] at this | exact this) GW985.out); have hn986_1 : ad986.block ≠ gb985 := Nat.ne_of_lt (Nat.lt_of_lt_of_le (by have := World.block_lt_of_cell? _ _ hx986_0; first | rwa [add_block] at this | exact this) GW985.out); have hn986_2 : ad986.block ≠ gb985 := Nat.ne_of_lt (Nat.lt_of_lt_of_le (by have := World.block_lt_of_cell? _ _ hx986_0; first | rwa [add_block] at this | exact this) GW985.out); have hn986_3 : ad986.block ≠ gb985 := Nat.ne_of_lt (Nat.lt_of_lt_of_le (by have := World.block_lt_of_cell? _ _ hx986_0; first | rwa [add_block] at this | exact this) GW985.out); replace hx986_0 := (HB.out.cell (World.block_lt_of_cell? w _ hx986_0)).trans hx986_0; replace hx986_0 := (cell_far (p := ⟨gb985, 0, none⟩) (by first | (rw [add_block]; exact hn986_0) | (show (Addr.add _ _).block ≠ _; rw [add_block]; exact hn986_0) | exact hn986_0) (.int .i64 ((rd_T74 l0_2 x11_1).f0))).trans hx986_0; replace hx986_0 := (cell_far (p := ⟨gb985, 1, none⟩) (by first | (rw [add_block]; exact hn986_1) | (show (Addr.add _ _).block ≠ _; rw [add_block]; exact hn986_1) | exact hn986_1) (.int .i64 ((rd_T74 l0_2 x11_1).f1))).trans hx986_0; replace hx986_0 := (cell_far (p := ⟨gb985, 2, none⟩) (by first | (rw [add_block]; exact hn986_2) | (show (Addr.add _ _).block ≠ _; rw [add_block]; exact hn986_2) | exact hn986_2) (.int .i64 ((rd_T74 l0_2 x11_1).f2))).trans hx986_0; replace hx986_0 := (cell_far (p := ⟨gb985, 3, none⟩) (by first | (rw [add_block]; exact hn986_3) | (show (Addr.add _ _).block ≠ _; rw [add_block]; exact hn986_3) | exact hn986_3) (.int .i64 ((rd_T74 l0_2 x11_1).f3))).trans hx986_0; clear hn986_0; clear hn986_1; clear hn986_2; clear hn986_3; replace p986 := eq_true p986; replace q986 := eq_true q986; have p987 : 0 ≤ (((rd_T74 l0_2 x11_1).f1) : Int) := of_decide_eq_true (by first | (with_reducible assumption) | assumption); have q987 : ((rd_T74 l0_2 x11_1).f1) < (l1.length : Int) := of_decide_eq_true (by first | (with_reducible assumption) | assumption); obtain ⟨ad987, e987, hx987_0⟩ := Kd.at_bool HR1.out ((rd_T74 l0_2 x11_1).f1) p987 q987; (try rw [← Nbq10.out] at hx987_0); (try rw [← Nbq14.out] at hx987_0); obtain rfl : ad986 = ad987 := (by injection e987); have hn987_0 : ad986.block ≠ gb985 := Nat.ne_of_lt (Nat.lt_of_lt_of_le (by have := World.block_lt_of_cell? _ _ hx987_0; first | rwa [add_block] at this | exact this) GW985.out); have hn987_1 : ad986.block ≠ gb985 := Nat.ne_of_lt (Nat.lt_of_lt_of_le (by have := World.block_lt_of_cell? _ _ hx987_0; first | rwa [add_block] at this | exact this) GW985.out); have hn987_2 : ad986.block ≠ gb985 := Nat.ne_of_lt (Nat.lt_of_lt_of_le (by have := World.block_lt_of_cell? _ _ hx987_0; first | rwa [add_block] at this | exact this) GW985.out); have hn987_3 : ad986.block ≠ gb985 := Nat.ne_of_lt (Nat.lt_of_lt_of_le (by have := World.block_lt_of_cell? _ _ hx987_0; first | rwa [add_block] at this | exact this) GW985.out); replace hx987_0 := (HB.out.cell (World.block_lt_of_cell? w _ hx987_0)).trans hx987_0; replace hx987_0 := (cell_far (p := ⟨gb985, 0, none⟩) (by first | (rw [add_block]; exact hn987_0) | (show (Addr.add _ _).block ≠ _; rw [add_block]; exact hn987_0) | exact hn987_0) (.int .i64 ((rd_T74 l0_2 x11_1).f0))).trans hx987_0; replace hx987_0 := (cell_far (p := ⟨gb985, 1, none⟩) (by first | (rw [add_block]; exact hn987_1) | (show (Addr.add _ _).block ≠ _; rw [add_block]; exact hn987_1) | exact hn987_1) (.int .i64 ((rd_T74 l0_2 x11_1).f1))).trans hx987_0; replace hx987_0 := (cell_far (p := ⟨gb985, 2, none⟩) (by first | (rw [add_block]; exact hn987_2) | (show (Addr.add _ _).block ≠ _; rw [add_block]; exact hn987_2) | exact hn987_2) (.int .i64 ((rd_T74 l0_2 x11_1).f2))).trans hx987_0; replace hx987_0 := (cell_far (p := ⟨gb985, 3, none⟩) (by first | (rw [add_block]; exact hn987_3) | (show (Addr.add _ _).block ≠ _; rw [add_block]; exact hn987_3) | exact hn987_3) (.int .i64 ((rd_T74 l0_2 x11_1).f3))).trans hx987_0; clear hn987_0; clear hn987_1; clear hn987_2; clear hn987_3; replace p987 := eq_true p987; replace q987 := eq_true q987))
   go_roundg k1
   case measure => have := HK1.out; omega
   case rel => exact ⟨(wrap64 (x5_1 + ((rd_T74 l0_2 x11_1).f2))), (wrap64 (x11_1 + 1)), (by first | rfl | (simp; done) | (simp [*]; done)), (by first | rfl | (simp; done) | (simp [*]; done)), H', ⟨by have := HK1.out; omega⟩, ⟨by (with_reducible repeat (first | refine blk_drewN ?_ _ | refine blk_drew ?_ | refine blk_alloc ?_ _)); refine blk_far ?_ NB983_985.out _; (with_reducible repeat (first | refine blk_drewN ?_ _ | refine blk_drew ?_ | refine blk_alloc ?_ _)); refine blk_far ?_ NB983_985.out _; (with_reducible repeat (first | refine blk_drewN ?_ _ | refine blk_drew ?_ | refine blk_alloc ?_ _)); refine blk_far ?_ NB983_985.out _; (with_reducible repeat (first | refine blk_drewN ?_ _ | refine blk_drew ?_ | refine blk_alloc ?_ _)); refine blk_far ?_ NB983_985.out _; (with_reducible repeat (first | refine blk_drewN ?_ _ | refine blk_drew ?_ | refine blk_alloc ?_ _)); exact BK983.out⟩, ⟨by repeat (first | (with_reducible first | exact HB.out | apply below_alloc | apply pw_below_drewN | apply below_drew1 | refine below_set ?_ GE983.out | refine below_set ?_ GE985.out) | exact HB.out)⟩⟩
end Go.Proofs.Ytkcpanpdipmmmaa.P
namespace Go.Proofs.Ytkcpanpdipmmmaa.P
open Go.RowKit Go.Proofs.YtkcpanpdipmmmaaW.PrintWords Go.Proofs.YtkcpanpdipmmmaaW.PrintLast Go.Proofs.YtkcpanpdipmmmaaW.PrintMore
attribute [local go_sem] max2_int min2_int max_two min_two max_three min_three max_four min_four
def mincut_Least.f (k : Nat) (a0_0 : Int) (a0_1 : Bool) (l0_2 : List (S74)) (a1 : Int) (a2 : Int) : Option (List Bool × Int × Int) := (static_Ends.f k a0_0 a0_1 l0_2 a1 a2).bind fun t989 => (if t989 = 0 then ((maxflow_Fill.f a0_0 a0_1 l0_2 a1 a2).bind fun t990 => ((mincut_Behind.f a0_0 a0_1 l0_2 t990 a1).bind fun t993 => ((mincut_takes.f k a0_0 a0_1 l0_2 t993).bind fun t996 => (some (t993, t996, 0))))) else (some (([] : List Bool), 0, t989)))
def mincut_Least.T4 : Bool × List (List Nat × List Nat) := (true, [([], []), ([], []), ([], []), ([], []), ([1, 2, 3], [1, 2, 3]), ([], []), ([0, 4, 5, 4], [0, 4, 5]), ([6, 6, 0, 1, 2, 3, 4, 5, 6], [6])])
def mincut_Least.B4 : List Nat := [0, 0, 0, 0, 14, 0, 63, 127]
theorem mincut_Least.tab4 : rtab .any (opsOf Try.f79 4) = mincut_Least.T4 := by kernel_rfl
theorem mincut_Least.bits4 : waitsOk mincut_Least.T4.2 mincut_Least.B4 = true := by kernel_rfl
set_option maxHeartbeats 8000000 in
set_option maxRecDepth 100000 in
theorem mincut_Least.calls (k : Nat) (a0_0 : Int) (a0_1 : Bool) (A0_2 : Option Addr) (c0_2 : Nat) (l0_2 : List (S74)) (a1 : Int) (a2 : Int) (r1 : List Bool) (r2 : Int) (r3 : Int) (w : World) (hr0_2 : Kd.C k74 w A0_2 l0_2.length l0_2) (hc0_2 : l0_2.length ≤ c0_2) (h : mincut_Least.f k a0_0 a0_1 l0_2 a1 a2 = some (r1, r2, r3)) :
  Calls Try.prog 79 #[.agg #[.int .i64 a0_0, .bool a0_1, .slice A0_2 l0_2.length c0_2], .int .i64 a1, .int .i64 a2] w fun e w' => ∃ v0_ : Value, e = .returned (.tuple #[v0_, .int .i64 r2, .int .i64 r3]) ∧ Kd.R Kd.bool 4 w' w.heap.size (fun _ => True) v0_ r1 ∧ Below w.heap.size w w' := by
 have hu24 := Try.underlying24
 have HR0_2 := Aside0.mk hr0_2
 have HC0_2 := Aside0.mk hc0_2
 clear hr0_2 hc0_2
 have HB := Aside0.mk (Below.refl w.heap.size w)
 have H : ((static_Ends.f k a0_0 a0_1 l0_2 a1 a2).bind fun t989 => (if t989 = 0 then ((maxflow_Fill.f a0_0 a0_1 l0_2 a1 a2).bind fun t990 => ((mincut_Behind.f a0_0 a0_1 l0_2 t990 a1).bind fun t993 => ((mincut_takes.f k a0_0 a0_1 l0_2 t993).bind fun t996 => (some (t993, t996, 0))))) else (some (([] : List Bool), 0, t989)))) = some (r1, r2, r3) := h
 clear h
 replace H := Option.bind_eq_some_iff.mp H
 obtain ⟨t989, A40, H⟩ := H
 replace H : (if t989 = 0 then ((maxflow_Fill.f a0_0 a0_1 l0_2 a1 a2).bind fun t990 => ((mincut_Behind.f a0_0 a0_1 l0_2 t990 a1).bind fun t993 => ((mincut_takes.f k a0_0 a0_1 l0_2 t993).bind fun t996 => (some (t993, t996, 0))))) else (some (([] : List Bool), 0, t989))) = some (r1, r2, r3) := H
 have A4 := Aside0.mk A40
 clear A40
 by_cases c5 : t989 = 0
 rotate_left
 ·rw [if_neg c5] at H
  have c5b0 : (t989 == 0) = false := beq_eq_false_iff_ne.mpr c5
  have c5b1 : (t989 != 0) = true := bne_iff_ne.mpr c5
  simp only [Option.some.injEq, Prod.mk.injEq] at H
  obtain ⟨rfl, rfl, rfl⟩ := H
  go_enter Try.func79, Try.ntmps79
  go_wp2_with (first | ((with_reducible refine gate_dst (N := 3) rfl ?_); refine box_event ?hg (N := 3) ?hd (cs := #[.int .i64 a0_0, .bool a0_1, .slice A0_2 l0_2.length c0_2]) (t := 24) ?hr ?_; (case hd => rfl); (case hg => rfl); (case hr => first | (go_simp; done) | (go_simp; rfl)); intro gb988 hg w19 hbox hb; have n0_ := Aside0.mk (below_step (by repeat (first | (with_reducible first | exact HB.out | apply below_alloc | apply pw_below_drewN | apply below_drew1) | exact HB.out)) hb); have n1_ := Aside0.mk (hbox); have n2_ := Aside0.mk ((by rw [hg]; exact (below_size (by repeat (first | (with_reducible first | exact HB.out | apply below_alloc | apply pw_below_drewN | apply below_drew1) | exact HB.out))) : w.heap.size ≤ gb988)); have n3_ := Aside0.mk ((by rw [hg]; exact (below_size (by repeat (first | (with_reducible first | exact HB.out | apply below_alloc | apply pw_below_drewN | apply below_drew1) | exact HB.out))) : w.heap.size ≤ gb988)); clear HB; have HB := n0_; have BK988 := n1_; have GW988 := n2_; have GE988 := n3_; clear n0_ n1_ n2_ n3_; clear hb hbox hg; have hcz20_0 : w19.cell? ⟨gb988, 0, none⟩ = some (.int .i64 a0_0) := (blk_cell BK988.out 0).trans rfl; have hcz20_1 : w19.cell? ⟨gb988, 1, none⟩ = some (.bool a0_1) := (blk_cell BK988.out 1).trans rfl; have hcz20_2 : w19.cell? ⟨gb988, 2, none⟩ = some (.slice A0_2 l0_2.length c0_2) := (blk_cell BK988.out 2).trans rfl; have hfz20_0 := blk_frozen BK988.out 0; have hfz20_1 := blk_frozen BK988.out 1; have hfz20_2 := blk_frozen BK988.out 2) | ((with_reducible refine gate_callee (f := 111) rfl ?_); refine goesL_ (some 12) rfl rfl Try.func111 (by kernel_rfl) rfl #[.agg #[.int .i64 a0_0, .bool a0_1, .slice A0_2 l0_2.length c0_2], .int .i64 a1, .int .i64 a2] rfl (by (try simp only [List.map_toArray, List.map_cons, List.map_nil]); first | done | rfl | (simp only [List.length_drop, List.length_take]; rfl)) ?_; (with_reducible refine (static_Ends.calls k a0_0 a0_1 _ _ l0_2 a1 a2 t989 _ ?side1 ?side2 A4.out).mono ?_); (case side1 => repeat (first | exact (Kd.C_below HR0_2.out HB.out) | (with_reducible refine Kd.C_alloc ?_ _) | (with_reducible refine Kd.C_drewN ?_ _) | (with_reducible refine Kd.C_drew ?_))); (case side2 => exact HC0_2.out); rintro e w21 ⟨rfl, hb⟩; refine ⟨_, rfl, ?_⟩; have n0_ := Aside0.mk (blk_below (g := gb988) (o := .cells #[.int .i64 a0_0, .bool a0_1, .slice A0_2 l0_2.length c0_2] 24 (0, 0)) (by (with_reducible repeat (first | refine blk_drewN ?_ _ | refine blk_drew ?_ | refine blk_alloc ?_ _)); exact BK988.out) hb); have n1_ := Aside0.mk (below_step (by repeat (first | (with_reducible first | exact HB.out | apply below_alloc | apply pw_below_drewN | apply below_drew1 | refine below_set ?_ GE988.out) | exact HB.out)) hb); clear BK988; clear HB; have BK988 := n0_; have HB := n1_; clear n0_ n1_; (try clear hb); (try clear hb2); (try clear hk); (try clear hi)))
  go_ret3
  exact ⟨_, by first | rfl | (simp [errW_none, errW_some] <;> rfl) | (simp [*, errW_none, errW_some] <;> rfl), by first | exact Kd.R_nil _ _ _ _ _ | exact Kd.N_nil _ _ _ _ _ | exact Kd.V_nil _ _ _ _ _ | exact Kd.Q_nil _ _ _ _ _ | exact Kd.S_nil _ _ _ _ _, by repeat (first | (with_reducible first | exact HB.out | apply below_alloc | apply pw_below_drewN | apply below_drew1 | refine below_set ?_ GE988.out) | exact HB.out)⟩
 rw [if_pos c5] at H
 have c5b0 : (t989 == 0) = true := beq_iff_eq.mpr c5
 have c5b1 : (t989 != 0) = false := bne_eq_false_iff_eq.mpr c5
 clear c5
 replace H := Option.bind_eq_some_iff.mp H
 obtain ⟨t990, A60, H⟩ := H
 replace H : ((mincut_Behind.f a0_0 a0_1 l0_2 t990 a1).bind fun t993 => ((mincut_takes.f k a0_0 a0_1 l0_2 t993).bind fun t996 => (some (t993, t996, 0)))) = some (r1, r2, r3) := H
 have A6 := Aside0.mk A60
 clear A60
 replace H := Option.bind_eq_some_iff.mp H
 obtain ⟨t993, A70, H⟩ := H
 replace H : ((mincut_takes.f k a0_0 a0_1 l0_2 t993).bind fun t996 => (some (t993, t996, 0))) = some (r1, r2, r3) := H
 have A7 := Aside0.mk A70
 clear A70
 replace H := Option.bind_eq_some_iff.mp H
 obtain ⟨t996, A80, H⟩ := H
 replace H : (some (t993, t996, 0)) = some (r1, r2, r3) := H
 have A8 := Aside0.mk A80
 clear A80
 simp only [Option.some.injEq, Prod.mk.injEq] at H
 obtain ⟨rfl, rfl, rfl⟩ := H
 go_enter Try.func79, Try.ntmps79
 try go_wp2_with (first | ((with_reducible refine gate_dst (N := 3) rfl ?_); refine box_event ?hg (N := 3) ?hd (cs := #[.int .i64 a0_0, .bool a0_1, .slice A0_2 l0_2.length c0_2]) (t := 24) ?hr ?_; (case hd => rfl); (case hg => rfl); (case hr => first | (go_simp; done) | (go_simp; rfl)); intro gb988 hg w9 hbox hb; have n0_ := Aside0.mk (below_step (by repeat (first | (with_reducible first | exact HB.out | apply below_alloc | apply pw_below_drewN | apply below_drew1) | exact HB.out)) hb); have n1_ := Aside0.mk (hbox); have n2_ := Aside0.mk ((by rw [hg]; exact (below_size (by repeat (first | (with_reducible first | exact HB.out | apply below_alloc | apply pw_below_drewN | apply below_drew1) | exact HB.out))) : w.heap.size ≤ gb988)); have n3_ := Aside0.mk ((by rw [hg]; exact (below_size (by repeat (first | (with_reducible first | exact HB.out | apply below_alloc | apply pw_below_drewN | apply below_drew1) | exact HB.out))) : w.heap.size ≤ gb988)); clear HB; have HB := n0_; have BK988 := n1_; have GW988 := n2_; have GE988 := n3_; clear n0_ n1_ n2_ n3_; clear hb hbox hg; have hcz10_0 : w9.cell? ⟨gb988, 0, none⟩ = some (.int .i64 a0_0) := (blk_cell BK988.out 0).trans rfl; have hcz10_1 : w9.cell? ⟨gb988, 1, none⟩ = some (.bool a0_1) := (blk_cell BK988.out 1).trans rfl; have hcz10_2 : w9.cell? ⟨gb988, 2, none⟩ = some (.slice A0_2 l0_2.length c0_2) := (blk_cell BK988.out 2).trans rfl; have hfz10_0 := blk_frozen BK988.out 0; have hfz10_1 := blk_frozen BK988.out 1; have hfz10_2 := blk_frozen BK988.out 2) | ((with_reducible refine gate_callee (f := 111) rfl ?_); refine goesL_ (some 12) rfl rfl Try.func111 (by kernel_rfl) rfl #[.agg #[.int .i64 a0_0, .bool a0_1, .slice A0_2 l0_2.length c0_2], .int .i64 a1, .int .i64 a2] rfl (by (try simp only [List.map_toArray, List.map_cons, List.map_nil]); first | done | rfl | (simp only [List.length_drop, List.length_take]; rfl)) ?_; (with_reducible refine (static_Ends.calls k a0_0 a0_1 _ _ l0_2 a1 a2 t989 _ ?side1 ?side2 A4.out).mono ?_); (case side1 => repeat (first | exact (Kd.C_below HR0_2.out HB.out) | (with_reducible refine Kd.C_alloc ?_ _) | (with_reducible refine Kd.C_drewN ?_ _) | (with_reducible refine Kd.C_drew ?_))); (case side2 => exact HC0_2.out); rintro e w11 ⟨rfl, hb⟩; refine ⟨_, rfl, ?_⟩; have n0_ := Aside0.mk (blk_below (g := gb988) (o := .cells #[.int .i64 a0_0, .bool a0_1, .slice A0_2 l0_2.length c0_2] 24 (0, 0)) (by (with_reducible repeat (first | refine blk_drewN ?_ _ | refine blk_drew ?_ | refine blk_alloc ?_ _)); exact BK988.out) hb); have n1_ := Aside0.mk (below_step (by repeat (first | (with_reducible first | exact HB.out | apply below_alloc | apply pw_below_drewN | apply below_drew1 | refine below_set ?_ GE988.out) | exact HB.out)) hb); clear BK988; clear HB; have BK988 := n0_; have HB := n1_; clear n0_ n1_; (try clear hb); (try clear hb2); (try clear hk); (try clear hi)))
 have n0_ := Aside0.mk (blk_drew BK988.out)
 have n1_ := Aside0.mk (below_drew1 HB.out)
 clear BK988
 clear HB
 have BK988 := n0_
 have HB := n1_
 clear n0_ n1_
 refine start_ (n := 8) (S := fun w' => w'.cell? ⟨gb988, 0, none⟩ = some (.int .i64 a0_0) ∧ w'.cell? ⟨gb988, 1, none⟩ = some (.bool a0_1) ∧ w'.cell? ⟨gb988, 2, none⟩ = some (.slice A0_2 l0_2.length c0_2)) (ds := []) #[false, false, false, false, false, false, false, false] (by kernel_rfl) rfl rfl ⟨(blk_cell BK988.out 0).trans rfl, (blk_cell BK988.out 1).trans rfl, (blk_cell BK988.out 2).trans rfl⟩ (fun hHeld => ?_); refine with_tabW mincut_Least.tab4 mincut_Least.bits4 (fun HT_ HW_ => ?_)
 generalize w11.drew = w12 at BK988 HB hHeld ⊢
 refine pure_ (i := 2) (N := some 18) (v := ?_) (a' := ?_) #[false, false, true, false, false, false, false, false] rfl rfl (any_of HT_.out (by kernel_rfl)) (fun _ _ _ h => h) (Or.inl ⟨by rfl, ?_⟩) ?_ ?_
 rotate_left
 ·intro w'
  go_simp
  with_reducible rfl
 rotate_left
 ·simp only [Act.put, List.setIfInBounds_toArray, List.set_cons_zero, List.set_cons_succ, i64_w, i32_w]
  rfl
 refine pure_ (i := 3) (N := some 19) (v := ?_) (a' := ?_) #[false, false, true, true, false, false, false, false] rfl rfl (any_of HT_.out (by kernel_rfl)) (fun _ _ _ h => h) (Or.inl ⟨by rfl, ?_⟩) ?_ ?_
 rotate_left
 ·intro w'
  go_simp
  with_reducible rfl
 rotate_left
 ·simp only [Act.put, List.setIfInBounds_toArray, List.set_cons_zero, List.set_cons_succ, i64_w, i32_w]
  rfl
 refine pure_ (i := 5) (N := some 21) (v := ?_) (a' := ?_) #[false, false, true, true, false, true, false, false] rfl rfl (any_of HT_.out (by kernel_rfl)) (fun _ _ _ h => h) (Or.inl ⟨by rfl, ?_⟩) ?_ ?_
 rotate_left
 ·intro w'
  go_simp
  with_reducible rfl
 rotate_left
 ·simp only [Act.put, List.setIfInBounds_toArray, List.set_cons_zero, List.set_cons_succ, i64_w, i32_w]
  rfl
 refine take_ (i := 0) (N := some 16) (v := ?_) (a' := ?_) #[true, false, true, true, false, true, false, false] rfl rfl (take_ofW HT_.out HW_.out (by kernel_rfl)) (fun _ _ _ h => h) (Or.inl ⟨by rfl, ?_⟩) hHeld ?_ ?_
 rotate_left
 ·rintro w' ⟨s0, s1, s2⟩
  go_simp
  with_reducible rfl
 rotate_left
 ·simp only [Act.put, List.setIfInBounds_toArray, List.set_cons_zero, List.set_cons_succ, i64_w, i32_w]
  rfl
 refine take_ (i := 1) (N := some 17) (v := ?_) (a' := ?_) #[true, true, true, true, false, true, false, false] rfl rfl (take_ofW HT_.out HW_.out (by kernel_rfl)) (fun _ _ _ h => h) (Or.inl ⟨by rfl, ?_⟩) hHeld ?_ ?_
 rotate_left
 ·rintro w' ⟨s0, s1, s2⟩
  go_simp
  with_reducible rfl
 rotate_left
 ·simp only [Act.put, List.setIfInBounds_toArray, List.set_cons_zero, List.set_cons_succ, i64_w, i32_w]
  rfl
 refine one_ (i := 4) (N := some 20) #[true, true, true, true, true, true, false, false] rfl rfl (one_of HT_.out (by kernel_rfl)) (by decide) (fun K hK => ?_)
 refine goes_ Try.func121 (by kernel_rfl) rfl #[.agg #[.int .i64 a0_0, .bool a0_1, .slice A0_2 l0_2.length c0_2], .int .i64 a1, .int .i64 a2] (by rfl) rfl rfl (by (try simp only [List.map_toArray, List.map_cons, List.map_nil]); first | done | rfl | (simp only [List.length_drop, List.length_take]; rfl)) ?_
 with_reducible refine (maxflow_Fill.calls a0_0 a0_1 _ _ l0_2 a1 a2 t990 _ ?side1 ?side2 A6.out).mono ?_
 (case side1 => repeat (first | exact (Kd.C_below HR0_2.out HB.out) | (with_reducible refine Kd.C_alloc ?_ _) | (with_reducible refine Kd.C_drewN ?_ _) | (with_reducible refine Kd.C_drew ?_)))
 (case side2 => exact HC0_2.out)
 rintro e w13 ⟨v991, rfl, ho0, hb⟩
 refine ⟨_, rfl, ?_⟩
 have n0_ := Aside0.mk (Kd.R_lower ho0 (below_size (by repeat (first | (with_reducible first | exact HB.out | apply below_alloc | apply pw_below_drewN | apply below_drew1 | refine below_set ?_ GE988.out) | exact HB.out))))
 have n1_ := Aside0.mk (blk_below (g := gb988) (o := .cells #[.int .i64 a0_0, .bool a0_1, .slice A0_2 l0_2.length c0_2] 24 (0, 0)) (by (with_reducible repeat (first | refine blk_drewN ?_ _ | refine blk_drew ?_ | refine blk_alloc ?_ _)); exact BK988.out) hb)
 have n2_ := Aside0.mk (below_step (by repeat (first | (with_reducible first | exact HB.out | apply below_alloc | apply pw_below_drewN | apply below_drew1 | refine below_set ?_ GE988.out) | exact HB.out)) hb)
 clear BK988
 clear HB
 have HO992 := n0_
 have BK988 := n1_
 have HB := n2_
 clear n0_ n1_ n2_
 (try clear hb)
 (try clear hb2)
 (try clear hk)
 (try clear hi)
 (try clear ho0)
 obtain ⟨Ao14, co14, eo14⟩ := Kd.R_slice HO992.out
 (first | subst eo14 | (injection eo14 with f1_ f2_ f3_; have f4_ := f1_.symm; have f5_ := f3_.symm; clear f1_ f2_ f3_; subst f4_; subst f5_))
 refine hK.out _ _ ⟨(blk_cell BK988.out 0).trans rfl, (blk_cell BK988.out 1).trans rfl, (blk_cell BK988.out 2).trans rfl⟩ (fun hHeld => ?_)
 clear hK K
 refine norm_ (a' := ?_) ?_ ?_
 rotate_left
 ·show Act.put _ (some 20) _ = _
  simp only [Act.put, List.setIfInBounds_toArray, List.set_cons_zero, List.set_cons_succ, i64_w, i32_w]
  rfl
 refine one_ (i := 6) (N := some 22) #[true, true, true, true, true, true, true, false] rfl rfl (one_of HT_.out (by kernel_rfl)) (by decide) (fun K hK => ?_)
 refine goes_ Try.func124 (by kernel_rfl) rfl #[.agg #[.int .i64 a0_0, .bool a0_1, .slice A0_2 l0_2.length c0_2], .slice Ao14 t990.length co14, .int .i64 a1] (by rfl) rfl rfl (by (try simp only [List.map_toArray, List.map_cons, List.map_nil]); first | done | rfl | (simp only [List.length_drop, List.length_take]; rfl)) ?_
 with_reducible refine (mincut_Behind.calls a0_0 a0_1 _ _ l0_2 _ _ t990 a1 t993 _ ?side1 ?side2 ?side3 ?side4 A7.out).mono ?_
 (case side1 => repeat (first | exact (Kd.C_below HR0_2.out HB.out) | (with_reducible refine Kd.C_alloc ?_ _) | (with_reducible refine Kd.C_drewN ?_ _) | (with_reducible refine Kd.C_drew ?_)))
 (case side2 => exact HC0_2.out)
 (case side3 => repeat (first | exact (Kd.R_reads' HO992.out).2.2 | (with_reducible refine Kd.C_alloc ?_ _) | (with_reducible refine Kd.C_drewN ?_ _) | (with_reducible refine Kd.C_drew ?_)))
 (case side4 => exact (Kd.R_reads' HO992.out).2.1)
 rintro e w15 ⟨v994, rfl, ho0, hb⟩
 refine ⟨_, rfl, ?_⟩
 have n0_ := Aside0.mk (Kd.R_below (by (with_reducible repeat (first | apply Kd.R_alloc | apply Kd.R_drewN | apply Kd.R_drew)); exact HO992.out) hb)
 have n1_ := Aside0.mk (Kd.R_lower ho0 (below_size (by repeat (first | (with_reducible first | exact HB.out | apply below_alloc | apply pw_below_drewN | apply below_drew1 | refine below_set ?_ GE988.out) | exact HB.out))))
 have n2_ := Aside0.mk (blk_below (g := gb988) (o := .cells #[.int .i64 a0_0, .bool a0_1, .slice A0_2 l0_2.length c0_2] 24 (0, 0)) (by (with_reducible repeat (first | refine blk_drewN ?_ _ | refine blk_drew ?_ | refine blk_alloc ?_ _)); exact BK988.out) hb)
 have n3_ := Aside0.mk (below_step (by repeat (first | (with_reducible first | exact HB.out | apply below_alloc | apply pw_below_drewN | apply below_drew1 | refine below_set ?_ GE988.out) | exact HB.out)) hb)
 clear HO992
 clear BK988
 clear HB
 have HO992 := n0_
 have HO995 := n1_
 have BK988 := n2_
 have HB := n3_
 clear n0_ n1_ n2_ n3_
 (try clear hb)
 (try clear hb2)
 (try clear hk)
 (try clear hi)
 (try clear ho0)
 refine hK.out _ _ ⟨(blk_cell BK988.out 0).trans rfl, (blk_cell BK988.out 1).trans rfl, (blk_cell BK988.out 2).trans rfl⟩ (fun hHeld => ?_)
 clear hK K
 refine norm_ (a' := ?_) ?_ ?_
 rotate_left
 ·show Act.put _ (some 22) _ = _
  simp only [Act.put, List.setIfInBounds_toArray, List.set_cons_zero, List.set_cons_succ, i64_w, i32_w]
  rfl
 refine pure_ (i := 7) (N := some 6) (v := ?_) (a' := ?_) #[true, true, true, true, true, true, true, true] rfl rfl (any_of HT_.out (by kernel_rfl)) (fun _ _ _ h => h) (Or.inl ⟨by rfl, ?_⟩) ?_ ?_
 rotate_left
 ·intro w'
  go_simp
  with_reducible rfl
 rotate_left
 ·simp only [Act.put, List.setIfInBounds_toArray, List.set_cons_zero, List.set_cons_succ, i64_w, i32_w]
  rfl
 refine done_ (done_of HT_.out (by kernel_rfl)) ?_
 have hcz16_0 : w15.cell? ⟨gb988, 0, none⟩ = some (.int .i64 a0_0) := (blk_cell BK988.out 0).trans rfl
 have hcz16_1 : w15.cell? ⟨gb988, 1, none⟩ = some (.bool a0_1) := (blk_cell BK988.out 1).trans rfl
 have hcz16_2 : w15.cell? ⟨gb988, 2, none⟩ = some (.slice A0_2 l0_2.length c0_2) := (blk_cell BK988.out 2).trans rfl
 have hfz16_0 := blk_frozen BK988.out 0
 have hfz16_1 := blk_frozen BK988.out 1
 have hfz16_2 := blk_frozen BK988.out 2
 obtain ⟨Ao17, co17, eo17⟩ := Kd.R_slice HO995.out
 subst eo17
 try go_wp2_with (first | ((with_reducible refine gate_callee (f := 125) rfl ?_); refine goesL_ (some 26) rfl rfl Try.func125 (by kernel_rfl) rfl #[.agg #[.int .i64 a0_0, .bool a0_1, .slice A0_2 l0_2.length c0_2], .slice Ao17 t993.length co17] rfl (by (try simp only [List.map_toArray, List.map_cons, List.map_nil]); first | done | rfl | (simp only [List.length_drop, List.length_take]; rfl)) ?_; (with_reducible refine (mincut_takes.calls k a0_0 a0_1 _ _ l0_2 _ _ t993 t996 _ ?side1 ?side2 ?side3 ?side4 A8.out).mono ?_); (case side1 => repeat (first | exact (Kd.C_below HR0_2.out HB.out) | (with_reducible refine Kd.C_alloc ?_ _) | (with_reducible refine Kd.C_drewN ?_ _) | (with_reducible refine Kd.C_drew ?_))); (case side2 => exact HC0_2.out); (case side3 => repeat (first | exact (Kd.R_reads' HO995.out).2.2 | (with_reducible refine Kd.C_alloc ?_ _) | (with_reducible refine Kd.C_drewN ?_ _) | (with_reducible refine Kd.C_drew ?_))); (case side4 => exact (Kd.R_reads' HO995.out).2.1); rintro e w18 ⟨rfl, hb⟩; refine ⟨_, rfl, ?_⟩; have n0_ := Aside0.mk (Kd.R_below (by (with_reducible repeat (first | apply Kd.R_alloc | apply Kd.R_drewN | apply Kd.R_drew)); exact HO992.out) hb); have n1_ := Aside0.mk (Kd.R_below (by (with_reducible repeat (first | apply Kd.R_alloc | apply Kd.R_drewN | apply Kd.R_drew)); exact HO995.out) hb); have n2_ := Aside0.mk (blk_below (g := gb988) (o := .cells #[.int .i64 a0_0, .bool a0_1, .slice A0_2 l0_2.length c0_2] 24 (0, 0)) (by (with_reducible repeat (first | refine blk_drewN ?_ _ | refine blk_drew ?_ | refine blk_alloc ?_ _)); exact BK988.out) hb); have n3_ := Aside0.mk (below_step (by repeat (first | (with_reducible first | exact HB.out | apply below_alloc | apply pw_below_drewN | apply below_drew1 | refine below_set ?_ GE988.out) | exact HB.out)) hb); clear HO992; clear HO995; clear BK988; clear HB; have HO992 := n0_; have HO995 := n1_; have BK988 := n2_; have HB := n3_; clear n0_ n1_ n2_ n3_; (try clear hb); (try clear hb2); (try clear hk); (try clear hi)))
 go_ret3
 exact ⟨_, by first | rfl | (simp [errW_none, errW_some] <;> rfl) | (simp [*, errW_none, errW_some] <;> rfl), by (with_reducible repeat (first | apply Kd.R_alloc | apply Kd.R_drewN | apply Kd.R_drew)); exact HO995.out, by repeat (first | (with_reducible first | exact HB.out | apply below_alloc | apply pw_below_drewN | apply below_drew1 | refine below_set ?_ GE988.out) | exact HB.out)⟩
end Go.Proofs.Ytkcpanpdipmmmaa.P
namespace Go.Proofs.Ytkcpanpdipmmmaa.P
open Go.RowKit Go.Proofs.YtkcpanpdipmmmaaW.PrintWords Go.Proofs.YtkcpanpdipmmmaaW.PrintLast Go.Proofs.YtkcpanpdipmmmaaW.PrintMore
attribute [local go_sem] max2_int min2_int max_two min_two max_three min_three max_four min_four
def mincut_Capacity.f (k : Nat) (a0_0 : Int) (a0_1 : Bool) (l0_2 : List (S74)) (l1 : List Bool) : Option (Int × Int) := (netfmt_Check.f k a0_0 a0_1 l0_2).bind fun t1023 => (if t1023 = 0 then (if (l1.length : Int) = a0_0 then ((mincut_takes.f k a0_0 a0_1 l0_2 l1).bind fun t1024 => (some (t1024, 0))) else (some (0, 1))) else (some (0, t1023)))
set_option maxHeartbeats 8000000 in
set_option maxRecDepth 100000 in
theorem mincut_Capacity.calls (k : Nat) (a0_0 : Int) (a0_1 : Bool) (A0_2 : Option Addr) (c0_2 : Nat) (l0_2 : List (S74)) (A1 : Option Addr) (c1 : Nat) (l1 : List Bool) (r1 : Int) (r2 : Int) (w : World) (hr0_2 : Kd.C k74 w A0_2 l0_2.length l0_2) (hc0_2 : l0_2.length ≤ c0_2) (hr1 : Kd.C Kd.bool w A1 l1.length l1) (hc1 : l1.length ≤ c1) (h : mincut_Capacity.f k a0_0 a0_1 l0_2 l1 = some (r1, r2)) :
  Calls Try.prog 82 #[.agg #[.int .i64 a0_0, .bool a0_1, .slice A0_2 l0_2.length c0_2], .slice A1 l1.length c1] w fun e w' => e = .returned (.tuple #[.int .i64 r1, .int .i64 r2]) ∧ Below w.heap.size w w' := by
 have hu24 := Try.underlying24
 have HR0_2 := Aside0.mk hr0_2
 have HC0_2 := Aside0.mk hc0_2
 clear hr0_2 hc0_2
 have HR1 := Aside0.mk hr1
 have HC1 := Aside0.mk hc1
 clear hr1 hc1
 have HB := Aside0.mk (Below.refl w.heap.size w)
 have H : ((netfmt_Check.f k a0_0 a0_1 l0_2).bind fun t1023 => (if t1023 = 0 then (if (l1.length : Int) = a0_0 then ((mincut_takes.f k a0_0 a0_1 l0_2 l1).bind fun t1024 => (some (t1024, 0))) else (some (0, 1))) else (some (0, t1023)))) = some (r1, r2) := h
 clear h
 replace H := Option.bind_eq_some_iff.mp H
 obtain ⟨t1023, A30, H⟩ := H
 replace H : (if t1023 = 0 then (if (l1.length : Int) = a0_0 then ((mincut_takes.f k a0_0 a0_1 l0_2 l1).bind fun t1024 => (some (t1024, 0))) else (some (0, 1))) else (some (0, t1023))) = some (r1, r2) := H
 have A3 := Aside0.mk A30
 clear A30
 by_cases c4 : t1023 = 0
 rotate_left
 ·rw [if_neg c4] at H
  have c4b0 : (t1023 == 0) = false := beq_eq_false_iff_ne.mpr c4
  have c4b1 : (t1023 != 0) = true := bne_iff_ne.mpr c4
  simp only [Option.some.injEq, Prod.mk.injEq] at H
  obtain ⟨rfl, rfl⟩ := H
  go_enter Try.func82, Try.ntmps82
  go_wp2_with (first | ((with_reducible refine gate_dst (N := 2) rfl ?_); refine box_event ?hg (N := 2) ?hd (cs := #[.int .i64 a0_0, .bool a0_1, .slice A0_2 l0_2.length c0_2]) (t := 24) ?hr ?_; (case hd => rfl); (case hg => rfl); (case hr => first | (go_simp; done) | (go_simp; rfl)); intro gb1022 hg w16 hbox hb; have n0_ := Aside0.mk (below_step (by repeat (first | (with_reducible first | exact HB.out | apply below_alloc | apply pw_below_drewN | apply below_drew1) | exact HB.out)) hb); have n1_ := Aside0.mk (hbox); have n2_ := Aside0.mk ((by rw [hg]; exact (below_size (by repeat (first | (with_reducible first | exact HB.out | apply below_alloc | apply pw_below_drewN | apply below_drew1) | exact HB.out))) : w.heap.size ≤ gb1022)); have n3_ := Aside0.mk ((by rw [hg]; exact (below_size (by repeat (first | (with_reducible first | exact HB.out | apply below_alloc | apply pw_below_drewN | apply below_drew1) | exact HB.out))) : w.heap.size ≤ gb1022)); clear HB; have HB := n0_; have BK1022 := n1_; have GW1022 := n2_; have GE1022 := n3_; clear n0_ n1_ n2_ n3_; clear hb hbox hg; have hcz17_0 : w16.cell? ⟨gb1022, 0, none⟩ = some (.int .i64 a0_0) := (blk_cell BK1022.out 0).trans rfl; have hcz17_1 : w16.cell? ⟨gb1022, 1, none⟩ = some (.bool a0_1) := (blk_cell BK1022.out 1).trans rfl; have hcz17_2 : w16.cell? ⟨gb1022, 2, none⟩ = some (.slice A0_2 l0_2.length c0_2) := (blk_cell BK1022.out 2).trans rfl; have hfz17_0 := blk_frozen BK1022.out 0; have hfz17_1 := blk_frozen BK1022.out 1; have hfz17_2 := blk_frozen BK1022.out 2) | ((with_reducible refine gate_callee (f := 127) rfl ?_); refine goesL_ (some 8) rfl rfl Try.func127 (by kernel_rfl) rfl #[.agg #[.int .i64 a0_0, .bool a0_1, .slice A0_2 l0_2.length c0_2]] rfl (by (try simp only [List.map_toArray, List.map_cons, List.map_nil]); first | done | rfl | (simp only [List.length_drop, List.length_take]; rfl)) ?_; (with_reducible refine (netfmt_Check.calls k a0_0 a0_1 _ _ l0_2 t1023 _ ?side1 ?side2 A3.out).mono ?_); (case side1 => repeat (first | exact (Kd.C_below HR0_2.out HB.out) | (with_reducible refine Kd.C_alloc ?_ _) | (with_reducible refine Kd.C_drewN ?_ _) | (with_reducible refine Kd.C_drew ?_))); (case side2 => exact HC0_2.out); rintro e w18 ⟨rfl, hb⟩; refine ⟨_, rfl, ?_⟩; have n0_ := Aside0.mk (blk_below (g := gb1022) (o := .cells #[.int .i64 a0_0, .bool a0_1, .slice A0_2 l0_2.length c0_2] 24 (0, 0)) (by (with_reducible repeat (first | refine blk_drewN ?_ _ | refine blk_drew ?_ | refine blk_alloc ?_ _)); exact BK1022.out) hb); have n1_ := Aside0.mk (below_step (by repeat (first | (with_reducible first | exact HB.out | apply below_alloc | apply pw_below_drewN | apply below_drew1 | refine below_set ?_ GE1022.out) | exact HB.out)) hb); clear BK1022; clear HB; have BK1022 := n0_; have HB := n1_; clear n0_ n1_; (try clear hb); (try clear hb2); (try clear hk); (try clear hi)))
  go_ret2
  exact ⟨by first | rfl | (simp [errW_none, errW_some] <;> rfl) | (simp [*, errW_none, errW_some] <;> rfl), by repeat (first | (with_reducible first | exact HB.out | apply below_alloc | apply pw_below_drewN | apply below_drew1 | refine below_set ?_ GE1022.out) | exact HB.out)⟩
 rw [if_pos c4] at H
 have c4b0 : (t1023 == 0) = true := beq_iff_eq.mpr c4
 have c4b1 : (t1023 != 0) = false := bne_eq_false_iff_eq.mpr c4
 clear c4
 by_cases c5 : (l1.length : Int) = a0_0
 rotate_left
 ·rw [if_neg c5] at H
  have c5b0 : ((l1.length : Int) == a0_0) = false := beq_eq_false_iff_ne.mpr c5
  have c5b1 : ((l1.length : Int) != a0_0) = true := bne_iff_ne.mpr c5
  simp only [Option.some.injEq, Prod.mk.injEq] at H
  obtain ⟨rfl, rfl⟩ := H
  go_enter Try.func82, Try.ntmps82
  go_wp2_with (first | ((with_reducible refine gate_dst (N := 2) rfl ?_); refine box_event ?hg (N := 2) ?hd (cs := #[.int .i64 a0_0, .bool a0_1, .slice A0_2 l0_2.length c0_2]) (t := 24) ?hr ?_; (case hd => rfl); (case hg => rfl); (case hr => first | (go_simp; done) | (go_simp; rfl)); intro gb1022 hg w12 hbox hb; have n0_ := Aside0.mk (below_step (by repeat (first | (with_reducible first | exact HB.out | apply below_alloc | apply pw_below_drewN | apply below_drew1) | exact HB.out)) hb); have n1_ := Aside0.mk (hbox); have n2_ := Aside0.mk ((by rw [hg]; exact (below_size (by repeat (first | (with_reducible first | exact HB.out | apply below_alloc | apply pw_below_drewN | apply below_drew1) | exact HB.out))) : w.heap.size ≤ gb1022)); have n3_ := Aside0.mk ((by rw [hg]; exact (below_size (by repeat (first | (with_reducible first | exact HB.out | apply below_alloc | apply pw_below_drewN | apply below_drew1) | exact HB.out))) : w.heap.size ≤ gb1022)); clear HB; have HB := n0_; have BK1022 := n1_; have GW1022 := n2_; have GE1022 := n3_; clear n0_ n1_ n2_ n3_; clear hb hbox hg; have hcz13_0 : w12.cell? ⟨gb1022, 0, none⟩ = some (.int .i64 a0_0) := (blk_cell BK1022.out 0).trans rfl; have hcz13_1 : w12.cell? ⟨gb1022, 1, none⟩ = some (.bool a0_1) := (blk_cell BK1022.out 1).trans rfl; have hcz13_2 : w12.cell? ⟨gb1022, 2, none⟩ = some (.slice A0_2 l0_2.length c0_2) := (blk_cell BK1022.out 2).trans rfl; have hfz13_0 := blk_frozen BK1022.out 0; have hfz13_1 := blk_frozen BK1022.out 1; have hfz13_2 := blk_frozen BK1022.out 2) | ((with_reducible refine gate_callee (f := 127) rfl ?_); refine goesL_ (some 8) rfl rfl Try.func127 (by kernel_rfl) rfl #[.agg #[.int .i64 a0_0, .bool a0_1, .slice A0_2 l0_2.length c0_2]] rfl (by (try simp only [List.map_toArray, List.map_cons, List.map_nil]); first | done | rfl | (simp only [List.length_drop, List.length_take]; rfl)) ?_; (with_reducible refine (netfmt_Check.calls k a0_0 a0_1 _ _ l0_2 t1023 _ ?side1 ?side2 A3.out).mono ?_); (case side1 => repeat (first | exact (Kd.C_below HR0_2.out HB.out) | (with_reducible refine Kd.C_alloc ?_ _) | (with_reducible refine Kd.C_drewN ?_ _) | (with_reducible refine Kd.C_drew ?_))); (case side2 => exact HC0_2.out); rintro e w14 ⟨rfl, hb⟩; refine ⟨_, rfl, ?_⟩; have n0_ := Aside0.mk (blk_below (g := gb1022) (o := .cells #[.int .i64 a0_0, .bool a0_1, .slice A0_2 l0_2.length c0_2] 24 (0, 0)) (by (with_reducible repeat (first | refine blk_drewN ?_ _ | refine blk_drew ?_ | refine blk_alloc ?_ _)); exact BK1022.out) hb); have n1_ := Aside0.mk (below_step (by repeat (first | (with_reducible first | exact HB.out | apply below_alloc | apply pw_below_drewN | apply below_drew1 | refine below_set ?_ GE1022.out) | exact HB.out)) hb); clear BK1022; clear HB; have BK1022 := n0_; have HB := n1_; clear n0_ n1_; (try clear hb); (try clear hb2); (try clear hk); (try clear hi); have hcz15_0 : w14.cell? ⟨gb1022, 0, none⟩ = some (.int .i64 a0_0) := (blk_cell BK1022.out 0).trans rfl; have hcz15_1 : w14.cell? ⟨gb1022, 1, none⟩ = some (.bool a0_1) := (blk_cell BK1022.out 1).trans rfl; have hcz15_2 : w14.cell? ⟨gb1022, 2, none⟩ = some (.slice A0_2 l0_2.length c0_2) := (blk_cell BK1022.out 2).trans rfl; have hfz15_0 := blk_frozen BK1022.out 0; have hfz15_1 := blk_frozen BK1022.out 1; have hfz15_2 := blk_frozen BK1022.out 2))
  go_ret2
  exact ⟨by first | rfl | (simp [errW_none, errW_some] <;> rfl) | (simp [*, errW_none, errW_some] <;> rfl), by repeat (first | (with_reducible first | exact HB.out | apply below_alloc | apply pw_below_drewN | apply below_drew1 | refine below_set ?_ GE1022.out) | exact HB.out)⟩
 rw [if_pos c5] at H
 have c5b0 : ((l1.length : Int) == a0_0) = true := beq_iff_eq.mpr c5
 have c5b1 : ((l1.length : Int) != a0_0) = false := bne_eq_false_iff_eq.mpr c5
 clear c5
 replace H := Option.bind_eq_some_iff.mp H
 obtain ⟨t1024, A60, H⟩ := H
 replace H : (some (t1024, 0)) = some (r1, r2) := H
 have A6 := Aside0.mk A60
 clear A60
 simp only [Option.some.injEq, Prod.mk.injEq] at H
 obtain ⟨rfl, rfl⟩ := H
 go_enter Try.func82, Try.ntmps82
 go_wp2_with (first | ((with_reducible refine gate_dst (N := 2) rfl ?_); refine box_event ?hg (N := 2) ?hd (cs := #[.int .i64 a0_0, .bool a0_1, .slice A0_2 l0_2.length c0_2]) (t := 24) ?hr ?_; (case hd => rfl); (case hg => rfl); (case hr => first | (go_simp; done) | (go_simp; rfl)); intro gb1022 hg w7 hbox hb; have n0_ := Aside0.mk (below_step (by repeat (first | (with_reducible first | exact HB.out | apply below_alloc | apply pw_below_drewN | apply below_drew1) | exact HB.out)) hb); have n1_ := Aside0.mk (hbox); have n2_ := Aside0.mk ((by rw [hg]; exact (below_size (by repeat (first | (with_reducible first | exact HB.out | apply below_alloc | apply pw_below_drewN | apply below_drew1) | exact HB.out))) : w.heap.size ≤ gb1022)); have n3_ := Aside0.mk ((by rw [hg]; exact (below_size (by repeat (first | (with_reducible first | exact HB.out | apply below_alloc | apply pw_below_drewN | apply below_drew1) | exact HB.out))) : w.heap.size ≤ gb1022)); clear HB; have HB := n0_; have BK1022 := n1_; have GW1022 := n2_; have GE1022 := n3_; clear n0_ n1_ n2_ n3_; clear hb hbox hg; have hcz8_0 : w7.cell? ⟨gb1022, 0, none⟩ = some (.int .i64 a0_0) := (blk_cell BK1022.out 0).trans rfl; have hcz8_1 : w7.cell? ⟨gb1022, 1, none⟩ = some (.bool a0_1) := (blk_cell BK1022.out 1).trans rfl; have hcz8_2 : w7.cell? ⟨gb1022, 2, none⟩ = some (.slice A0_2 l0_2.length c0_2) := (blk_cell BK1022.out 2).trans rfl; have hfz8_0 := blk_frozen BK1022.out 0; have hfz8_1 := blk_frozen BK1022.out 1; have hfz8_2 := blk_frozen BK1022.out 2) | ((with_reducible refine gate_callee (f := 127) rfl ?_); refine goesL_ (some 8) rfl rfl Try.func127 (by kernel_rfl) rfl #[.agg #[.int .i64 a0_0, .bool a0_1, .slice A0_2 l0_2.length c0_2]] rfl (by (try simp only [List.map_toArray, List.map_cons, List.map_nil]); first | done | rfl | (simp only [List.length_drop, List.length_take]; rfl)) ?_; (with_reducible refine (netfmt_Check.calls k a0_0 a0_1 _ _ l0_2 t1023 _ ?side1 ?side2 A3.out).mono ?_); (case side1 => repeat (first | exact (Kd.C_below HR0_2.out HB.out) | (with_reducible refine Kd.C_alloc ?_ _) | (with_reducible refine Kd.C_drewN ?_ _) | (with_reducible refine Kd.C_drew ?_))); (case side2 => exact HC0_2.out); rintro e w9 ⟨rfl, hb⟩; refine ⟨_, rfl, ?_⟩; have n0_ := Aside0.mk (blk_below (g := gb1022) (o := .cells #[.int .i64 a0_0, .bool a0_1, .slice A0_2 l0_2.length c0_2] 24 (0, 0)) (by (with_reducible repeat (first | refine blk_drewN ?_ _ | refine blk_drew ?_ | refine blk_alloc ?_ _)); exact BK1022.out) hb); have n1_ := Aside0.mk (below_step (by repeat (first | (with_reducible first | exact HB.out | apply below_alloc | apply pw_below_drewN | apply below_drew1 | refine below_set ?_ GE1022.out) | exact HB.out)) hb); clear BK1022; clear HB; have BK1022 := n0_; have HB := n1_; clear n0_ n1_; (try clear hb); (try clear hb2); (try clear hk); (try clear hi); have hcz10_0 : w9.cell? ⟨gb1022, 0, none⟩ = some (.int .i64 a0_0) := (blk_cell BK1022.out 0).trans rfl; have hcz10_1 : w9.cell? ⟨gb1022, 1, none⟩ = some (.bool a0_1) := (blk_cell BK1022.out 1).trans rfl; have hcz10_2 : w9.cell? ⟨gb1022, 2, none⟩ = some (.slice A0_2 l0_2.length c0_2) := (blk_cell BK1022.out 2).trans rfl; have hfz10_0 := blk_frozen BK1022.out 0; have hfz10_1 := blk_frozen BK1022.out 1; have hfz10_2 := blk_frozen BK1022.out 2) | ((with_reducible refine gate_callee (f := 125) rfl ?_); refine goesL_ (some 19) rfl rfl Try.func125 (by kernel_rfl) rfl #[.agg #[.int .i64 a0_0, .bool a0_1, .slice A0_2 l0_2.length c0_2], .slice A1 l1.length c1] rfl (by (try simp only [List.map_toArray, List.map_cons, List.map_nil]); first | done | rfl | (simp only [List.length_drop, List.length_take]; rfl)) ?_; (with_reducible refine (mincut_takes.calls k a0_0 a0_1 _ _ l0_2 _ _ l1 t1024 _ ?side1 ?side2 ?side3 ?side4 A6.out).mono ?_); (case side1 => repeat (first | exact (Kd.C_below HR0_2.out HB.out) | (with_reducible refine Kd.C_alloc ?_ _) | (with_reducible refine Kd.C_drewN ?_ _) | (with_reducible refine Kd.C_drew ?_))); (case side2 => exact HC0_2.out); (case side3 => repeat (first | exact (Kd.C_below HR1.out HB.out) | (with_reducible refine Kd.C_alloc ?_ _) | (with_reducible refine Kd.C_drewN ?_ _) | (with_reducible refine Kd.C_drew ?_))); (case side4 => exact HC1.out); rintro e w11 ⟨rfl, hb⟩; refine ⟨_, rfl, ?_⟩; have n0_ := Aside0.mk (blk_below (g := gb1022) (o := .cells #[.int .i64 a0_0, .bool a0_1, .slice A0_2 l0_2.length c0_2] 24 (0, 0)) (by (with_reducible repeat (first | refine blk_drewN ?_ _ | refine blk_drew ?_ | refine blk_alloc ?_ _)); exact BK1022.out) hb); have n1_ := Aside0.mk (below_step (by repeat (first | (with_reducible first | exact HB.out | apply below_alloc | apply pw_below_drewN | apply below_drew1 | refine below_set ?_ GE1022.out) | exact HB.out)) hb); clear BK1022; clear HB; have BK1022 := n0_; have HB := n1_; clear n0_ n1_; (try clear hb); (try clear hb2); (try clear hk); (try clear hi)))
 go_ret2
 exact ⟨by first | rfl | (simp [errW_none, errW_some] <;> rfl) | (simp [*, errW_none, errW_some] <;> rfl), by repeat (first | (with_reducible first | exact HB.out | apply below_alloc | apply pw_below_drewN | apply below_drew1 | refine below_set ?_ GE1022.out) | exact HB.out)⟩
end Go.Proofs.Ytkcpanpdipmmmaa.P
namespace Go.Proofs.Ytkcpanpdipmmmaa.P
open Go.RowKit Go.Proofs.YtkcpanpdipmmmaaW.PrintWords Go.Proofs.YtkcpanpdipmmmaaW.PrintLast Go.Proofs.YtkcpanpdipmmmaaW.PrintMore
attribute [local go_sem] max2_int min2_int max_two min_two max_three min_three max_four min_four
def ebbtidelaw10_awake.f (k : Nat)  : Option (Bool) := (some (([(⟨0, 1, 3, 0⟩ : S74), (⟨1, 2, 1, 0⟩ : S74)] : List (S74)) : List (S74))).bind fun y1025 => ((mincut_Least.f k 3 false y1025 0 2).bind fun bt1029 => ((mincut_Capacity.f k 3 false y1025 (([true, false, false] : List Bool))).bind fun bt1037 => (if bt1029.2.2 = 0 then (if bt1029.2.1 = 1 then ((ebbtideref10_Same.f k bt1029.1 (([true, true, false] : List Bool))).bind fun t1042 => (if t1042 = true then (if bt1037.2 = 0 then (some (bt1037.1 == 3)) else (some false)) else (some false))) else (some false)) else (some false))))
set_option maxHeartbeats 8000000 in
set_option maxRecDepth 100000 in
theorem ebbtidelaw10_awake.calls (k : Nat)  (r : Bool) (w : World) (h : ebbtidelaw10_awake.f k  = some r) (hrT_ : r = true := by first | rfl | exact Aside0.out (by assumption)) :
  Calls Try.prog 81 #[] w fun e w' => e = .returned (.bool r) ∧ Below w.heap.size w w' := by
 have HRT := Aside0.mk hrT_
 clear hrT_
 have hu74 := Try.underlying74
 have hu24 := Try.underlying24
 have HB := Aside0.mk (Below.refl w.heap.size w)
 have H : ((some (([(⟨0, 1, 3, 0⟩ : S74), (⟨1, 2, 1, 0⟩ : S74)] : List (S74)) : List (S74))).bind fun y1025 => ((mincut_Least.f k 3 false y1025 0 2).bind fun bt1029 => ((mincut_Capacity.f k 3 false y1025 (([true, false, false] : List Bool))).bind fun bt1037 => (if bt1029.2.2 = 0 then (if bt1029.2.1 = 1 then ((ebbtideref10_Same.f k bt1029.1 (([true, true, false] : List Bool))).bind fun t1042 => (if t1042 = true then (if bt1037.2 = 0 then (some (bt1037.1 == 3)) else (some false)) else (some false))) else (some false)) else (some false))))) = some r := h
 clear h
 obtain ⟨y1025, hy1025⟩ : ∃ y_ : List (S74), y_ = (([(⟨0, 1, 3, 0⟩ : S74), (⟨1, 2, 1, 0⟩ : S74)] : List (S74))) := ⟨_, rfl⟩
 replace H : ((mincut_Least.f k 3 false y1025 0 2).bind fun bt1029 => ((mincut_Capacity.f k 3 false y1025 (([true, false, false] : List Bool))).bind fun bt1037 => (if bt1029.2.2 = 0 then (if bt1029.2.1 = 1 then ((ebbtideref10_Same.f k bt1029.1 (([true, true, false] : List Bool))).bind fun t1042 => (if t1042 = true then (if bt1037.2 = 0 then (some (bt1037.1 == 3)) else (some false)) else (some false))) else (some false)) else (some false)))) = some r := by first | (rw [hy1025]; with_reducible exact H) | (have H2_ := (Option.bind_some _ _).symm.trans H; rw [hy1025]; with_reducible exact H2_) | (have H2_ := (Option.bind_some _ _).symm.trans H; with_reducible exact H2_) | with_reducible exact H | (rw [hy1025]; exact H) | exact H
 have Ny1025 := Aside0.mk hy1025
 clear hy1025
 replace H := Option.bind_eq_some_iff.mp H
 obtain ⟨⟨t1029, t1032, t1033⟩, A10, H⟩ := H
 replace H : ((mincut_Capacity.f k 3 false y1025 (([true, false, false] : List Bool))).bind fun bt1037 => (if t1033 = 0 then (if t1032 = 1 then ((ebbtideref10_Same.f k t1029 (([true, true, false] : List Bool))).bind fun t1042 => (if t1042 = true then (if bt1037.2 = 0 then (some (bt1037.1 == 3)) else (some false)) else (some false))) else (some false)) else (some false))) = some r := H
 have A1 := Aside0.mk A10
 clear A10
 obtain ⟨y1034, hy1034⟩ : ∃ y_ : List Bool, y_ = (([true, false, false] : List Bool)) := ⟨_, rfl⟩
 replace H : ((mincut_Capacity.f k 3 false y1025 y1034).bind fun bt1037 => (if t1033 = 0 then (if t1032 = 1 then ((ebbtideref10_Same.f k t1029 (([true, true, false] : List Bool))).bind fun t1042 => (if t1042 = true then (if bt1037.2 = 0 then (some (bt1037.1 == 3)) else (some false)) else (some false))) else (some false)) else (some false))) = some r := by first | (rw [hy1034]; with_reducible exact H) | (have H2_ := (Option.bind_some _ _).symm.trans H; rw [hy1034]; with_reducible exact H2_) | (have H2_ := (Option.bind_some _ _).symm.trans H; with_reducible exact H2_) | with_reducible exact H | (rw [hy1034]; exact H) | exact H
 have Ny1034 := Aside0.mk hy1034
 clear hy1034
 replace H := Option.bind_eq_some_iff.mp H
 obtain ⟨⟨t1037, t1038⟩, A20, H⟩ := H
 replace H : (if t1033 = 0 then (if t1032 = 1 then ((ebbtideref10_Same.f k t1029 (([true, true, false] : List Bool))).bind fun t1042 => (if t1042 = true then (if t1038 = 0 then (some (t1037 == 3)) else (some false)) else (some false))) else (some false)) else (some false)) = some r := H
 have A2 := Aside0.mk A20
 clear A20
 by_cases c3 : t1033 = 0
 rotate_left
 ·rw [if_neg c3] at H
  exact absurd (Option.some.inj H) (by rw [HRT.out]; decide)
 rw [if_pos c3] at H
 have c3b0 : (t1033 == 0) = true := beq_iff_eq.mpr c3
 have c3b1 : (t1033 != 0) = false := bne_eq_false_iff_eq.mpr c3
 clear c3
 by_cases c4 : t1032 = 1
 rotate_left
 ·rw [if_neg c4] at H
  exact absurd (Option.some.inj H) (by rw [HRT.out]; decide)
 rw [if_pos c4] at H
 have c4b0 : (t1032 == 1) = true := beq_iff_eq.mpr c4
 have c4b1 : (t1032 != 1) = false := bne_eq_false_iff_eq.mpr c4
 clear c4
 obtain ⟨y1039, hy1039⟩ : ∃ y_ : List Bool, y_ = (([true, true, false] : List Bool)) := ⟨_, rfl⟩
 replace H : ((ebbtideref10_Same.f k t1029 y1039).bind fun t1042 => (if t1042 = true then (if t1038 = 0 then (some (t1037 == 3)) else (some false)) else (some false))) = some r := by first | (rw [hy1039]; with_reducible exact H) | (have H2_ := (Option.bind_some _ _).symm.trans H; rw [hy1039]; with_reducible exact H2_) | (have H2_ := (Option.bind_some _ _).symm.trans H; with_reducible exact H2_) | with_reducible exact H | (rw [hy1039]; exact H) | exact H
 have Ny1039 := Aside0.mk hy1039
 clear hy1039
 replace H := Option.bind_eq_some_iff.mp H
 obtain ⟨t1042, A50, H⟩ := H
 replace H : (if t1042 = true then (if t1038 = 0 then (some (t1037 == 3)) else (some false)) else (some false)) = some r := H
 have A5 := Aside0.mk A50
 clear A50
 by_cases c6 : t1042 = true
 rotate_left
 ·replace c6 := Bool.eq_false_iff.mpr c6
  subst c6
  have H1 : (some false) = some r := by rw [if_neg (show ¬ (false = true) by decide)] at H; exact H
  exact absurd (Option.some.inj H1) (by rw [HRT.out]; decide)
 subst c6
 have H1 : (if t1038 = 0 then (some (t1037 == 3)) else (some false)) = some r := by first | (rw [if_pos rfl] at H; exact H) | (rw [if_pos trivial] at H; exact H)
 clear H
 have H := H1
 clear H1
 by_cases c7 : t1038 = 0
 rotate_left
 ·rw [if_neg c7] at H
  exact absurd (Option.some.inj H) (by rw [HRT.out]; decide)
 rw [if_pos c7] at H
 have c7b0 : (t1038 == 0) = true := beq_iff_eq.mpr c7
 have c7b1 : (t1038 != 0) = false := bne_eq_false_iff_eq.mpr c7
 clear c7
 obtain rfl := Option.some.inj H
 go_enter Try.func81, Try.ntmps81
 go_wp2_with (first | ((with_reducible refine gate_dst (N := 9) rfl ?_); (try (refine gate_guard (by rfl) ?_; dsimp only)); refine Kd.R_lit k74 _ 74 ?hg (N := 9) ?hd (xs := ([(⟨0, 1, 3, 0⟩ : S74), (⟨1, 2, 1, 0⟩ : S74)] : List (S74))) (inner := [.int .i64 0, .int .i64 1, .int .i64 3, .int .i64 0, .int .i64 1, .int .i64 2, .int .i64 1, .int .i64 0]) (ok := fun _ => True) (okp := fun _ => True) ?hr ?hp (fun _ hk => hk) trivial (Below.refl _ _) (Nat.le_refl _) (by simp) ?_; (case hd => rfl); (case hg => rfl); (case hr => first | (go_simp; done) | (go_simp; rfl)); (case hp => exact (Reps.c4 (show Kd.M k74 _ _ _ (⟨0, 1, 3, 0⟩ : S74) [.int .i64 0, .int .i64 1, .int .i64 3, .int .i64 0] from (k74_mkM _ _ _ (⟨0, 1, 3, 0⟩ : S74) )) (Reps.c4 (show Kd.M k74 _ _ _ (⟨1, 2, 1, 0⟩ : S74) [.int .i64 1, .int .i64 2, .int .i64 1, .int .i64 0] from (k74_mkM _ _ _ (⟨1, 2, 1, 0⟩ : S74) )) (Reps.none _ _)))); intro v1026 w8 ho9 hb hg_ hnew_; clear hg_ hnew_; (first | rw [← Ny1025.out] at ho9 | (simp only [Int.reduceToNat] at ho9; rw [← Ny1025.out] at ho9)); have n0_ := Aside0.mk (Kd.R_lower ho9 (below_size (by repeat (first | (with_reducible first | exact HB.out | apply below_alloc | apply pw_below_drewN | apply below_drew1) | exact HB.out)))); have n1_ := Aside0.mk (below_step (by repeat (first | (with_reducible first | exact HB.out | apply below_alloc | apply pw_below_drewN | apply below_drew1) | exact HB.out)) hb); clear HB; have HO1027 := n0_; have HB := n1_; clear n0_ n1_; clear hb ho9; obtain ⟨Ao10, co10, eo10⟩ := Kd.R_slice HO1027.out; subst eo10) | ((with_reducible refine gate_dst (N := 1) rfl ?_); (try (refine gate_guard (by rfl) ?_; dsimp only)); refine box_event ?hg (N := 1) ?hd (cs := #[.int .i64 0, .bool false, .slice none 0 0]) (t := 24) ?hr ?_; (case hd => rfl); (case hg => rfl); (case hr => first | (go_simp; done) | (go_simp; rfl)); intro gb1028 hg w11 hbox hb; have n0_ := Aside0.mk (Kd.R_below (by (with_reducible repeat (first | apply Kd.R_alloc | apply Kd.R_drewN | apply Kd.R_drew)); exact HO1027.out) hb); have n1_ := Aside0.mk (below_step (by repeat (first | (with_reducible first | exact HB.out | apply below_alloc | apply pw_below_drewN | apply below_drew1) | exact HB.out)) hb); have n2_ := Aside0.mk (hbox); have n3_ := Aside0.mk ((by rw [hg]; exact (below_size (by repeat (first | (with_reducible first | exact HB.out | apply below_alloc | apply pw_below_drewN | apply below_drew1) | exact HB.out))) : w.heap.size ≤ gb1028)); have n4_ := Aside0.mk ((by rw [hg]; exact (below_size (by repeat (first | (with_reducible first | exact HB.out | apply below_alloc | apply pw_below_drewN | apply below_drew1) | exact HB.out))) : w.heap.size ≤ gb1028)); clear HO1027; clear HB; have HO1027 := n0_; have HB := n1_; have BK1028 := n2_; have GW1028 := n3_; have GE1028 := n4_; clear n0_ n1_ n2_ n3_ n4_; clear hb hbox hg; have hcz12_0 : w11.cell? ⟨gb1028, 0, none⟩ = some (.int .i64 0) := (blk_cell BK1028.out 0).trans rfl; have hcz12_1 : w11.cell? ⟨gb1028, 1, none⟩ = some (.bool false) := (blk_cell BK1028.out 1).trans rfl; have hcz12_2 : w11.cell? ⟨gb1028, 2, none⟩ = some (.slice none 0 0) := (blk_cell BK1028.out 2).trans rfl; have hfz12_0 := blk_frozen BK1028.out 0; have hfz12_1 := blk_frozen BK1028.out 1; have hfz12_2 := blk_frozen BK1028.out 2) | ((with_reducible refine gate_callee (f := 79) rfl ?_); refine goesL_ (some 13) rfl rfl Try.func79 (by kernel_rfl) rfl #[.agg #[.int .i64 3, .bool false, .slice Ao10 y1025.length co10], .int .i64 0, .int .i64 2] rfl (by (try simp only [List.map_toArray, List.map_cons, List.map_nil]); first | done | rfl | (simp only [List.length_drop, List.length_take]; rfl)) ?_; (with_reducible refine (mincut_Least.calls k 3 false _ _ y1025 0 2 t1029 t1032 t1033 _ ?side1 ?side2 A1.out).mono ?_); (case side1 => refine (Kd.R_reads' (e := 74) (base := w.heap.size) (ok := fun k_ => True) (n := y1025.length) (c := co10) ?_).2.2; exact (by (with_reducible repeat (first | apply Kd.R_alloc | apply Kd.R_drewN | apply Kd.R_drew)); exact (Kd.R_mono (Kd.R_far (p := ⟨gb1028, 2, none⟩) (Kd.R_far (p := ⟨gb1028, 1, none⟩) (Kd.R_far (p := ⟨gb1028, 0, none⟩) (Kd.R_types HO1027.out BK1028.out (by decide)) (fun _ hk => hk.2) (.int .i64 3)) (fun _ hk => hk.2) (.bool false)) (fun _ hk => hk.2) (.slice Ao10 y1025.length co10)) (fun _ h_ => h_.1)))); (case side2 => exact (Kd.R_reads' HO1027.out).2.1); rintro e w13 ⟨v1030, rfl, ho0, hb⟩; refine ⟨_, rfl, ?_⟩; have n0_ := Aside0.mk (Kd.R_below (by (with_reducible repeat (first | apply Kd.R_alloc | apply Kd.R_drewN | apply Kd.R_drew)); exact (Kd.R_mono (Kd.R_far (p := ⟨gb1028, 2, none⟩) (Kd.R_far (p := ⟨gb1028, 1, none⟩) (Kd.R_far (p := ⟨gb1028, 0, none⟩) (Kd.R_types HO1027.out BK1028.out (by decide)) (fun _ hk => hk.2) (.int .i64 3)) (fun _ hk => hk.2) (.bool false)) (fun _ hk => hk.2) (.slice Ao10 y1025.length co10)) (fun _ h_ => h_.1))) hb); have n1_ := Aside0.mk (Kd.R_lower ho0 (below_size (by repeat (first | (with_reducible first | exact HB.out | apply below_alloc | apply pw_below_drewN | apply below_drew1 | refine below_set ?_ GE1028.out) | exact HB.out)))); have n2_ := Aside0.mk (blk_below (g := gb1028) (o := .cells #[.int .i64 3, .bool false, .slice Ao10 y1025.length co10] 24 (0, 0)) (by (with_reducible repeat (first | refine blk_drewN ?_ _ | refine blk_drew ?_ | refine blk_alloc ?_ _)); refine blk_put (cs := #[.int .i64 3, .bool false, .slice none 0 0]) ?_ 2 _ rfl; (with_reducible repeat (first | refine blk_drewN ?_ _ | refine blk_drew ?_ | refine blk_alloc ?_ _)); refine blk_put (cs := #[.int .i64 3, .bool false, .slice none 0 0]) ?_ 1 _ rfl; (with_reducible repeat (first | refine blk_drewN ?_ _ | refine blk_drew ?_ | refine blk_alloc ?_ _)); refine blk_put (cs := #[.int .i64 0, .bool false, .slice none 0 0]) ?_ 0 _ rfl; (with_reducible repeat (first | refine blk_drewN ?_ _ | refine blk_drew ?_ | refine blk_alloc ?_ _)); exact BK1028.out) hb); have n3_ := Aside0.mk (below_step (by repeat (first | (with_reducible first | exact HB.out | apply below_alloc | apply pw_below_drewN | apply below_drew1 | refine below_set ?_ GE1028.out) | exact HB.out)) hb); clear HO1027; clear BK1028; clear HB; have HO1027 := n0_; have HO1031 := n1_; have BK1028 := n2_; have HB := n3_; clear n0_ n1_ n2_ n3_; (try clear hb); (try clear hb2); (try clear hk); (try clear hi); (try clear ho0); have hcz14_0 : w13.cell? ⟨gb1028, 0, none⟩ = some (.int .i64 3) := (blk_cell BK1028.out 0).trans rfl; have hcz14_1 : w13.cell? ⟨gb1028, 1, none⟩ = some (.bool false) := (blk_cell BK1028.out 1).trans rfl; have hcz14_2 : w13.cell? ⟨gb1028, 2, none⟩ = some (.slice Ao10 y1025.length co10) := (blk_cell BK1028.out 2).trans rfl; have hfz14_0 := blk_frozen BK1028.out 0; have hfz14_1 := blk_frozen BK1028.out 1; have hfz14_2 := blk_frozen BK1028.out 2) | ((with_reducible refine gate_dst (N := 19) rfl ?_); (try (refine gate_guard (by rfl) ?_; dsimp only)); refine Kd.R_lit Kd.bool _ 4 ?hg (N := 19) ?hd (xs := ([true, false, false] : List Bool)) (inner := [.bool true, .bool false, .bool false]) (ok := fun _ => True) (okp := fun _ => True) ?hr ?hp (fun _ hk => hk) trivial (Below.refl _ _) (Nat.le_refl _) (by simp) ?_; (case hd => rfl); (case hg => rfl); (case hr => first | (go_simp; done) | (go_simp; rfl)); (case hp => exact (Reps.one (show Kd.M Kd.bool _ _ _ true [.bool true] from rfl) (Reps.one (show Kd.M Kd.bool _ _ _ false [.bool false] from rfl) (Reps.one (show Kd.M Kd.bool _ _ _ false [.bool false] from rfl) (Reps.none _ _))))); intro v1035 w15 ho16 hb hg_ hnew_; clear hg_ hnew_; (first | rw [← Ny1034.out] at ho16 | (simp only [Int.reduceToNat] at ho16; rw [← Ny1034.out] at ho16)); have n0_ := Aside0.mk (Kd.R_below (by (with_reducible repeat (first | apply Kd.R_alloc | apply Kd.R_drewN | apply Kd.R_drew)); exact HO1027.out) hb); have n1_ := Aside0.mk (Kd.R_elder' (by (with_reducible repeat (first | apply Kd.R_alloc | apply Kd.R_drewN | apply Kd.R_drew)); exact HO1031.out) (Kd.R_base ho16) hb); have n2_ := Aside0.mk (Kd.R_lower (Kd.R_new' ho16 (Kd.R_lt (by (with_reducible repeat (first | apply Kd.R_alloc | apply Kd.R_drewN | apply Kd.R_drew)); exact HO1031.out))) (below_size (by repeat (first | (with_reducible first | exact HB.out | apply below_alloc | apply pw_below_drewN | apply below_drew1 | refine below_set ?_ GE1028.out) | exact HB.out)))); have n3_ := Aside0.mk (blk_below (g := gb1028) (o := .cells #[.int .i64 3, .bool false, .slice Ao10 y1025.length co10] 24 (0, 0)) (by (with_reducible repeat (first | refine blk_drewN ?_ _ | refine blk_drew ?_ | refine blk_alloc ?_ _)); exact BK1028.out) hb); have n4_ := Aside0.mk (below_step (by repeat (first | (with_reducible first | exact HB.out | apply below_alloc | apply pw_below_drewN | apply below_drew1 | refine below_set ?_ GE1028.out) | exact HB.out)) hb); clear HO1027; clear HO1031; clear BK1028; clear HB; have HO1027 := n0_; have HO1031 := n1_; have HO1036 := n2_; have BK1028 := n3_; have HB := n4_; clear n0_ n1_ n2_ n3_ n4_; clear hb ho16; obtain ⟨Ao17, co17, eo17⟩ := Kd.R_slice HO1036.out; subst eo17) | ((with_reducible refine gate_callee (f := 82) rfl ?_); refine goesL_ (some 20) rfl rfl Try.func82 (by kernel_rfl) rfl #[.agg #[.int .i64 3, .bool false, .slice Ao10 y1025.length co10], .slice Ao17 y1034.length co17] rfl (by (try simp only [List.map_toArray, List.map_cons, List.map_nil]); first | done | rfl | (simp only [List.length_drop, List.length_take]; rfl)) ?_; (with_reducible refine (mincut_Capacity.calls k 3 false _ _ y1025 _ _ y1034 t1037 t1038 _ ?side1 ?side2 ?side3 ?side4 A2.out).mono ?_); (case side1 => repeat (first | exact (Kd.R_reads' HO1027.out).2.2 | (with_reducible refine Kd.C_alloc ?_ _) | (with_reducible refine Kd.C_drewN ?_ _) | (with_reducible refine Kd.C_drew ?_))); (case side2 => exact (Kd.R_reads' HO1027.out).2.1); (case side3 => repeat (first | exact (Kd.R_reads' HO1036.out).2.2 | (with_reducible refine Kd.C_alloc ?_ _) | (with_reducible refine Kd.C_drewN ?_ _) | (with_reducible refine Kd.C_drew ?_))); (case side4 => exact (Kd.R_reads' HO1036.out).2.1); rintro e w18 ⟨rfl, hb⟩; refine ⟨_, rfl, ?_⟩; have n0_ := Aside0.mk (Kd.R_below (by (with_reducible repeat (first | apply Kd.R_alloc | apply Kd.R_drewN | apply Kd.R_drew)); exact HO1027.out) hb); have n1_ := Aside0.mk (Kd.R_below (by (with_reducible repeat (first | apply Kd.R_alloc | apply Kd.R_drewN | apply Kd.R_drew)); exact HO1031.out) hb); have n2_ := Aside0.mk (Kd.R_below (by (with_reducible repeat (first | apply Kd.R_alloc | apply Kd.R_drewN | apply Kd.R_drew)); exact HO1036.out) hb); have n3_ := Aside0.mk (blk_below (g := gb1028) (o := .cells #[.int .i64 3, .bool false, .slice Ao10 y1025.length co10] 24 (0, 0)) (by (with_reducible repeat (first | refine blk_drewN ?_ _ | refine blk_drew ?_ | refine blk_alloc ?_ _)); exact BK1028.out) hb); have n4_ := Aside0.mk (below_step (by repeat (first | (with_reducible first | exact HB.out | apply below_alloc | apply pw_below_drewN | apply below_drew1 | refine below_set ?_ GE1028.out) | exact HB.out)) hb); clear HO1027; clear HO1031; clear HO1036; clear BK1028; clear HB; have HO1027 := n0_; have HO1031 := n1_; have HO1036 := n2_; have BK1028 := n3_; have HB := n4_; clear n0_ n1_ n2_ n3_ n4_; (try clear hb); (try clear hb2); (try clear hk); (try clear hi)) | ((with_reducible refine gate_dst (N := 31) rfl ?_); (try (refine gate_guard (by rfl) ?_; dsimp only)); refine Kd.R_lit Kd.bool _ 4 ?hg (N := 31) ?hd (xs := ([true, true, false] : List Bool)) (inner := [.bool true, .bool true, .bool false]) (ok := fun _ => True) (okp := fun _ => True) ?hr ?hp (fun _ hk => hk) trivial (Below.refl _ _) (Nat.le_refl _) (by simp) ?_; (case hd => rfl); (case hg => rfl); (case hr => first | (go_simp; done) | (go_simp; rfl)); (case hp => exact (Reps.one (show Kd.M Kd.bool _ _ _ true [.bool true] from rfl) (Reps.one (show Kd.M Kd.bool _ _ _ true [.bool true] from rfl) (Reps.one (show Kd.M Kd.bool _ _ _ false [.bool false] from rfl) (Reps.none _ _))))); intro v1040 w19 ho20 hb hg_ hnew_; clear hg_ hnew_; (first | rw [← Ny1039.out] at ho20 | (simp only [Int.reduceToNat] at ho20; rw [← Ny1039.out] at ho20)); have n0_ := Aside0.mk (Kd.R_below (by (with_reducible repeat (first | apply Kd.R_alloc | apply Kd.R_drewN | apply Kd.R_drew)); exact HO1027.out) hb); have n1_ := Aside0.mk (Kd.R_elder' (by (with_reducible repeat (first | apply Kd.R_alloc | apply Kd.R_drewN | apply Kd.R_drew)); exact HO1031.out) (Kd.R_base ho20) hb); have n2_ := Aside0.mk (Kd.R_elder' (by (with_reducible repeat (first | apply Kd.R_alloc | apply Kd.R_drewN | apply Kd.R_drew)); exact HO1036.out) (Kd.R_base ho20) hb); have n3_ := Aside0.mk (Kd.R_lower (Kd.R_new' (Kd.R_new' ho20 (Kd.R_lt (by (with_reducible repeat (first | apply Kd.R_alloc | apply Kd.R_drewN | apply Kd.R_drew)); exact HO1031.out))) (Kd.R_lt (by (with_reducible repeat (first | apply Kd.R_alloc | apply Kd.R_drewN | apply Kd.R_drew)); exact HO1036.out))) (below_size (by repeat (first | (with_reducible first | exact HB.out | apply below_alloc | apply pw_below_drewN | apply below_drew1 | refine below_set ?_ GE1028.out) | exact HB.out)))); have n4_ := Aside0.mk (blk_below (g := gb1028) (o := .cells #[.int .i64 3, .bool false, .slice Ao10 y1025.length co10] 24 (0, 0)) (by (with_reducible repeat (first | refine blk_drewN ?_ _ | refine blk_drew ?_ | refine blk_alloc ?_ _)); exact BK1028.out) hb); have n5_ := Aside0.mk (below_step (by repeat (first | (with_reducible first | exact HB.out | apply below_alloc | apply pw_below_drewN | apply below_drew1 | refine below_set ?_ GE1028.out) | exact HB.out)) hb); clear HO1027; clear HO1031; clear HO1036; clear BK1028; clear HB; have HO1027 := n0_; have HO1031 := n1_; have HO1036 := n2_; have HO1041 := n3_; have BK1028 := n4_; have HB := n5_; clear n0_ n1_ n2_ n3_ n4_ n5_; clear hb ho20; obtain ⟨Ao21, co21, eo21⟩ := Kd.R_slice HO1031.out; subst eo21; obtain ⟨Ao22, co22, eo22⟩ := Kd.R_slice HO1041.out; subst eo22) | (go_at_call 42; (with_reducible refine (ebbtideref10_Same.calls k _ _ t1029 _ _ y1039 true _ ?side1 ?side2 ?side3 ?side4 A5.out).mono ?_); (case side1 => repeat (first | exact (Kd.R_reads' HO1031.out).2.2 | (with_reducible refine Kd.C_alloc ?_ _) | (with_reducible refine Kd.C_drewN ?_ _) | (with_reducible refine Kd.C_drew ?_))); (case side2 => exact (Kd.R_reads' HO1031.out).2.1); (case side3 => repeat (first | exact (Kd.R_reads' HO1041.out).2.2 | (with_reducible refine Kd.C_alloc ?_ _) | (with_reducible refine Kd.C_drewN ?_ _) | (with_reducible refine Kd.C_drew ?_))); (case side4 => exact (Kd.R_reads' HO1041.out).2.1); rintro e w' ⟨rfl, ⟨nd, rfl⟩⟩))
 go_ret
 exact ⟨by first | rfl | (simp [errW_none, errW_some] <;> rfl) | (simp [*, errW_none, errW_some] <;> rfl), by repeat (first | (with_reducible first | exact HB.out | apply below_alloc | apply pw_below_drewN | apply below_drew1 | refine below_set ?_ GE1028.out) | exact HB.out)⟩
end Go.Proofs.Ytkcpanpdipmmmaa.P
namespace Go.Proofs.Ytkcpanpdipmmmaa.H
open Go.RowKit Go.Proofs.YtkcpanpdipmmmaaW.PrintWords Go.Proofs.YtkcpanpdipmmmaaW.PrintLast Go.Proofs.YtkcpanpdipmmmaaW.PrintMore Go.Proofs.Ytkcpanpdipmmmaa.P Go.Proofs.Ytkcpanpdipmmmaa.Q
theorem levels_zero {n : Int} {l : List S74} {F : List Int} {s : Int} (h0 : askErr n l F = 0) (h : 0 ≤ s ∧ s < n) : levelsRes n l F s = (dOf n.toNat (bfP l F n.toNat s.toNat), 0) := by unfold levelsRes; rw [if_pos h0, if_pos h]
set_option maxHeartbeats 2000000 in
set_option maxRecDepth 100000 in
theorem level_Levels_calls (a0_0 : Int) (a0_1 : Bool) (A2 : Option Addr) (c2 : Nat) (l : List S74) (A1 : Option Addr) (c1 : Nat) (F : List Int) (s : Int) (r1 : List Int) (r2 : Int) (w : World) (hr2 : Kd.C k74 w A2 l.length l) (hc2 : l.length ≤ c2) (hr1 : Kd.C (Kd.int .i64) w A1 F.length F) (hc1 : F.length ≤ c1) (h : some (levelsRes a0_0 l F s) = some (r1, r2)) :
  Calls Try.prog 53 #[.agg #[.int .i64 a0_0, .bool a0_1, .slice A2 l.length c2], .slice A1 F.length c1, .int .i64 s] w fun e w' => ∃ v0_ : Value, e = .returned (.tuple #[v0_, .int .i64 r2]) ∧ Kd.R (Kd.int .i64) 3 w' w.heap.size (fun _ => True) v0_ r1 ∧ Below w.heap.size w w' := by
 have hu24 := Try.underlying24
 injection h with h
 obtain ⟨K, hK⟩ := asked_ev a0_0 a0_1 l F
 have hA := hK K (Nat.le_refl _)
 obtain ⟨k, hk⟩ : ∃ k_, k_ = K := ⟨_, rfl⟩
 rw [← hk] at hA
 clear hK hk K
 have H2 := Aside0.mk hr2
 have H3 := Aside0.mk hr1
 have HC2 := Aside0.mk hc2
 have HC1 := Aside0.mk hc1
 have HB := Aside0.mk (Below.refl w.heap.size w)
 clear hr2 hr1 hc2 hc1
 by_cases h0 : askErr a0_0 l F = 0
 ·rw [h0] at hA
  have HA := Aside0.mk hA
  clear hA
  by_cases hs : 0 ≤ s ∧ s < a0_0
  ·rw [levels_zero h0 hs] at h
   obtain ⟨n0, rfl, hR⟩ := right_of h0
   obtain ⟨s0, rfl⟩ : ∃ s0 : Nat, s = s0 := ⟨s.toNat, by omega⟩
   rw [Int.toNat_natCast, Int.toNat_natCast] at h
   injection h with q1 q2
   subst q1
   subst q2
   have HR := Aside0.mk hR
   have hn50 := hR.fifty
   have hs0 : s0 < n0 := by omega
   have e1 : decide ((s0 : Int) < 0) = false := decide_eq_false (by omega)
   have e2 : decide ((n0 : Int) ≤ (s0 : Int)) = false := decide_eq_false (by omega)
   clear hs h0 hR
   go_enter Try.func53, Try.ntmps53
   go_wp2_with (first | ((with_reducible refine gate_dst (N := 3) rfl ?_); refine box_event ?hg (N := 3) ?hd (cs := #[.int .i64 (n0 : Int), .bool a0_1, .slice A2 l.length c2]) (t := 24) ?hr ?_; (case hd => rfl); (case hg => rfl); (case hr => first | (go_simp; done) | (go_simp; rfl)); intro g3 hg w4 hbox hb; have n0_ := Aside0.mk (below_step HB.out hb); have B3 := Aside0.mk hbox; clear HB; have HB := n0_; clear n0_ hb hbox hg; have hb0 : w4.cell? ⟨g3, 0, none⟩ = some (.int .i64 (n0 : Int)) := (blk_cell B3.out 0).trans rfl; have hb1 : w4.cell? ⟨g3, 1, none⟩ = some (.bool a0_1) := (blk_cell B3.out 1).trans rfl; have hb2 : w4.cell? ⟨g3, 2, none⟩ = some (.slice A2 l.length c2) := (blk_cell B3.out 2).trans rfl) | (go_at_call 96; refine (static_Asked.calls k (n0 : Int) a0_1 A2 c2 l A1 c1 F 0 _ (Kd.C_below H2.out HB.out) HC2.out (Kd.C_below H3.out HB.out) HC1.out HA.out).mono ?_; rintro e_ w5 ⟨rfl, hb⟩; have n0_ := Aside0.mk (below_step HB.out hb); have n1_ := Aside0.mk (blk_below B3.out hb); clear HB B3 hb0 hb1 hb2 hb; have HB := n0_; have B3 := n1_; clear n0_ n1_; have hb0 : w5.cell? ⟨g3, 0, none⟩ = some (.int .i64 (n0 : Int)) := (blk_cell B3.out 0).trans rfl; have hb1 : w5.cell? ⟨g3, 1, none⟩ = some (.bool a0_1) := (blk_cell B3.out 1).trans rfl; have hb2 : w5.cell? ⟨g3, 2, none⟩ = some (.slice A2 l.length c2) := (blk_cell B3.out 2).trans rfl) | (go_at_call 101; refine (at_calls n0 a0_1 A2 c2 l A1 c1 F.length _ (Kd.C_below H2.out HB.out) HC2.out (by omega) (by omega) (by have := HR.out.arcs; omega) (fun k hk => (HR.out.ends k hk).1) (fun k hk => (HR.out.ends k hk).2)).mono ?_; rintro e_ w7 ⟨vr, rfl, hS, hb⟩; obtain ⟨A4, c4, ev⟩ := Kd.S_slice hS; subst ev; have H4 := Aside0.mk (Kd.S_reads' hS).2.2; rw [rowsAt_len] at H4 ⊢; have n0_ := Aside0.mk (below_step HB.out hb); have n1_ := Aside0.mk (blk_below B3.out hb); clear HB B3 hb0 hb1 hb2 hb; have HB := n0_; have B3 := n1_; clear n0_ n1_; clear hS) | (go_at_call 108; refine (far_calls n0 a0_1 A2 c2 l A1 c1 F A4 c4 s0 _ HR.out hs0 HC2.out HC1.out (Kd.C_below H2.out HB.out) (Kd.C_below H3.out HB.out) H4.out).mono ?_; rintro e_ w8 ⟨gd, rfl, hge, hd, hb⟩; have HGE := Aside0.mk (Nat.le_trans HB.out.size hge); have HD := Aside0.mk hd; have n0_ := Aside0.mk (below_step HB.out hb); clear HB hb hd hge; have HB := n0_; clear n0_) | fail)
   go_ret2
   have hr := HD.out.R (ok := fun _ => True) (by rw [dOf_len]; omega) HGE.out trivial
   rw [dOf_len] at hr
   exact ⟨_, rfl, hr, HB.out⟩
  ·have hl : levelsRes a0_0 l F s = ([], 1) := by unfold levelsRes; rw [if_pos h0, if_neg hs]
   rw [hl] at h
   injection h with q1 q2
   subst q1
   subst q2
   go_enter Try.func53, Try.ntmps53
   by_cases h1 : s < 0
   ·have e1 : decide (s < 0) = true := decide_eq_true h1
    clear hs h1 h0
    go_wp2_with (first | ((with_reducible refine gate_dst (N := 3) rfl ?_); refine box_event ?hg (N := 3) ?hd (cs := #[.int .i64 a0_0, .bool a0_1, .slice A2 l.length c2]) (t := 24) ?hr ?_; (case hd => rfl); (case hg => rfl); (case hr => first | (go_simp; done) | (go_simp; rfl)); intro g3 hg w4 hbox hb; have n0_ := Aside0.mk (below_step HB.out hb); have B3 := Aside0.mk hbox; clear HB; have HB := n0_; clear n0_ hb hbox hg; have hb0 : w4.cell? ⟨g3, 0, none⟩ = some (.int .i64 a0_0) := (blk_cell B3.out 0).trans rfl; have hb1 : w4.cell? ⟨g3, 1, none⟩ = some (.bool a0_1) := (blk_cell B3.out 1).trans rfl; have hb2 : w4.cell? ⟨g3, 2, none⟩ = some (.slice A2 l.length c2) := (blk_cell B3.out 2).trans rfl) | (go_at_call 96; refine (static_Asked.calls k a0_0 a0_1 A2 c2 l A1 c1 F 0 _ (Kd.C_below H2.out HB.out) HC2.out (Kd.C_below H3.out HB.out) HC1.out HA.out).mono ?_; rintro e_ w5 ⟨rfl, hb⟩; have n0_ := Aside0.mk (below_step HB.out hb); have n1_ := Aside0.mk (blk_below B3.out hb); clear HB B3 hb0 hb1 hb2 hb; have HB := n0_; have B3 := n1_; clear n0_ n1_; have hb0 : w5.cell? ⟨g3, 0, none⟩ = some (.int .i64 a0_0) := (blk_cell B3.out 0).trans rfl; have hb1 : w5.cell? ⟨g3, 1, none⟩ = some (.bool a0_1) := (blk_cell B3.out 1).trans rfl; have hb2 : w5.cell? ⟨g3, 2, none⟩ = some (.slice A2 l.length c2) := (blk_cell B3.out 2).trans rfl) | fail)
    go_ret2
    exact ⟨_, rfl, Kd.R_nil _ _ _ _ _, HB.out⟩
   ·have e1 : decide (s < 0) = false := decide_eq_false h1
    have e2 : decide (a0_0 ≤ s) = true := decide_eq_true (by omega)
    clear hs h1 h0
    go_wp2_with (first | ((with_reducible refine gate_dst (N := 3) rfl ?_); refine box_event ?hg (N := 3) ?hd (cs := #[.int .i64 a0_0, .bool a0_1, .slice A2 l.length c2]) (t := 24) ?hr ?_; (case hd => rfl); (case hg => rfl); (case hr => first | (go_simp; done) | (go_simp; rfl)); intro g3 hg w4 hbox hb; have n0_ := Aside0.mk (below_step HB.out hb); have B3 := Aside0.mk hbox; clear HB; have HB := n0_; clear n0_ hb hbox hg; have hb0 : w4.cell? ⟨g3, 0, none⟩ = some (.int .i64 a0_0) := (blk_cell B3.out 0).trans rfl; have hb1 : w4.cell? ⟨g3, 1, none⟩ = some (.bool a0_1) := (blk_cell B3.out 1).trans rfl; have hb2 : w4.cell? ⟨g3, 2, none⟩ = some (.slice A2 l.length c2) := (blk_cell B3.out 2).trans rfl) | (go_at_call 96; refine (static_Asked.calls k a0_0 a0_1 A2 c2 l A1 c1 F 0 _ (Kd.C_below H2.out HB.out) HC2.out (Kd.C_below H3.out HB.out) HC1.out HA.out).mono ?_; rintro e_ w5 ⟨rfl, hb⟩; have n0_ := Aside0.mk (below_step HB.out hb); have n1_ := Aside0.mk (blk_below B3.out hb); clear HB B3 hb0 hb1 hb2 hb; have HB := n0_; have B3 := n1_; clear n0_ n1_; have hb0 : w5.cell? ⟨g3, 0, none⟩ = some (.int .i64 a0_0) := (blk_cell B3.out 0).trans rfl; have hb1 : w5.cell? ⟨g3, 1, none⟩ = some (.bool a0_1) := (blk_cell B3.out 1).trans rfl; have hb2 : w5.cell? ⟨g3, 2, none⟩ = some (.slice A2 l.length c2) := (blk_cell B3.out 2).trans rfl) | fail)
    go_ret2
    exact ⟨_, rfl, Kd.R_nil _ _ _ _ _, HB.out⟩
 ·have hl : levelsRes a0_0 l F s = ([], askErr a0_0 l F) := by unfold levelsRes; rw [if_neg h0]
  rw [hl] at h
  injection h with q1 q2
  subst q1
  rw [q2] at hA h0
  have HA := Aside0.mk hA
  have e1 : (r2 != 0) = true := by rw [bne_iff_ne]; exact h0
  clear q2 h0 hA hl
  go_enter Try.func53, Try.ntmps53
  go_wp2_with (first | ((with_reducible refine gate_dst (N := 3) rfl ?_); refine box_event ?hg (N := 3) ?hd (cs := #[.int .i64 a0_0, .bool a0_1, .slice A2 l.length c2]) (t := 24) ?hr ?_; (case hd => rfl); (case hg => rfl); (case hr => first | (go_simp; done) | (go_simp; rfl)); intro g3 hg w4 hbox hb; have n0_ := Aside0.mk (below_step HB.out hb); have B3 := Aside0.mk hbox; clear HB; have HB := n0_; clear n0_ hb hbox hg; have hb0 : w4.cell? ⟨g3, 0, none⟩ = some (.int .i64 a0_0) := (blk_cell B3.out 0).trans rfl; have hb1 : w4.cell? ⟨g3, 1, none⟩ = some (.bool a0_1) := (blk_cell B3.out 1).trans rfl; have hb2 : w4.cell? ⟨g3, 2, none⟩ = some (.slice A2 l.length c2) := (blk_cell B3.out 2).trans rfl) | (go_at_call 96; refine (static_Asked.calls k a0_0 a0_1 A2 c2 l A1 c1 F r2 _ (Kd.C_below H2.out HB.out) HC2.out (Kd.C_below H3.out HB.out) HC1.out HA.out).mono ?_; rintro e_ w5 ⟨rfl, hb⟩; have n0_ := Aside0.mk (below_step HB.out hb); have n1_ := Aside0.mk (blk_below B3.out hb); clear HB B3 hb0 hb1 hb2 hb; have HB := n0_; have B3 := n1_; clear n0_ n1_; have hb0 : w5.cell? ⟨g3, 0, none⟩ = some (.int .i64 a0_0) := (blk_cell B3.out 0).trans rfl; have hb1 : w5.cell? ⟨g3, 1, none⟩ = some (.bool a0_1) := (blk_cell B3.out 1).trans rfl; have hb2 : w5.cell? ⟨g3, 2, none⟩ = some (.slice A2 l.length c2) := (blk_cell B3.out 2).trans rfl) | fail)
  go_ret2
  exact ⟨_, rfl, Kd.R_nil _ _ _ _ _, HB.out⟩
end Go.Proofs.Ytkcpanpdipmmmaa.H
namespace Go.Proofs.Ytkcpanpdipmmmaa.P
open Go.RowKit Go.Proofs.YtkcpanpdipmmmaaW.PrintWords Go.Proofs.YtkcpanpdipmmmaaW.PrintLast Go.Proofs.YtkcpanpdipmmmaaW.PrintMore
attribute [local go_sem] max2_int min2_int max_two min_two max_three min_three max_four min_four
def level_Levels.f (a0_0 : Int) (a0_1 : Bool) (l0_2 : List (S74)) (l1 : List Int) (a2 : Int) : Option (List Int × Int) := some (H.levelsRes a0_0 l0_2 l1 a2)
theorem level_Levels.calls (a0_0 : Int) (a0_1 : Bool) (A0_2 : Option Addr) (c0_2 : Nat) (l0_2 : List (S74)) (A1 : Option Addr) (c1 : Nat) (l1 : List Int) (a2 : Int) (r1 : List Int) (r2 : Int) (w : World) (hr0_2 : Kd.C k74 w A0_2 l0_2.length l0_2) (hc0_2 : l0_2.length ≤ c0_2) (hr1 : Kd.C (Kd.int .i64) w A1 l1.length l1) (hc1 : l1.length ≤ c1) (h : level_Levels.f a0_0 a0_1 l0_2 l1 a2 = some (r1, r2)) :
  Calls Try.prog 53 #[.agg #[.int .i64 a0_0, .bool a0_1, .slice A0_2 l0_2.length c0_2], .slice A1 l1.length c1, .int .i64 a2] w fun e w' => ∃ v0_ : Value, e = .returned (.tuple #[v0_, .int .i64 r2]) ∧ Kd.R (Kd.int .i64) 3 w' w.heap.size (fun _ => True) v0_ r1 ∧ Below w.heap.size w w' := H.level_Levels_calls a0_0 a0_1 A0_2 c0_2 l0_2 A1 c1 l1 a2 r1 r2 w hr0_2 hc0_2 hr1 hc1 h
end Go.Proofs.Ytkcpanpdipmmmaa.P
